/- My own text: an abstract machine, its walks over the functions reached, and their tie to the program. -/
import Derived.Test.YtcklafcpgiomfaaDoorU2
import Derived.Test.YtcklafcpgiomfaaDoorU3
set_option linter.unusedSimpArgs false
set_option linter.unusedVariables false
section
namespace Go.Eng
def ac_registers_active_L0 : AC :=
 (.seq
 (.reg 16384 none [
 ⟨some 9, (.op (.bin .lss)), [.tmp 8, .tmp 7], none⟩])
 (.seq
 (.cond (.tmp 9)
 .skip
 (.exit 0))
 (.seq
 (.block 1
 (.seq
 (.reg 20480 none [
 ⟨some 10, (.op .mov), [.tmp 8], none⟩,
 ⟨some 4, (.op .mov), [.tmp 10], none⟩])
 (.seq
 (.reg 24576 none [
 ⟨some 11, (.op .mov), [.tmp 4], none⟩,
 ⟨some 12, (.op (.bin .lss)), [.tmp 11, .cst (.t (.int .i64 2))], none⟩,
 ⟨some 13, (.op .mov), [.tmp 12], none⟩,
 ⟨some 14, (.op (.faddr 0)), [.tmp 1], some (13, true)⟩,
 ⟨some 15, (.op (.load 1 false)), [.tmp 14], some (13, true)⟩,
 ⟨some 16, (.op .mov), [.tmp 4], some (13, true)⟩,
 ⟨some 17, (.op (.iaddr 1)), [.tmp 15, .tmp 16], some (13, true)⟩,
 ⟨some 18, (.op (.load 1 false)), [.tmp 17], some (13, true)⟩,
 ⟨some 19, (.op .len), [.tmp 18], some (13, true)⟩,
 ⟨some 20, (.op (.bin .eql)), [.tmp 19, .cst (.t (.int .i64 16))], some (13, true)⟩,
 ⟨some 21, (.op .pick), [.tmp 13, .tmp 20, .cst (.t (.bool false))], none⟩])
 (.cond (.tmp 21)
 (.reg 28672 none [
 ⟨some 22, (.op .mov), [.tmp 3], none⟩,
 ⟨some 23, (.op .mov), [.tmp 4], none⟩,
 ⟨some 24, (.op (.conv .u64)), [.tmp 23], none⟩,
 ⟨some 25, (.op (.bin .shl)), [.cst (.t (.int .i64 1)), .tmp 24], none⟩,
 ⟨some 26, (.op (.bin .or)), [.tmp 22, .tmp 25], none⟩,
 ⟨some 3, (.op .mov), [.tmp 26], none⟩])
 .skip))))
 (.reg 32768 none [
 ⟨some 27, (.op (.bin .add)), [.tmp 8, .cst (.t (.int .i64 1))], none⟩,
 ⟨some 8, (.op .mov), [.tmp 27], none⟩]))))
def ac_registers_active : AC :=
 (.seq
 (.reg 4096 none [
 ⟨some 1, (.op .box), [.tmp 0], none⟩,
 ⟨some 2, (.op .mov), [.cst (.t (.int .i64 0))], none⟩])
 (.seq
 (.reg 8192 none [
 ⟨some 3, (.op .mov), [.cst (.t (.int .i64 0))], none⟩])
 (.seq
 (.seq
 (.reg 12288 none [
 ⟨some 5, (.op (.faddr 0)), [.tmp 1], none⟩,
 ⟨some 6, (.op (.load 1 false)), [.tmp 5], none⟩,
 ⟨some 7, (.op .len), [.tmp 6], none⟩,
 ⟨some 8, (.op .mov), [.cst (.t (.int .i64 0))], none⟩])
 (.block 0
 (.loop ac_registers_active_L0)))
 (.seq
 (.reg 36864 none [
 ⟨some 28, (.op .mov), [.tmp 3], none⟩,
 ⟨some 2, (.op .mov), [.tmp 28], none⟩])
 .ret))))
def hints_registers_active : List (Nat × List Nat) := []
def ac_registers_on (n_registers_active : Nat) : AC :=
 (.seq
 (.reg 4096 none [
 ⟨some 2, (.op .box), [.tmp 0], none⟩,
 ⟨some 4, (.op .mov), [.cst (.t (.bool false))], none⟩])
 (.seq
 (.reg 8192 none [
 ⟨some 5, (.op (.load 2 true)), [.tmp 2], none⟩,
 ⟨some 6, (.call n_registers_active false), [.tmp 5], none⟩,
 ⟨some 7, (.op .mov), [.tmp 1], none⟩,
 ⟨some 8, (.op (.conv .u64)), [.tmp 7], none⟩,
 ⟨some 9, (.op (.bin .shr)), [.tmp 6, .tmp 8], none⟩,
 ⟨some 10, (.op (.bin .and)), [.tmp 9, .cst (.t (.int .i64 1))], none⟩,
 ⟨some 11, (.op (.bin .eql)), [.tmp 10, .cst (.t (.int .i64 1))], none⟩,
 ⟨some 4, (.op .mov), [.tmp 11], none⟩])
 .ret))
def hints_registers_on : List (Nat × List Nat) := []
def ac_registers_twin_L1 : AC :=
 (.seq
 (.reg 32768 none [
 ⟨some 22, (.op (.bin .lss)), [.tmp 21, .tmp 20], none⟩])
 (.seq
 (.cond (.tmp 22)
 .skip
 (.exit 2))
 (.seq
 (.block 3
 (.seq
 (.reg 36864 none [
 ⟨some 23, (.op (.iaddr 1)), [.tmp 19, .tmp 21], none⟩,
 ⟨some 24, (.op (.load 1 false)), [.tmp 23], none⟩,
 ⟨some 8, (.op .mov), [.tmp 24], none⟩])
 (.reg 40960 none [
 ⟨some 25, (.op .mov), [.tmp 6], none⟩,
 ⟨some 26, (.op .mov), [.tmp 8], none⟩,
 ⟨some 27, (.op (.append 1 1)), [.cst .nil, .tmp 26], none⟩,
 ⟨some 28, (.op (.bslice 1 1 .nil [0])), [.tmp 27], none⟩,
 ⟨some 29, (.op (.append 1 24)), [.tmp 25, .tmp 28], none⟩,
 ⟨some 6, (.op .mov), [.tmp 29], none⟩])))
 (.reg 45056 none [
 ⟨some 30, (.op (.bin .add)), [.tmp 21, .cst (.t (.int .i64 1))], none⟩,
 ⟨some 21, (.op .mov), [.tmp 30], none⟩]))))
def ac_registers_twin_L0 : AC :=
 (.seq
 (.reg 16384 none [
 ⟨some 16, (.op (.bin .lss)), [.tmp 15, .tmp 14], none⟩])
 (.seq
 (.cond (.tmp 16)
 .skip
 (.exit 0))
 (.seq
 (.block 1
 (.seq
 (.reg 20480 none [
 ⟨some 17, (.op (.iaddr 1)), [.tmp 13, .tmp 15], none⟩,
 ⟨some 18, (.op (.load 1 false)), [.tmp 17], none⟩,
 ⟨some 5, (.op .mov), [.tmp 18], none⟩])
 (.seq
 (.reg 24576 none [
 ⟨some 6, (.op .mov), [.cst .nil], none⟩])
 (.seq
 (.seq
 (.reg 28672 none [
 ⟨some 19, (.op .mov), [.tmp 5], none⟩,
 ⟨some 20, (.op .len), [.tmp 19], none⟩,
 ⟨some 21, (.op .mov), [.cst (.t (.int .i64 0))], none⟩])
 (.block 2
 (.loop ac_registers_twin_L1)))
 (.reg 49152 none [
 ⟨some 31, (.op (.faddr 0)), [.tmp 3], none⟩,
 ⟨some 32, (.op (.load 1 false)), [.tmp 31], none⟩,
 ⟨some 33, (.op .mov), [.tmp 6], none⟩,
 ⟨some 34, (.op (.bslice 1 1 .nil [0])), [.tmp 33], none⟩,
 ⟨some 35, (.op (.append 1 24)), [.tmp 32, .tmp 34], none⟩,
 ⟨some 36, (.op (.faddr 0)), [.tmp 3], none⟩,
 ⟨none, (.op (.store 1)), [.tmp 36, .tmp 35], none⟩])))))
 (.reg 53248 none [
 ⟨some 37, (.op (.bin .add)), [.tmp 15, .cst (.t (.int .i64 1))], none⟩,
 ⟨some 15, (.op .mov), [.tmp 37], none⟩]))))
def ac_registers_twin : AC :=
 (.seq
 (.reg 4096 none [
 ⟨some 1, (.op .box), [.tmp 0], none⟩,
 ⟨some 2, (.op (.new 2 [(.agg [.nil, (.t (.int .i64 0))])])), [], none⟩])
 (.seq
 (.reg 8192 none [
 ⟨some 9, (.op (.faddr 1)), [.tmp 1], none⟩,
 ⟨some 10, (.op (.load 1 false)), [.tmp 9], none⟩,
 ⟨some 11, (.op (.build [.nil, (.t (.int .i64 0))] [(1, 1)])), [.tmp 10], none⟩,
 ⟨some 3, (.op (.new 2 [(.agg [.nil, (.t (.int .i64 0))])])), [], none⟩,
 ⟨none, (.op (.store 2)), [.tmp 3, .tmp 11], none⟩])
 (.seq
 (.seq
 (.reg 12288 none [
 ⟨some 12, (.op (.faddr 0)), [.tmp 1], none⟩,
 ⟨some 13, (.op (.load 1 false)), [.tmp 12], none⟩,
 ⟨some 14, (.op .len), [.tmp 13], none⟩,
 ⟨some 15, (.op .mov), [.cst (.t (.int .i64 0))], none⟩])
 (.block 0
 (.loop ac_registers_twin_L0)))
 (.seq
 (.reg 57344 none [
 ⟨some 38, (.op (.load 2 true)), [.tmp 3], none⟩,
 ⟨none, (.op (.store 2)), [.tmp 2, .tmp 38], none⟩])
 .ret))))
def hints_registers_twin : List (Nat × List Nat) := []
def ac_registers_fill (n_bytes_Repeat : Nat) : AC :=
 (.seq
 (.reg 4096 none [
 ⟨some 4, (.op .mov), [.cst .nil], none⟩])
 (.seq
 (.reg 8192 none [
 ⟨some 5, (.op .mov), [.tmp 1], none⟩,
 ⟨some 6, (.op (.bslice 1 1 (.t (byteT 0)) [0])), [.tmp 5], none⟩,
 ⟨some 7, (.op .mov), [.tmp 0], none⟩,
 ⟨some 8, (.call n_bytes_Repeat false), [.tmp 6, .tmp 7], none⟩,
 ⟨some 4, (.op .mov), [.tmp 8], none⟩])
 .ret))
def hints_registers_fill : List (Nat × List Nat) := []
def ac_registers_index : AC :=
 (.seq
 (.reg 4096 none [
 ⟨some 2, (.op .mov), [.cst (.t (.bool false))], none⟩])
 (.seq
 (.reg 8192 none [
 ⟨some 3, (.op .mov), [.tmp 0], none⟩,
 ⟨some 4, (.op (.bin .geq)), [.tmp 3, .cst (.t (.int .i64 0))], none⟩,
 ⟨some 5, (.op .mov), [.tmp 4], none⟩,
 ⟨some 6, (.op .mov), [.tmp 0], some (5, true)⟩,
 ⟨some 7, (.op (.bin .lss)), [.tmp 6, .cst (.t (.int .i64 16))], some (5, true)⟩,
 ⟨some 8, (.op .pick), [.tmp 5, .tmp 7, .cst (.t (.bool false))], none⟩,
 ⟨some 2, (.op .mov), [.tmp 8], none⟩])
 .ret))
def hints_registers_index : List (Nat × List Nat) := []
def ac_registers_New_L1 (n_digest_Size n_registers_fill : Nat) : AC :=
 (.seq
 (.seq
 (.reg 40960 none [
 ⟨some 15, (.op .mov), [.tmp 6], none⟩,
 ⟨some 16, (.op (.bin .lss)), [.tmp 15, .cst (.t (.int .i64 16))], none⟩,
 ⟨some 17, (.op .mov), [.tmp 16], none⟩,
 ⟨some 18, (.op .mov), [.tmp 0], some (17, true)⟩,
 ⟨some 19, (.op .mov), [.tmp 4], some (17, true)⟩,
 ⟨some 20, (.op (.conv .u64)), [.tmp 19], some (17, true)⟩,
 ⟨some 21, (.op (.bin .shr)), [.tmp 18, .tmp 20], some (17, true)⟩,
 ⟨some 22, (.op (.bin .and)), [.tmp 21, .cst (.t (.int .i64 1))], some (17, true)⟩,
 ⟨some 23, (.op (.bin .eql)), [.tmp 22, .cst (.t (.int .i64 1))], some (17, true)⟩,
 ⟨some 24, (.op .pick), [.tmp 17, .tmp 23, .cst (.t (.bool false))], none⟩])
 (.cond (.tmp 24)
 .skip
 (.exit 2)))
 (.seq
 (.block 3
 (.seq
 (.reg 49152 none [
 ⟨some 7, (.op .mov), [.cst (.t (byteT 0))], none⟩])
 (.seq
 (.seq
 (.reg 53248 none [
 ⟨some 27, (.op .mov), [.tmp 6], none⟩,
 ⟨some 28, (.op (.bin .geq)), [.tmp 27, .cst (.t (.int .i64 12))], none⟩])
 (.cond (.tmp 28)
 (.reg 57344 none [
 ⟨some 7, (.op .mov), [.cst (.t (byteT 255))], none⟩])
 .skip))
 (.reg 61440 none [
 ⟨some 29, (.op .mov), [.tmp 5], none⟩,
 ⟨some 30, (.op .mov), [.tmp 4], none⟩,
 ⟨some 31, (.call n_digest_Size false), [.tmp 30], none⟩,
 ⟨some 32, (.op .mov), [.tmp 7], none⟩,
 ⟨some 33, (.call n_registers_fill false), [.tmp 31, .tmp 32], none⟩,
 ⟨some 34, (.op (.bslice 1 1 .nil [0])), [.tmp 33], none⟩,
 ⟨some 35, (.op (.append 1 24)), [.tmp 29, .tmp 34], none⟩,
 ⟨some 5, (.op .mov), [.tmp 35], none⟩]))))
 (.reg 45056 none [
 ⟨some 25, (.op .mov), [.tmp 6], none⟩,
 ⟨some 26, (.op (.bin .add)), [.tmp 25, .cst (.t (.int .i64 1))], none⟩,
 ⟨some 6, (.op .mov), [.tmp 26], none⟩])))
def ac_registers_New_L0 (n_digest_Size n_registers_fill : Nat) : AC :=
 (.seq
 (.reg 24576 none [
 ⟨some 13, (.op (.bin .lss)), [.tmp 12, .cst (.t (.int .i64 2))], none⟩])
 (.seq
 (.cond (.tmp 13)
 .skip
 (.exit 0))
 (.seq
 (.block 1
 (.seq
 (.reg 28672 none [
 ⟨some 14, (.op .mov), [.tmp 12], none⟩,
 ⟨some 4, (.op .mov), [.tmp 14], none⟩])
 (.seq
 (.reg 32768 none [
 ⟨some 5, (.op .mov), [.cst .nil], none⟩])
 (.seq
 (.seq
 (.reg 36864 none [
 ⟨some 6, (.op .mov), [.cst (.t (.int .i64 0))], none⟩])
 (.block 2
 (.loop (ac_registers_New_L1 n_digest_Size n_registers_fill))))
 (.reg 65536 none [
 ⟨some 36, (.op (.faddr 0)), [.tmp 3], none⟩,
 ⟨some 37, (.op (.load 1 false)), [.tmp 36], none⟩,
 ⟨some 38, (.op .mov), [.tmp 5], none⟩,
 ⟨some 39, (.op (.bslice 1 1 .nil [0])), [.tmp 38], none⟩,
 ⟨some 40, (.op (.append 1 24)), [.tmp 37, .tmp 39], none⟩,
 ⟨some 41, (.op (.faddr 0)), [.tmp 3], none⟩,
 ⟨none, (.op (.store 1)), [.tmp 41, .tmp 40], none⟩])))))
 (.reg 69632 none [
 ⟨some 42, (.op (.bin .add)), [.tmp 12, .cst (.t (.int .i64 1))], none⟩,
 ⟨some 12, (.op .mov), [.tmp 42], none⟩]))))
def ac_registers_New (n_digest_Size n_registers_fill : Nat) : AC :=
 (.seq
 (.reg 4096 none [
 ⟨some 2, (.op (.new 2 [(.agg [.nil, (.t (.int .i64 0))])])), [], none⟩])
 (.seq
 (.seq
 (.reg 8192 none [
 ⟨some 8, (.op .mov), [.tmp 0], none⟩,
 ⟨some 9, (.op (.bin .and)), [.tmp 8, .cst (.t (.int .i64 3))], none⟩,
 ⟨some 10, (.op (.bin .eql)), [.tmp 9, .cst (.t (.int .i64 0))], none⟩])
 (.cond (.tmp 10)
 (.seq
 (.reg 12288 none [
 ⟨some 11, (.op (.build [.nil, (.t (.int .i64 0))] [])), [], none⟩,
 ⟨none, (.op (.store 2)), [.tmp 2, .tmp 11], none⟩])
 .ret)
 .skip))
 (.seq
 (.reg 16384 none [
 ⟨some 3, (.op (.new 2 [(.agg [.nil, (.t (.int .i64 0))])])), [], none⟩])
 (.seq
 (.seq
 (.reg 20480 none [
 ⟨some 12, (.op .mov), [.cst (.t (.int .i64 0))], none⟩])
 (.block 0
 (.loop (ac_registers_New_L0 n_digest_Size n_registers_fill))))
 (.seq
 (.reg 73728 none [
 ⟨some 43, (.op (.load 2 true)), [.tmp 3], none⟩,
 ⟨none, (.op (.store 2)), [.tmp 2, .tmp 43], none⟩])
 .ret)))))
def hints_registers_New : List (Nat × List Nat) := []
def ac_registers_Value (n_registers_index n_registers_on : Nat) : AC :=
 (.seq
 (.reg 4096 none [
 ⟨some 3, (.op .box), [.tmp 0], none⟩,
 ⟨some 6, (.op .mov), [.cst .nil], none⟩,
 ⟨some 7, (.op .mov), [.cst (.t (.int .i64 0))], none⟩])
 (.seq
 (.seq
 (.reg 8192 none [
 ⟨some 8, (.op .mov), [.tmp 1], none⟩,
 ⟨some 9, (.op (.bin .lss)), [.tmp 8, .cst (.t (.int .i64 0))], none⟩,
 ⟨some 10, (.op .mov), [.tmp 9], none⟩,
 ⟨some 11, (.op .mov), [.tmp 1], some (10, false)⟩,
 ⟨some 12, (.op (.bin .geq)), [.tmp 11, .cst (.t (.int .i64 2))], some (10, false)⟩,
 ⟨some 13, (.op .pick), [.tmp 10, .cst (.t (.bool true)), .tmp 12], none⟩,
 ⟨some 14, (.op .mov), [.tmp 13], none⟩,
 ⟨some 15, (.op .mov), [.tmp 2], some (14, false)⟩,
 ⟨some 16, (.call n_registers_index false), [.tmp 15], some (14, false)⟩,
 ⟨some 17, (.op (.un .not)), [.tmp 16], some (14, false)⟩,
 ⟨some 18, (.op .pick), [.tmp 14, .cst (.t (.bool true)), .tmp 17], none⟩])
 (.cond (.tmp 18)
 (.seq
 (.reg 12288 none [
 ⟨some 6, (.op .mov), [.cst .nil], none⟩,
 ⟨some 7, (.op .mov), [.cst (.t (.int .i64 1))], none⟩])
 .ret)
 .skip))
 (.seq
 (.seq
 (.reg 16384 none [
 ⟨some 19, (.op (.load 2 true)), [.tmp 3], none⟩,
 ⟨some 20, (.op .mov), [.tmp 1], none⟩,
 ⟨some 21, (.call n_registers_on false), [.tmp 19, .tmp 20], none⟩,
 ⟨some 22, (.op (.un .not)), [.tmp 21], none⟩])
 (.cond (.tmp 22)
 (.seq
 (.reg 20480 none [
 ⟨some 6, (.op .mov), [.cst .nil], none⟩,
 ⟨some 7, (.op .mov), [.cst (.t (.int .i64 27))], none⟩])
 .ret)
 .skip))
 (.seq
 (.reg 24576 none [
 ⟨some 23, (.op (.faddr 0)), [.tmp 3], none⟩,
 ⟨some 24, (.op (.load 1 false)), [.tmp 23], none⟩,
 ⟨some 25, (.op .mov), [.tmp 1], none⟩,
 ⟨some 26, (.op (.iaddr 1)), [.tmp 24, .tmp 25], none⟩,
 ⟨some 27, (.op (.load 1 false)), [.tmp 26], none⟩,
 ⟨some 28, (.op .mov), [.tmp 2], none⟩,
 ⟨some 29, (.op (.iaddr 1)), [.tmp 27, .tmp 28], none⟩,
 ⟨some 30, (.op (.load 1 false)), [.tmp 29], none⟩,
 ⟨some 31, (.op (.append 1 1)), [.cst .nil, .tmp 30], none⟩,
 ⟨some 6, (.op .mov), [.tmp 31], none⟩,
 ⟨some 7, (.op .mov), [.cst (.t (.int .i64 0))], none⟩])
 .ret))))
def hints_registers_Value : List (Nat × List Nat) := []
def ac_registers_least : AC :=
 (.seq
 (.reg 4096 none [
 ⟨some 4, (.op .mov), [.cst (.t (.int .i64 0))], none⟩])
 (.seq
 (.block 0
 (.seq
 (.reg 8192 none [
 ⟨some 6, (.op .mov), [.tmp 1], none⟩,
 ⟨some 7, (.op .mov), [.tmp 6], none⟩,
 ⟨some 8, (.op .mov), [.tmp 0], some (7, true)⟩,
 ⟨some 9, (.op (.bin .lss)), [.tmp 8, .cst (.t (.int .i64 12))], some (7, true)⟩,
 ⟨some 10, (.op .pick), [.tmp 7, .tmp 9, .cst (.t (.bool false))], none⟩,
 ⟨some 5, (.op .mov), [.tmp 10], none⟩])
 (.cond (.tmp 5)
 (.seq
 (.reg 12288 none [
 ⟨some 4, (.op .mov), [.cst (.t (.int .i64 5))], none⟩])
 .ret)
 (.seq
 (.reg 16384 none [
 ⟨some 12, (.op .mov), [.tmp 0], none⟩,
 ⟨some 13, (.op (.bin .eql)), [.tmp 12, .cst (.t (.int .i64 14))], none⟩,
 ⟨some 11, (.op .mov), [.tmp 13], none⟩])
 (.cond (.tmp 11)
 (.seq
 (.seq
 (.reg 20480 none [
 ⟨some 14, (.op .mov), [.tmp 1], none⟩])
 (.cond (.tmp 14)
 (.seq
 (.reg 24576 none [
 ⟨some 4, (.op .mov), [.cst (.t (.int .i64 3))], none⟩])
 .ret)
 .skip))
 (.seq
 (.reg 28672 none [
 ⟨some 4, (.op .mov), [.cst (.t (.int .i64 2))], none⟩])
 .ret))
 (.seq
 (.reg 32768 none [
 ⟨some 16, (.op .mov), [.tmp 0], none⟩,
 ⟨some 17, (.op (.bin .eql)), [.tmp 16, .cst (.t (.int .i64 15))], none⟩,
 ⟨some 15, (.op .mov), [.tmp 17], none⟩])
 (.cond (.tmp 15)
 (.seq
 (.seq
 (.reg 36864 none [
 ⟨some 18, (.op .mov), [.tmp 1], none⟩])
 (.cond (.tmp 18)
 (.seq
 (.reg 40960 none [
 ⟨some 4, (.op .mov), [.cst (.t (.int .i64 4))], none⟩])
 .ret)
 .skip))
 (.seq
 (.reg 45056 none [
 ⟨some 4, (.op .mov), [.cst (.t (.int .i64 3))], none⟩])
 .ret))
 .skip)))))))
 (.seq
 (.reg 49152 none [
 ⟨some 4, (.op .mov), [.cst (.t (.int .i64 0))], none⟩])
 .ret)))
def hints_registers_least : List (Nat × List Nat) := []
def ac_registers_Extend_L0 (n_registers_on : Nat) : AC :=
 (.seq
 (.reg 28672 none [
 ⟨some 41, (.op (.bin .lss)), [.tmp 40, .tmp 39], none⟩])
 (.seq
 (.cond (.tmp 41)
 .skip
 (.exit 0))
 (.seq
 (.block 1
 (.seq
 (.reg 32768 none [
 ⟨some 42, (.op .mov), [.tmp 40], none⟩,
 ⟨some 43, (.op (.iaddr 1)), [.tmp 38, .tmp 40], none⟩,
 ⟨some 44, (.op (.load 1 false)), [.tmp 43], none⟩,
 ⟨some 10, (.op .mov), [.tmp 42], none⟩,
 ⟨some 11, (.op .mov), [.tmp 44], none⟩])
 (.seq
 (.reg 36864 none [
 ⟨some 45, (.op (.load 2 true)), [.tmp 4], none⟩,
 ⟨some 46, (.op .mov), [.tmp 10], none⟩,
 ⟨some 47, (.call n_registers_on false), [.tmp 45, .tmp 46], none⟩,
 ⟨some 48, (.op (.un .not)), [.tmp 47], none⟩,
 ⟨some 49, (.op .mov), [.tmp 48], none⟩,
 ⟨some 50, (.op .mov), [.tmp 11], some (49, true)⟩,
 ⟨some 51, (.op .len), [.tmp 50], some (49, true)⟩,
 ⟨some 52, (.op (.bin .gtr)), [.tmp 51, .cst (.t (.int .i64 0))], some (49, true)⟩,
 ⟨some 53, (.op .pick), [.tmp 49, .tmp 52, .cst (.t (.bool false))], none⟩])
 (.cond (.tmp 53)
 (.seq
 (.reg 40960 none [
 ⟨some 54, (.op (.build [.nil, (.t (.int .i64 0))] [])), [], none⟩,
 ⟨none, (.op (.store 2)), [.tmp 8, .tmp 54], none⟩,
 ⟨some 9, (.op .mov), [.cst (.t (.int .i64 27))], none⟩])
 .ret)
 .skip))))
 (.reg 45056 none [
 ⟨some 55, (.op (.bin .add)), [.tmp 40, .cst (.t (.int .i64 1))], none⟩,
 ⟨some 40, (.op .mov), [.tmp 55], none⟩]))))
def ac_registers_Extend_L1 (n_registers_on n_digest_Size : Nat) : AC :=
 (.seq
 (.reg 53248 none [
 ⟨some 59, (.op (.bin .lss)), [.tmp 58, .tmp 57], none⟩])
 (.seq
 (.cond (.tmp 59)
 .skip
 (.exit 2))
 (.seq
 (.block 3
 (.seq
 (.reg 57344 none [
 ⟨some 60, (.op .mov), [.tmp 58], none⟩,
 ⟨some 61, (.op (.iaddr 1)), [.tmp 56, .tmp 58], none⟩,
 ⟨some 62, (.op (.load 1 false)), [.tmp 61], none⟩,
 ⟨some 12, (.op .mov), [.tmp 60], none⟩,
 ⟨some 13, (.op .mov), [.tmp 62], none⟩])
 (.seq
 (.reg 61440 none [
 ⟨some 63, (.op (.load 2 true)), [.tmp 4], none⟩,
 ⟨some 64, (.op .mov), [.tmp 12], none⟩,
 ⟨some 65, (.call n_registers_on false), [.tmp 63, .tmp 64], none⟩,
 ⟨some 66, (.op .mov), [.tmp 65], none⟩,
 ⟨some 67, (.op .mov), [.tmp 13], some (66, true)⟩,
 ⟨some 68, (.op .len), [.tmp 67], some (66, true)⟩,
 ⟨some 69, (.op .mov), [.tmp 12], some (66, true)⟩,
 ⟨some 70, (.call n_digest_Size false), [.tmp 69], some (66, true)⟩,
 ⟨some 71, (.op (.bin .neq)), [.tmp 68, .tmp 70], some (66, true)⟩,
 ⟨some 72, (.op .pick), [.tmp 66, .tmp 71, .cst (.t (.bool false))], none⟩])
 (.cond (.tmp 72)
 (.seq
 (.reg 65536 none [
 ⟨some 73, (.op (.build [.nil, (.t (.int .i64 0))] [])), [], none⟩,
 ⟨none, (.op (.store 2)), [.tmp 8, .tmp 73], none⟩,
 ⟨some 9, (.op .mov), [.cst (.t (.int .i64 24))], none⟩])
 .ret)
 .skip))))
 (.reg 69632 none [
 ⟨some 74, (.op (.bin .add)), [.tmp 58, .cst (.t (.int .i64 1))], none⟩,
 ⟨some 58, (.op .mov), [.tmp 74], none⟩]))))
def ac_registers_Extend_L2 (n_registers_on n_digest_Sum : Nat) : AC :=
 (.seq
 (.reg 81920 none [
 ⟨some 81, (.op (.bin .lss)), [.tmp 80, .tmp 79], none⟩])
 (.seq
 (.cond (.tmp 81)
 .skip
 (.exit 4))
 (.seq
 (.block 5
 (.seq
 (.reg 86016 none [
 ⟨some 82, (.op .mov), [.tmp 80], none⟩,
 ⟨some 15, (.op .mov), [.tmp 82], none⟩])
 (.seq
 (.reg 90112 none [
 ⟨some 83, (.op (.load 2 true)), [.tmp 4], none⟩,
 ⟨some 84, (.op .mov), [.tmp 15], none⟩,
 ⟨some 85, (.call n_registers_on false), [.tmp 83, .tmp 84], none⟩])
 (.cond (.tmp 85)
 (.reg 94208 (some [0, 1, 0, 7, 15, 0, 0, 0, 128, 0, 896, 1920, 0, 8064, 16256, 32640, 0, 0, 196608, 458752, 1048448, 2097088, 4194303, 8388607]) [
 ⟨some 86, (.op (.faddr 0)), [.tmp 14], none⟩,
 ⟨some 87, (.op (.load 1 false)), [.tmp 86], none⟩,
 ⟨some 88, (.op .mov), [.tmp 15], none⟩,
 ⟨some 89, (.op (.iaddr 1)), [.tmp 87, .tmp 88], none⟩,
 ⟨some 90, (.op (.load 1 false)), [.tmp 89], none⟩,
 ⟨some 91, (.op .mov), [.tmp 2], none⟩,
 ⟨some 92, (.op .mov), [.tmp 15], none⟩,
 ⟨some 93, (.op (.faddr 0)), [.tmp 4], none⟩,
 ⟨some 94, (.op (.load 1 false)), [.tmp 93], none⟩,
 ⟨some 95, (.op .mov), [.tmp 15], none⟩,
 ⟨some 96, (.op (.iaddr 1)), [.tmp 94, .tmp 95], none⟩,
 ⟨some 97, (.op (.load 1 false)), [.tmp 96], none⟩,
 ⟨some 98, (.op .mov), [.tmp 2], none⟩,
 ⟨some 99, (.op (.iaddr 1)), [.tmp 97, .tmp 98], none⟩,
 ⟨some 100, (.op (.load 1 false)), [.tmp 99], none⟩,
 ⟨some 101, (.op (.append 1 1)), [.cst .nil, .tmp 100], none⟩,
 ⟨some 102, (.op .mov), [.tmp 3], none⟩,
 ⟨some 103, (.op .mov), [.tmp 15], none⟩,
 ⟨some 104, (.op (.iaddr 1)), [.tmp 102, .tmp 103], none⟩,
 ⟨some 105, (.op (.load 1 false)), [.tmp 104], none⟩,
 ⟨some 106, (.op (.append 1 1)), [.tmp 101, .tmp 105], none⟩,
 ⟨some 107, (.call n_digest_Sum false), [.tmp 92, .tmp 106], none⟩,
 ⟨some 108, (.op (.iaddr 1)), [.tmp 90, .tmp 91], none⟩,
 ⟨none, (.op (.store 1)), [.tmp 108, .tmp 107], none⟩])
 .skip))))
 (.reg 98304 none [
 ⟨some 109, (.op (.bin .add)), [.tmp 80, .cst (.t (.int .i64 1))], none⟩,
 ⟨some 80, (.op .mov), [.tmp 109], none⟩]))))
def ac_registers_Extend (n_registers_index n_registers_least n_registers_on n_digest_Size n_registers_twin n_digest_Sum : Nat) : AC :=
 (.seq
 (.reg 4096 none [
 ⟨some 4, (.op .box), [.tmp 0], none⟩,
 ⟨some 8, (.op (.new 2 [(.agg [.nil, (.t (.int .i64 0))])])), [], none⟩,
 ⟨some 9, (.op .mov), [.cst (.t (.int .i64 0))], none⟩])
 (.seq
 (.seq
 (.reg 8192 none [
 ⟨some 16, (.op .mov), [.tmp 1], none⟩,
 ⟨some 17, (.op (.bin .lss)), [.tmp 16, .cst (.t (.int .i64 0))], none⟩,
 ⟨some 18, (.op .mov), [.tmp 17], none⟩,
 ⟨some 19, (.op .mov), [.tmp 1], some (18, false)⟩,
 ⟨some 20, (.op (.bin .gtr)), [.tmp 19, .cst (.t (.int .i64 4))], some (18, false)⟩,
 ⟨some 21, (.op .pick), [.tmp 18, .cst (.t (.bool true)), .tmp 20], none⟩,
 ⟨some 22, (.op .mov), [.tmp 21], none⟩,
 ⟨some 23, (.op .mov), [.tmp 2], some (22, false)⟩,
 ⟨some 24, (.call n_registers_index false), [.tmp 23], some (22, false)⟩,
 ⟨some 25, (.op (.un .not)), [.tmp 24], some (22, false)⟩,
 ⟨some 26, (.op .pick), [.tmp 22, .cst (.t (.bool true)), .tmp 25], none⟩,
 ⟨some 27, (.op .mov), [.tmp 26], none⟩,
 ⟨some 28, (.op .mov), [.tmp 3], some (27, false)⟩,
 ⟨some 29, (.op .len), [.tmp 28], some (27, false)⟩,
 ⟨some 30, (.op (.bin .neq)), [.tmp 29, .cst (.t (.int .i64 2))], some (27, false)⟩,
 ⟨some 31, (.op .pick), [.tmp 27, .cst (.t (.bool true)), .tmp 30], none⟩])
 (.cond (.tmp 31)
 (.seq
 (.reg 12288 none [
 ⟨some 32, (.op (.build [.nil, (.t (.int .i64 0))] [])), [], none⟩,
 ⟨none, (.op (.store 2)), [.tmp 8, .tmp 32], none⟩,
 ⟨some 9, (.op .mov), [.cst (.t (.int .i64 1))], none⟩])
 .ret)
 .skip))
 (.seq
 (.seq
 (.reg 16384 none [
 ⟨some 33, (.op .mov), [.tmp 1], none⟩,
 ⟨some 34, (.op .mov), [.tmp 2], none⟩,
 ⟨some 35, (.call n_registers_least false), [.tmp 34, .cst (.t (.bool false))], none⟩,
 ⟨some 36, (.op (.bin .lss)), [.tmp 33, .tmp 35], none⟩])
 (.cond (.tmp 36)
 (.seq
 (.reg 20480 none [
 ⟨some 37, (.op (.build [.nil, (.t (.int .i64 0))] [])), [], none⟩,
 ⟨none, (.op (.store 2)), [.tmp 8, .tmp 37], none⟩,
 ⟨some 9, (.op .mov), [.cst (.t (.int .i64 13))], none⟩])
 .ret)
 .skip))
 (.seq
 (.seq
 (.reg 24576 none [
 ⟨some 38, (.op .mov), [.tmp 3], none⟩,
 ⟨some 39, (.op .len), [.tmp 38], none⟩,
 ⟨some 40, (.op .mov), [.cst (.t (.int .i64 0))], none⟩])
 (.block 0
 (.loop (ac_registers_Extend_L0 n_registers_on))))
 (.seq
 (.seq
 (.reg 49152 none [
 ⟨some 56, (.op .mov), [.tmp 3], none⟩,
 ⟨some 57, (.op .len), [.tmp 56], none⟩,
 ⟨some 58, (.op .mov), [.cst (.t (.int .i64 0))], none⟩])
 (.block 2
 (.loop (ac_registers_Extend_L1 n_registers_on n_digest_Size))))
 (.seq
 (.reg 73728 none [
 ⟨some 75, (.op (.load 2 true)), [.tmp 4], none⟩,
 ⟨some 76, (.call n_registers_twin true), [.tmp 75], none⟩,
 ⟨some 14, (.op (.new 2 [(.agg [.nil, (.t (.int .i64 0))])])), [], none⟩,
 ⟨none, (.op (.store 2)), [.tmp 14, .tmp 76], none⟩])
 (.seq
 (.seq
 (.reg 77824 none [
 ⟨some 77, (.op (.faddr 0)), [.tmp 14], none⟩,
 ⟨some 78, (.op (.load 1 false)), [.tmp 77], none⟩,
 ⟨some 79, (.op .len), [.tmp 78], none⟩,
 ⟨some 80, (.op .mov), [.cst (.t (.int .i64 0))], none⟩])
 (.block 4
 (.loop (ac_registers_Extend_L2 n_registers_on n_digest_Sum))))
 (.seq
 (.reg 102400 none [
 ⟨some 110, (.op (.faddr 1)), [.tmp 14], none⟩,
 ⟨some 111, (.op (.load 1 false)), [.tmp 110], none⟩,
 ⟨some 112, (.op (.bin .add)), [.tmp 111, .cst (.t (.int .i64 1))], none⟩,
 ⟨some 113, (.op (.faddr 1)), [.tmp 14], none⟩,
 ⟨none, (.op (.store 1)), [.tmp 113, .tmp 112], none⟩])
 (.seq
 (.reg 106496 none [
 ⟨some 114, (.op (.load 2 true)), [.tmp 14], none⟩,
 ⟨none, (.op (.store 2)), [.tmp 8, .tmp 114], none⟩,
 ⟨some 9, (.op .mov), [.cst (.t (.int .i64 0))], none⟩])
 .ret)))))))))
def hints_registers_Extend : List (Nat × List Nat) := [(17, [1])]
def ac_registers_Event_L0 (n_registers_on n_digest_Sum : Nat) : AC :=
 (.seq
 (.reg 24576 none [
 ⟨some 20, (.op (.bin .lss)), [.tmp 19, .tmp 18], none⟩])
 (.seq
 (.cond (.tmp 20)
 .skip
 (.exit 0))
 (.seq
 (.block 1
 (.seq
 (.reg 28672 none [
 ⟨some 21, (.op .mov), [.tmp 19], none⟩,
 ⟨some 11, (.op .mov), [.tmp 21], none⟩])
 (.seq
 (.reg 32768 none [
 ⟨some 22, (.op (.load 2 true)), [.tmp 4], none⟩,
 ⟨some 23, (.op .mov), [.tmp 11], none⟩,
 ⟨some 24, (.call n_registers_on false), [.tmp 22, .tmp 23], none⟩])
 (.cond (.tmp 24)
 (.reg 36864 none [
 ⟨some 25, (.op .mov), [.tmp 10], none⟩,
 ⟨some 26, (.op .mov), [.tmp 11], none⟩,
 ⟨some 27, (.op .mov), [.tmp 11], none⟩,
 ⟨some 28, (.op .mov), [.tmp 3], none⟩,
 ⟨some 29, (.call n_digest_Sum false), [.tmp 27, .tmp 28], none⟩,
 ⟨some 30, (.op (.iaddr 1)), [.tmp 25, .tmp 26], none⟩,
 ⟨none, (.op (.store 1)), [.tmp 30, .tmp 29], none⟩])
 .skip))))
 (.reg 40960 none [
 ⟨some 31, (.op (.bin .add)), [.tmp 19, .cst (.t (.int .i64 1))], none⟩,
 ⟨some 19, (.op .mov), [.tmp 31], none⟩]))))
def ac_registers_Event (n_registers_on n_digest_Sum n_registers_Extend : Nat) : AC :=
 (.seq
 (.reg 4096 none [
 ⟨some 4, (.op .box), [.tmp 0], none⟩,
 ⟨some 8, (.op (.new 2 [(.agg [.nil, (.t (.int .i64 0))])])), [], none⟩,
 ⟨some 9, (.op .mov), [.cst (.t (.int .i64 0))], none⟩])
 (.seq
 (.seq
 (.reg 8192 none [
 ⟨some 12, (.op .mov), [.tmp 3], none⟩,
 ⟨some 13, (.op .len), [.tmp 12], none⟩,
 ⟨some 14, (.op (.bin .gtr)), [.tmp 13, .cst (.t (.int .i64 128))], none⟩])
 (.cond (.tmp 14)
 (.seq
 (.reg 12288 none [
 ⟨some 15, (.op (.build [.nil, (.t (.int .i64 0))] [])), [], none⟩,
 ⟨none, (.op (.store 2)), [.tmp 8, .tmp 15], none⟩,
 ⟨some 9, (.op .mov), [.cst (.t (.int .i64 4))], none⟩])
 .ret)
 .skip))
 (.seq
 (.reg 16384 none [
 ⟨some 16, (.op (.mkslice 1 24 .nil)), [.cst (.t (.int .i64 2)), .cst (.t (.int .i64 2))], none⟩,
 ⟨some 10, (.op .mov), [.tmp 16], none⟩])
 (.seq
 (.seq
 (.reg 20480 none [
 ⟨some 17, (.op .mov), [.tmp 10], none⟩,
 ⟨some 18, (.op .len), [.tmp 17], none⟩,
 ⟨some 19, (.op .mov), [.cst (.t (.int .i64 0))], none⟩])
 (.block 0
 (.loop (ac_registers_Event_L0 n_registers_on n_digest_Sum))))
 (.seq
 (.reg 45056 none [
 ⟨some 32, (.op (.load 2 true)), [.tmp 4], none⟩,
 ⟨some 33, (.op .mov), [.tmp 1], none⟩,
 ⟨some 34, (.op .mov), [.tmp 2], none⟩,
 ⟨some 35, (.op .mov), [.tmp 10], none⟩,
 ⟨some 36, (.call n_registers_Extend true), [.tmp 32, .tmp 33, .tmp 34, .tmp 35], none⟩,
 ⟨some 37, (.op (.extract 0)), [.tmp 36], none⟩,
 ⟨some 38, (.op (.extract 1)), [.tmp 36], none⟩,
 ⟨none, (.op (.store 2)), [.tmp 8, .tmp 37], none⟩,
 ⟨some 9, (.op .mov), [.tmp 38], none⟩])
 .ret)))))
def hints_registers_Event : List (Nat × List Nat) := [(10, [4])]
def ac_registers_Digest_L0 (n_wire_Uint : Nat) : AC :=
 (.seq
 (.reg 16384 none [
 ⟨some 15, (.op (.bin .lss)), [.tmp 14, .cst (.t (.int .i64 2))], none⟩])
 (.seq
 (.cond (.tmp 15)
 .skip
 (.exit 0))
 (.seq
 (.block 1
 (.seq
 (.reg 20480 none [
 ⟨some 16, (.op (.index 2 1 false)), [.tmp 13, .tmp 14], none⟩,
 ⟨some 9, (.op .mov), [.tmp 16], none⟩])
 (.seq
 (.seq
 (.reg 24576 none [
 ⟨some 17, (.op .mov), [.tmp 9], none⟩,
 ⟨some 18, (.op (.bin .lss)), [.tmp 17, .cst (.t (.int .i64 0))], none⟩,
 ⟨some 19, (.op .mov), [.tmp 18], none⟩,
 ⟨some 20, (.op .mov), [.tmp 9], some (19, false)⟩,
 ⟨some 21, (.op (.bin .gtr)), [.tmp 20, .cst (.t (.int .i64 65535))], some (19, false)⟩,
 ⟨some 22, (.op .pick), [.tmp 19, .cst (.t (.bool true)), .tmp 21], none⟩])
 (.cond (.tmp 22)
 (.seq
 (.reg 28672 none [
 ⟨some 4, (.op .mov), [.cst .nil], none⟩,
 ⟨some 5, (.op .mov), [.cst (.t (.int .i64 1))], none⟩])
 .ret)
 .skip))
 (.reg 32768 none [
 ⟨some 23, (.op .mov), [.tmp 6], none⟩,
 ⟨some 24, (.op .mov), [.tmp 9], none⟩,
 ⟨some 25, (.call n_wire_Uint false), [.tmp 23, .cst (.t (.int .i64 2)), .tmp 24], none⟩,
 ⟨some 6, (.op .mov), [.tmp 25], none⟩]))))
 (.reg 36864 none [
 ⟨some 26, (.op (.bin .add)), [.tmp 14, .cst (.t (.int .i64 1))], none⟩,
 ⟨some 14, (.op .mov), [.tmp 26], none⟩]))))
def ac_registers_Digest_L2 : AC :=
 (.seq
 (.reg 65536 none [
 ⟨some 41, (.op (.bin .lss)), [.tmp 40, .cst (.t (.int .i64 16))], none⟩])
 (.seq
 (.cond (.tmp 41)
 .skip
 (.exit 4))
 (.seq
 (.block 5
 (.seq
 (.reg 69632 none [
 ⟨some 42, (.op .mov), [.tmp 40], none⟩,
 ⟨some 12, (.op .mov), [.tmp 42], none⟩])
 (.seq
 (.reg 73728 none [
 ⟨some 43, (.op .mov), [.tmp 11], none⟩,
 ⟨some 44, (.op .mov), [.tmp 12], none⟩,
 ⟨some 45, (.op (.conv .u64)), [.tmp 44], none⟩,
 ⟨some 46, (.op (.bin .shr)), [.tmp 43, .tmp 45], none⟩,
 ⟨some 47, (.op (.bin .and)), [.tmp 46, .cst (.t (.int .i64 1))], none⟩,
 ⟨some 48, (.op (.bin .eql)), [.tmp 47, .cst (.t (.int .i64 1))], none⟩])
 (.cond (.tmp 48)
 (.reg 77824 none [
 ⟨some 49, (.op .mov), [.tmp 7], none⟩,
 ⟨some 50, (.op (.faddr 0)), [.tmp 2], none⟩,
 ⟨some 51, (.op (.load 1 false)), [.tmp 50], none⟩,
 ⟨some 52, (.op .mov), [.tmp 10], none⟩,
 ⟨some 53, (.op (.iaddr 1)), [.tmp 51, .tmp 52], none⟩,
 ⟨some 54, (.op (.load 1 false)), [.tmp 53], none⟩,
 ⟨some 55, (.op .mov), [.tmp 12], none⟩,
 ⟨some 56, (.op (.iaddr 1)), [.tmp 54, .tmp 55], none⟩,
 ⟨some 57, (.op (.load 1 false)), [.tmp 56], none⟩,
 ⟨some 58, (.op (.append 1 1)), [.tmp 49, .tmp 57], none⟩,
 ⟨some 7, (.op .mov), [.tmp 58], none⟩])
 .skip))))
 (.reg 81920 none [
 ⟨some 59, (.op (.bin .add)), [.tmp 40, .cst (.t (.int .i64 1))], none⟩,
 ⟨some 40, (.op .mov), [.tmp 59], none⟩]))))
def ac_registers_Digest_L1 (n_registers_on : Nat) : AC :=
 (.seq
 (.reg 45056 none [
 ⟨some 29, (.op (.bin .lss)), [.tmp 28, .cst (.t (.int .i64 2))], none⟩])
 (.seq
 (.cond (.tmp 29)
 .skip
 (.exit 2))
 (.seq
 (.block 3
 (.seq
 (.reg 49152 none [
 ⟨some 30, (.op .mov), [.tmp 28], none⟩,
 ⟨some 31, (.op (.index 2 1 false)), [.tmp 27, .tmp 28], none⟩,
 ⟨some 10, (.op .mov), [.tmp 30], none⟩,
 ⟨some 11, (.op .mov), [.tmp 31], none⟩])
 (.seq
 (.seq
 (.reg 53248 none [
 ⟨some 32, (.op .mov), [.tmp 11], none⟩,
 ⟨some 33, (.op (.bin .neq)), [.tmp 32, .cst (.t (.int .i64 0))], none⟩,
 ⟨some 34, (.op .mov), [.tmp 33], none⟩,
 ⟨some 35, (.op (.load 2 true)), [.tmp 2], some (34, true)⟩,
 ⟨some 36, (.op .mov), [.tmp 10], some (34, true)⟩,
 ⟨some 37, (.call n_registers_on false), [.tmp 35, .tmp 36], some (34, true)⟩,
 ⟨some 38, (.op (.un .not)), [.tmp 37], some (34, true)⟩,
 ⟨some 39, (.op .pick), [.tmp 34, .tmp 38, .cst (.t (.bool false))], none⟩])
 (.cond (.tmp 39)
 (.seq
 (.reg 57344 none [
 ⟨some 4, (.op .mov), [.cst .nil], none⟩,
 ⟨some 5, (.op .mov), [.cst (.t (.int .i64 27))], none⟩])
 .ret)
 .skip))
 (.seq
 (.reg 61440 none [
 ⟨some 40, (.op .mov), [.cst (.t (.int .i64 0))], none⟩])
 (.block 4
 (.loop ac_registers_Digest_L2))))))
 (.reg 86016 none [
 ⟨some 60, (.op (.bin .add)), [.tmp 28, .cst (.t (.int .i64 1))], none⟩,
 ⟨some 28, (.op .mov), [.tmp 60], none⟩]))))
def ac_registers_Digest (n_wire_Uint n_registers_on n_digest_Hash : Nat) : AC :=
 (.seq
 (.reg 4096 none [
 ⟨some 2, (.op .box), [.tmp 0], none⟩,
 ⟨some 3, (.op .boxArr), [.tmp 1], none⟩,
 ⟨some 4, (.op .mov), [.cst .nil], none⟩,
 ⟨some 5, (.op .mov), [.cst (.t (.int .i64 0))], none⟩])
 (.seq
 (.reg 8192 none [
 ⟨some 6, (.op .mov), [.cst .nil], none⟩,
 ⟨some 7, (.op .mov), [.cst .nil], none⟩])
 (.seq
 (.seq
 (.reg 12288 none [
 ⟨some 13, (.op (.load 2 true)), [.tmp 3], none⟩,
 ⟨some 14, (.op .mov), [.cst (.t (.int .i64 0))], none⟩])
 (.block 0
 (.loop (ac_registers_Digest_L0 n_wire_Uint))))
 (.seq
 (.seq
 (.reg 40960 none [
 ⟨some 27, (.op (.load 2 true)), [.tmp 3], none⟩,
 ⟨some 28, (.op .mov), [.cst (.t (.int .i64 0))], none⟩])
 (.block 2
 (.loop (ac_registers_Digest_L1 n_registers_on))))
 (.seq
 (.reg 90112 none [
 ⟨some 61, (.op .mov), [.tmp 6], none⟩,
 ⟨some 62, (.op .mov), [.tmp 7], none⟩,
 ⟨some 63, (.op (.bslice 1 2 .nil [0, 1])), [.tmp 61, .tmp 62], none⟩,
 ⟨some 64, (.call n_digest_Hash false), [.cst (.t (.int .i64 5)), .tmp 63], none⟩,
 ⟨some 4, (.op .mov), [.tmp 64], none⟩,
 ⟨some 5, (.op .mov), [.cst (.t (.int .i64 0))], none⟩])
 .ret)))))
def hints_registers_Digest : List (Nat × List Nat) := []
def ac_ref8_fill_L0 : AC :=
 (.seq
 (.seq
 (.reg 16384 none [
 ⟨some 9, (.op .mov), [.tmp 6], none⟩,
 ⟨some 10, (.op .mov), [.tmp 0], none⟩,
 ⟨some 11, (.op (.bin .lss)), [.tmp 9, .tmp 10], none⟩])
 (.cond (.tmp 11)
 .skip
 (.exit 0)))
 (.seq
 (.block 1
 (.reg 24576 none [
 ⟨some 14, (.op .mov), [.tmp 5], none⟩,
 ⟨some 15, (.op .mov), [.tmp 6], none⟩,
 ⟨some 16, (.op .mov), [.tmp 1], none⟩,
 ⟨some 17, (.op (.iaddr 1)), [.tmp 14, .tmp 15], none⟩,
 ⟨none, (.op (.store 1)), [.tmp 17, .tmp 16], none⟩]))
 (.reg 20480 none [
 ⟨some 12, (.op .mov), [.tmp 6], none⟩,
 ⟨some 13, (.op (.bin .add)), [.tmp 12, .cst (.t (.int .i64 1))], none⟩,
 ⟨some 6, (.op .mov), [.tmp 13], none⟩])))
def ac_ref8_fill : AC :=
 (.seq
 (.reg 4096 none [
 ⟨some 4, (.op .mov), [.cst .nil], none⟩])
 (.seq
 (.reg 8192 none [
 ⟨some 7, (.op .mov), [.tmp 0], none⟩,
 ⟨some 8, (.op (.mkslice 1 1 (.t (byteT 0)))), [.tmp 7, .tmp 7], none⟩,
 ⟨some 5, (.op .mov), [.tmp 8], none⟩])
 (.seq
 (.seq
 (.reg 12288 none [
 ⟨some 6, (.op .mov), [.cst (.t (.int .i64 0))], none⟩])
 (.block 0
 (.loop ac_ref8_fill_L0)))
 (.seq
 (.reg 28672 none [
 ⟨some 18, (.op .mov), [.tmp 5], none⟩,
 ⟨some 4, (.op .mov), [.tmp 18], none⟩])
 .ret))))
def hints_ref8_fill : List (Nat × List Nat) := []
def ac_ref8_initial (n_ref1_Size n_ref8_fill : Nat) : AC :=
 (.seq
 (.reg 4096 none [
 ⟨some 4, (.op .mov), [.cst .nil], none⟩])
 (.seq
 (.seq
 (.reg 8192 none [
 ⟨some 5, (.op .mov), [.tmp 1], none⟩,
 ⟨some 6, (.op (.bin .geq)), [.tmp 5, .cst (.t (.int .i64 12))], none⟩])
 (.cond (.tmp 6)
 (.seq
 (.reg 12288 none [
 ⟨some 7, (.op .mov), [.tmp 0], none⟩,
 ⟨some 8, (.call n_ref1_Size false), [.tmp 7], none⟩,
 ⟨some 9, (.call n_ref8_fill false), [.tmp 8, .cst (.t (byteT 255))], none⟩,
 ⟨some 4, (.op .mov), [.tmp 9], none⟩])
 .ret)
 .skip))
 (.seq
 (.reg 16384 none [
 ⟨some 10, (.op .mov), [.tmp 0], none⟩,
 ⟨some 11, (.call n_ref1_Size false), [.tmp 10], none⟩,
 ⟨some 12, (.call n_ref8_fill false), [.tmp 11, .cst (.t (byteT 0))], none⟩,
 ⟨some 4, (.op .mov), [.tmp 12], none⟩])
 .ret)))
def hints_ref8_initial : List (Nat × List Nat) := []
def ac_ref8_New_L1 (n_ref8_initial : Nat) : AC :=
 (.seq
 (.seq
 (.reg 40960 none [
 ⟨some 16, (.op .mov), [.tmp 6], none⟩,
 ⟨some 17, (.op (.bin .lss)), [.tmp 16, .cst (.t (.int .i64 16))], none⟩,
 ⟨some 18, (.op .mov), [.tmp 17], none⟩,
 ⟨some 19, (.op .mov), [.tmp 0], some (18, true)⟩,
 ⟨some 20, (.op .mov), [.tmp 4], some (18, true)⟩,
 ⟨some 21, (.op (.conv .u64)), [.tmp 20], some (18, true)⟩,
 ⟨some 22, (.op (.bin .shr)), [.tmp 19, .tmp 21], some (18, true)⟩,
 ⟨some 23, (.op (.bin .and)), [.tmp 22, .cst (.t (.int .i64 1))], some (18, true)⟩,
 ⟨some 24, (.op (.bin .eql)), [.tmp 23, .cst (.t (.int .i64 1))], some (18, true)⟩,
 ⟨some 25, (.op .pick), [.tmp 18, .tmp 24, .cst (.t (.bool false))], none⟩])
 (.cond (.tmp 25)
 .skip
 (.exit 2)))
 (.seq
 (.block 3
 (.reg 49152 none [
 ⟨some 28, (.op .mov), [.tmp 5], none⟩,
 ⟨some 29, (.op .mov), [.tmp 4], none⟩,
 ⟨some 30, (.op .mov), [.tmp 6], none⟩,
 ⟨some 31, (.call n_ref8_initial false), [.tmp 29, .tmp 30], none⟩,
 ⟨some 32, (.op (.bslice 1 1 .nil [0])), [.tmp 31], none⟩,
 ⟨some 33, (.op (.append 1 24)), [.tmp 28, .tmp 32], none⟩,
 ⟨some 5, (.op .mov), [.tmp 33], none⟩]))
 (.reg 45056 none [
 ⟨some 26, (.op .mov), [.tmp 6], none⟩,
 ⟨some 27, (.op (.bin .add)), [.tmp 26, .cst (.t (.int .i64 1))], none⟩,
 ⟨some 6, (.op .mov), [.tmp 27], none⟩])))
def ac_ref8_New_L0 (n_ref8_initial : Nat) : AC :=
 (.seq
 (.seq
 (.reg 24576 none [
 ⟨some 12, (.op .mov), [.tmp 4], none⟩,
 ⟨some 13, (.op (.bin .lss)), [.tmp 12, .cst (.t (.int .i64 2))], none⟩])
 (.cond (.tmp 13)
 .skip
 (.exit 0)))
 (.seq
 (.block 1
 (.seq
 (.reg 32768 none [
 ⟨some 5, (.op .mov), [.cst .nil], none⟩])
 (.seq
 (.seq
 (.reg 36864 none [
 ⟨some 6, (.op .mov), [.cst (.t (.int .i64 0))], none⟩])
 (.block 2
 (.loop (ac_ref8_New_L1 n_ref8_initial))))
 (.reg 53248 none [
 ⟨some 34, (.op (.faddr 0)), [.tmp 3], none⟩,
 ⟨some 35, (.op (.load 1 false)), [.tmp 34], none⟩,
 ⟨some 36, (.op .mov), [.tmp 5], none⟩,
 ⟨some 37, (.op (.bslice 1 1 .nil [0])), [.tmp 36], none⟩,
 ⟨some 38, (.op (.append 1 24)), [.tmp 35, .tmp 37], none⟩,
 ⟨some 39, (.op (.faddr 0)), [.tmp 3], none⟩,
 ⟨none, (.op (.store 1)), [.tmp 39, .tmp 38], none⟩]))))
 (.reg 28672 none [
 ⟨some 14, (.op .mov), [.tmp 4], none⟩,
 ⟨some 15, (.op (.bin .add)), [.tmp 14, .cst (.t (.int .i64 1))], none⟩,
 ⟨some 4, (.op .mov), [.tmp 15], none⟩])))
def ac_ref8_New (n_ref8_initial : Nat) : AC :=
 (.seq
 (.reg 4096 none [
 ⟨some 2, (.op (.new 2 [(.agg [.nil, (.t (.int .i64 0))])])), [], none⟩])
 (.seq
 (.reg 8192 none [
 ⟨some 7, (.op (.build [.nil, (.t (.int .i64 0))] [])), [], none⟩,
 ⟨some 3, (.op (.new 2 [(.agg [.nil, (.t (.int .i64 0))])])), [], none⟩,
 ⟨none, (.op (.store 2)), [.tmp 3, .tmp 7], none⟩])
 (.seq
 (.seq
 (.reg 12288 none [
 ⟨some 8, (.op .mov), [.tmp 0], none⟩,
 ⟨some 9, (.op (.bin .and)), [.tmp 8, .cst (.t (.int .i64 3))], none⟩,
 ⟨some 10, (.op (.bin .eql)), [.tmp 9, .cst (.t (.int .i64 0))], none⟩])
 (.cond (.tmp 10)
 (.seq
 (.reg 16384 none [
 ⟨some 11, (.op (.load 2 true)), [.tmp 3], none⟩,
 ⟨none, (.op (.store 2)), [.tmp 2, .tmp 11], none⟩])
 .ret)
 .skip))
 (.seq
 (.seq
 (.reg 20480 none [
 ⟨some 4, (.op .mov), [.cst (.t (.int .i64 0))], none⟩])
 (.block 0
 (.loop (ac_ref8_New_L0 n_ref8_initial))))
 (.seq
 (.reg 57344 none [
 ⟨some 40, (.op (.load 2 true)), [.tmp 3], none⟩,
 ⟨none, (.op (.store 2)), [.tmp 2, .tmp 40], none⟩])
 .ret)))))
def hints_ref8_New : List (Nat × List Nat) := []
def ac_ref8_Active : AC :=
 (.seq
 (.reg 4096 none [
 ⟨some 2, (.op .box), [.tmp 0], none⟩,
 ⟨some 4, (.op .mov), [.cst (.t (.bool false))], none⟩])
 (.seq
 (.reg 8192 none [
 ⟨some 5, (.op .mov), [.tmp 1], none⟩,
 ⟨some 6, (.op (.faddr 0)), [.tmp 2], none⟩,
 ⟨some 7, (.op (.load 1 false)), [.tmp 6], none⟩,
 ⟨some 8, (.op .len), [.tmp 7], none⟩,
 ⟨some 9, (.op (.bin .lss)), [.tmp 5, .tmp 8], none⟩,
 ⟨some 10, (.op .mov), [.tmp 9], none⟩,
 ⟨some 11, (.op (.faddr 0)), [.tmp 2], some (10, true)⟩,
 ⟨some 12, (.op (.load 1 false)), [.tmp 11], some (10, true)⟩,
 ⟨some 13, (.op .mov), [.tmp 1], some (10, true)⟩,
 ⟨some 14, (.op (.iaddr 1)), [.tmp 12, .tmp 13], some (10, true)⟩,
 ⟨some 15, (.op (.load 1 false)), [.tmp 14], some (10, true)⟩,
 ⟨some 16, (.op .len), [.tmp 15], some (10, true)⟩,
 ⟨some 17, (.op (.bin .gtr)), [.tmp 16, .cst (.t (.int .i64 0))], some (10, true)⟩,
 ⟨some 18, (.op .pick), [.tmp 10, .tmp 17, .cst (.t (.bool false))], none⟩,
 ⟨some 4, (.op .mov), [.tmp 18], none⟩])
 .ret))
def hints_ref8_Active : List (Nat × List Nat) := []
def ac_ref8_Copy_L1 (n_ref1_Copy : Nat) : AC :=
 (.seq
 (.seq
 (.reg 32768 none [
 ⟨some 17, (.op .mov), [.tmp 6], none⟩,
 ⟨some 18, (.op (.faddr 0)), [.tmp 1], none⟩,
 ⟨some 19, (.op (.load 1 false)), [.tmp 18], none⟩,
 ⟨some 20, (.op .mov), [.tmp 4], none⟩,
 ⟨some 21, (.op (.iaddr 1)), [.tmp 19, .tmp 20], none⟩,
 ⟨some 22, (.op (.load 1 false)), [.tmp 21], none⟩,
 ⟨some 23, (.op .len), [.tmp 22], none⟩,
 ⟨some 24, (.op (.bin .lss)), [.tmp 17, .tmp 23], none⟩])
 (.cond (.tmp 24)
 .skip
 (.exit 2)))
 (.seq
 (.block 3
 (.reg 40960 none [
 ⟨some 27, (.op .mov), [.tmp 5], none⟩,
 ⟨some 28, (.op (.faddr 0)), [.tmp 1], none⟩,
 ⟨some 29, (.op (.load 1 false)), [.tmp 28], none⟩,
 ⟨some 30, (.op .mov), [.tmp 4], none⟩,
 ⟨some 31, (.op (.iaddr 1)), [.tmp 29, .tmp 30], none⟩,
 ⟨some 32, (.op (.load 1 false)), [.tmp 31], none⟩,
 ⟨some 33, (.op .mov), [.tmp 6], none⟩,
 ⟨some 34, (.op (.iaddr 1)), [.tmp 32, .tmp 33], none⟩,
 ⟨some 35, (.op (.load 1 false)), [.tmp 34], none⟩,
 ⟨some 36, (.call n_ref1_Copy false), [.tmp 35], none⟩,
 ⟨some 37, (.op (.bslice 1 1 .nil [0])), [.tmp 36], none⟩,
 ⟨some 38, (.op (.append 1 24)), [.tmp 27, .tmp 37], none⟩,
 ⟨some 5, (.op .mov), [.tmp 38], none⟩]))
 (.reg 36864 none [
 ⟨some 25, (.op .mov), [.tmp 6], none⟩,
 ⟨some 26, (.op (.bin .add)), [.tmp 25, .cst (.t (.int .i64 1))], none⟩,
 ⟨some 6, (.op .mov), [.tmp 26], none⟩])))
def ac_ref8_Copy_L0 (n_ref1_Copy : Nat) : AC :=
 (.seq
 (.seq
 (.reg 16384 none [
 ⟨some 10, (.op .mov), [.tmp 4], none⟩,
 ⟨some 11, (.op (.faddr 0)), [.tmp 1], none⟩,
 ⟨some 12, (.op (.load 1 false)), [.tmp 11], none⟩,
 ⟨some 13, (.op .len), [.tmp 12], none⟩,
 ⟨some 14, (.op (.bin .lss)), [.tmp 10, .tmp 13], none⟩])
 (.cond (.tmp 14)
 .skip
 (.exit 0)))
 (.seq
 (.block 1
 (.seq
 (.reg 24576 none [
 ⟨some 5, (.op .mov), [.cst .nil], none⟩])
 (.seq
 (.seq
 (.reg 28672 none [
 ⟨some 6, (.op .mov), [.cst (.t (.int .i64 0))], none⟩])
 (.block 2
 (.loop (ac_ref8_Copy_L1 n_ref1_Copy))))
 (.reg 45056 none [
 ⟨some 39, (.op (.faddr 0)), [.tmp 3], none⟩,
 ⟨some 40, (.op (.load 1 false)), [.tmp 39], none⟩,
 ⟨some 41, (.op .mov), [.tmp 5], none⟩,
 ⟨some 42, (.op (.bslice 1 1 .nil [0])), [.tmp 41], none⟩,
 ⟨some 43, (.op (.append 1 24)), [.tmp 40, .tmp 42], none⟩,
 ⟨some 44, (.op (.faddr 0)), [.tmp 3], none⟩,
 ⟨none, (.op (.store 1)), [.tmp 44, .tmp 43], none⟩]))))
 (.reg 20480 none [
 ⟨some 15, (.op .mov), [.tmp 4], none⟩,
 ⟨some 16, (.op (.bin .add)), [.tmp 15, .cst (.t (.int .i64 1))], none⟩,
 ⟨some 4, (.op .mov), [.tmp 16], none⟩])))
def ac_ref8_Copy (n_ref1_Copy : Nat) : AC :=
 (.seq
 (.reg 4096 none [
 ⟨some 1, (.op .box), [.tmp 0], none⟩,
 ⟨some 2, (.op (.new 2 [(.agg [.nil, (.t (.int .i64 0))])])), [], none⟩])
 (.seq
 (.reg 8192 none [
 ⟨some 7, (.op (.faddr 1)), [.tmp 1], none⟩,
 ⟨some 8, (.op (.load 1 false)), [.tmp 7], none⟩,
 ⟨some 9, (.op (.build [.nil, (.t (.int .i64 0))] [(1, 1)])), [.tmp 8], none⟩,
 ⟨some 3, (.op (.new 2 [(.agg [.nil, (.t (.int .i64 0))])])), [], none⟩,
 ⟨none, (.op (.store 2)), [.tmp 3, .tmp 9], none⟩])
 (.seq
 (.seq
 (.reg 12288 none [
 ⟨some 4, (.op .mov), [.cst (.t (.int .i64 0))], none⟩])
 (.block 0
 (.loop (ac_ref8_Copy_L0 n_ref1_Copy))))
 (.seq
 (.reg 49152 none [
 ⟨some 45, (.op (.load 2 true)), [.tmp 3], none⟩,
 ⟨none, (.op (.store 2)), [.tmp 2, .tmp 45], none⟩])
 .ret))))
def hints_ref8_Copy : List (Nat × List Nat) := []
def ac_ref8_Least : AC :=
 (.seq
 (.reg 4096 none [
 ⟨some 4, (.op .mov), [.cst (.t (.int .i64 0))], none⟩])
 (.seq
 (.block 0
 (.seq
 (.reg 8192 none [
 ⟨some 6, (.op .mov), [.tmp 1], none⟩,
 ⟨some 7, (.op .mov), [.tmp 6], none⟩,
 ⟨some 8, (.op .mov), [.tmp 0], some (7, true)⟩,
 ⟨some 9, (.op (.bin .lss)), [.tmp 8, .cst (.t (.int .i64 12))], some (7, true)⟩,
 ⟨some 10, (.op .pick), [.tmp 7, .tmp 9, .cst (.t (.bool false))], none⟩,
 ⟨some 5, (.op .mov), [.tmp 10], none⟩])
 (.cond (.tmp 5)
 (.seq
 (.reg 12288 none [
 ⟨some 4, (.op .mov), [.cst (.t (.int .i64 (-1)))], none⟩])
 .ret)
 (.seq
 (.reg 16384 none [
 ⟨some 12, (.op .mov), [.tmp 0], none⟩,
 ⟨some 13, (.op (.bin .eql)), [.tmp 12, .cst (.t (.int .i64 14))], none⟩,
 ⟨some 14, (.op .mov), [.tmp 13], none⟩,
 ⟨some 15, (.op .mov), [.tmp 1], some (14, true)⟩,
 ⟨some 16, (.op .pick), [.tmp 14, .tmp 15, .cst (.t (.bool false))], none⟩,
 ⟨some 11, (.op .mov), [.tmp 16], none⟩])
 (.cond (.tmp 11)
 (.seq
 (.reg 20480 none [
 ⟨some 4, (.op .mov), [.cst (.t (.int .i64 3))], none⟩])
 .ret)
 (.seq
 (.reg 24576 none [
 ⟨some 18, (.op .mov), [.tmp 0], none⟩,
 ⟨some 19, (.op (.bin .eql)), [.tmp 18, .cst (.t (.int .i64 15))], none⟩,
 ⟨some 20, (.op .mov), [.tmp 19], none⟩,
 ⟨some 21, (.op .mov), [.tmp 1], some (20, true)⟩,
 ⟨some 22, (.op .pick), [.tmp 20, .tmp 21, .cst (.t (.bool false))], none⟩,
 ⟨some 17, (.op .mov), [.tmp 22], none⟩])
 (.cond (.tmp 17)
 (.seq
 (.reg 28672 none [
 ⟨some 4, (.op .mov), [.cst (.t (.int .i64 4))], none⟩])
 .ret)
 (.seq
 (.reg 32768 none [
 ⟨some 24, (.op .mov), [.tmp 0], none⟩,
 ⟨some 25, (.op (.bin .eql)), [.tmp 24, .cst (.t (.int .i64 14))], none⟩,
 ⟨some 23, (.op .mov), [.tmp 25], none⟩])
 (.cond (.tmp 23)
 (.seq
 (.reg 36864 none [
 ⟨some 4, (.op .mov), [.cst (.t (.int .i64 2))], none⟩])
 .ret)
 (.seq
 (.reg 40960 none [
 ⟨some 27, (.op .mov), [.tmp 0], none⟩,
 ⟨some 28, (.op (.bin .eql)), [.tmp 27, .cst (.t (.int .i64 15))], none⟩,
 ⟨some 26, (.op .mov), [.tmp 28], none⟩])
 (.cond (.tmp 26)
 (.seq
 (.reg 45056 none [
 ⟨some 4, (.op .mov), [.cst (.t (.int .i64 3))], none⟩])
 .ret)
 .skip)))))))))))
 (.seq
 (.reg 49152 none [
 ⟨some 4, (.op .mov), [.cst (.t (.int .i64 0))], none⟩])
 .ret)))
def hints_ref8_Least : List (Nat × List Nat) := []
def ac_ref8_Extend_L0 (n_ref8_Active : Nat) : AC :=
 (.seq
 (.seq
 (.reg 28672 none [
 ⟨some 39, (.op .mov), [.tmp 10], none⟩,
 ⟨some 40, (.op (.bin .lss)), [.tmp 39, .cst (.t (.int .i64 2))], none⟩])
 (.cond (.tmp 40)
 .skip
 (.exit 0)))
 (.seq
 (.block 1
 (.seq
 (.reg 36864 none [
 ⟨some 43, (.op (.load 2 true)), [.tmp 4], none⟩,
 ⟨some 44, (.op .mov), [.tmp 10], none⟩,
 ⟨some 45, (.call n_ref8_Active false), [.tmp 43, .tmp 44], none⟩,
 ⟨some 46, (.op (.un .not)), [.tmp 45], none⟩,
 ⟨some 47, (.op .mov), [.tmp 46], none⟩,
 ⟨some 48, (.op .mov), [.tmp 3], some (47, true)⟩,
 ⟨some 49, (.op .mov), [.tmp 10], some (47, true)⟩,
 ⟨some 50, (.op (.iaddr 1)), [.tmp 48, .tmp 49], some (47, true)⟩,
 ⟨some 51, (.op (.load 1 false)), [.tmp 50], some (47, true)⟩,
 ⟨some 52, (.op .len), [.tmp 51], some (47, true)⟩,
 ⟨some 53, (.op (.bin .gtr)), [.tmp 52, .cst (.t (.int .i64 0))], some (47, true)⟩,
 ⟨some 54, (.op .pick), [.tmp 47, .tmp 53, .cst (.t (.bool false))], none⟩])
 (.cond (.tmp 54)
 (.seq
 (.reg 40960 none [
 ⟨some 55, (.op (.build [.nil, (.t (.int .i64 0))] [])), [], none⟩,
 ⟨none, (.op (.store 2)), [.tmp 8, .tmp 55], none⟩,
 ⟨some 9, (.op .mov), [.cst (.t (.int .i64 27))], none⟩])
 .ret)
 .skip)))
 (.reg 32768 none [
 ⟨some 41, (.op .mov), [.tmp 10], none⟩,
 ⟨some 42, (.op (.bin .add)), [.tmp 41, .cst (.t (.int .i64 1))], none⟩,
 ⟨some 10, (.op .mov), [.tmp 42], none⟩])))
def ac_ref8_Extend_L1 (n_ref8_Active n_ref1_Size : Nat) : AC :=
 (.seq
 (.seq
 (.reg 49152 none [
 ⟨some 56, (.op .mov), [.tmp 11], none⟩,
 ⟨some 57, (.op (.bin .lss)), [.tmp 56, .cst (.t (.int .i64 2))], none⟩])
 (.cond (.tmp 57)
 .skip
 (.exit 2)))
 (.seq
 (.block 3
 (.seq
 (.reg 57344 (some [0, 0, 3, 7, 15, 15, 63, 127, 255, 15, 527, 2047, 4095]) [
 ⟨some 60, (.op (.load 2 true)), [.tmp 4], none⟩,
 ⟨some 61, (.op .mov), [.tmp 11], none⟩,
 ⟨some 62, (.call n_ref8_Active false), [.tmp 60, .tmp 61], none⟩,
 ⟨some 63, (.op .mov), [.tmp 62], none⟩,
 ⟨some 64, (.op .mov), [.tmp 3], some (63, true)⟩,
 ⟨some 65, (.op .mov), [.tmp 11], some (63, true)⟩,
 ⟨some 66, (.op (.iaddr 1)), [.tmp 64, .tmp 65], some (63, true)⟩,
 ⟨some 67, (.op (.load 1 false)), [.tmp 66], some (63, true)⟩,
 ⟨some 68, (.op .len), [.tmp 67], some (63, true)⟩,
 ⟨some 69, (.op .mov), [.tmp 11], some (63, true)⟩,
 ⟨some 70, (.call n_ref1_Size false), [.tmp 69], some (63, true)⟩,
 ⟨some 71, (.op (.bin .neq)), [.tmp 68, .tmp 70], some (63, true)⟩,
 ⟨some 72, (.op .pick), [.tmp 63, .tmp 71, .cst (.t (.bool false))], none⟩])
 (.cond (.tmp 72)
 (.seq
 (.reg 61440 none [
 ⟨some 73, (.op (.build [.nil, (.t (.int .i64 0))] [])), [], none⟩,
 ⟨none, (.op (.store 2)), [.tmp 8, .tmp 73], none⟩,
 ⟨some 9, (.op .mov), [.cst (.t (.int .i64 24))], none⟩])
 .ret)
 .skip)))
 (.reg 53248 none [
 ⟨some 58, (.op .mov), [.tmp 11], none⟩,
 ⟨some 59, (.op (.bin .add)), [.tmp 58, .cst (.t (.int .i64 1))], none⟩,
 ⟨some 11, (.op .mov), [.tmp 59], none⟩])))
def ac_ref8_Extend_L2 (n_ref8_Active n_ref1_Copy n_ref1_Sum : Nat) : AC :=
 (.seq
 (.seq
 (.reg 73728 none [
 ⟨some 76, (.op .mov), [.tmp 13], none⟩,
 ⟨some 77, (.op (.bin .lss)), [.tmp 76, .cst (.t (.int .i64 2))], none⟩])
 (.cond (.tmp 77)
 .skip
 (.exit 4)))
 (.seq
 (.block 5
 (.seq
 (.reg 81920 none [
 ⟨some 80, (.op (.load 2 true)), [.tmp 4], none⟩,
 ⟨some 81, (.op .mov), [.tmp 13], none⟩,
 ⟨some 82, (.call n_ref8_Active false), [.tmp 80, .tmp 81], none⟩])
 (.cond (.tmp 82)
 (.reg 86016 (some [0, 1, 0, 7, 15, 0, 0, 0, 128, 0, 896, 1920, 0, 8064, 16256, 32640, 0, 0, 196608, 458752, 1048448, 2097088, 4194303, 8388607]) [
 ⟨some 83, (.op (.faddr 0)), [.tmp 12], none⟩,
 ⟨some 84, (.op (.load 1 false)), [.tmp 83], none⟩,
 ⟨some 85, (.op .mov), [.tmp 13], none⟩,
 ⟨some 86, (.op (.iaddr 1)), [.tmp 84, .tmp 85], none⟩,
 ⟨some 87, (.op (.load 1 false)), [.tmp 86], none⟩,
 ⟨some 88, (.op .mov), [.tmp 2], none⟩,
 ⟨some 89, (.op .mov), [.tmp 13], none⟩,
 ⟨some 90, (.op (.faddr 0)), [.tmp 4], none⟩,
 ⟨some 91, (.op (.load 1 false)), [.tmp 90], none⟩,
 ⟨some 92, (.op .mov), [.tmp 13], none⟩,
 ⟨some 93, (.op (.iaddr 1)), [.tmp 91, .tmp 92], none⟩,
 ⟨some 94, (.op (.load 1 false)), [.tmp 93], none⟩,
 ⟨some 95, (.op .mov), [.tmp 2], none⟩,
 ⟨some 96, (.op (.iaddr 1)), [.tmp 94, .tmp 95], none⟩,
 ⟨some 97, (.op (.load 1 false)), [.tmp 96], none⟩,
 ⟨some 98, (.call n_ref1_Copy false), [.tmp 97], none⟩,
 ⟨some 99, (.op .mov), [.tmp 3], none⟩,
 ⟨some 100, (.op .mov), [.tmp 13], none⟩,
 ⟨some 101, (.op (.iaddr 1)), [.tmp 99, .tmp 100], none⟩,
 ⟨some 102, (.op (.load 1 false)), [.tmp 101], none⟩,
 ⟨some 103, (.op (.append 1 1)), [.tmp 98, .tmp 102], none⟩,
 ⟨some 104, (.call n_ref1_Sum false), [.tmp 89, .tmp 103], none⟩,
 ⟨some 105, (.op (.iaddr 1)), [.tmp 87, .tmp 88], none⟩,
 ⟨none, (.op (.store 1)), [.tmp 105, .tmp 104], none⟩])
 .skip)))
 (.reg 77824 none [
 ⟨some 78, (.op .mov), [.tmp 13], none⟩,
 ⟨some 79, (.op (.bin .add)), [.tmp 78, .cst (.t (.int .i64 1))], none⟩,
 ⟨some 13, (.op .mov), [.tmp 79], none⟩])))
def ac_ref8_Extend (n_ref8_Least n_ref8_Active n_ref1_Size n_ref8_Copy n_ref1_Copy n_ref1_Sum : Nat) : AC :=
 (.seq
 (.reg 4096 none [
 ⟨some 4, (.op .box), [.tmp 0], none⟩,
 ⟨some 8, (.op (.new 2 [(.agg [.nil, (.t (.int .i64 0))])])), [], none⟩,
 ⟨some 9, (.op .mov), [.cst (.t (.int .i64 0))], none⟩])
 (.seq
 (.seq
 (.reg 8192 none [
 ⟨some 14, (.op .mov), [.tmp 1], none⟩,
 ⟨some 15, (.op (.bin .lss)), [.tmp 14, .cst (.t (.int .i64 0))], none⟩,
 ⟨some 16, (.op .mov), [.tmp 15], none⟩,
 ⟨some 17, (.op .mov), [.tmp 1], some (16, false)⟩,
 ⟨some 18, (.op (.bin .gtr)), [.tmp 17, .cst (.t (.int .i64 4))], some (16, false)⟩,
 ⟨some 19, (.op .pick), [.tmp 16, .cst (.t (.bool true)), .tmp 18], none⟩,
 ⟨some 20, (.op .mov), [.tmp 19], none⟩,
 ⟨some 21, (.op .mov), [.tmp 2], some (20, false)⟩,
 ⟨some 22, (.op (.bin .lss)), [.tmp 21, .cst (.t (.int .i64 0))], some (20, false)⟩,
 ⟨some 23, (.op .pick), [.tmp 20, .cst (.t (.bool true)), .tmp 22], none⟩,
 ⟨some 24, (.op .mov), [.tmp 23], none⟩,
 ⟨some 25, (.op .mov), [.tmp 2], some (24, false)⟩,
 ⟨some 26, (.op (.bin .geq)), [.tmp 25, .cst (.t (.int .i64 16))], some (24, false)⟩,
 ⟨some 27, (.op .pick), [.tmp 24, .cst (.t (.bool true)), .tmp 26], none⟩,
 ⟨some 28, (.op .mov), [.tmp 27], none⟩,
 ⟨some 29, (.op .mov), [.tmp 3], some (28, false)⟩,
 ⟨some 30, (.op .len), [.tmp 29], some (28, false)⟩,
 ⟨some 31, (.op (.bin .neq)), [.tmp 30, .cst (.t (.int .i64 2))], some (28, false)⟩,
 ⟨some 32, (.op .pick), [.tmp 28, .cst (.t (.bool true)), .tmp 31], none⟩])
 (.cond (.tmp 32)
 (.seq
 (.reg 12288 none [
 ⟨some 33, (.op (.build [.nil, (.t (.int .i64 0))] [])), [], none⟩,
 ⟨none, (.op (.store 2)), [.tmp 8, .tmp 33], none⟩,
 ⟨some 9, (.op .mov), [.cst (.t (.int .i64 1))], none⟩])
 .ret)
 .skip))
 (.seq
 (.seq
 (.reg 16384 none [
 ⟨some 34, (.op .mov), [.tmp 1], none⟩,
 ⟨some 35, (.op .mov), [.tmp 2], none⟩,
 ⟨some 36, (.call n_ref8_Least false), [.tmp 35, .cst (.t (.bool false))], none⟩,
 ⟨some 37, (.op (.bin .lss)), [.tmp 34, .tmp 36], none⟩])
 (.cond (.tmp 37)
 (.seq
 (.reg 20480 none [
 ⟨some 38, (.op (.build [.nil, (.t (.int .i64 0))] [])), [], none⟩,
 ⟨none, (.op (.store 2)), [.tmp 8, .tmp 38], none⟩,
 ⟨some 9, (.op .mov), [.cst (.t (.int .i64 13))], none⟩])
 .ret)
 .skip))
 (.seq
 (.seq
 (.reg 24576 none [
 ⟨some 10, (.op .mov), [.cst (.t (.int .i64 0))], none⟩])
 (.block 0
 (.loop (ac_ref8_Extend_L0 n_ref8_Active))))
 (.seq
 (.seq
 (.reg 45056 none [
 ⟨some 11, (.op .mov), [.cst (.t (.int .i64 0))], none⟩])
 (.block 2
 (.loop (ac_ref8_Extend_L1 n_ref8_Active n_ref1_Size))))
 (.seq
 (.reg 65536 none [
 ⟨some 74, (.op (.load 2 true)), [.tmp 4], none⟩,
 ⟨some 75, (.call n_ref8_Copy true), [.tmp 74], none⟩,
 ⟨some 12, (.op (.new 2 [(.agg [.nil, (.t (.int .i64 0))])])), [], none⟩,
 ⟨none, (.op (.store 2)), [.tmp 12, .tmp 75], none⟩])
 (.seq
 (.seq
 (.reg 69632 none [
 ⟨some 13, (.op .mov), [.cst (.t (.int .i64 0))], none⟩])
 (.block 4
 (.loop (ac_ref8_Extend_L2 n_ref8_Active n_ref1_Copy n_ref1_Sum))))
 (.seq
 (.reg 90112 none [
 ⟨some 106, (.op (.faddr 1)), [.tmp 12], none⟩,
 ⟨some 107, (.op (.load 1 false)), [.tmp 106], none⟩,
 ⟨some 108, (.op (.bin .add)), [.tmp 107, .cst (.t (.int .i64 1))], none⟩,
 ⟨some 109, (.op (.faddr 1)), [.tmp 12], none⟩,
 ⟨none, (.op (.store 1)), [.tmp 109, .tmp 108], none⟩])
 (.seq
 (.reg 94208 none [
 ⟨some 110, (.op (.load 2 true)), [.tmp 12], none⟩,
 ⟨none, (.op (.store 2)), [.tmp 8, .tmp 110], none⟩,
 ⟨some 9, (.op .mov), [.cst (.t (.int .i64 0))], none⟩])
 .ret)))))))))
def hints_ref8_Extend : List (Nat × List Nat) := [(15, [1])]
def ac_ref8_Digests_L0 (n_ref8_Active n_ref1_Sum : Nat) : AC :=
 (.seq
 (.seq
 (.reg 16384 none [
 ⟨some 8, (.op .mov), [.tmp 6], none⟩,
 ⟨some 9, (.op (.bin .lss)), [.tmp 8, .cst (.t (.int .i64 2))], none⟩])
 (.cond (.tmp 9)
 .skip
 (.exit 0)))
 (.seq
 (.block 1
 (.seq
 (.reg 24576 none [
 ⟨some 12, (.op (.load 2 true)), [.tmp 2], none⟩,
 ⟨some 13, (.op .mov), [.tmp 6], none⟩,
 ⟨some 14, (.call n_ref8_Active false), [.tmp 12, .tmp 13], none⟩])
 (.cond (.tmp 14)
 (.reg 28672 none [
 ⟨some 15, (.op .mov), [.tmp 5], none⟩,
 ⟨some 16, (.op .mov), [.tmp 6], none⟩,
 ⟨some 17, (.op .mov), [.tmp 6], none⟩,
 ⟨some 18, (.op .mov), [.tmp 1], none⟩,
 ⟨some 19, (.call n_ref1_Sum false), [.tmp 17, .tmp 18], none⟩,
 ⟨some 20, (.op (.iaddr 1)), [.tmp 15, .tmp 16], none⟩,
 ⟨none, (.op (.store 1)), [.tmp 20, .tmp 19], none⟩])
 .skip)))
 (.reg 20480 none [
 ⟨some 10, (.op .mov), [.tmp 6], none⟩,
 ⟨some 11, (.op (.bin .add)), [.tmp 10, .cst (.t (.int .i64 1))], none⟩,
 ⟨some 6, (.op .mov), [.tmp 11], none⟩])))
def ac_ref8_Digests (n_ref8_Active n_ref1_Sum : Nat) : AC :=
 (.seq
 (.reg 4096 none [
 ⟨some 2, (.op .box), [.tmp 0], none⟩,
 ⟨some 4, (.op .mov), [.cst .nil], none⟩])
 (.seq
 (.reg 8192 none [
 ⟨some 7, (.op (.mkslice 1 24 .nil)), [.cst (.t (.int .i64 2)), .cst (.t (.int .i64 2))], none⟩,
 ⟨some 5, (.op .mov), [.tmp 7], none⟩])
 (.seq
 (.seq
 (.reg 12288 none [
 ⟨some 6, (.op .mov), [.cst (.t (.int .i64 0))], none⟩])
 (.block 0
 (.loop (ac_ref8_Digests_L0 n_ref8_Active n_ref1_Sum))))
 (.seq
 (.reg 32768 none [
 ⟨some 21, (.op .mov), [.tmp 5], none⟩,
 ⟨some 4, (.op .mov), [.tmp 21], none⟩])
 .ret))))
def hints_ref8_Digests : List (Nat × List Nat) := []
def ac_ref8_Event (n_ref8_Digests n_ref8_Extend : Nat) : AC :=
 (.seq
 (.reg 4096 none [
 ⟨some 4, (.op .box), [.tmp 0], none⟩,
 ⟨some 8, (.op (.new 2 [(.agg [.nil, (.t (.int .i64 0))])])), [], none⟩,
 ⟨some 9, (.op .mov), [.cst (.t (.int .i64 0))], none⟩])
 (.seq
 (.seq
 (.reg 8192 none [
 ⟨some 10, (.op .mov), [.tmp 3], none⟩,
 ⟨some 11, (.op .len), [.tmp 10], none⟩,
 ⟨some 12, (.op (.bin .gtr)), [.tmp 11, .cst (.t (.int .i64 128))], none⟩])
 (.cond (.tmp 12)
 (.seq
 (.reg 12288 none [
 ⟨some 13, (.op (.build [.nil, (.t (.int .i64 0))] [])), [], none⟩,
 ⟨none, (.op (.store 2)), [.tmp 8, .tmp 13], none⟩,
 ⟨some 9, (.op .mov), [.cst (.t (.int .i64 4))], none⟩])
 .ret)
 .skip))
 (.seq
 (.reg 16384 (some [0, 0, 0, 0, 0, 24, 63, 127, 127, 511, 1023]) [
 ⟨some 14, (.op (.load 2 true)), [.tmp 4], none⟩,
 ⟨some 15, (.op .mov), [.tmp 1], none⟩,
 ⟨some 16, (.op .mov), [.tmp 2], none⟩,
 ⟨some 17, (.op (.load 2 true)), [.tmp 4], none⟩,
 ⟨some 18, (.op .mov), [.tmp 3], none⟩,
 ⟨some 19, (.call n_ref8_Digests true), [.tmp 17, .tmp 18], none⟩,
 ⟨some 20, (.call n_ref8_Extend true), [.tmp 14, .tmp 15, .tmp 16, .tmp 19], none⟩,
 ⟨some 21, (.op (.extract 0)), [.tmp 20], none⟩,
 ⟨some 22, (.op (.extract 1)), [.tmp 20], none⟩,
 ⟨none, (.op (.store 2)), [.tmp 8, .tmp 21], none⟩,
 ⟨some 9, (.op .mov), [.tmp 22], none⟩])
 .ret)))
def hints_ref8_Event : List (Nat × List Nat) := [(3, [5, 6])]
def ac_ref8_Reset_L0 (n_ref8_Active n_ref1_Size n_ref8_fill : Nat) : AC :=
 (.seq
 (.seq
 (.reg 36864 none [
 ⟨some 38, (.op .mov), [.tmp 10], none⟩,
 ⟨some 39, (.op (.bin .lss)), [.tmp 38, .cst (.t (.int .i64 2))], none⟩])
 (.cond (.tmp 39)
 .skip
 (.exit 0)))
 (.seq
 (.block 1
 (.seq
 (.reg 45056 none [
 ⟨some 42, (.op (.load 2 true)), [.tmp 3], none⟩,
 ⟨some 43, (.op .mov), [.tmp 10], none⟩,
 ⟨some 44, (.call n_ref8_Active false), [.tmp 42, .tmp 43], none⟩])
 (.cond (.tmp 44)
 (.reg 49152 (some [0, 1, 0, 7, 15, 0, 0, 64, 192, 511, 1023]) [
 ⟨some 45, (.op (.faddr 0)), [.tmp 9], none⟩,
 ⟨some 46, (.op (.load 1 false)), [.tmp 45], none⟩,
 ⟨some 47, (.op .mov), [.tmp 10], none⟩,
 ⟨some 48, (.op (.iaddr 1)), [.tmp 46, .tmp 47], none⟩,
 ⟨some 49, (.op (.load 1 false)), [.tmp 48], none⟩,
 ⟨some 50, (.op .mov), [.tmp 2], none⟩,
 ⟨some 51, (.op .mov), [.tmp 10], none⟩,
 ⟨some 52, (.call n_ref1_Size false), [.tmp 51], none⟩,
 ⟨some 53, (.call n_ref8_fill false), [.tmp 52, .cst (.t (byteT 0))], none⟩,
 ⟨some 54, (.op (.iaddr 1)), [.tmp 49, .tmp 50], none⟩,
 ⟨none, (.op (.store 1)), [.tmp 54, .tmp 53], none⟩])
 .skip)))
 (.reg 40960 none [
 ⟨some 40, (.op .mov), [.tmp 10], none⟩,
 ⟨some 41, (.op (.bin .add)), [.tmp 40, .cst (.t (.int .i64 1))], none⟩,
 ⟨some 10, (.op .mov), [.tmp 41], none⟩])))
def ac_ref8_Reset (n_ref8_Least n_ref8_Copy n_ref8_Active n_ref1_Size n_ref8_fill : Nat) : AC :=
 (.seq
 (.reg 4096 none [
 ⟨some 3, (.op .box), [.tmp 0], none⟩,
 ⟨some 6, (.op (.new 2 [(.agg [.nil, (.t (.int .i64 0))])])), [], none⟩,
 ⟨some 7, (.op .mov), [.cst (.t (.int .i64 0))], none⟩])
 (.seq
 (.seq
 (.reg 8192 none [
 ⟨some 11, (.op .mov), [.tmp 1], none⟩,
 ⟨some 12, (.op (.bin .lss)), [.tmp 11, .cst (.t (.int .i64 0))], none⟩,
 ⟨some 13, (.op .mov), [.tmp 12], none⟩,
 ⟨some 14, (.op .mov), [.tmp 1], some (13, false)⟩,
 ⟨some 15, (.op (.bin .gtr)), [.tmp 14, .cst (.t (.int .i64 4))], some (13, false)⟩,
 ⟨some 16, (.op .pick), [.tmp 13, .cst (.t (.bool true)), .tmp 15], none⟩,
 ⟨some 17, (.op .mov), [.tmp 16], none⟩,
 ⟨some 18, (.op .mov), [.tmp 2], some (17, false)⟩,
 ⟨some 19, (.op (.bin .lss)), [.tmp 18, .cst (.t (.int .i64 0))], some (17, false)⟩,
 ⟨some 20, (.op .pick), [.tmp 17, .cst (.t (.bool true)), .tmp 19], none⟩,
 ⟨some 21, (.op .mov), [.tmp 20], none⟩,
 ⟨some 22, (.op .mov), [.tmp 2], some (21, false)⟩,
 ⟨some 23, (.op (.bin .geq)), [.tmp 22, .cst (.t (.int .i64 16))], some (21, false)⟩,
 ⟨some 24, (.op .pick), [.tmp 21, .cst (.t (.bool true)), .tmp 23], none⟩])
 (.cond (.tmp 24)
 (.seq
 (.reg 12288 none [
 ⟨some 25, (.op (.build [.nil, (.t (.int .i64 0))] [])), [], none⟩,
 ⟨none, (.op (.store 2)), [.tmp 6, .tmp 25], none⟩,
 ⟨some 7, (.op .mov), [.cst (.t (.int .i64 1))], none⟩])
 .ret)
 .skip))
 (.seq
 (.reg 16384 none [
 ⟨some 26, (.op .mov), [.tmp 2], none⟩,
 ⟨some 27, (.call n_ref8_Least false), [.tmp 26, .cst (.t (.bool true))], none⟩,
 ⟨some 8, (.op .mov), [.tmp 27], none⟩])
 (.seq
 (.seq
 (.reg 20480 none [
 ⟨some 28, (.op .mov), [.tmp 8], none⟩,
 ⟨some 29, (.op (.bin .lss)), [.tmp 28, .cst (.t (.int .i64 0))], none⟩,
 ⟨some 30, (.op .mov), [.tmp 29], none⟩,
 ⟨some 31, (.op .mov), [.tmp 1], some (30, false)⟩,
 ⟨some 32, (.op .mov), [.tmp 8], some (30, false)⟩,
 ⟨some 33, (.op (.bin .lss)), [.tmp 31, .tmp 32], some (30, false)⟩,
 ⟨some 34, (.op .pick), [.tmp 30, .cst (.t (.bool true)), .tmp 33], none⟩])
 (.cond (.tmp 34)
 (.seq
 (.reg 24576 none [
 ⟨some 35, (.op (.build [.nil, (.t (.int .i64 0))] [])), [], none⟩,
 ⟨none, (.op (.store 2)), [.tmp 6, .tmp 35], none⟩,
 ⟨some 7, (.op .mov), [.cst (.t (.int .i64 13))], none⟩])
 .ret)
 .skip))
 (.seq
 (.reg 28672 none [
 ⟨some 36, (.op (.load 2 true)), [.tmp 3], none⟩,
 ⟨some 37, (.call n_ref8_Copy true), [.tmp 36], none⟩,
 ⟨some 9, (.op (.new 2 [(.agg [.nil, (.t (.int .i64 0))])])), [], none⟩,
 ⟨none, (.op (.store 2)), [.tmp 9, .tmp 37], none⟩])
 (.seq
 (.seq
 (.reg 32768 none [
 ⟨some 10, (.op .mov), [.cst (.t (.int .i64 0))], none⟩])
 (.block 0
 (.loop (ac_ref8_Reset_L0 n_ref8_Active n_ref1_Size n_ref8_fill))))
 (.seq
 (.reg 53248 none [
 ⟨some 55, (.op (.faddr 1)), [.tmp 9], none⟩,
 ⟨some 56, (.op (.load 1 false)), [.tmp 55], none⟩,
 ⟨some 57, (.op (.bin .add)), [.tmp 56, .cst (.t (.int .i64 1))], none⟩,
 ⟨some 58, (.op (.faddr 1)), [.tmp 9], none⟩,
 ⟨none, (.op (.store 1)), [.tmp 58, .tmp 57], none⟩])
 (.seq
 (.reg 57344 none [
 ⟨some 59, (.op (.load 2 true)), [.tmp 9], none⟩,
 ⟨none, (.op (.store 2)), [.tmp 6, .tmp 59], none⟩,
 ⟨some 7, (.op .mov), [.cst (.t (.int .i64 0))], none⟩])
 .ret))))))))
def hints_ref8_Reset : List (Nat × List Nat) := [(6, [1])]
def ac_ref8_Digest_L0 : AC :=
 (.seq
 (.seq
 (.reg 12288 none [
 ⟨some 10, (.op .mov), [.tmp 6], none⟩,
 ⟨some 11, (.op (.bin .lss)), [.tmp 10, .cst (.t (.int .i64 2))], none⟩])
 (.cond (.tmp 11)
 .skip
 (.exit 0)))
 (.seq
 (.block 1
 (.seq
 (.reg 20480 none [
 ⟨some 14, (.op .mov), [.tmp 6], none⟩,
 ⟨some 15, (.op (.aaddr 2 1)), [.tmp 3, .tmp 14], none⟩,
 ⟨some 16, (.op (.load 1 false)), [.tmp 15], none⟩,
 ⟨some 17, (.op (.bin .lss)), [.tmp 16, .cst (.t (.int .i64 0))], none⟩,
 ⟨some 18, (.op .mov), [.tmp 17], none⟩,
 ⟨some 19, (.op .mov), [.tmp 6], some (18, false)⟩,
 ⟨some 20, (.op (.aaddr 2 1)), [.tmp 3, .tmp 19], some (18, false)⟩,
 ⟨some 21, (.op (.load 1 false)), [.tmp 20], some (18, false)⟩,
 ⟨some 22, (.op (.bin .gtr)), [.tmp 21, .cst (.t (.int .i64 65535))], some (18, false)⟩,
 ⟨some 23, (.op .pick), [.tmp 18, .cst (.t (.bool true)), .tmp 22], none⟩])
 (.cond (.tmp 23)
 (.seq
 (.reg 24576 none [
 ⟨some 4, (.op .mov), [.cst .nil], none⟩,
 ⟨some 5, (.op .mov), [.cst (.t (.int .i64 1))], none⟩])
 .ret)
 .skip)))
 (.reg 16384 none [
 ⟨some 12, (.op .mov), [.tmp 6], none⟩,
 ⟨some 13, (.op (.bin .add)), [.tmp 12, .cst (.t (.int .i64 1))], none⟩,
 ⟨some 6, (.op .mov), [.tmp 13], none⟩])))
def ac_ref8_Digest_L2 : AC :=
 (.seq
 (.seq
 (.reg 57344 none [
 ⟨some 38, (.op .mov), [.tmp 9], none⟩,
 ⟨some 39, (.op (.bin .lss)), [.tmp 38, .cst (.t (.int .i64 16))], none⟩])
 (.cond (.tmp 39)
 .skip
 (.exit 4)))
 (.seq
 (.block 5
 (.seq
 (.reg 65536 none [
 ⟨some 42, (.op .mov), [.tmp 8], none⟩,
 ⟨some 43, (.op (.aaddr 2 1)), [.tmp 3, .tmp 42], none⟩,
 ⟨some 44, (.op (.load 1 false)), [.tmp 43], none⟩,
 ⟨some 45, (.op .mov), [.tmp 9], none⟩,
 ⟨some 46, (.op (.conv .u64)), [.tmp 45], none⟩,
 ⟨some 47, (.op (.bin .shr)), [.tmp 44, .tmp 46], none⟩,
 ⟨some 48, (.op (.bin .and)), [.tmp 47, .cst (.t (.int .i64 1))], none⟩,
 ⟨some 49, (.op (.bin .eql)), [.tmp 48, .cst (.t (.int .i64 1))], none⟩])
 (.cond (.tmp 49)
 (.reg 69632 none [
 ⟨some 50, (.op .mov), [.tmp 7], none⟩,
 ⟨some 51, (.op (.faddr 0)), [.tmp 2], none⟩,
 ⟨some 52, (.op (.load 1 false)), [.tmp 51], none⟩,
 ⟨some 53, (.op .mov), [.tmp 8], none⟩,
 ⟨some 54, (.op (.iaddr 1)), [.tmp 52, .tmp 53], none⟩,
 ⟨some 55, (.op (.load 1 false)), [.tmp 54], none⟩,
 ⟨some 56, (.op .mov), [.tmp 9], none⟩,
 ⟨some 57, (.op (.iaddr 1)), [.tmp 55, .tmp 56], none⟩,
 ⟨some 58, (.op (.load 1 false)), [.tmp 57], none⟩,
 ⟨some 59, (.op (.append 1 1)), [.tmp 50, .tmp 58], none⟩,
 ⟨some 7, (.op .mov), [.tmp 59], none⟩])
 .skip)))
 (.reg 61440 none [
 ⟨some 40, (.op .mov), [.tmp 9], none⟩,
 ⟨some 41, (.op (.bin .add)), [.tmp 40, .cst (.t (.int .i64 1))], none⟩,
 ⟨some 9, (.op .mov), [.tmp 41], none⟩])))
def ac_ref8_Digest_L1 (n_ref8_Active : Nat) : AC :=
 (.seq
 (.seq
 (.reg 36864 none [
 ⟨some 24, (.op .mov), [.tmp 8], none⟩,
 ⟨some 25, (.op (.bin .lss)), [.tmp 24, .cst (.t (.int .i64 2))], none⟩])
 (.cond (.tmp 25)
 .skip
 (.exit 2)))
 (.seq
 (.block 3
 (.seq
 (.seq
 (.reg 45056 none [
 ⟨some 28, (.op .mov), [.tmp 8], none⟩,
 ⟨some 29, (.op (.aaddr 2 1)), [.tmp 3, .tmp 28], none⟩,
 ⟨some 30, (.op (.load 1 false)), [.tmp 29], none⟩,
 ⟨some 31, (.op (.bin .neq)), [.tmp 30, .cst (.t (.int .i64 0))], none⟩,
 ⟨some 32, (.op .mov), [.tmp 31], none⟩,
 ⟨some 33, (.op (.load 2 true)), [.tmp 2], some (32, true)⟩,
 ⟨some 34, (.op .mov), [.tmp 8], some (32, true)⟩,
 ⟨some 35, (.call n_ref8_Active false), [.tmp 33, .tmp 34], some (32, true)⟩,
 ⟨some 36, (.op (.un .not)), [.tmp 35], some (32, true)⟩,
 ⟨some 37, (.op .pick), [.tmp 32, .tmp 36, .cst (.t (.bool false))], none⟩])
 (.cond (.tmp 37)
 (.seq
 (.reg 49152 none [
 ⟨some 4, (.op .mov), [.cst .nil], none⟩,
 ⟨some 5, (.op .mov), [.cst (.t (.int .i64 27))], none⟩])
 .ret)
 .skip))
 (.seq
 (.reg 53248 none [
 ⟨some 9, (.op .mov), [.cst (.t (.int .i64 0))], none⟩])
 (.block 4
 (.loop ac_ref8_Digest_L2)))))
 (.reg 40960 none [
 ⟨some 26, (.op .mov), [.tmp 8], none⟩,
 ⟨some 27, (.op (.bin .add)), [.tmp 26, .cst (.t (.int .i64 1))], none⟩,
 ⟨some 8, (.op .mov), [.tmp 27], none⟩])))
def ac_ref8_Digest (n_ref8_Active n_ref3_Uint n_ref1_Hash : Nat) : AC :=
 (.seq
 (.reg 4096 none [
 ⟨some 2, (.op .box), [.tmp 0], none⟩,
 ⟨some 3, (.op .boxArr), [.tmp 1], none⟩,
 ⟨some 4, (.op .mov), [.cst .nil], none⟩,
 ⟨some 5, (.op .mov), [.cst (.t (.int .i64 0))], none⟩])
 (.seq
 (.seq
 (.reg 8192 none [
 ⟨some 6, (.op .mov), [.cst (.t (.int .i64 0))], none⟩])
 (.block 0
 (.loop ac_ref8_Digest_L0)))
 (.seq
 (.reg 28672 none [
 ⟨some 7, (.op .mov), [.cst .nil], none⟩])
 (.seq
 (.seq
 (.reg 32768 none [
 ⟨some 8, (.op .mov), [.cst (.t (.int .i64 0))], none⟩])
 (.block 2
 (.loop (ac_ref8_Digest_L1 n_ref8_Active))))
 (.seq
 (.reg 73728 (some [0, 1, 3, 0, 8, 31, 0, 127, 255, 511, 1023]) [
 ⟨some 60, (.op (.aaddr 2 1)), [.tmp 3, .cst (.t (.int .i64 0))], none⟩,
 ⟨some 61, (.op (.load 1 false)), [.tmp 60], none⟩,
 ⟨some 62, (.call n_ref3_Uint false), [.cst .nil, .cst (.t (.int .i64 2)), .tmp 61], none⟩,
 ⟨some 63, (.op (.aaddr 2 1)), [.tmp 3, .cst (.t (.int .i64 1))], none⟩,
 ⟨some 64, (.op (.load 1 false)), [.tmp 63], none⟩,
 ⟨some 65, (.call n_ref3_Uint false), [.tmp 62, .cst (.t (.int .i64 2)), .tmp 64], none⟩,
 ⟨some 66, (.op .mov), [.tmp 7], none⟩,
 ⟨some 67, (.op (.bslice 1 2 .nil [0, 1])), [.tmp 65, .tmp 66], none⟩,
 ⟨some 68, (.call n_ref1_Hash false), [.cst (.t (.int .i64 5)), .tmp 67], none⟩,
 ⟨some 4, (.op .mov), [.tmp 68], none⟩,
 ⟨some 5, (.op .mov), [.cst (.t (.int .i64 0))], none⟩])
 .ret)))))
def hints_ref8_Digest : List (Nat × List Nat) := []
def ac_ref8_Resume_L1 (n_ref8_initial : Nat) : AC :=
 (.seq
 (.seq
 (.reg 28672 none [
 ⟨some 15, (.op .mov), [.tmp 5], none⟩,
 ⟨some 16, (.op (.faddr 0)), [.tmp 3], none⟩,
 ⟨some 17, (.op (.load 1 false)), [.tmp 16], none⟩,
 ⟨some 18, (.op .mov), [.tmp 4], none⟩,
 ⟨some 19, (.op (.iaddr 1)), [.tmp 17, .tmp 18], none⟩,
 ⟨some 20, (.op (.load 1 false)), [.tmp 19], none⟩,
 ⟨some 21, (.op .len), [.tmp 20], none⟩,
 ⟨some 22, (.op (.bin .lss)), [.tmp 15, .tmp 21], none⟩])
 (.cond (.tmp 22)
 .skip
 (.exit 2)))
 (.seq
 (.block 3
 (.reg 36864 (some [0, 1, 0, 7, 15, 0, 0, 0, 192, 511, 1023]) [
 ⟨some 25, (.op (.faddr 0)), [.tmp 3], none⟩,
 ⟨some 26, (.op (.load 1 false)), [.tmp 25], none⟩,
 ⟨some 27, (.op .mov), [.tmp 4], none⟩,
 ⟨some 28, (.op (.iaddr 1)), [.tmp 26, .tmp 27], none⟩,
 ⟨some 29, (.op (.load 1 false)), [.tmp 28], none⟩,
 ⟨some 30, (.op .mov), [.tmp 5], none⟩,
 ⟨some 31, (.op .mov), [.tmp 4], none⟩,
 ⟨some 32, (.op .mov), [.tmp 5], none⟩,
 ⟨some 33, (.call n_ref8_initial false), [.tmp 31, .tmp 32], none⟩,
 ⟨some 34, (.op (.iaddr 1)), [.tmp 29, .tmp 30], none⟩,
 ⟨none, (.op (.store 1)), [.tmp 34, .tmp 33], none⟩]))
 (.reg 32768 none [
 ⟨some 23, (.op .mov), [.tmp 5], none⟩,
 ⟨some 24, (.op (.bin .add)), [.tmp 23, .cst (.t (.int .i64 1))], none⟩,
 ⟨some 5, (.op .mov), [.tmp 24], none⟩])))
def ac_ref8_Resume_L0 (n_ref8_initial : Nat) : AC :=
 (.seq
 (.seq
 (.reg 16384 none [
 ⟨some 8, (.op .mov), [.tmp 4], none⟩,
 ⟨some 9, (.op (.faddr 0)), [.tmp 3], none⟩,
 ⟨some 10, (.op (.load 1 false)), [.tmp 9], none⟩,
 ⟨some 11, (.op .len), [.tmp 10], none⟩,
 ⟨some 12, (.op (.bin .lss)), [.tmp 8, .tmp 11], none⟩])
 (.cond (.tmp 12)
 .skip
 (.exit 0)))
 (.seq
 (.block 1
 (.seq
 (.reg 24576 none [
 ⟨some 5, (.op .mov), [.cst (.t (.int .i64 12))], none⟩])
 (.block 2
 (.loop (ac_ref8_Resume_L1 n_ref8_initial)))))
 (.reg 20480 none [
 ⟨some 13, (.op .mov), [.tmp 4], none⟩,
 ⟨some 14, (.op (.bin .add)), [.tmp 13, .cst (.t (.int .i64 1))], none⟩,
 ⟨some 4, (.op .mov), [.tmp 14], none⟩])))
def ac_ref8_Resume (n_ref8_Copy n_ref8_initial : Nat) : AC :=
 (.seq
 (.reg 4096 none [
 ⟨some 1, (.op .box), [.tmp 0], none⟩,
 ⟨some 2, (.op (.new 2 [(.agg [.nil, (.t (.int .i64 0))])])), [], none⟩])
 (.seq
 (.reg 8192 none [
 ⟨some 6, (.op (.load 2 true)), [.tmp 1], none⟩,
 ⟨some 7, (.call n_ref8_Copy true), [.tmp 6], none⟩,
 ⟨some 3, (.op (.new 2 [(.agg [.nil, (.t (.int .i64 0))])])), [], none⟩,
 ⟨none, (.op (.store 2)), [.tmp 3, .tmp 7], none⟩])
 (.seq
 (.seq
 (.reg 12288 none [
 ⟨some 4, (.op .mov), [.cst (.t (.int .i64 0))], none⟩])
 (.block 0
 (.loop (ac_ref8_Resume_L0 n_ref8_initial))))
 (.seq
 (.reg 40960 none [
 ⟨some 35, (.op (.load 2 true)), [.tmp 3], none⟩,
 ⟨none, (.op (.store 2)), [.tmp 2, .tmp 35], none⟩])
 .ret))))
def hints_ref8_Resume : List (Nat × List Nat) := [(1, [1])]
def ac_draw_Digests_L0 : AC :=
 (.seq
 (.seq
 (.reg 16384 none [
 ⟨some 9, (.op .mov), [.tmp 6], none⟩,
 ⟨some 10, (.op (.bin .lss)), [.tmp 9, .cst (.t (.int .i64 2))], none⟩])
 (.cond (.tmp 10)
 .skip
 (.exit 0)))
 (.seq
 (.block 1
 (.seq
 (.reg 24576 none [
 ⟨some 13, (.op .mov), [.tmp 0], none⟩,
 ⟨some 14, (.op .mov), [.tmp 6], none⟩,
 ⟨some 15, (.op (.conv .u64)), [.tmp 14], none⟩,
 ⟨some 16, (.op (.bin .shr)), [.tmp 13, .tmp 15], none⟩,
 ⟨some 17, (.op (.bin .and)), [.tmp 16, .cst (.t (.int .i64 1))], none⟩,
 ⟨some 18, (.op (.bin .eql)), [.tmp 17, .cst (.t (.int .i64 1))], none⟩])
 (.cond (.tmp 18)
 (.seq
 (.reg 28672 none [
 ⟨some 19, (.op .mov), [.tmp 6], none⟩,
 ⟨some 20, (.op (.bin .mul)), [.cst (.t (.int .i64 12)), .tmp 19], none⟩,
 ⟨some 21, (.op (.bin .add)), [.cst (.t (.int .i64 20)), .tmp 20], none⟩,
 ⟨some 22, (.op (.mkslice 1 1 (.t (byteT 0)))), [.tmp 21, .tmp 21], none⟩,
 ⟨some 7, (.op .mov), [.tmp 22], none⟩])
 (.seq
 (.reg 32768 none [
 ⟨some 23, (.op .mov), [.tmp 7], none⟩,
 ⟨some 24, (.op .mov), [.tmp 1], none⟩,
 ⟨some 25, (.op (.copy 1)), [.tmp 23, .tmp 24], none⟩])
 (.seq
 (.seq
 (.reg 36864 none [
 ⟨some 26, (.op .mov), [.tmp 7], none⟩,
 ⟨some 27, (.op .len), [.tmp 26], none⟩,
 ⟨some 28, (.op (.bin .gtr)), [.tmp 27, .cst (.t (.int .i64 0))], none⟩])
 (.cond (.tmp 28)
 (.reg 40960 none [
 ⟨some 29, (.op .mov), [.tmp 7], none⟩,
 ⟨some 30, (.op .mov), [.tmp 7], none⟩,
 ⟨some 31, (.op .len), [.tmp 30], none⟩,
 ⟨some 32, (.op (.bin .sub)), [.tmp 31, .cst (.t (.int .i64 1))], none⟩,
 ⟨some 33, (.op (.iaddr 1)), [.tmp 29, .tmp 32], none⟩,
 ⟨some 34, (.op (.load 1 false)), [.tmp 33], none⟩,
 ⟨some 35, (.op .mov), [.tmp 6], none⟩,
 ⟨some 36, (.op (.conv .u8)), [.tmp 35], none⟩,
 ⟨some 37, (.op (.bin .xor)), [.tmp 34, .tmp 36], none⟩,
 ⟨some 38, (.op (.iaddr 1)), [.tmp 29, .tmp 32], none⟩,
 ⟨none, (.op (.store 1)), [.tmp 38, .tmp 37], none⟩])
 .skip))
 (.reg 45056 none [
 ⟨some 39, (.op .mov), [.tmp 5], none⟩,
 ⟨some 40, (.op .mov), [.tmp 6], none⟩,
 ⟨some 41, (.op .mov), [.tmp 7], none⟩,
 ⟨some 42, (.op (.iaddr 1)), [.tmp 39, .tmp 40], none⟩,
 ⟨none, (.op (.store 1)), [.tmp 42, .tmp 41], none⟩]))))
 .skip)))
 (.reg 20480 none [
 ⟨some 11, (.op .mov), [.tmp 6], none⟩,
 ⟨some 12, (.op (.bin .add)), [.tmp 11, .cst (.t (.int .i64 1))], none⟩,
 ⟨some 6, (.op .mov), [.tmp 12], none⟩])))
def ac_draw_Digests : AC :=
 (.seq
 (.reg 4096 none [
 ⟨some 4, (.op .mov), [.cst .nil], none⟩])
 (.seq
 (.reg 8192 none [
 ⟨some 8, (.op (.mkslice 1 24 .nil)), [.cst (.t (.int .i64 2)), .cst (.t (.int .i64 2))], none⟩,
 ⟨some 5, (.op .mov), [.tmp 8], none⟩])
 (.seq
 (.seq
 (.reg 12288 none [
 ⟨some 6, (.op .mov), [.cst (.t (.int .i64 0))], none⟩])
 (.block 0
 (.loop ac_draw_Digests_L0)))
 (.seq
 (.reg 49152 none [
 ⟨some 43, (.op .mov), [.tmp 5], none⟩,
 ⟨some 4, (.op .mov), [.tmp 43], none⟩])
 .ret))))
def hints_draw_Digests : List (Nat × List Nat) := []
def ac_draw_Registers_L0 (n_ref8_Event n_draw_Digests n_ref8_Extend n_ref8_Reset n_ref8_Resume : Nat) : AC :=
 (.seq
 (.seq
 (.reg 16384 none [
 ⟨some 12, (.op .mov), [.tmp 6], none⟩,
 ⟨some 13, (.op .mov), [.tmp 1], none⟩,
 ⟨some 14, (.op .len), [.tmp 13], none⟩,
 ⟨some 15, (.op (.bin .lss)), [.tmp 12, .tmp 14], none⟩,
 ⟨some 16, (.op .mov), [.tmp 15], none⟩,
 ⟨some 17, (.op .mov), [.tmp 6], some (16, true)⟩,
 ⟨some 18, (.op (.bin .lss)), [.tmp 17, .cst (.t (.int .i64 12))], some (16, true)⟩,
 ⟨some 19, (.op .pick), [.tmp 16, .tmp 18, .cst (.t (.bool false))], none⟩])
 (.cond (.tmp 19)
 .skip
 (.exit 0)))
 (.seq
 (.block 1
 (.seq
 (.reg 24576 none [
 ⟨some 22, (.op .mov), [.tmp 1], none⟩,
 ⟨some 23, (.op .mov), [.tmp 6], none⟩,
 ⟨some 24, (.op (.iaddr 1)), [.tmp 22, .tmp 23], none⟩,
 ⟨some 25, (.op (.load 1 false)), [.tmp 24], none⟩,
 ⟨some 26, (.op (.conv .i64)), [.tmp 25], none⟩,
 ⟨some 7, (.op .mov), [.tmp 26], none⟩])
 (.seq
 (.reg 28672 none [
 ⟨some 27, (.op (.load 2 true)), [.tmp 5], none⟩,
 ⟨some 8, (.op (.new 2 [(.agg [.nil, (.t (.int .i64 0))])])), [], none⟩,
 ⟨none, (.op (.store 2)), [.tmp 8, .tmp 27], none⟩,
 ⟨some 9, (.op .mov), [.cst (.t (.int .i64 0))], none⟩])
 (.seq
 (.seq
 (.reg 32768 none [
 ⟨some 28, (.op .mov), [.tmp 7], none⟩,
 ⟨some 29, (.op (.bin .rem)), [.tmp 28, .cst (.t (.int .i64 8))], none⟩])
 (.block 2
 (.seq
 (.seq
 (.reg 40960 none [
 ⟨some 33, (.op (.bin .eql)), [.tmp 29, .cst (.t (.int .i64 0))], none⟩,
 ⟨some 32, (.op .mov), [.tmp 33], none⟩])
 (.cond (.tmp 32)
 .skip
 (.seq
 (.reg 45056 none [
 ⟨some 34, (.op (.bin .eql)), [.tmp 29, .cst (.t (.int .i64 1))], none⟩,
 ⟨some 32, (.op .mov), [.tmp 34], none⟩])
 (.cond (.tmp 32)
 .skip
 (.reg 49152 none [
 ⟨some 35, (.op (.bin .eql)), [.tmp 29, .cst (.t (.int .i64 2))], none⟩,
 ⟨some 32, (.op .mov), [.tmp 35], none⟩])))))
 (.cond (.tmp 32)
 (.reg 53248 none [
 ⟨some 37, (.op (.load 2 true)), [.tmp 5], none⟩,
 ⟨some 38, (.op .mov), [.tmp 7], none⟩,
 ⟨some 39, (.op (.bin .quo)), [.tmp 38, .cst (.t (.int .i64 8))], none⟩,
 ⟨some 40, (.op (.bin .rem)), [.tmp 39, .cst (.t (.int .i64 16))], none⟩,
 ⟨some 41, (.op .mov), [.tmp 7], none⟩,
 ⟨some 42, (.op (.conv .u8)), [.tmp 41], none⟩,
 ⟨some 43, (.op .mov), [.tmp 6], none⟩,
 ⟨some 44, (.op (.conv .u8)), [.tmp 43], none⟩,
 ⟨some 45, (.op (.bslice 1 2 (.t (byteT 0)) [0, 1])), [.tmp 42, .tmp 44], none⟩,
 ⟨some 46, (.call n_ref8_Event true), [.tmp 37, .cst (.t (.int .i64 4)), .tmp 40, .tmp 45], none⟩,
 ⟨some 36, (.op .mov), [.tmp 46], none⟩,
 ⟨some 47, (.op (.extract 0)), [.tmp 36], none⟩,
 ⟨some 48, (.op (.extract 1)), [.tmp 36], none⟩,
 ⟨none, (.op (.store 2)), [.tmp 8, .tmp 47], none⟩,
 ⟨some 9, (.op .mov), [.tmp 48], none⟩])
 (.seq
 (.seq
 (.reg 57344 none [
 ⟨some 50, (.op (.bin .eql)), [.tmp 29, .cst (.t (.int .i64 3))], none⟩,
 ⟨some 49, (.op .mov), [.tmp 50], none⟩])
 (.cond (.tmp 49)
 .skip
 (.seq
 (.reg 61440 none [
 ⟨some 51, (.op (.bin .eql)), [.tmp 29, .cst (.t (.int .i64 4))], none⟩,
 ⟨some 49, (.op .mov), [.tmp 51], none⟩])
 (.cond (.tmp 49)
 .skip
 (.reg 65536 none [
 ⟨some 52, (.op (.bin .eql)), [.tmp 29, .cst (.t (.int .i64 5))], none⟩,
 ⟨some 49, (.op .mov), [.tmp 52], none⟩])))))
 (.cond (.tmp 49)
 (.reg 69632 (some [0, 0, 2, 6, 0, 0, 32, 0, 128, 480, 1008, 2047, 4095, 8191, 8191, 16383, 65535]) [
 ⟨some 54, (.op (.load 2 true)), [.tmp 5], none⟩,
 ⟨some 55, (.op .mov), [.tmp 7], none⟩,
 ⟨some 56, (.op (.bin .quo)), [.tmp 55, .cst (.t (.int .i64 8))], none⟩,
 ⟨some 57, (.op (.bin .rem)), [.tmp 56, .cst (.t (.int .i64 16))], none⟩,
 ⟨some 58, (.op .mov), [.tmp 0], none⟩,
 ⟨some 59, (.op .mov), [.tmp 7], none⟩,
 ⟨some 60, (.op (.conv .u8)), [.tmp 59], none⟩,
 ⟨some 61, (.op .mov), [.tmp 6], none⟩,
 ⟨some 62, (.op (.conv .u8)), [.tmp 61], none⟩,
 ⟨some 63, (.op (.bslice 1 2 (.t (byteT 0)) [0, 1])), [.tmp 60, .tmp 62], none⟩,
 ⟨some 64, (.call n_draw_Digests true), [.tmp 58, .tmp 63], none⟩,
 ⟨some 65, (.call n_ref8_Extend true), [.tmp 54, .cst (.t (.int .i64 4)), .tmp 57, .tmp 64], none⟩,
 ⟨some 53, (.op .mov), [.tmp 65], none⟩,
 ⟨some 66, (.op (.extract 0)), [.tmp 53], none⟩,
 ⟨some 67, (.op (.extract 1)), [.tmp 53], none⟩,
 ⟨none, (.op (.store 2)), [.tmp 8, .tmp 66], none⟩,
 ⟨some 9, (.op .mov), [.tmp 67], none⟩])
 (.seq
 (.reg 73728 none [
 ⟨some 69, (.op (.bin .eql)), [.tmp 29, .cst (.t (.int .i64 6))], none⟩,
 ⟨some 68, (.op .mov), [.tmp 69], none⟩])
 (.cond (.tmp 68)
 (.reg 77824 none [
 ⟨some 71, (.op (.load 2 true)), [.tmp 5], none⟩,
 ⟨some 72, (.op .mov), [.tmp 7], none⟩,
 ⟨some 73, (.op (.bin .quo)), [.tmp 72, .cst (.t (.int .i64 8))], none⟩,
 ⟨some 74, (.op (.bin .rem)), [.tmp 73, .cst (.t (.int .i64 4))], none⟩,
 ⟨some 75, (.op (.bin .add)), [.cst (.t (.int .i64 12)), .tmp 74], none⟩,
 ⟨some 76, (.call n_ref8_Reset true), [.tmp 71, .cst (.t (.int .i64 4)), .tmp 75], none⟩,
 ⟨some 70, (.op .mov), [.tmp 76], none⟩,
 ⟨some 77, (.op (.extract 0)), [.tmp 70], none⟩,
 ⟨some 78, (.op (.extract 1)), [.tmp 70], none⟩,
 ⟨none, (.op (.store 2)), [.tmp 8, .tmp 77], none⟩,
 ⟨some 9, (.op .mov), [.tmp 78], none⟩])
 (.reg 36864 none [
 ⟨some 30, (.op (.load 2 true)), [.tmp 5], none⟩,
 ⟨some 31, (.call n_ref8_Resume true), [.tmp 30], none⟩,
 ⟨none, (.op (.store 2)), [.tmp 8, .tmp 31], none⟩])))))))))
 (.seq
 (.reg 81920 none [
 ⟨some 79, (.op .mov), [.tmp 9], none⟩,
 ⟨some 80, (.op (.bin .eql)), [.tmp 79, .cst (.t (.int .i64 0))], none⟩])
 (.cond (.tmp 80)
 (.reg 86016 none [
 ⟨some 81, (.op (.load 2 true)), [.tmp 8], none⟩,
 ⟨none, (.op (.store 2)), [.tmp 5, .tmp 81], none⟩])
 .skip))))))
 (.reg 20480 none [
 ⟨some 20, (.op .mov), [.tmp 6], none⟩,
 ⟨some 21, (.op (.bin .add)), [.tmp 20, .cst (.t (.int .i64 1))], none⟩,
 ⟨some 6, (.op .mov), [.tmp 21], none⟩])))
def ac_draw_Registers (n_ref8_New n_ref8_Event n_draw_Digests n_ref8_Extend n_ref8_Reset n_ref8_Resume : Nat) : AC :=
 (.seq
 (.reg 4096 none [
 ⟨some 4, (.op (.new 2 [(.agg [.nil, (.t (.int .i64 0))])])), [], none⟩])
 (.seq
 (.reg 8192 none [
 ⟨some 10, (.op .mov), [.tmp 0], none⟩,
 ⟨some 11, (.call n_ref8_New true), [.tmp 10], none⟩,
 ⟨some 5, (.op (.new 2 [(.agg [.nil, (.t (.int .i64 0))])])), [], none⟩,
 ⟨none, (.op (.store 2)), [.tmp 5, .tmp 11], none⟩])
 (.seq
 (.seq
 (.reg 12288 none [
 ⟨some 6, (.op .mov), [.cst (.t (.int .i64 0))], none⟩])
 (.block 0
 (.loop (ac_draw_Registers_L0 n_ref8_Event n_draw_Digests n_ref8_Extend n_ref8_Reset n_ref8_Resume))))
 (.seq
 (.reg 90112 none [
 ⟨some 82, (.op (.load 2 true)), [.tmp 5], none⟩,
 ⟨none, (.op (.store 2)), [.tmp 4, .tmp 82], none⟩])
 .ret))))
def hints_draw_Registers : List (Nat × List Nat) := [(1, [1]), (12, [9]), (16, [10, 11]), (18, [5]), (8, [1])]
end Go.Eng
end
section
set_option maxRecDepth 20000
set_option maxHeartbeats 8000000
namespace Go.Eng
theorem w_bits_Mul64 (tab : Tab) (gl : Gl) (n : Int) (hn : n = 20 ∨ n = 32) : ac_bits_Mul64.wp tab gl (zipF 0 [.t (.int .u64 1), .t (.int .u64 n)]) (zipF 0 []) (resW [(4, none), (5, none)] 0 (fun r o => r = .tup [.t (.int .u64 0), .t (.int .u64 n)] ∧ o = [])) := by
  rcases hn with rfl | rfl
  · simp (config := { maxSteps := 2000000 }) (disch := (first | omega | (simp only [lens, lenm]; omega))) only [go_sem, ↓reduceIte, Nat.reduceAdd, Nat.reduceEqDiff, Nat.reduceSub, Nat.reduceMul, Nat.reduceLT, Nat.reduceLeDiff, Nat.reduceBEq, Int.reduceEq, Int.reduceLT, Int.reduceLE, Int.reduceToNat, Int.reduceNeg, Int.reduceAdd, Int.reduceSub, Int.reduceMul, Int.reduceMod, Int.reduceDiv, reduceCtorEq, Nat.reducePow, Int.reducePow, ac_bits_Mul64, BitVec.reduceOfInt, BitVec.reduceAnd, BitVec.reduceToNat, Int.reduceFDiv]
  · simp (config := { maxSteps := 2000000 }) (disch := (first | omega | (simp only [lens, lenm]; omega))) only [go_sem, ↓reduceIte, Nat.reduceAdd, Nat.reduceEqDiff, Nat.reduceSub, Nat.reduceMul, Nat.reduceLT, Nat.reduceLeDiff, Nat.reduceBEq, Int.reduceEq, Int.reduceLT, Int.reduceLE, Int.reduceToNat, Int.reduceNeg, Int.reduceAdd, Int.reduceSub, Int.reduceMul, Int.reduceMod, Int.reduceDiv, reduceCtorEq, Nat.reducePow, Int.reducePow, ac_bits_Mul64, BitVec.reduceOfInt, BitVec.reduceAnd, BitVec.reduceToNat, Int.reduceFDiv]
def ct_mul64 : Ct where
  α := Int
  as x := [.t (.int .u64 1), .t (.int .u64 x)]
  ins _ := []
  pre x := x = 20 ∨ x = 32
  r x := .tup [.t (.int .u64 0), .t (.int .u64 x)]
  outs _ := []
  inj := by
    intro a b h _
    simp at h
    subst h; exact ⟨rfl, rfl⟩
theorem mul64_eq {n : Int} (h : n = 20 ∨ n = 32) : ct_mul64.fs [.t (.int .u64 1), .t (.int .u64 n)] [] = some (.tup [.t (.int .u64 0), .t (.int .u64 n)], []) := ct_mul64.eq n h
theorem w_bits_Mul (tab : Tab) (gl : Gl) (n1 n2 : Nat) (h2 : tab.look n2 = some ct_mul64.fs) (n : Int) (hn : n = 20 ∨ n = 32) : (ac_bits_Mul n1 n2).wp tab gl (zipF 0 [.t (.int .u64 1), .t (.int .u64 n)]) (zipF 0 []) (resW [(4, none), (5, none)] 0 (fun r o => r = .tup [.t (.int .u64 0), .t (.int .u64 n)] ∧ o = [])) := by
  simp (config := { maxSteps := 2000000 }) (disch := (first | omega | (simp only [lens, lenm]; omega))) only [go_sem, ↓reduceIte, Nat.reduceAdd, Nat.reduceEqDiff, Nat.reduceSub, Nat.reduceMul, Nat.reduceLT, Nat.reduceLeDiff, Nat.reduceBEq, Int.reduceEq, Int.reduceLT, Int.reduceLE, Int.reduceToNat, Int.reduceNeg, Int.reduceAdd, Int.reduceSub, Int.reduceMul, Int.reduceMod, Int.reduceDiv, reduceCtorEq, Nat.reducePow, Int.reducePow, ac_bits_Mul, h2, mul64_eq]
def ct_mnz : Ct where
  α := Int
  as x := [.t (.int .i64 x)]
  ins _ := []
  pre x := x = 20 ∨ x = 32
  r x := .sl 0 0 x.toNat
  outs _ := [.live 1 [] true false]
  inj := by
    intro a b h _
    simp at h
    subst h; exact ⟨rfl, rfl⟩
theorem mnz_eq {n : Int} (h : n = 20 ∨ n = 32) : ct_mnz.fs [.t (.int .i64 n)] [] = some (.sl 0 0 n.toNat, [.live 1 [] true false]) := ct_mnz.eq n h
theorem setRange_end {α : Type} {l xs : List α} : setRange l l.length xs = l ++ xs := by simp [setRange]
theorem w_bytes_Repeat (tab : Tab) (gl : Gl) (n1 n2 : Nat) (h1 : tab.look n1 = some ct_mul64.fs) (h2 : tab.look n2 = some ct_mnz.fs) (x : UInt8) (n : Nat) (hn : n = 20 ∨ n = 32) :
    (ac_bytes_Repeat n1 n2).wp tab gl (zipF 0 [.t (.sl ([x].map byteT)), .t (.int .i64 n)]) (zipF 0 []) (resF [] [(4, none)] 0 (fun r o => r = .sl 0 0 n ∧ o = [.live 1 (((List.replicate n x).map byteT).map V.t) true false])) := by
  have hn2 : (n : Int) = 20 ∨ (n : Int) = 32 := by omega
  have ht1 : ∀ v : V, List.take n [v] = [v] := fun v => List.take_of_length_le (by simp only [List.length_cons, List.length_nil]; omega)
  simp (config := { maxSteps := 2000000 }) (disch := (first | omega | (simp only [lens, lenm]; omega))) only [go_sem, ↓reduceIte, Nat.reduceAdd, Nat.reduceEqDiff, Nat.reduceSub, Nat.reduceMul, Nat.reduceLT, Nat.reduceLeDiff, Nat.reduceBEq, Int.reduceEq, Int.reduceLT, Int.reduceLE, Int.reduceToNat, Int.reduceNeg, Int.reduceAdd, Int.reduceSub, Int.reduceMul, Int.reduceMod, Int.reduceDiv, reduceCtorEq, Nat.reducePow, Int.reducePow, ac_bytes_Repeat, h1, h2, mul64_eq, mnz_eq, ht1]
  refine loop_rule (ι := { p : Nat // 1 ≤ p ∧ p ≤ n }) (fun p => ([(7, .t (.int .i64 n)), (8, .t (.int .i64 n)), (9, .sl 69648 0 n), (10, .t (.int .i64 p.1))], [(69648, .live 1 (((List.replicate p.1 x).map byteT).map V.t) true false)])) (fun p => n - p.1) ⟨1, by omega⟩ ?_ (fun p => ?_)
  · refine Weak.rd id ?_ ?_ rfl
    all_goals simp (config := { maxSteps := 2000000 }) (disch := (first | omega | (simp only [lens, lenm]; omega))) only [go_sem, ↓reduceIte, Nat.reduceAdd, Nat.reduceEqDiff, Nat.reduceSub, Nat.reduceMul, Nat.reduceLT, Nat.reduceLeDiff, Nat.reduceBEq, Int.reduceEq, Int.reduceLT, Int.reduceLE, Int.reduceToNat, Int.reduceNeg, Int.reduceAdd, Int.reduceSub, Int.reduceMul, Int.reduceMod, Int.reduceDiv, reduceCtorEq, Nat.reducePow, Int.reducePow, id, List.map_cons, List.map_nil]
  · obtain ⟨p, hp1, hp2⟩ := p
    by_cases hlt : p < n
    · have hse : ∀ xs, setRange (List.map V.t (List.map byteT (List.replicate p x))) p xs = List.map V.t (List.map byteT (List.replicate p x)) ++ xs := by
        intro xs
        have := setRange_end (l := List.map V.t (List.map byteT (List.replicate p x))) (xs := xs)
        simpa using this
      have hm : (if (n : Int) < (p : Int) then (n : Int) else (p : Int)) = p := if_neg (by omega)
      by_cases hd : p ≤ n - p
      · simp (config := { maxSteps := 2000000 }) (disch := (first | omega | (simp only [lens, lenm]; omega))) only [go_sem, ↓reduceIte, Nat.reduceAdd, Nat.reduceEqDiff, Nat.reduceSub, Nat.reduceMul, Nat.reduceLT, Nat.reduceLeDiff, Nat.reduceBEq, Int.reduceEq, Int.reduceLT, Int.reduceLE, Int.reduceToNat, Int.reduceNeg, Int.reduceAdd, Int.reduceSub, Int.reduceMul, Int.reduceMod, Int.reduceDiv, reduceCtorEq, Nat.reducePow, Int.reducePow, ac_bytes_Repeat_L0, hse, List.take_replicate, hm]
        refine ⟨rfl, ⟨p + p, by omega⟩, by simp only; omega, Weak.rd id ?_ ?_ rfl⟩
        all_goals simp (config := { maxSteps := 2000000 }) (disch := (first | omega | (simp only [lens, lenm]; omega))) only [go_sem, ↓reduceIte, Nat.reduceAdd, Nat.reduceEqDiff, Nat.reduceSub, Nat.reduceMul, Nat.reduceLT, Nat.reduceLeDiff, Nat.reduceBEq, Int.reduceEq, Int.reduceLT, Int.reduceLE, Int.reduceToNat, Int.reduceNeg, Int.reduceAdd, Int.reduceSub, Int.reduceMul, Int.reduceMod, Int.reduceDiv, reduceCtorEq, Nat.reducePow, Int.reducePow, id, List.replicate_append_replicate]
      · simp (config := { maxSteps := 2000000 }) (disch := (first | omega | (simp only [lens, lenm]; omega))) only [go_sem, ↓reduceIte, Nat.reduceAdd, Nat.reduceEqDiff, Nat.reduceSub, Nat.reduceMul, Nat.reduceLT, Nat.reduceLeDiff, Nat.reduceBEq, Int.reduceEq, Int.reduceLT, Int.reduceLE, Int.reduceToNat, Int.reduceNeg, Int.reduceAdd, Int.reduceSub, Int.reduceMul, Int.reduceMod, Int.reduceDiv, reduceCtorEq, Nat.reducePow, Int.reducePow, ac_bytes_Repeat_L0, hse, List.take_replicate, hm]
        refine ⟨rfl, ⟨p + (n - p), by omega⟩, by simp only; omega, Weak.rd id ?_ ?_ rfl⟩
        all_goals simp (config := { maxSteps := 2000000 }) (disch := (first | omega | (simp only [lens, lenm]; omega))) only [go_sem, ↓reduceIte, Nat.reduceAdd, Nat.reduceEqDiff, Nat.reduceSub, Nat.reduceMul, Nat.reduceLT, Nat.reduceLeDiff, Nat.reduceBEq, Int.reduceEq, Int.reduceLT, Int.reduceLE, Int.reduceToNat, Int.reduceNeg, Int.reduceAdd, Int.reduceSub, Int.reduceMul, Int.reduceMod, Int.reduceDiv, reduceCtorEq, Nat.reducePow, Int.reducePow, id, List.replicate_append_replicate]
    · have e : p = n := by omega
      subst e
      simp (config := { maxSteps := 2000000 }) (disch := (first | omega | (simp only [lens, lenm]; omega))) only [go_sem, ↓reduceIte, Nat.reduceAdd, Nat.reduceEqDiff, Nat.reduceSub, Nat.reduceMul, Nat.reduceLT, Nat.reduceLeDiff, Nat.reduceBEq, Int.reduceEq, Int.reduceLT, Int.reduceLE, Int.reduceToNat, Int.reduceNeg, Int.reduceAdd, Int.reduceSub, Int.reduceMul, Int.reduceMod, Int.reduceDiv, reduceCtorEq, Nat.reducePow, Int.reducePow, ac_bytes_Repeat_L0]
def ct_repeat : Ct where
  α := UInt8 × Nat
  as x := [.t (.sl ([x.1].map byteT)), .t (.int .i64 x.2)]
  ins _ := []
  pre x := x.2 = 20 ∨ x.2 = 32
  r x := .sl 0 0 x.2
  outs x := [.live 1 (((List.replicate x.2 x.1).map byteT).map V.t) true false]
  inj := by
    rintro ⟨a, b⟩ ⟨c, d⟩ h _
    simp [byteT_eq, Int.natCast_inj] at h
    obtain ⟨rfl, rfl⟩ := h
    exact ⟨rfl, rfl⟩
theorem repeat_eq {x : UInt8} {n : Nat} (h : n = 20 ∨ n = 32) : ct_repeat.fs [.t (.sl [byteT x]), .t (.int .i64 n)] [] = some (.sl 0 0 n, [.live 1 (((List.replicate n x).map byteT).map V.t) true false]) := ct_repeat.eq (x, n) h
theorem w_registers_fill (tab : Tab) (gl : Gl) (n1 : Nat) (h1 : tab.look n1 = some ct_repeat.fs) (x : UInt8) (n : Nat) (hn : n = 20 ∨ n = 32) : (ac_registers_fill n1).wp tab gl (zipF 0 [.t (.int .i64 n), .t (byteT x)]) (zipF 0 []) (resF [] [(4, none)] 0 (fun r o => r = .sl 0 0 n ∧ o = [.live 1 (((List.replicate n x).map byteT).map V.t) true false])) := by
  simp (config := { maxSteps := 2000000 }) (disch := (first | omega | (simp only [lens, lenm]; omega))) only [go_sem, ↓reduceIte, Nat.reduceAdd, Nat.reduceEqDiff, Nat.reduceSub, Nat.reduceMul, Nat.reduceLT, Nat.reduceLeDiff, Nat.reduceBEq, Int.reduceEq, Int.reduceLT, Int.reduceLE, Int.reduceToNat, Int.reduceNeg, Int.reduceAdd, Int.reduceSub, Int.reduceMul, Int.reduceMod, Int.reduceDiv, reduceCtorEq, Nat.reducePow, Int.reducePow, ac_registers_fill, h1, repeat_eq]
theorem set_fill {α : Type} {x d : α} {n k : Nat} (h : k < n) : (List.replicate k x ++ List.replicate (n - k) d).set k x = List.replicate (k + 1) x ++ List.replicate (n - (k + 1)) d := by
  rw [show n - k = (n - (k + 1)) + 1 by omega, List.replicate_succ, List.set_append_right _ _ (by simp)]
  simp [List.replicate_succ']
theorem w_ref8_fill (tab : Tab) (gl : Gl) (x : UInt8) (n : Nat) (hn : n < 1000000000) : ac_ref8_fill.wp tab gl (zipF 0 [.t (.int .i64 n), .t (byteT x)]) (zipF 0 []) (resF [] [(4, none)] 0 (fun r o => r = .sl 0 0 n ∧ o = [.live 1 (((List.replicate n x).map byteT).map V.t) true false])) := by
  simp (config := { maxSteps := 2000000 }) (disch := (first | omega | (simp only [lens, lenm]; omega))) only [go_sem, ↓reduceIte, Nat.reduceAdd, Nat.reduceEqDiff, Nat.reduceSub, Nat.reduceMul, Nat.reduceLT, Nat.reduceLeDiff, Nat.reduceBEq, Int.reduceEq, Int.reduceLT, Int.reduceLE, Int.reduceToNat, Int.reduceNeg, Int.reduceAdd, Int.reduceSub, Int.reduceMul, Int.reduceMod, Int.reduceDiv, reduceCtorEq, Nat.reducePow, Int.reducePow, ac_ref8_fill]
  refine loop_upto n (fun k => [(0, .t (.int .i64 n)), (1, .t (byteT x)), (5, .sl 8208 0 n), (6, .t (.int .i64 k))]) (fun k => [(8208, .live 1 (((List.replicate k x ++ List.replicate (n - k) 0).map byteT).map V.t) true false)]) ?_ (fun k hk => ?_)
  · refine Weak.rd id ?_ ?_ rfl
    all_goals simp (config := { maxSteps := 2000000 }) (disch := (first | omega | (simp only [lens, lenm]; omega))) only [go_sem, ↓reduceIte, Nat.reduceAdd, Nat.reduceEqDiff, Nat.reduceSub, Nat.reduceMul, Nat.reduceLT, Nat.reduceLeDiff, Nat.reduceBEq, Int.reduceEq, Int.reduceLT, Int.reduceLE, Int.reduceToNat, Int.reduceNeg, Int.reduceAdd, Int.reduceSub, Int.reduceMul, Int.reduceMod, Int.reduceDiv, reduceCtorEq, Nat.reducePow, Int.reducePow, id]
  · by_cases hlt : k < n
    · simp (config := { maxSteps := 2000000 }) (disch := (first | omega | (simp only [lens, lenm]; omega))) only [go_sem, ↓reduceIte, Nat.reduceAdd, Nat.reduceEqDiff, Nat.reduceSub, Nat.reduceMul, Nat.reduceLT, Nat.reduceLeDiff, Nat.reduceBEq, Int.reduceEq, Int.reduceLT, Int.reduceLE, Int.reduceToNat, Int.reduceNeg, Int.reduceAdd, Int.reduceSub, Int.reduceMul, Int.reduceMod, Int.reduceDiv, reduceCtorEq, Nat.reducePow, Int.reducePow, ac_ref8_fill_L0]
      refine ⟨hlt, Weak.rd id ?_ ?_ rfl⟩
      all_goals simp (config := { maxSteps := 2000000 }) (disch := (first | omega | (simp only [lens, lenm]; omega))) only [go_sem, ↓reduceIte, Nat.reduceAdd, Nat.reduceEqDiff, Nat.reduceSub, Nat.reduceMul, Nat.reduceLT, Nat.reduceLeDiff, Nat.reduceBEq, Int.reduceEq, Int.reduceLT, Int.reduceLE, Int.reduceToNat, Int.reduceNeg, Int.reduceAdd, Int.reduceSub, Int.reduceMul, Int.reduceMod, Int.reduceDiv, reduceCtorEq, Nat.reducePow, Int.reducePow, id, set_fill hlt]
    · have e : k = n := by omega
      subst e
      simp (config := { maxSteps := 2000000 }) (disch := (first | omega | (simp only [lens, lenm]; omega))) only [go_sem, ↓reduceIte, Nat.reduceAdd, Nat.reduceEqDiff, Nat.reduceSub, Nat.reduceMul, Nat.reduceLT, Nat.reduceLeDiff, Nat.reduceBEq, Int.reduceEq, Int.reduceLT, Int.reduceLE, Int.reduceToNat, Int.reduceNeg, Int.reduceAdd, Int.reduceSub, Int.reduceMul, Int.reduceMod, Int.reduceDiv, reduceCtorEq, Nat.reducePow, Int.reducePow, ac_ref8_fill_L0, Nat.sub_self, List.append_nil]
end Go.Eng
end
section
set_option maxRecDepth 20000
set_option maxHeartbeats 8000000
namespace Go.Eng
abbrev Bank := List (List UInt8)
def bankT (b : Bank) : T := .sl (b.map bsT)
def regT (bk : List Bank) (u : Int) : T := .agg [.sl (bk.map bankT), .int .i64 u]
theorem bankT_def {b : Bank} : bankT b = .sl (b.map bsT) := Eq.trans (Eq.refl _) rfl
theorem regT_def {bk : List Bank} {u : Int} : regT bk u = .agg [.sl (bk.map bankT), .int .i64 u] := Eq.trans (Eq.refl _) rfl
attribute [go_sem] bankT_def regT_def
def bkOk (b : Bank) : Prop := b.length = 0 ∨ b.length = 16
def actM (b0 b1 : Bank) : Int := (if b0.length = 16 then 1 else 0) + (if b1.length = 16 then 2 else 0)
theorem w_registers_active0 (tab : Tab) (gl : Gl) (u : Int) : ac_registers_active.wp tab gl (zipF 0 [.t (regT [] u)]) (zipF 0 []) (resW [(2, none)] 0 (fun r o => r = .t (.int .i64 0) ∧ o = [])) := by
  simp (config := { maxSteps := 2000000 }) (disch := (first | omega | (simp only [lens, lenm]; omega))) only [go_sem, ↓reduceIte, Nat.reduceAdd, Nat.reduceEqDiff, Nat.reduceSub, Nat.reduceMul, Nat.reduceLT, Nat.reduceLeDiff, Nat.reduceBEq, Int.reduceEq, Int.reduceLT, Int.reduceLE, Int.reduceToNat, Int.reduceNeg, Int.reduceAdd, Int.reduceSub, Int.reduceMul, Int.reduceMod, Int.reduceDiv, reduceCtorEq, Nat.reducePow, Int.reducePow, ac_registers_active, List.map_nil, List.map_cons]
  refine loop_fuel 1 ?_
  simp (config := { maxSteps := 2000000 }) (disch := (first | omega | (simp only [lens, lenm]; omega))) only [go_sem, ↓reduceIte, Nat.reduceAdd, Nat.reduceEqDiff, Nat.reduceSub, Nat.reduceMul, Nat.reduceLT, Nat.reduceLeDiff, Nat.reduceBEq, Int.reduceEq, Int.reduceLT, Int.reduceLE, Int.reduceToNat, Int.reduceNeg, Int.reduceAdd, Int.reduceSub, Int.reduceMul, Int.reduceMod, Int.reduceDiv, reduceCtorEq, Nat.reducePow, Int.reducePow, loopN_succ, ac_registers_active_L0]
theorem w_registers_active2 (tab : Tab) (gl : Gl) (b0 b1 : Bank) (h0 : b0.length < 1000000000) (h1 : b1.length < 1000000000) (u : Int) : ac_registers_active.wp tab gl (zipF 0 [.t (regT [b0, b1] u)]) (zipF 0 []) (resW [(2, none)] 0 (fun r o => r = .t (.int .i64 (actM b0 b1)) ∧ o = [])) := by
  simp (config := { maxSteps := 2000000 }) (disch := (first | omega | (simp only [lens, lenm]; omega))) only [go_sem, ↓reduceIte, Nat.reduceAdd, Nat.reduceEqDiff, Nat.reduceSub, Nat.reduceMul, Nat.reduceLT, Nat.reduceLeDiff, Nat.reduceBEq, Int.reduceEq, Int.reduceLT, Int.reduceLE, Int.reduceToNat, Int.reduceNeg, Int.reduceAdd, Int.reduceSub, Int.reduceMul, Int.reduceMod, Int.reduceDiv, reduceCtorEq, Nat.reducePow, Int.reducePow, ac_registers_active, List.map_nil, List.map_cons]
  refine loop_fuel 3 ?_
  by_cases e0 : b0.length = 16
  · by_cases e1 : b1.length = 16
    · simp (config := { maxSteps := 2000000 }) (disch := (first | omega | (simp only [lens, lenm]; omega))) only [go_sem, ↓reduceIte, Nat.reduceAdd, Nat.reduceEqDiff, Nat.reduceSub, Nat.reduceMul, Nat.reduceLT, Nat.reduceLeDiff, Nat.reduceBEq, Int.reduceEq, Int.reduceLT, Int.reduceLE, Int.reduceToNat, Int.reduceNeg, Int.reduceAdd, Int.reduceSub, Int.reduceMul, Int.reduceMod, Int.reduceDiv, reduceCtorEq, Nat.reducePow, Int.reducePow, loopN_succ, ac_registers_active_L0, actM, e0, e1, BitVec.reduceOfInt, BitVec.reduceOr, BitVec.reduceToNat]
    · simp (config := { maxSteps := 2000000 }) (disch := (first | omega | (simp only [lens, lenm]; omega))) only [go_sem, ↓reduceIte, Nat.reduceAdd, Nat.reduceEqDiff, Nat.reduceSub, Nat.reduceMul, Nat.reduceLT, Nat.reduceLeDiff, Nat.reduceBEq, Int.reduceEq, Int.reduceLT, Int.reduceLE, Int.reduceToNat, Int.reduceNeg, Int.reduceAdd, Int.reduceSub, Int.reduceMul, Int.reduceMod, Int.reduceDiv, reduceCtorEq, Nat.reducePow, Int.reducePow, loopN_succ, ac_registers_active_L0, actM, e0, e1, BitVec.reduceOfInt, BitVec.reduceOr, BitVec.reduceToNat]
  · by_cases e1 : b1.length = 16
    · simp (config := { maxSteps := 2000000 }) (disch := (first | omega | (simp only [lens, lenm]; omega))) only [go_sem, ↓reduceIte, Nat.reduceAdd, Nat.reduceEqDiff, Nat.reduceSub, Nat.reduceMul, Nat.reduceLT, Nat.reduceLeDiff, Nat.reduceBEq, Int.reduceEq, Int.reduceLT, Int.reduceLE, Int.reduceToNat, Int.reduceNeg, Int.reduceAdd, Int.reduceSub, Int.reduceMul, Int.reduceMod, Int.reduceDiv, reduceCtorEq, Nat.reducePow, Int.reducePow, loopN_succ, ac_registers_active_L0, actM, e0, e1, BitVec.reduceOfInt, BitVec.reduceOr, BitVec.reduceToNat]
    · simp (config := { maxSteps := 2000000 }) (disch := (first | omega | (simp only [lens, lenm]; omega))) only [go_sem, ↓reduceIte, Nat.reduceAdd, Nat.reduceEqDiff, Nat.reduceSub, Nat.reduceMul, Nat.reduceLT, Nat.reduceLeDiff, Nat.reduceBEq, Int.reduceEq, Int.reduceLT, Int.reduceLE, Int.reduceToNat, Int.reduceNeg, Int.reduceAdd, Int.reduceSub, Int.reduceMul, Int.reduceMod, Int.reduceDiv, reduceCtorEq, Nat.reducePow, Int.reducePow, loopN_succ, ac_registers_active_L0, actM, e0, e1, BitVec.reduceOfInt, BitVec.reduceOr, BitVec.reduceToNat]
inductive RK : List Bank → Prop
  | nil : RK []
  | two (b0 b1 : Bank) (h0 : bkOk b0) (h1 : bkOk b1) : RK [b0, b1]
def actI : List Bank → Int
  | [b0, b1] => actM b0 b1
  | _ => 0
theorem bankT_inj {a b : Bank} (h : bankT a = bankT b) : a = b := by
  simpa [bankT, mapBs_inj] using h
theorem regT_inj {a b : List Bank} {u v : Int} (h : regT a u = regT b v) : a = b ∧ u = v := by
  simp only [regT, T.agg.injEq, List.cons.injEq, T.sl.injEq, T.int.injEq, true_and, and_true] at h
  exact ⟨map_inj' (fun _ _ => bankT_inj) h.1, h.2⟩
def ct_active : Ct where
  α := List Bank × Int
  as x := [.t (regT x.1 x.2)]
  ins _ := []
  pre x := RK x.1
  r x := .t (.int .i64 (actI x.1))
  outs _ := []
  inj := by
    rintro ⟨a, u⟩ ⟨b, v⟩ h _
    simp only [List.cons.injEq, V.t.injEq, and_true] at h
    obtain ⟨rfl, rfl⟩ := regT_inj h
    exact ⟨rfl, rfl⟩
theorem active_eq {bk : List Bank} {u : Int} (h : RK bk) : ct_active.fs [.t (.agg [.sl (bk.map bankT), .int .i64 u])] [] = some (.t (.int .i64 (actI bk)), []) := ct_active.eq (bk, u) h
def onB (bk : List Bank) (a : Nat) : Bool := decide ((bk.getD a []).length = 16)
theorem w_registers_on (tab : Tab) (gl : Gl) (n1 : Nat) (h1 : tab.look n1 = some ct_active.fs) (bk : List Bank) (u : Int) (hk : RK bk) (a : Nat) (ha : a < 2) : (ac_registers_on n1).wp tab gl (zipF 0 [.t (regT bk u), .t (.int .i64 a)]) (zipF 0 []) (resW [(4, none)] 0 (fun r o => r = .t (.bool (onB bk a)) ∧ o = [])) := by
  have he := active_eq (u := u) hk
  have hv : actI bk = 0 ∨ actI bk = 1 ∨ actI bk = 2 ∨ actI bk = 3 := by
    cases hk with
    | nil => left; rfl
    | two b0 b1 h0 h1 => simp only [actI, actM]; split <;> split <;> simp
  have hon : onB bk a = decide ((actI bk).toNat / 2 ^ a % 2 = 1) := by
    cases hk with
    | nil =>
      rcases (show a = 0 ∨ a = 1 by omega) with rfl | rfl <;> simp [onB, actI]
    | two b0 b1 h0 h1 =>
      rcases (show a = 0 ∨ a = 1 by omega) with rfl | rfl
      · simp only [onB, actI, actM, List.getD_cons_zero]; split <;> split <;> simp_all
      · simp only [onB, actI, actM, List.getD_cons_succ, List.getD_cons_zero]; split <;> split <;> simp_all
  rw [hon]
  rcases (show a = 0 ∨ a = 1 by omega) with rfl | rfl <;> rcases hv with hv | hv | hv | hv <;> rw [hv] at he <;> simp only [hv]
  all_goals simp (config := { maxSteps := 2000000 }) (disch := (first | omega | (simp only [lens, lenm]; omega))) only [go_sem, ↓reduceIte, Nat.reduceAdd, Nat.reduceEqDiff, Nat.reduceSub, Nat.reduceMul, Nat.reduceLT, Nat.reduceLeDiff, Nat.reduceBEq, Int.reduceEq, Int.reduceLT, Int.reduceLE, Int.reduceToNat, Int.reduceNeg, Int.reduceAdd, Int.reduceSub, Int.reduceMul, Int.reduceMod, Int.reduceDiv, reduceCtorEq, Nat.reducePow, Int.reducePow, ac_registers_on, h1, he, Int.reduceFDiv, Int.reduceToNat, Nat.reduceDiv, Nat.reduceMod, Int.reduceBEq]
theorem w_registers_index (tab : Tab) (gl : Gl) (i : Int) : ac_registers_index.wp tab gl (zipF 0 [.t (.int .i64 i)]) (zipF 0 []) (resW [(2, none)] 0 (fun r o => r = .t (.bool (decide (0 ≤ i ∧ i < 16))) ∧ o = [])) := by
  by_cases h : 0 ≤ i
  · by_cases h2 : i < 16
    · simp (config := { maxSteps := 2000000 }) (disch := (first | omega | (simp only [lens, lenm]; omega))) only [go_sem, ↓reduceIte, Nat.reduceAdd, Nat.reduceEqDiff, Nat.reduceSub, Nat.reduceMul, Nat.reduceLT, Nat.reduceLeDiff, Nat.reduceBEq, Int.reduceEq, Int.reduceLT, Int.reduceLE, Int.reduceToNat, Int.reduceNeg, Int.reduceAdd, Int.reduceSub, Int.reduceMul, Int.reduceMod, Int.reduceDiv, reduceCtorEq, Nat.reducePow, Int.reducePow, ac_registers_index, h, h2]
    · simp (config := { maxSteps := 2000000 }) (disch := (first | omega | (simp only [lens, lenm]; omega))) only [go_sem, ↓reduceIte, Nat.reduceAdd, Nat.reduceEqDiff, Nat.reduceSub, Nat.reduceMul, Nat.reduceLT, Nat.reduceLeDiff, Nat.reduceBEq, Int.reduceEq, Int.reduceLT, Int.reduceLE, Int.reduceToNat, Int.reduceNeg, Int.reduceAdd, Int.reduceSub, Int.reduceMul, Int.reduceMod, Int.reduceDiv, reduceCtorEq, Nat.reducePow, Int.reducePow, ac_registers_index, h, h2]
  · simp (config := { maxSteps := 2000000 }) (disch := (first | omega | (simp only [lens, lenm]; omega))) only [go_sem, ↓reduceIte, Nat.reduceAdd, Nat.reduceEqDiff, Nat.reduceSub, Nat.reduceMul, Nat.reduceLT, Nat.reduceLeDiff, Nat.reduceBEq, Int.reduceEq, Int.reduceLT, Int.reduceLE, Int.reduceToNat, Int.reduceNeg, Int.reduceAdd, Int.reduceSub, Int.reduceMul, Int.reduceMod, Int.reduceDiv, reduceCtorEq, Nat.reducePow, Int.reducePow, ac_registers_index, h]
def leastI (i : Int) (reset : Bool) : Int := if reset = true ∧ i < 12 then 5 else if i = 14 then (if reset then 3 else 2) else if i = 15 then (if reset then 4 else 3) else 0
theorem w_registers_least (tab : Tab) (gl : Gl) (i : Int) (rs : Bool) : ac_registers_least.wp tab gl (zipF 0 [.t (.int .i64 i), .t (.bool rs)]) (zipF 0 []) (resW [(4, none)] 0 (fun r o => r = .t (.int .i64 (leastI i rs)) ∧ o = [])) := by
  cases rs <;> by_cases h12 : i < 12 <;> by_cases h14 : i = 14 <;> by_cases h15 : i = 15
  all_goals try omega
  all_goals simp (config := { maxSteps := 2000000 }) (disch := (first | omega | (simp only [lens, lenm]; omega))) only [go_sem, ↓reduceIte, Nat.reduceAdd, Nat.reduceEqDiff, Nat.reduceSub, Nat.reduceMul, Nat.reduceLT, Nat.reduceLeDiff, Nat.reduceBEq, Int.reduceEq, Int.reduceLT, Int.reduceLE, Int.reduceToNat, Int.reduceNeg, Int.reduceAdd, Int.reduceSub, Int.reduceMul, Int.reduceMod, Int.reduceDiv, reduceCtorEq, Nat.reducePow, Int.reducePow, ac_registers_least, leastI, h12, h14, h15]
theorem w_ref8_Least (tab : Tab) (gl : Gl) (i : Int) (rs : Bool) : ac_ref8_Least.wp tab gl (zipF 0 [.t (.int .i64 i), .t (.bool rs)]) (zipF 0 []) (resW [(4, none)] 0 (fun r o => r = .t (.int .i64 (if leastI i rs = 5 then -1 else leastI i rs)) ∧ o = [])) := by
  cases rs <;> by_cases h12 : i < 12 <;> by_cases h14 : i = 14 <;> by_cases h15 : i = 15
  all_goals try omega
  all_goals simp (config := { maxSteps := 2000000 }) (disch := (first | omega | (simp only [lens, lenm]; omega))) only [go_sem, ↓reduceIte, Nat.reduceAdd, Nat.reduceEqDiff, Nat.reduceSub, Nat.reduceMul, Nat.reduceLT, Nat.reduceLeDiff, Nat.reduceBEq, Int.reduceEq, Int.reduceLT, Int.reduceLE, Int.reduceToNat, Int.reduceNeg, Int.reduceAdd, Int.reduceSub, Int.reduceMul, Int.reduceMod, Int.reduceDiv, reduceCtorEq, Nat.reducePow, Int.reducePow, ac_ref8_Least, leastI, h12, h14, h15]
def actB (bk : List Bank) (a : Nat) : Bool := decide (a < bk.length) && decide (0 < (bk.getD a []).length)
theorem w_ref8_Active (tab : Tab) (gl : Gl) (bk : List Bank) (u : Int) (a : Nat) (ha : a < 1000000000) (hb : bk.length < 1000000000) (hm : ∀ b ∈ bk, b.length < 1000000000) : ac_ref8_Active.wp tab gl (zipF 0 [.t (regT bk u), .t (.int .i64 a)]) (zipF 0 []) (resW [(4, none)] 0 (fun r o => r = .t (.bool (actB bk a)) ∧ o = [])) := by
  by_cases h : a < bk.length
  · have hg : bk[a]? = some (bk.getD a []) := by simp [List.getD, h]
    have hl : (bk.getD a []).length < 1000000000 := by
      have : bk.getD a [] = bk[a] := by simp [List.getD, h]
      rw [this]; exact hm _ (List.getElem_mem h)
    by_cases h0 : 0 < (bk.getD a []).length
    · simp (config := { maxSteps := 2000000 }) (disch := (first | omega | (simp only [lens, lenm]; omega))) only [go_sem, ↓reduceIte, Nat.reduceAdd, Nat.reduceEqDiff, Nat.reduceSub, Nat.reduceMul, Nat.reduceLT, Nat.reduceLeDiff, Nat.reduceBEq, Int.reduceEq, Int.reduceLT, Int.reduceLE, Int.reduceToNat, Int.reduceNeg, Int.reduceAdd, Int.reduceSub, Int.reduceMul, Int.reduceMod, Int.reduceDiv, reduceCtorEq, Nat.reducePow, Int.reducePow, ac_ref8_Active, actB, h, hg, h0]
    · simp (config := { maxSteps := 2000000 }) (disch := (first | omega | (simp only [lens, lenm]; omega))) only [go_sem, ↓reduceIte, Nat.reduceAdd, Nat.reduceEqDiff, Nat.reduceSub, Nat.reduceMul, Nat.reduceLT, Nat.reduceLeDiff, Nat.reduceBEq, Int.reduceEq, Int.reduceLT, Int.reduceLE, Int.reduceToNat, Int.reduceNeg, Int.reduceAdd, Int.reduceSub, Int.reduceMul, Int.reduceMod, Int.reduceDiv, reduceCtorEq, Nat.reducePow, Int.reducePow, ac_ref8_Active, actB, h, hg, h0]
  · simp (config := { maxSteps := 2000000 }) (disch := (first | omega | (simp only [lens, lenm]; omega))) only [go_sem, ↓reduceIte, Nat.reduceAdd, Nat.reduceEqDiff, Nat.reduceSub, Nat.reduceMul, Nat.reduceLT, Nat.reduceLeDiff, Nat.reduceBEq, Int.reduceEq, Int.reduceLT, Int.reduceLE, Int.reduceToNat, Int.reduceNeg, Int.reduceAdd, Int.reduceSub, Int.reduceMul, Int.reduceMod, Int.reduceDiv, reduceCtorEq, Nat.reducePow, Int.reducePow, ac_ref8_Active, actB, h]
end Go.Eng
end
section
set_option maxRecDepth 20000
set_option maxHeartbeats 8000000
namespace Go.Eng
theorem w_registers_twin0 (tab : Tab) (gl : Gl) (u : Int) : ac_registers_twin.wp tab gl (zipF 0 [.t (regT [] u)]) (zipF 0 []) (resF [] [(2, some (2, true))] 0 (fun r o => r = .agg [.nil, .t (.int .i64 u)] ∧ o = [])) := by
  simp (config := { maxSteps := 2000000 }) (disch := (first | omega | (simp only [lens, lenm]; omega))) only [go_sem, ↓reduceIte, Nat.reduceAdd, Nat.reduceEqDiff, Nat.reduceSub, Nat.reduceMul, Nat.reduceLT, Nat.reduceLeDiff, Nat.reduceBEq, Int.reduceEq, Int.reduceLT, Int.reduceLE, Int.reduceToNat, Int.reduceNeg, Int.reduceAdd, Int.reduceSub, Int.reduceMul, Int.reduceMod, Int.reduceDiv, reduceCtorEq, Nat.reducePow, Int.reducePow, ac_registers_twin, List.map_nil, Int.natCast_zero]
  refine loop_fuel 1 ?_
  simp (config := { maxSteps := 2000000 }) (disch := (first | omega | (simp only [lens, lenm]; omega))) only [go_sem, ↓reduceIte, Nat.reduceAdd, Nat.reduceEqDiff, Nat.reduceSub, Nat.reduceMul, Nat.reduceLT, Nat.reduceLeDiff, Nat.reduceBEq, Int.reduceEq, Int.reduceLT, Int.reduceLE, Int.reduceToNat, Int.reduceNeg, Int.reduceAdd, Int.reduceSub, Int.reduceMul, Int.reduceMod, Int.reduceDiv, reduceCtorEq, Nat.reducePow, Int.reducePow, loopN_succ, ac_registers_twin_L0]
theorem w_registers_twin2 (tab : Tab) (gl : Gl) (b0 b1 : Bank) (u : Int) (m0 : modL b0) (m1 : modL b1) : ac_registers_twin.wp tab gl (zipF 0 [.t (regT [b0, b1] u)]) (zipF 0 []) (resF [] [(2, some (2, true))] 0 (fun r o => r = .agg [.sl 0 0 2, .t (.int .i64 u)] ∧ o = [.live 1 [.sl 1 0 b0.length, .sl 2 0 b1.length] true false, .live 1 ((b0.map bsT).map V.t) true false, .live 1 ((b1.map bsT).map V.t) true false])) := by
  simp (config := { maxSteps := 2000000 }) (disch := (first | omega | (simp only [lens, lenm]; omega))) only [go_sem, ↓reduceIte, Nat.reduceAdd, Nat.reduceEqDiff, Nat.reduceSub, Nat.reduceMul, Nat.reduceLT, Nat.reduceLeDiff, Nat.reduceBEq, Int.reduceEq, Int.reduceLT, Int.reduceLE, Int.reduceToNat, Int.reduceNeg, Int.reduceAdd, Int.reduceSub, Int.reduceMul, Int.reduceMod, Int.reduceDiv, reduceCtorEq, Nat.reducePow, Int.reducePow, ac_registers_twin, List.map_nil, List.map_cons]
  have hl0 := m0.1
  have hl1 := m1.1
  refine loop_upto 2 (fun k => match k with | 0 => [(2, .ref 4112 0 0), (3, .ref 8240 0 0), (15, .t (.int .i64 0)), (13, .t (T.sl [T.sl (List.map bsT b0), T.sl (List.map bsT b1)])), (14, .t (.int .i64 2))] | 1 => [(2, .ref 4112 0 0), (3, .ref 8240 0 0), (15, .t (.int .i64 1)), (13, .t (T.sl [T.sl (List.map bsT b0), T.sl (List.map bsT b1)])), (14, .t (.int .i64 2))] | _ => [(2, .ref 4112 0 0), (3, .ref 8240 0 0), (15, .t (.int .i64 2)), (13, .t (T.sl [T.sl (List.map bsT b0), T.sl (List.map bsT b1)])), (14, .t (.int .i64 2))]) (fun k => match k with | 0 => [(8240, .live 2 [.agg [.nil, .t (.int .i64 u)]] true true), (4112, .live 2 [.agg [.nil, .t (.int .i64 0)]] true true)] | 1 => [(8240, .live 2 [.agg [.sl 9000 0 1, .t (.int .i64 u)]] true true), (9000, .live 1 [.sl 9001 0 b0.length] true false), (9001, .live 1 ((b0.map bsT).map V.t) true false), (4112, .live 2 [.agg [.nil, .t (.int .i64 0)]] true true)] | _ => [(8240, .live 2 [.agg [.sl 9000 0 2, .t (.int .i64 u)]] true true), (9000, .live 1 [.sl 9001 0 b0.length, .sl 9002 0 b1.length] true false), (9001, .live 1 ((b0.map bsT).map V.t) true false), (9002, .live 1 ((b1.map bsT).map V.t) true false), (4112, .live 2 [.agg [.nil, .t (.int .i64 0)]] true true)]) ?_ (fun k hk => ?_)
  · refine Weak.rd id ?_ ?_ rfl
    all_goals simp (config := { maxSteps := 2000000 }) (disch := (first | omega | (simp only [lens, lenm]; omega))) only [go_sem, ↓reduceIte, Nat.reduceAdd, Nat.reduceEqDiff, Nat.reduceSub, Nat.reduceMul, Nat.reduceLT, Nat.reduceLeDiff, Nat.reduceBEq, Int.reduceEq, Int.reduceLT, Int.reduceLE, Int.reduceToNat, Int.reduceNeg, Int.reduceAdd, Int.reduceSub, Int.reduceMul, Int.reduceMod, Int.reduceDiv, reduceCtorEq, Nat.reducePow, Int.reducePow, id]
  · rcases (show k = 0 ∨ k = 1 ∨ k = 2 by omega) with rfl | rfl | rfl
    · simp (config := { maxSteps := 2000000 }) (disch := (first | omega | (simp only [lens, lenm]; omega))) only [go_sem, ↓reduceIte, Nat.reduceAdd, Nat.reduceEqDiff, Nat.reduceSub, Nat.reduceMul, Nat.reduceLT, Nat.reduceLeDiff, Nat.reduceBEq, Int.reduceEq, Int.reduceLT, Int.reduceLE, Int.reduceToNat, Int.reduceNeg, Int.reduceAdd, Int.reduceSub, Int.reduceMul, Int.reduceMod, Int.reduceDiv, reduceCtorEq, Nat.reducePow, Int.reducePow, ac_registers_twin_L0]
      refine loop_upto b0.length (fun i => [(2, .ref 4112 0 0), (3, .ref 8240 0 0), (15, .t (.int .i64 0)), (13, .t (T.sl [T.sl (List.map bsT b0), T.sl (List.map bsT b1)])), (14, .t (.int .i64 2)), (6, .sl 9100 0 i), (21, .t (.int .i64 (i : Nat))), (19, .t (.sl (b0.map bsT))), (20, .t (.int .i64 b0.length))]) (fun i => [(9100, .live 1 (((b0.take i).map bsT).map V.t) true false), (8240, .live 2 [.agg [.nil, .t (.int .i64 u)]] true true), (4112, .live 2 [.agg [.nil, .t (.int .i64 0)]] true true)]) ?_ (fun i hi => ?_)
      · refine Weak.cv0 (hv := [(9100, .live 1 [] true false)]) (ho := [(8240, .live 2 [.agg [.nil, .t (.int .i64 u)]] true true), (4112, .live 2 [.agg [.nil, .t (.int .i64 0)]] true true)]) id ?_ ?_ rfl rfl
        all_goals simp (config := { maxSteps := 2000000 }) (disch := (first | omega | (simp only [lens, lenm]; omega))) only [go_sem, ↓reduceIte, Nat.reduceAdd, Nat.reduceEqDiff, Nat.reduceSub, Nat.reduceMul, Nat.reduceLT, Nat.reduceLeDiff, Nat.reduceBEq, Int.reduceEq, Int.reduceLT, Int.reduceLE, Int.reduceToNat, Int.reduceNeg, Int.reduceAdd, Int.reduceSub, Int.reduceMul, Int.reduceMod, Int.reduceDiv, reduceCtorEq, Nat.reducePow, Int.reducePow, id, List.map_cons, List.map_nil]
      · have hm := modL_get m0 i
        by_cases hlt : i < b0.length
        · simp (config := { maxSteps := 2000000 }) (disch := (first | omega | (simp only [lens, lenm]; omega))) only [go_sem, ↓reduceIte, Nat.reduceAdd, Nat.reduceEqDiff, Nat.reduceSub, Nat.reduceMul, Nat.reduceLT, Nat.reduceLeDiff, Nat.reduceBEq, Int.reduceEq, Int.reduceLT, Int.reduceLE, Int.reduceToNat, Int.reduceNeg, Int.reduceAdd, Int.reduceSub, Int.reduceMul, Int.reduceMod, Int.reduceDiv, reduceCtorEq, Nat.reducePow, Int.reducePow, ac_registers_twin_L1]
          refine ⟨hlt, Weak.cv (hv := []) [40992] (fun j => if j = 9100 then 41024 else j) ?_ rfl⟩
          simp (config := { maxSteps := 2000000 }) (disch := (first | omega | (simp only [lens, lenm]; omega))) only [go_sem, ↓reduceIte, Nat.reduceAdd, Nat.reduceEqDiff, Nat.reduceSub, Nat.reduceMul, Nat.reduceLT, Nat.reduceLeDiff, Nat.reduceBEq, Int.reduceEq, Int.reduceLT, Int.reduceLE, Int.reduceToNat, Int.reduceNeg, Int.reduceAdd, Int.reduceSub, Int.reduceMul, Int.reduceMod, Int.reduceDiv, reduceCtorEq, Nat.reducePow, Int.reducePow, take_s (d := []) hlt]
          rfl
        · have e : i = b0.length := by omega
          subst e
          simp (config := { maxSteps := 2000000 }) (disch := (first | omega | (simp only [lens, lenm]; omega))) only [go_sem, ↓reduceIte, Nat.reduceAdd, Nat.reduceEqDiff, Nat.reduceSub, Nat.reduceMul, Nat.reduceLT, Nat.reduceLeDiff, Nat.reduceBEq, Int.reduceEq, Int.reduceLT, Int.reduceLE, Int.reduceToNat, Int.reduceNeg, Int.reduceAdd, Int.reduceSub, Int.reduceMul, Int.reduceMod, Int.reduceDiv, reduceCtorEq, Nat.reducePow, Int.reducePow, ac_registers_twin_L1]
          refine Weak.rd (fun j => if j = 9000 then 49216 else if j = 9001 then 9100 else j) ?_ ?_ rfl
          all_goals simp (config := { maxSteps := 2000000 }) (disch := (first | omega | (simp only [lens, lenm]; omega))) only [go_sem, ↓reduceIte, Nat.reduceAdd, Nat.reduceEqDiff, Nat.reduceSub, Nat.reduceMul, Nat.reduceLT, Nat.reduceLeDiff, Nat.reduceBEq, Int.reduceEq, Int.reduceLT, Int.reduceLE, Int.reduceToNat, Int.reduceNeg, Int.reduceAdd, Int.reduceSub, Int.reduceMul, Int.reduceMod, Int.reduceDiv, reduceCtorEq, Nat.reducePow, Int.reducePow]
    · simp (config := { maxSteps := 2000000 }) (disch := (first | omega | (simp only [lens, lenm]; omega))) only [go_sem, ↓reduceIte, Nat.reduceAdd, Nat.reduceEqDiff, Nat.reduceSub, Nat.reduceMul, Nat.reduceLT, Nat.reduceLeDiff, Nat.reduceBEq, Int.reduceEq, Int.reduceLT, Int.reduceLE, Int.reduceToNat, Int.reduceNeg, Int.reduceAdd, Int.reduceSub, Int.reduceMul, Int.reduceMod, Int.reduceDiv, reduceCtorEq, Nat.reducePow, Int.reducePow, ac_registers_twin_L0]
      refine loop_upto b1.length (fun i => [(2, .ref 4112 0 0), (3, .ref 8240 0 0), (15, .t (.int .i64 1)), (13, .t (T.sl [T.sl (List.map bsT b0), T.sl (List.map bsT b1)])), (14, .t (.int .i64 2)), (6, .sl 9100 0 i), (21, .t (.int .i64 (i : Nat))), (19, .t (.sl (b1.map bsT))), (20, .t (.int .i64 b1.length))]) (fun i => [(9100, .live 1 (((b1.take i).map bsT).map V.t) true false), (8240, .live 2 [.agg [.sl 9000 0 1, .t (.int .i64 u)]] true true), (9000, .live 1 [.sl 9001 0 b0.length] true false), (9001, .live 1 ((b0.map bsT).map V.t) true false), (4112, .live 2 [.agg [.nil, .t (.int .i64 0)]] true true)]) ?_ (fun i hi => ?_)
      · refine Weak.cv0 (hv := [(9100, .live 1 [] true false)]) (ho := [(8240, .live 2 [.agg [.sl 9000 0 1, .t (.int .i64 u)]] true true), (9000, .live 1 [.sl 9001 0 b0.length] true false), (9001, .live 1 ((b0.map bsT).map V.t) true false), (4112, .live 2 [.agg [.nil, .t (.int .i64 0)]] true true)]) id ?_ ?_ rfl rfl
        all_goals simp (config := { maxSteps := 2000000 }) (disch := (first | omega | (simp only [lens, lenm]; omega))) only [go_sem, ↓reduceIte, Nat.reduceAdd, Nat.reduceEqDiff, Nat.reduceSub, Nat.reduceMul, Nat.reduceLT, Nat.reduceLeDiff, Nat.reduceBEq, Int.reduceEq, Int.reduceLT, Int.reduceLE, Int.reduceToNat, Int.reduceNeg, Int.reduceAdd, Int.reduceSub, Int.reduceMul, Int.reduceMod, Int.reduceDiv, reduceCtorEq, Nat.reducePow, Int.reducePow, id, List.map_cons, List.map_nil]
      · have hm := modL_get m1 i
        by_cases hlt : i < b1.length
        · simp (config := { maxSteps := 2000000 }) (disch := (first | omega | (simp only [lens, lenm]; omega))) only [go_sem, ↓reduceIte, Nat.reduceAdd, Nat.reduceEqDiff, Nat.reduceSub, Nat.reduceMul, Nat.reduceLT, Nat.reduceLeDiff, Nat.reduceBEq, Int.reduceEq, Int.reduceLT, Int.reduceLE, Int.reduceToNat, Int.reduceNeg, Int.reduceAdd, Int.reduceSub, Int.reduceMul, Int.reduceMod, Int.reduceDiv, reduceCtorEq, Nat.reducePow, Int.reducePow, ac_registers_twin_L1]
          refine ⟨hlt, Weak.cv (hv := []) [40992] (fun j => if j = 9100 then 41024 else j) ?_ rfl⟩
          simp (config := { maxSteps := 2000000 }) (disch := (first | omega | (simp only [lens, lenm]; omega))) only [go_sem, ↓reduceIte, Nat.reduceAdd, Nat.reduceEqDiff, Nat.reduceSub, Nat.reduceMul, Nat.reduceLT, Nat.reduceLeDiff, Nat.reduceBEq, Int.reduceEq, Int.reduceLT, Int.reduceLE, Int.reduceToNat, Int.reduceNeg, Int.reduceAdd, Int.reduceSub, Int.reduceMul, Int.reduceMod, Int.reduceDiv, reduceCtorEq, Nat.reducePow, Int.reducePow, take_s (d := []) hlt]
          rfl
        · have e : i = b1.length := by omega
          subst e
          simp (config := { maxSteps := 2000000 }) (disch := (first | omega | (simp only [lens, lenm]; omega))) only [go_sem, ↓reduceIte, Nat.reduceAdd, Nat.reduceEqDiff, Nat.reduceSub, Nat.reduceMul, Nat.reduceLT, Nat.reduceLeDiff, Nat.reduceBEq, Int.reduceEq, Int.reduceLT, Int.reduceLE, Int.reduceToNat, Int.reduceNeg, Int.reduceAdd, Int.reduceSub, Int.reduceMul, Int.reduceMod, Int.reduceDiv, reduceCtorEq, Nat.reducePow, Int.reducePow, ac_registers_twin_L1]
          refine Weak.rd (fun j => if j = 9000 then 49216 else if j = 9002 then 9100 else j) ?_ ?_ rfl
          all_goals simp (config := { maxSteps := 2000000 }) (disch := (first | omega | (simp only [lens, lenm]; omega))) only [go_sem, ↓reduceIte, Nat.reduceAdd, Nat.reduceEqDiff, Nat.reduceSub, Nat.reduceMul, Nat.reduceLT, Nat.reduceLeDiff, Nat.reduceBEq, Int.reduceEq, Int.reduceLT, Int.reduceLE, Int.reduceToNat, Int.reduceNeg, Int.reduceAdd, Int.reduceSub, Int.reduceMul, Int.reduceMod, Int.reduceDiv, reduceCtorEq, Nat.reducePow, Int.reducePow]
    · simp (config := { maxSteps := 2000000 }) (disch := (first | omega | (simp only [lens, lenm]; omega))) only [go_sem, ↓reduceIte, Nat.reduceAdd, Nat.reduceEqDiff, Nat.reduceSub, Nat.reduceMul, Nat.reduceLT, Nat.reduceLeDiff, Nat.reduceBEq, Int.reduceEq, Int.reduceLT, Int.reduceLE, Int.reduceToNat, Int.reduceNeg, Int.reduceAdd, Int.reduceSub, Int.reduceMul, Int.reduceMod, Int.reduceDiv, reduceCtorEq, Nat.reducePow, Int.reducePow, ac_registers_twin_L0]
theorem w_ref8_Copy0 (tab : Tab) (gl : Gl) (n1 : Nat) (u : Int) : (ac_ref8_Copy n1).wp tab gl (zipF 0 [.t (regT [] u)]) (zipF 0 []) (resF [] [(2, some (2, true))] 0 (fun r o => r = .agg [.nil, .t (.int .i64 u)] ∧ o = [])) := by
  simp (config := { maxSteps := 2000000 }) (disch := (first | omega | (simp only [lens, lenm]; omega))) only [go_sem, ↓reduceIte, Nat.reduceAdd, Nat.reduceEqDiff, Nat.reduceSub, Nat.reduceMul, Nat.reduceLT, Nat.reduceLeDiff, Nat.reduceBEq, Int.reduceEq, Int.reduceLT, Int.reduceLE, Int.reduceToNat, Int.reduceNeg, Int.reduceAdd, Int.reduceSub, Int.reduceMul, Int.reduceMod, Int.reduceDiv, reduceCtorEq, Nat.reducePow, Int.reducePow, ac_ref8_Copy, List.map_nil]
  refine loop_fuel 1 ?_
  simp (config := { maxSteps := 2000000 }) (disch := (first | omega | (simp only [lens, lenm]; omega))) only [go_sem, ↓reduceIte, Nat.reduceAdd, Nat.reduceEqDiff, Nat.reduceSub, Nat.reduceMul, Nat.reduceLT, Nat.reduceLeDiff, Nat.reduceBEq, Int.reduceEq, Int.reduceLT, Int.reduceLE, Int.reduceToNat, Int.reduceNeg, Int.reduceAdd, Int.reduceSub, Int.reduceMul, Int.reduceMod, Int.reduceDiv, reduceCtorEq, Nat.reducePow, Int.reducePow, loopN_succ, ac_ref8_Copy_L0]
def ct_copy : Ct where
  α := List UInt8
  as x := [.t (.sl (x.map byteT))]
  ins _ := []
  pre x := x.length < 1000000000
  r x := .sl 0 0 x.length
  outs x := [.live 1 ((x.map byteT).map V.t) true false]
  inj := by
    intro a b h _
    simp [mapB_inj] at h
    subst h; exact ⟨rfl, rfl⟩
theorem copy_eq {bs : List UInt8} (h : bs.length < 1000000000) : ct_copy.fs [.t (.sl (bs.map byteT))] [] = some (.sl 0 0 bs.length, [.live 1 ((bs.map byteT).map V.t) true false]) := ct_copy.eq bs h
theorem w_ref8_Copy2 (tab : Tab) (gl : Gl) (n1 : Nat) (h1 : tab.look n1 = some ct_copy.fs) (b0 b1 : Bank) (u : Int) (m0 : modL b0) (m1 : modL b1) : (ac_ref8_Copy n1).wp tab gl (zipF 0 [.t (regT [b0, b1] u)]) (zipF 0 []) (resF [] [(2, some (2, true))] 0 (fun r o => r = .agg [.sl 0 0 2, .t (.int .i64 u)] ∧ o = [.live 1 [.sl 1 0 b0.length, .sl 2 0 b1.length] true false, .live 1 ((b0.map bsT).map V.t) true false, .live 1 ((b1.map bsT).map V.t) true false])) := by
  simp (config := { maxSteps := 2000000 }) (disch := (first | omega | (simp only [lens, lenm]; omega))) only [go_sem, ↓reduceIte, Nat.reduceAdd, Nat.reduceEqDiff, Nat.reduceSub, Nat.reduceMul, Nat.reduceLT, Nat.reduceLeDiff, Nat.reduceBEq, Int.reduceEq, Int.reduceLT, Int.reduceLE, Int.reduceToNat, Int.reduceNeg, Int.reduceAdd, Int.reduceSub, Int.reduceMul, Int.reduceMod, Int.reduceDiv, reduceCtorEq, Nat.reducePow, Int.reducePow, ac_ref8_Copy, List.map_nil, List.map_cons]
  have hl0 := m0.1
  have hl1 := m1.1
  refine loop_upto 2 (fun k => match k with | 0 => [(2, .ref 4112 0 0), (3, .ref 8240 0 0), (4, .t (.int .i64 0)), (1, .ref 4096 0 0)] | 1 => [(2, .ref 4112 0 0), (3, .ref 8240 0 0), (4, .t (.int .i64 1)), (1, .ref 4096 0 0)] | _ => [(2, .ref 4112 0 0), (3, .ref 8240 0 0), (4, .t (.int .i64 2)), (1, .ref 4096 0 0)]) (fun k => match k with | 0 => [(8240, .live 2 [.agg [.nil, .t (.int .i64 u)]] true true), (4112, .live 2 [.agg [.nil, .t (.int .i64 0)]] true true), (4096, .live 2 [.t (.agg [T.sl [T.sl (List.map bsT b0), T.sl (List.map bsT b1)], .int .i64 u])] true true)] | 1 => [(8240, .live 2 [.agg [.sl 9000 0 1, .t (.int .i64 u)]] true true), (9000, .live 1 [.sl 9001 0 b0.length] true false), (9001, .live 1 ((b0.map bsT).map V.t) true false), (4112, .live 2 [.agg [.nil, .t (.int .i64 0)]] true true), (4096, .live 2 [.t (.agg [T.sl [T.sl (List.map bsT b0), T.sl (List.map bsT b1)], .int .i64 u])] true true)] | _ => [(8240, .live 2 [.agg [.sl 9000 0 2, .t (.int .i64 u)]] true true), (9000, .live 1 [.sl 9001 0 b0.length, .sl 9002 0 b1.length] true false), (9001, .live 1 ((b0.map bsT).map V.t) true false), (9002, .live 1 ((b1.map bsT).map V.t) true false), (4112, .live 2 [.agg [.nil, .t (.int .i64 0)]] true true), (4096, .live 2 [.t (.agg [T.sl [T.sl (List.map bsT b0), T.sl (List.map bsT b1)], .int .i64 u])] true true)]) ?_ (fun k hk => ?_)
  · refine Weak.rd id ?_ ?_ rfl
    all_goals simp (config := { maxSteps := 2000000 }) (disch := (first | omega | (simp only [lens, lenm]; omega))) only [go_sem, ↓reduceIte, Nat.reduceAdd, Nat.reduceEqDiff, Nat.reduceSub, Nat.reduceMul, Nat.reduceLT, Nat.reduceLeDiff, Nat.reduceBEq, Int.reduceEq, Int.reduceLT, Int.reduceLE, Int.reduceToNat, Int.reduceNeg, Int.reduceAdd, Int.reduceSub, Int.reduceMul, Int.reduceMod, Int.reduceDiv, reduceCtorEq, Nat.reducePow, Int.reducePow, id]
  · rcases (show k = 0 ∨ k = 1 ∨ k = 2 by omega) with rfl | rfl | rfl
    · simp (config := { maxSteps := 2000000 }) (disch := (first | omega | (simp only [lens, lenm]; omega))) only [go_sem, ↓reduceIte, Nat.reduceAdd, Nat.reduceEqDiff, Nat.reduceSub, Nat.reduceMul, Nat.reduceLT, Nat.reduceLeDiff, Nat.reduceBEq, Int.reduceEq, Int.reduceLT, Int.reduceLE, Int.reduceToNat, Int.reduceNeg, Int.reduceAdd, Int.reduceSub, Int.reduceMul, Int.reduceMod, Int.reduceDiv, reduceCtorEq, Nat.reducePow, Int.reducePow, ac_ref8_Copy_L0, h1, copy_eq]
      refine loop_upto b0.length (fun i => [(2, .ref 4112 0 0), (3, .ref 8240 0 0), (4, .t (.int .i64 0)), (1, .ref 4096 0 0), (5, .sl 9100 0 i), (6, .t (.int .i64 (i : Nat)))]) (fun i => [(9100, .live 1 (((b0.take i).map bsT).map V.t) true false), (8240, .live 2 [.agg [.nil, .t (.int .i64 u)]] true true), (4112, .live 2 [.agg [.nil, .t (.int .i64 0)]] true true), (4096, .live 2 [.t (.agg [T.sl [T.sl (List.map bsT b0), T.sl (List.map bsT b1)], .int .i64 u])] true true)]) ?_ (fun i hi => ?_)
      · refine Weak.cv0 (hv := [(9100, .live 1 [] true false)]) (ho := [(8240, .live 2 [.agg [.nil, .t (.int .i64 u)]] true true), (4112, .live 2 [.agg [.nil, .t (.int .i64 0)]] true true), (4096, .live 2 [.t (.agg [T.sl [T.sl (List.map bsT b0), T.sl (List.map bsT b1)], .int .i64 u])] true true)]) id ?_ ?_ rfl rfl
        all_goals simp (config := { maxSteps := 2000000 }) (disch := (first | omega | (simp only [lens, lenm]; omega))) only [go_sem, ↓reduceIte, Nat.reduceAdd, Nat.reduceEqDiff, Nat.reduceSub, Nat.reduceMul, Nat.reduceLT, Nat.reduceLeDiff, Nat.reduceBEq, Int.reduceEq, Int.reduceLT, Int.reduceLE, Int.reduceToNat, Int.reduceNeg, Int.reduceAdd, Int.reduceSub, Int.reduceMul, Int.reduceMod, Int.reduceDiv, reduceCtorEq, Nat.reducePow, Int.reducePow, id, List.map_cons, List.map_nil]
      · have hm := modL_get m0 i
        by_cases hlt : i < b0.length
        · simp (config := { maxSteps := 2000000 }) (disch := (first | omega | (simp only [lens, lenm]; omega))) only [go_sem, ↓reduceIte, Nat.reduceAdd, Nat.reduceEqDiff, Nat.reduceSub, Nat.reduceMul, Nat.reduceLT, Nat.reduceLeDiff, Nat.reduceBEq, Int.reduceEq, Int.reduceLT, Int.reduceLE, Int.reduceToNat, Int.reduceNeg, Int.reduceAdd, Int.reduceSub, Int.reduceMul, Int.reduceMod, Int.reduceDiv, reduceCtorEq, Nat.reducePow, Int.reducePow, ac_ref8_Copy_L1, h1, copy_eq]
          refine ⟨hlt, Weak.cv (hv := []) [41104] (fun j => if j = 9100 then 41136 else j) ?_ rfl⟩
          simp (config := { maxSteps := 2000000 }) (disch := (first | omega | (simp only [lens, lenm]; omega))) only [go_sem, ↓reduceIte, Nat.reduceAdd, Nat.reduceEqDiff, Nat.reduceSub, Nat.reduceMul, Nat.reduceLT, Nat.reduceLeDiff, Nat.reduceBEq, Int.reduceEq, Int.reduceLT, Int.reduceLE, Int.reduceToNat, Int.reduceNeg, Int.reduceAdd, Int.reduceSub, Int.reduceMul, Int.reduceMod, Int.reduceDiv, reduceCtorEq, Nat.reducePow, Int.reducePow, take_s (d := []) hlt]
          rfl
        · have e : i = b0.length := by omega
          subst e
          simp (config := { maxSteps := 2000000 }) (disch := (first | omega | (simp only [lens, lenm]; omega))) only [go_sem, ↓reduceIte, Nat.reduceAdd, Nat.reduceEqDiff, Nat.reduceSub, Nat.reduceMul, Nat.reduceLT, Nat.reduceLeDiff, Nat.reduceBEq, Int.reduceEq, Int.reduceLT, Int.reduceLE, Int.reduceToNat, Int.reduceNeg, Int.reduceAdd, Int.reduceSub, Int.reduceMul, Int.reduceMod, Int.reduceDiv, reduceCtorEq, Nat.reducePow, Int.reducePow, ac_ref8_Copy_L1, h1, copy_eq]
          refine Weak.rd (fun j => if j = 9000 then 45120 else if j = 9001 then 9100 else j) ?_ ?_ rfl
          all_goals simp (config := { maxSteps := 2000000 }) (disch := (first | omega | (simp only [lens, lenm]; omega))) only [go_sem, ↓reduceIte, Nat.reduceAdd, Nat.reduceEqDiff, Nat.reduceSub, Nat.reduceMul, Nat.reduceLT, Nat.reduceLeDiff, Nat.reduceBEq, Int.reduceEq, Int.reduceLT, Int.reduceLE, Int.reduceToNat, Int.reduceNeg, Int.reduceAdd, Int.reduceSub, Int.reduceMul, Int.reduceMod, Int.reduceDiv, reduceCtorEq, Nat.reducePow, Int.reducePow]
    · simp (config := { maxSteps := 2000000 }) (disch := (first | omega | (simp only [lens, lenm]; omega))) only [go_sem, ↓reduceIte, Nat.reduceAdd, Nat.reduceEqDiff, Nat.reduceSub, Nat.reduceMul, Nat.reduceLT, Nat.reduceLeDiff, Nat.reduceBEq, Int.reduceEq, Int.reduceLT, Int.reduceLE, Int.reduceToNat, Int.reduceNeg, Int.reduceAdd, Int.reduceSub, Int.reduceMul, Int.reduceMod, Int.reduceDiv, reduceCtorEq, Nat.reducePow, Int.reducePow, ac_ref8_Copy_L0, h1, copy_eq]
      refine loop_upto b1.length (fun i => [(2, .ref 4112 0 0), (3, .ref 8240 0 0), (4, .t (.int .i64 1)), (1, .ref 4096 0 0), (5, .sl 9100 0 i), (6, .t (.int .i64 (i : Nat)))]) (fun i => [(9100, .live 1 (((b1.take i).map bsT).map V.t) true false), (8240, .live 2 [.agg [.sl 9000 0 1, .t (.int .i64 u)]] true true), (9000, .live 1 [.sl 9001 0 b0.length] true false), (9001, .live 1 ((b0.map bsT).map V.t) true false), (4112, .live 2 [.agg [.nil, .t (.int .i64 0)]] true true), (4096, .live 2 [.t (.agg [T.sl [T.sl (List.map bsT b0), T.sl (List.map bsT b1)], .int .i64 u])] true true)]) ?_ (fun i hi => ?_)
      · refine Weak.cv0 (hv := [(9100, .live 1 [] true false)]) (ho := [(8240, .live 2 [.agg [.sl 9000 0 1, .t (.int .i64 u)]] true true), (9000, .live 1 [.sl 9001 0 b0.length] true false), (9001, .live 1 ((b0.map bsT).map V.t) true false), (4112, .live 2 [.agg [.nil, .t (.int .i64 0)]] true true), (4096, .live 2 [.t (.agg [T.sl [T.sl (List.map bsT b0), T.sl (List.map bsT b1)], .int .i64 u])] true true)]) id ?_ ?_ rfl rfl
        all_goals simp (config := { maxSteps := 2000000 }) (disch := (first | omega | (simp only [lens, lenm]; omega))) only [go_sem, ↓reduceIte, Nat.reduceAdd, Nat.reduceEqDiff, Nat.reduceSub, Nat.reduceMul, Nat.reduceLT, Nat.reduceLeDiff, Nat.reduceBEq, Int.reduceEq, Int.reduceLT, Int.reduceLE, Int.reduceToNat, Int.reduceNeg, Int.reduceAdd, Int.reduceSub, Int.reduceMul, Int.reduceMod, Int.reduceDiv, reduceCtorEq, Nat.reducePow, Int.reducePow, id, List.map_cons, List.map_nil]
      · have hm := modL_get m1 i
        by_cases hlt : i < b1.length
        · simp (config := { maxSteps := 2000000 }) (disch := (first | omega | (simp only [lens, lenm]; omega))) only [go_sem, ↓reduceIte, Nat.reduceAdd, Nat.reduceEqDiff, Nat.reduceSub, Nat.reduceMul, Nat.reduceLT, Nat.reduceLeDiff, Nat.reduceBEq, Int.reduceEq, Int.reduceLT, Int.reduceLE, Int.reduceToNat, Int.reduceNeg, Int.reduceAdd, Int.reduceSub, Int.reduceMul, Int.reduceMod, Int.reduceDiv, reduceCtorEq, Nat.reducePow, Int.reducePow, ac_ref8_Copy_L1, h1, copy_eq]
          refine ⟨hlt, Weak.cv (hv := []) [41104] (fun j => if j = 9100 then 41136 else j) ?_ rfl⟩
          simp (config := { maxSteps := 2000000 }) (disch := (first | omega | (simp only [lens, lenm]; omega))) only [go_sem, ↓reduceIte, Nat.reduceAdd, Nat.reduceEqDiff, Nat.reduceSub, Nat.reduceMul, Nat.reduceLT, Nat.reduceLeDiff, Nat.reduceBEq, Int.reduceEq, Int.reduceLT, Int.reduceLE, Int.reduceToNat, Int.reduceNeg, Int.reduceAdd, Int.reduceSub, Int.reduceMul, Int.reduceMod, Int.reduceDiv, reduceCtorEq, Nat.reducePow, Int.reducePow, take_s (d := []) hlt]
          rfl
        · have e : i = b1.length := by omega
          subst e
          simp (config := { maxSteps := 2000000 }) (disch := (first | omega | (simp only [lens, lenm]; omega))) only [go_sem, ↓reduceIte, Nat.reduceAdd, Nat.reduceEqDiff, Nat.reduceSub, Nat.reduceMul, Nat.reduceLT, Nat.reduceLeDiff, Nat.reduceBEq, Int.reduceEq, Int.reduceLT, Int.reduceLE, Int.reduceToNat, Int.reduceNeg, Int.reduceAdd, Int.reduceSub, Int.reduceMul, Int.reduceMod, Int.reduceDiv, reduceCtorEq, Nat.reducePow, Int.reducePow, ac_ref8_Copy_L1, h1, copy_eq]
          refine Weak.rd (fun j => if j = 9000 then 45120 else if j = 9002 then 9100 else j) ?_ ?_ rfl
          all_goals simp (config := { maxSteps := 2000000 }) (disch := (first | omega | (simp only [lens, lenm]; omega))) only [go_sem, ↓reduceIte, Nat.reduceAdd, Nat.reduceEqDiff, Nat.reduceSub, Nat.reduceMul, Nat.reduceLT, Nat.reduceLeDiff, Nat.reduceBEq, Int.reduceEq, Int.reduceLT, Int.reduceLE, Int.reduceToNat, Int.reduceNeg, Int.reduceAdd, Int.reduceSub, Int.reduceMul, Int.reduceMod, Int.reduceDiv, reduceCtorEq, Nat.reducePow, Int.reducePow]
    · simp (config := { maxSteps := 2000000 }) (disch := (first | omega | (simp only [lens, lenm]; omega))) only [go_sem, ↓reduceIte, Nat.reduceAdd, Nat.reduceEqDiff, Nat.reduceSub, Nat.reduceMul, Nat.reduceLT, Nat.reduceLeDiff, Nat.reduceBEq, Int.reduceEq, Int.reduceLT, Int.reduceLE, Int.reduceToNat, Int.reduceNeg, Int.reduceAdd, Int.reduceSub, Int.reduceMul, Int.reduceMod, Int.reduceDiv, reduceCtorEq, Nat.reducePow, Int.reducePow, ac_ref8_Copy_L0, h1, copy_eq]
def twR (bk : List Bank) (u : Int) : V := match bk with
  | [_, _] => .agg [.sl 0 0 2, .t (.int .i64 u)]
  | _ => .agg [.nil, .t (.int .i64 u)]
def twO (bk : List Bank) : List Ob := match bk with
  | [b0, b1] => [.live 1 [.sl 1 0 b0.length, .sl 2 0 b1.length] true false, .live 1 ((b0.map bsT).map V.t) true false, .live 1 ((b1.map bsT).map V.t) true false]
  | _ => []
def RM (bk : List Bank) : Prop := RK bk ∧ ∀ b ∈ bk, modL b
def ct_twin : Ct where
  α := List Bank × Int
  as x := [.t (regT x.1 x.2)]
  ins _ := []
  pre x := RM x.1
  r x := twR x.1 x.2
  outs x := twO x.1
  inj := by
    rintro ⟨a, u⟩ ⟨b, v⟩ h _
    simp only [List.cons.injEq, V.t.injEq, and_true] at h
    obtain ⟨rfl, rfl⟩ := regT_inj h
    exact ⟨rfl, rfl⟩
theorem twin_eq0 {u : Int} : ct_twin.fs [.t (.agg [.sl [], .int .i64 u])] [] = some (.agg [.nil, .t (.int .i64 u)], []) := ct_twin.eq ([], u) ⟨.nil, by simp⟩
theorem twin_eq2 {b0 b1 : Bank} {u : Int} (h : RM [b0, b1]) : ct_twin.fs [.t (.agg [.sl [.sl (b0.map bsT), .sl (b1.map bsT)], .int .i64 u])] [] =
    some (.agg [.sl 0 0 2, .t (.int .i64 u)], [.live 1 [.sl 1 0 b0.length, .sl 2 0 b1.length] true false, .live 1 ((b0.map bsT).map V.t) true false, .live 1 ((b1.map bsT).map V.t) true false]) := ct_twin.eq ([b0, b1], u) h
end Go.Eng
end
section
set_option maxRecDepth 20000
set_option maxHeartbeats 16000000
namespace Go.Eng
def newV (i : Nat) : UInt8 := if 12 ≤ i then 255 else 0
theorem newV_a {i : Nat} (h : i < 12) : newV i = 0 := if_neg (by omega)
theorem newV_b {i : Nat} (h : ¬ i < 12) : newV i = 255 := if_pos (by omega)
def newB (a : Nat) : Bank := (List.range 16).map fun i => List.replicate (szA a) (newV i)
theorem newB_take {a i : Nat} (h : i < 16) : (newB a).take (i + 1) = (newB a).take i ++ [List.replicate (szA a) (newV i)] := by
  rw [take_s (d := []) (by simp [newB]; omega)]
  congr 2
  simp [newB, List.getD, h]
theorem newB_all {a : Nat} : (newB a).take 16 = newB a := List.take_of_length_le (by simp [newB])
theorem newB_length {a : Nat} : List.length (newB a) = 16 := by simp [newB]
def newBk (s : Int) : List Bank := if s % 4 = 0 then [] else [if s % 2 = 1 then newB 0 else [], if s / 2 % 2 = 1 then newB 1 else []]
theorem newBk_of {s : Int} (h : ¬ s % 4 = 0) : newBk s = [if s % 2 = 1 then newB 0 else [], if s / 2 % 2 = 1 then newB 1 else []] := if_neg h
def ct_size : Ct where
  α := Int
  as x := [.t (.int .i64 x)]
  ins _ := []
  pre _ := True
  r x := .t (.int .i64 (if x = 0 then 20 else if x = 1 then 32 else 0))
  outs _ := []
  inj := by
    intro a b h _
    simp at h
    subst h; exact ⟨rfl, rfl⟩
theorem size_eq0 : ct_size.fs [.t (.int .i64 0)] [] = some (.t (.int .i64 20), []) := ct_size.eq (0 : Int) trivial
theorem size_eq1 : ct_size.fs [.t (.int .i64 1)] [] = some (.t (.int .i64 32), []) := ct_size.eq (1 : Int) trivial
def ct_fill : Ct where
  α := Nat × UInt8
  as x := [.t (.int .i64 x.1), .t (byteT x.2)]
  ins _ := []
  pre x := x.1 = 20 ∨ x.1 = 32
  r x := .sl 0 0 x.1
  outs x := [.live 1 (((List.replicate x.1 x.2).map byteT).map V.t) true false]
  inj := by
    rintro ⟨a, b⟩ ⟨c, d⟩ h _
    simp [byteT_eq, Int.natCast_inj] at h
    obtain ⟨rfl, rfl⟩ := h
    exact ⟨rfl, rfl⟩
theorem fill_eq20 {x : UInt8} : ct_fill.fs [.t (.int .i64 20), .t (byteT x)] [] = some (.sl 0 0 20, [.live 1 (((List.replicate 20 x).map byteT).map V.t) true false]) := ct_fill.eq (20, x) (.inl rfl)
theorem fill_eq32 {x : UInt8} : ct_fill.fs [.t (.int .i64 32), .t (byteT x)] [] = some (.sl 0 0 32, [.live 1 (((List.replicate 32 x).map byteT).map V.t) true false]) := ct_fill.eq (32, x) (.inr rfl)
theorem w_ref8_initial (tab : Tab) (gl : Gl) (n1 n2 : Nat) (h1 : tab.look n1 = some ct_size.fs) (h2 : tab.look n2 = some ct_fill.fs) (a : Nat) (ha : a < 2) (i : Nat) : (ac_ref8_initial n1 n2).wp tab gl (zipF 0 [.t (.int .i64 a), .t (.int .i64 i)]) (zipF 0 []) (resF [] [(4, none)] 0 (fun r o => r = .sl 0 0 (szA a) ∧ o = [.live 1 (((List.replicate (szA a) (newV i)).map byteT).map V.t) true false])) := by
  rcases (show a = 0 ∨ a = 1 by omega) with rfl | rfl <;> by_cases hi : i < 12
  all_goals simp (config := { maxSteps := 2000000 }) (disch := (first | omega | (simp only [lens, lenm]; omega))) only [go_sem, ↓reduceIte, Nat.reduceAdd, Nat.reduceEqDiff, Nat.reduceSub, Nat.reduceMul, Nat.reduceLT, Nat.reduceLeDiff, Nat.reduceBEq, Int.reduceEq, Int.reduceLT, Int.reduceLE, Int.reduceToNat, Int.reduceNeg, Int.reduceAdd, Int.reduceSub, Int.reduceMul, Int.reduceMod, Int.reduceDiv, reduceCtorEq, Nat.reducePow, Int.reducePow, ac_ref8_initial, h1, h2, size_eq0, size_eq1, fill_eq20, fill_eq32, szA]
  all_goals first | rw [newV_a hi] | rw [newV_b hi]
def ct_init : Ct where
  α := Nat × Nat
  as x := [.t (.int .i64 x.1), .t (.int .i64 x.2)]
  ins _ := []
  pre x := x.1 < 2
  r x := .sl 0 0 (szA x.1)
  outs x := [.live 1 (((List.replicate (szA x.1) (newV x.2)).map byteT).map V.t) true false]
  inj := by
    rintro ⟨a, b⟩ ⟨c, d⟩ h _
    simp [Int.natCast_inj] at h
    obtain ⟨rfl, rfl⟩ := h
    exact ⟨rfl, rfl⟩
theorem init_eq0 {i : Nat} : ct_init.fs [.t (.int .i64 0), .t (.int .i64 i)] [] = some (.sl 0 0 20, [.live 1 (((List.replicate 20 (newV i)).map byteT).map V.t) true false]) := ct_init.eq (0, i) (by simp [ct_init])
theorem init_eq1 {i : Nat} : ct_init.fs [.t (.int .i64 1), .t (.int .i64 i)] [] = some (.sl 0 0 32, [.live 1 (((List.replicate 32 (newV i)).map byteT).map V.t) true false]) := ct_init.eq (1, i) (by simp [ct_init])
theorem w_registers_New0 (tab : Tab) (gl : Gl) (n1 n2 : Nat) (s : Int) (h3 : s % 4 = 0) : (ac_registers_New n1 n2).wp tab gl (zipF 0 [.t (.int .i64 s)]) (zipF 0 []) (resF [] [(2, some (2, true))] 0 (fun r o => r = .agg [.nil, .t (.int .i64 0)] ∧ o = [])) := by
  simp (config := { maxSteps := 2000000 }) (disch := (first | omega | (simp only [lens, lenm]; omega))) only [go_sem, ↓reduceIte, Nat.reduceAdd, Nat.reduceEqDiff, Nat.reduceSub, Nat.reduceMul, Nat.reduceLT, Nat.reduceLeDiff, Nat.reduceBEq, Int.reduceEq, Int.reduceLT, Int.reduceLE, Int.reduceToNat, Int.reduceNeg, Int.reduceAdd, Int.reduceSub, Int.reduceMul, Int.reduceMod, Int.reduceDiv, reduceCtorEq, Nat.reducePow, Int.reducePow, ac_registers_New, h3]
theorem w_ref8_New0 (tab : Tab) (gl : Gl) (n1 : Nat) (s : Int) (h3 : s % 4 = 0) : (ac_ref8_New n1).wp tab gl (zipF 0 [.t (.int .i64 s)]) (zipF 0 []) (resF [] [(2, some (2, true))] 0 (fun r o => r = .agg [.nil, .t (.int .i64 0)] ∧ o = [])) := by
  simp (config := { maxSteps := 2000000 }) (disch := (first | omega | (simp only [lens, lenm]; omega))) only [go_sem, ↓reduceIte, Nat.reduceAdd, Nat.reduceEqDiff, Nat.reduceSub, Nat.reduceMul, Nat.reduceLT, Nat.reduceLeDiff, Nat.reduceBEq, Int.reduceEq, Int.reduceLT, Int.reduceLE, Int.reduceToNat, Int.reduceNeg, Int.reduceAdd, Int.reduceSub, Int.reduceMul, Int.reduceMod, Int.reduceDiv, reduceCtorEq, Nat.reducePow, Int.reducePow, ac_ref8_New, h3]
theorem w_registers_New (tab : Tab) (gl : Gl) (n1 n2 : Nat) (h1 : tab.look n1 = some ct_size.fs) (h2 : tab.look n2 = some ct_fill.fs) (s : Int) (h3 : ¬ s % 4 = 0) : (ac_registers_New n1 n2).wp tab gl (zipF 0 [.t (.int .i64 s)]) (zipF 0 []) (resF [] [(2, some (2, true))] 0 (fun r o => r = twR (newBk s) 0 ∧ o = twO (newBk s))) := by
  have h4 : (s % 4 == 0) = false := by simpa using h3
  have hf1 : s.fdiv 1 = s := Int.fdiv_one s
  have hf2 : s.fdiv 2 = s / 2 := Int.fdiv_eq_ediv_of_nonneg s (by omega)
  have hc0 : s % 2 = 0 ∨ s % 2 = 1 := by omega
  have hc1 : s / 2 % 2 = 0 ∨ s / 2 % 2 = 1 := by omega
  rcases hc0 with c0 | c0 <;> rcases hc1 with c1 | c1
  · exact absurd (by omega) h3
  · rw [newBk_of h3, if_neg (by omega), if_pos (by omega)]
    simp (config := { maxSteps := 2000000 }) (disch := (first | omega | (simp only [lens, lenm]; omega))) only [go_sem, ↓reduceIte, Nat.reduceAdd, Nat.reduceEqDiff, Nat.reduceSub, Nat.reduceMul, Nat.reduceLT, Nat.reduceLeDiff, Nat.reduceBEq, Int.reduceEq, Int.reduceLT, Int.reduceLE, Int.reduceToNat, Int.reduceNeg, Int.reduceAdd, Int.reduceSub, Int.reduceMul, Int.reduceMod, Int.reduceDiv, reduceCtorEq, Nat.reducePow, Int.reducePow, ac_registers_New, h4, hf1, hf2]
    refine loop_upto 2 (fun k => match k with | 0 => [(0, .t (.int .i64 s)), (2, .ref 4096 0 0), (3, .ref 16384 0 0), (12, .t (.int .i64 0))] | 1 => [(0, .t (.int .i64 s)), (2, .ref 4096 0 0), (3, .ref 16384 0 0), (12, .t (.int .i64 1))] | _ => [(0, .t (.int .i64 s)), (2, .ref 4096 0 0), (3, .ref 16384 0 0), (12, .t (.int .i64 2))]) (fun k => match k with | 0 => [(16384, .live 2 [.agg [.nil, .t (.int .i64 0)]] true true), (4096, .live 2 [.agg [.nil, .t (.int .i64 0)]] true true)] | 1 => [(16384, .live 2 [.agg [.sl 9000 0 1, .t (.int .i64 0)]] true true), (9000, .live 1 [.sl 9001 0 0] true false), (9001, .live 1 ((([] : Bank).map bsT).map V.t) true false), (4096, .live 2 [.agg [.nil, .t (.int .i64 0)]] true true)] | _ => [(16384, .live 2 [.agg [.sl 9000 0 2, .t (.int .i64 0)]] true true), (9000, .live 1 [.sl 9001 0 0, .sl 9002 0 16] true false), (9001, .live 1 ((([] : Bank).map bsT).map V.t) true false), (9002, .live 1 (((newB 1 : Bank).map bsT).map V.t) true false), (4096, .live 2 [.agg [.nil, .t (.int .i64 0)]] true true)]) ?_ (fun k hk => ?_)
    · refine Weak.rd id ?_ ?_ rfl
      all_goals simp (config := { maxSteps := 2000000 }) (disch := (first | omega | (simp only [lens, lenm]; omega))) only [go_sem, ↓reduceIte, Nat.reduceAdd, Nat.reduceEqDiff, Nat.reduceSub, Nat.reduceMul, Nat.reduceLT, Nat.reduceLeDiff, Nat.reduceBEq, Int.reduceEq, Int.reduceLT, Int.reduceLE, Int.reduceToNat, Int.reduceNeg, Int.reduceAdd, Int.reduceSub, Int.reduceMul, Int.reduceMod, Int.reduceDiv, reduceCtorEq, Nat.reducePow, Int.reducePow, id]
    · rcases (show k = 0 ∨ k = 1 ∨ k = 2 by omega) with rfl | rfl | rfl
      · simp (config := { maxSteps := 2000000 }) (disch := (first | omega | (simp only [lens, lenm]; omega))) only [go_sem, ↓reduceIte, Nat.reduceAdd, Nat.reduceEqDiff, Nat.reduceSub, Nat.reduceMul, Nat.reduceLT, Nat.reduceLeDiff, Nat.reduceBEq, Int.reduceEq, Int.reduceLT, Int.reduceLE, Int.reduceToNat, Int.reduceNeg, Int.reduceAdd, Int.reduceSub, Int.reduceMul, Int.reduceMod, Int.reduceDiv, reduceCtorEq, Nat.reducePow, Int.reducePow, ac_registers_New_L0, c0, c1, newB_length, h1, h2, size_eq0, size_eq1, fill_eq20, fill_eq32, hf1, hf2]
        refine loop_fuel 1 ?_
        simp (config := { maxSteps := 2000000 }) (disch := (first | omega | (simp only [lens, lenm]; omega))) only [go_sem, ↓reduceIte, Nat.reduceAdd, Nat.reduceEqDiff, Nat.reduceSub, Nat.reduceMul, Nat.reduceLT, Nat.reduceLeDiff, Nat.reduceBEq, Int.reduceEq, Int.reduceLT, Int.reduceLE, Int.reduceToNat, Int.reduceNeg, Int.reduceAdd, Int.reduceSub, Int.reduceMul, Int.reduceMod, Int.reduceDiv, reduceCtorEq, Nat.reducePow, Int.reducePow, loopN_succ, ac_registers_New_L1, c0, c1, newB_length, h1, h2, size_eq0, size_eq1, fill_eq20, fill_eq32, hf1, hf2]
        refine Weak.trans (fs' := [(0, .t (.int .i64 s)), (2, .ref 4096 0 0), (3, .ref 16384 0 0), (12, .t (.int .i64 1))]) (Weak.cv0 (hv := [(9001, .live 1 [] true false)]) (ho := [(16384, .live 2 [.agg [.sl 9000 0 1, .t (.int .i64 0)]] true true), (9000, .live 1 [.sl 9001 0 0] true false), (4096, .live 2 [.agg [.nil, .t (.int .i64 0)]] true true)]) (fun j => if j = 9000 then 65600 else j) ?_ ?_ rfl rfl) (Weak.rd id ?_ ?_ rfl)
        all_goals simp (config := { maxSteps := 2000000 }) (disch := (first | omega | (simp only [lens, lenm]; omega))) only [go_sem, ↓reduceIte, Nat.reduceAdd, Nat.reduceEqDiff, Nat.reduceSub, Nat.reduceMul, Nat.reduceLT, Nat.reduceLeDiff, Nat.reduceBEq, Int.reduceEq, Int.reduceLT, Int.reduceLE, Int.reduceToNat, Int.reduceNeg, Int.reduceAdd, Int.reduceSub, Int.reduceMul, Int.reduceMod, Int.reduceDiv, reduceCtorEq, Nat.reducePow, Int.reducePow, List.map_cons, List.map_nil, id]
      · simp (config := { maxSteps := 2000000 }) (disch := (first | omega | (simp only [lens, lenm]; omega))) only [go_sem, ↓reduceIte, Nat.reduceAdd, Nat.reduceEqDiff, Nat.reduceSub, Nat.reduceMul, Nat.reduceLT, Nat.reduceLeDiff, Nat.reduceBEq, Int.reduceEq, Int.reduceLT, Int.reduceLE, Int.reduceToNat, Int.reduceNeg, Int.reduceAdd, Int.reduceSub, Int.reduceMul, Int.reduceMod, Int.reduceDiv, reduceCtorEq, Nat.reducePow, Int.reducePow, ac_registers_New_L0, c0, c1, newB_length, h1, h2, size_eq0, size_eq1, fill_eq20, fill_eq32, hf1, hf2]
        refine loop_upto 16 (fun i => [(0, .t (.int .i64 s)), (2, .ref 4096 0 0), (3, .ref 16384 0 0), (12, .t (.int .i64 1)), (4, .t (.int .i64 1)), (5, .sl 9100 0 i), (6, .t (.int .i64 (i : Nat)))]) (fun i => [(9100, .live 1 ((((newB 1).take i).map bsT).map V.t) true false), (16384, .live 2 [.agg [.sl 9000 0 1, .t (.int .i64 0)]] true true), (9000, .live 1 [.sl 9001 0 0] true false), (9001, .live 1 ((([] : Bank).map bsT).map V.t) true false), (4096, .live 2 [.agg [.nil, .t (.int .i64 0)]] true true)]) ?_ (fun i hi => ?_)
        · refine Weak.cv0 (hv := [(9100, .live 1 [] true false)]) (ho := [(16384, .live 2 [.agg [.sl 9000 0 1, .t (.int .i64 0)]] true true), (9000, .live 1 [.sl 9001 0 0] true false), (9001, .live 1 ((([] : Bank).map bsT).map V.t) true false), (4096, .live 2 [.agg [.nil, .t (.int .i64 0)]] true true)]) id ?_ ?_ rfl rfl
          all_goals simp (config := { maxSteps := 2000000 }) (disch := (first | omega | (simp only [lens, lenm]; omega))) only [go_sem, ↓reduceIte, Nat.reduceAdd, Nat.reduceEqDiff, Nat.reduceSub, Nat.reduceMul, Nat.reduceLT, Nat.reduceLeDiff, Nat.reduceBEq, Int.reduceEq, Int.reduceLT, Int.reduceLE, Int.reduceToNat, Int.reduceNeg, Int.reduceAdd, Int.reduceSub, Int.reduceMul, Int.reduceMod, Int.reduceDiv, reduceCtorEq, Nat.reducePow, Int.reducePow, List.map_cons, List.map_nil, id]
        · by_cases hlt : i < 16
          · by_cases h12 : i < 12
            · simp (config := { maxSteps := 2000000 }) (disch := (first | omega | (simp only [lens, lenm]; omega))) only [go_sem, ↓reduceIte, Nat.reduceAdd, Nat.reduceEqDiff, Nat.reduceSub, Nat.reduceMul, Nat.reduceLT, Nat.reduceLeDiff, Nat.reduceBEq, Int.reduceEq, Int.reduceLT, Int.reduceLE, Int.reduceToNat, Int.reduceNeg, Int.reduceAdd, Int.reduceSub, Int.reduceMul, Int.reduceMod, Int.reduceDiv, reduceCtorEq, Nat.reducePow, Int.reducePow, ac_registers_New_L1, c0, c1, newB_length, h1, h2, size_eq0, size_eq1, fill_eq20, fill_eq32, hf1, hf2]
              refine ⟨hlt, Weak.cv (hv := []) [61504] (fun j => if j = 9100 then 61536 else j) ?_ rfl⟩
              simp (config := { maxSteps := 2000000 }) (disch := (first | omega | (simp only [lens, lenm]; omega))) only [go_sem, ↓reduceIte, Nat.reduceAdd, Nat.reduceEqDiff, Nat.reduceSub, Nat.reduceMul, Nat.reduceLT, Nat.reduceLeDiff, Nat.reduceBEq, Int.reduceEq, Int.reduceLT, Int.reduceLE, Int.reduceToNat, Int.reduceNeg, Int.reduceAdd, Int.reduceSub, Int.reduceMul, Int.reduceMod, Int.reduceDiv, reduceCtorEq, Nat.reducePow, Int.reducePow, newB_take hlt, szA, List.take_replicate, Nat.min_self, newV_a h12]
              rfl
            · simp (config := { maxSteps := 2000000 }) (disch := (first | omega | (simp only [lens, lenm]; omega))) only [go_sem, ↓reduceIte, Nat.reduceAdd, Nat.reduceEqDiff, Nat.reduceSub, Nat.reduceMul, Nat.reduceLT, Nat.reduceLeDiff, Nat.reduceBEq, Int.reduceEq, Int.reduceLT, Int.reduceLE, Int.reduceToNat, Int.reduceNeg, Int.reduceAdd, Int.reduceSub, Int.reduceMul, Int.reduceMod, Int.reduceDiv, reduceCtorEq, Nat.reducePow, Int.reducePow, ac_registers_New_L1, c0, c1, newB_length, h1, h2, size_eq0, size_eq1, fill_eq20, fill_eq32, hf1, hf2]
              refine ⟨hlt, Weak.cv (hv := []) [61504] (fun j => if j = 9100 then 61536 else j) ?_ rfl⟩
              simp (config := { maxSteps := 2000000 }) (disch := (first | omega | (simp only [lens, lenm]; omega))) only [go_sem, ↓reduceIte, Nat.reduceAdd, Nat.reduceEqDiff, Nat.reduceSub, Nat.reduceMul, Nat.reduceLT, Nat.reduceLeDiff, Nat.reduceBEq, Int.reduceEq, Int.reduceLT, Int.reduceLE, Int.reduceToNat, Int.reduceNeg, Int.reduceAdd, Int.reduceSub, Int.reduceMul, Int.reduceMod, Int.reduceDiv, reduceCtorEq, Nat.reducePow, Int.reducePow, newB_take hlt, szA, List.take_replicate, Nat.min_self, newV_b h12]
              rfl
          · have e : i = 16 := by omega
            subst e
            simp (config := { maxSteps := 2000000 }) (disch := (first | omega | (simp only [lens, lenm]; omega))) only [go_sem, ↓reduceIte, Nat.reduceAdd, Nat.reduceEqDiff, Nat.reduceSub, Nat.reduceMul, Nat.reduceLT, Nat.reduceLeDiff, Nat.reduceBEq, Int.reduceEq, Int.reduceLT, Int.reduceLE, Int.reduceToNat, Int.reduceNeg, Int.reduceAdd, Int.reduceSub, Int.reduceMul, Int.reduceMod, Int.reduceDiv, reduceCtorEq, Nat.reducePow, Int.reducePow, ac_registers_New_L1, c0, c1, newB_length, h1, h2, size_eq0, size_eq1, fill_eq20, fill_eq32, hf1, hf2]
            refine Weak.rd (fun j => if j = 9000 then 65600 else if j = 9002 then 9100 else j) ?_ ?_ rfl
            all_goals simp (config := { maxSteps := 2000000 }) (disch := (first | omega | (simp only [lens, lenm]; omega))) only [go_sem, ↓reduceIte, Nat.reduceAdd, Nat.reduceEqDiff, Nat.reduceSub, Nat.reduceMul, Nat.reduceLT, Nat.reduceLeDiff, Nat.reduceBEq, Int.reduceEq, Int.reduceLT, Int.reduceLE, Int.reduceToNat, Int.reduceNeg, Int.reduceAdd, Int.reduceSub, Int.reduceMul, Int.reduceMod, Int.reduceDiv, reduceCtorEq, Nat.reducePow, Int.reducePow, newB_all]
      · simp (config := { maxSteps := 2000000 }) (disch := (first | omega | (simp only [lens, lenm]; omega))) only [go_sem, ↓reduceIte, Nat.reduceAdd, Nat.reduceEqDiff, Nat.reduceSub, Nat.reduceMul, Nat.reduceLT, Nat.reduceLeDiff, Nat.reduceBEq, Int.reduceEq, Int.reduceLT, Int.reduceLE, Int.reduceToNat, Int.reduceNeg, Int.reduceAdd, Int.reduceSub, Int.reduceMul, Int.reduceMod, Int.reduceDiv, reduceCtorEq, Nat.reducePow, Int.reducePow, ac_registers_New_L0, c0, c1, newB_length, h1, h2, size_eq0, size_eq1, fill_eq20, fill_eq32, hf1, hf2]
        exact ⟨rfl, rfl⟩
  · rw [newBk_of h3, if_pos (by omega), if_neg (by omega)]
    simp (config := { maxSteps := 2000000 }) (disch := (first | omega | (simp only [lens, lenm]; omega))) only [go_sem, ↓reduceIte, Nat.reduceAdd, Nat.reduceEqDiff, Nat.reduceSub, Nat.reduceMul, Nat.reduceLT, Nat.reduceLeDiff, Nat.reduceBEq, Int.reduceEq, Int.reduceLT, Int.reduceLE, Int.reduceToNat, Int.reduceNeg, Int.reduceAdd, Int.reduceSub, Int.reduceMul, Int.reduceMod, Int.reduceDiv, reduceCtorEq, Nat.reducePow, Int.reducePow, ac_registers_New, h4, hf1, hf2]
    refine loop_upto 2 (fun k => match k with | 0 => [(0, .t (.int .i64 s)), (2, .ref 4096 0 0), (3, .ref 16384 0 0), (12, .t (.int .i64 0))] | 1 => [(0, .t (.int .i64 s)), (2, .ref 4096 0 0), (3, .ref 16384 0 0), (12, .t (.int .i64 1))] | _ => [(0, .t (.int .i64 s)), (2, .ref 4096 0 0), (3, .ref 16384 0 0), (12, .t (.int .i64 2))]) (fun k => match k with | 0 => [(16384, .live 2 [.agg [.nil, .t (.int .i64 0)]] true true), (4096, .live 2 [.agg [.nil, .t (.int .i64 0)]] true true)] | 1 => [(16384, .live 2 [.agg [.sl 9000 0 1, .t (.int .i64 0)]] true true), (9000, .live 1 [.sl 9001 0 16] true false), (9001, .live 1 (((newB 0 : Bank).map bsT).map V.t) true false), (4096, .live 2 [.agg [.nil, .t (.int .i64 0)]] true true)] | _ => [(16384, .live 2 [.agg [.sl 9000 0 2, .t (.int .i64 0)]] true true), (9000, .live 1 [.sl 9001 0 16, .sl 9002 0 0] true false), (9001, .live 1 (((newB 0 : Bank).map bsT).map V.t) true false), (9002, .live 1 ((([] : Bank).map bsT).map V.t) true false), (4096, .live 2 [.agg [.nil, .t (.int .i64 0)]] true true)]) ?_ (fun k hk => ?_)
    · refine Weak.rd id ?_ ?_ rfl
      all_goals simp (config := { maxSteps := 2000000 }) (disch := (first | omega | (simp only [lens, lenm]; omega))) only [go_sem, ↓reduceIte, Nat.reduceAdd, Nat.reduceEqDiff, Nat.reduceSub, Nat.reduceMul, Nat.reduceLT, Nat.reduceLeDiff, Nat.reduceBEq, Int.reduceEq, Int.reduceLT, Int.reduceLE, Int.reduceToNat, Int.reduceNeg, Int.reduceAdd, Int.reduceSub, Int.reduceMul, Int.reduceMod, Int.reduceDiv, reduceCtorEq, Nat.reducePow, Int.reducePow, id]
    · rcases (show k = 0 ∨ k = 1 ∨ k = 2 by omega) with rfl | rfl | rfl
      · simp (config := { maxSteps := 2000000 }) (disch := (first | omega | (simp only [lens, lenm]; omega))) only [go_sem, ↓reduceIte, Nat.reduceAdd, Nat.reduceEqDiff, Nat.reduceSub, Nat.reduceMul, Nat.reduceLT, Nat.reduceLeDiff, Nat.reduceBEq, Int.reduceEq, Int.reduceLT, Int.reduceLE, Int.reduceToNat, Int.reduceNeg, Int.reduceAdd, Int.reduceSub, Int.reduceMul, Int.reduceMod, Int.reduceDiv, reduceCtorEq, Nat.reducePow, Int.reducePow, ac_registers_New_L0, c0, c1, newB_length, h1, h2, size_eq0, size_eq1, fill_eq20, fill_eq32, hf1, hf2]
        refine loop_upto 16 (fun i => [(0, .t (.int .i64 s)), (2, .ref 4096 0 0), (3, .ref 16384 0 0), (12, .t (.int .i64 0)), (4, .t (.int .i64 0)), (5, .sl 9100 0 i), (6, .t (.int .i64 (i : Nat)))]) (fun i => [(9100, .live 1 ((((newB 0).take i).map bsT).map V.t) true false), (16384, .live 2 [.agg [.nil, .t (.int .i64 0)]] true true), (4096, .live 2 [.agg [.nil, .t (.int .i64 0)]] true true)]) ?_ (fun i hi => ?_)
        · refine Weak.cv0 (hv := [(9100, .live 1 [] true false)]) (ho := [(16384, .live 2 [.agg [.nil, .t (.int .i64 0)]] true true), (4096, .live 2 [.agg [.nil, .t (.int .i64 0)]] true true)]) id ?_ ?_ rfl rfl
          all_goals simp (config := { maxSteps := 2000000 }) (disch := (first | omega | (simp only [lens, lenm]; omega))) only [go_sem, ↓reduceIte, Nat.reduceAdd, Nat.reduceEqDiff, Nat.reduceSub, Nat.reduceMul, Nat.reduceLT, Nat.reduceLeDiff, Nat.reduceBEq, Int.reduceEq, Int.reduceLT, Int.reduceLE, Int.reduceToNat, Int.reduceNeg, Int.reduceAdd, Int.reduceSub, Int.reduceMul, Int.reduceMod, Int.reduceDiv, reduceCtorEq, Nat.reducePow, Int.reducePow, List.map_cons, List.map_nil, id]
        · by_cases hlt : i < 16
          · by_cases h12 : i < 12
            · simp (config := { maxSteps := 2000000 }) (disch := (first | omega | (simp only [lens, lenm]; omega))) only [go_sem, ↓reduceIte, Nat.reduceAdd, Nat.reduceEqDiff, Nat.reduceSub, Nat.reduceMul, Nat.reduceLT, Nat.reduceLeDiff, Nat.reduceBEq, Int.reduceEq, Int.reduceLT, Int.reduceLE, Int.reduceToNat, Int.reduceNeg, Int.reduceAdd, Int.reduceSub, Int.reduceMul, Int.reduceMod, Int.reduceDiv, reduceCtorEq, Nat.reducePow, Int.reducePow, ac_registers_New_L1, c0, c1, newB_length, h1, h2, size_eq0, size_eq1, fill_eq20, fill_eq32, hf1, hf2]
              refine ⟨hlt, Weak.cv (hv := []) [61504] (fun j => if j = 9100 then 61536 else j) ?_ rfl⟩
              simp (config := { maxSteps := 2000000 }) (disch := (first | omega | (simp only [lens, lenm]; omega))) only [go_sem, ↓reduceIte, Nat.reduceAdd, Nat.reduceEqDiff, Nat.reduceSub, Nat.reduceMul, Nat.reduceLT, Nat.reduceLeDiff, Nat.reduceBEq, Int.reduceEq, Int.reduceLT, Int.reduceLE, Int.reduceToNat, Int.reduceNeg, Int.reduceAdd, Int.reduceSub, Int.reduceMul, Int.reduceMod, Int.reduceDiv, reduceCtorEq, Nat.reducePow, Int.reducePow, newB_take hlt, szA, List.take_replicate, Nat.min_self, newV_a h12]
              rfl
            · simp (config := { maxSteps := 2000000 }) (disch := (first | omega | (simp only [lens, lenm]; omega))) only [go_sem, ↓reduceIte, Nat.reduceAdd, Nat.reduceEqDiff, Nat.reduceSub, Nat.reduceMul, Nat.reduceLT, Nat.reduceLeDiff, Nat.reduceBEq, Int.reduceEq, Int.reduceLT, Int.reduceLE, Int.reduceToNat, Int.reduceNeg, Int.reduceAdd, Int.reduceSub, Int.reduceMul, Int.reduceMod, Int.reduceDiv, reduceCtorEq, Nat.reducePow, Int.reducePow, ac_registers_New_L1, c0, c1, newB_length, h1, h2, size_eq0, size_eq1, fill_eq20, fill_eq32, hf1, hf2]
              refine ⟨hlt, Weak.cv (hv := []) [61504] (fun j => if j = 9100 then 61536 else j) ?_ rfl⟩
              simp (config := { maxSteps := 2000000 }) (disch := (first | omega | (simp only [lens, lenm]; omega))) only [go_sem, ↓reduceIte, Nat.reduceAdd, Nat.reduceEqDiff, Nat.reduceSub, Nat.reduceMul, Nat.reduceLT, Nat.reduceLeDiff, Nat.reduceBEq, Int.reduceEq, Int.reduceLT, Int.reduceLE, Int.reduceToNat, Int.reduceNeg, Int.reduceAdd, Int.reduceSub, Int.reduceMul, Int.reduceMod, Int.reduceDiv, reduceCtorEq, Nat.reducePow, Int.reducePow, newB_take hlt, szA, List.take_replicate, Nat.min_self, newV_b h12]
              rfl
          · have e : i = 16 := by omega
            subst e
            simp (config := { maxSteps := 2000000 }) (disch := (first | omega | (simp only [lens, lenm]; omega))) only [go_sem, ↓reduceIte, Nat.reduceAdd, Nat.reduceEqDiff, Nat.reduceSub, Nat.reduceMul, Nat.reduceLT, Nat.reduceLeDiff, Nat.reduceBEq, Int.reduceEq, Int.reduceLT, Int.reduceLE, Int.reduceToNat, Int.reduceNeg, Int.reduceAdd, Int.reduceSub, Int.reduceMul, Int.reduceMod, Int.reduceDiv, reduceCtorEq, Nat.reducePow, Int.reducePow, ac_registers_New_L1, c0, c1, newB_length, h1, h2, size_eq0, size_eq1, fill_eq20, fill_eq32, hf1, hf2]
            refine Weak.rd (fun j => if j = 9000 then 65600 else if j = 9001 then 9100 else j) ?_ ?_ rfl
            all_goals simp (config := { maxSteps := 2000000 }) (disch := (first | omega | (simp only [lens, lenm]; omega))) only [go_sem, ↓reduceIte, Nat.reduceAdd, Nat.reduceEqDiff, Nat.reduceSub, Nat.reduceMul, Nat.reduceLT, Nat.reduceLeDiff, Nat.reduceBEq, Int.reduceEq, Int.reduceLT, Int.reduceLE, Int.reduceToNat, Int.reduceNeg, Int.reduceAdd, Int.reduceSub, Int.reduceMul, Int.reduceMod, Int.reduceDiv, reduceCtorEq, Nat.reducePow, Int.reducePow, newB_all]
      · simp (config := { maxSteps := 2000000 }) (disch := (first | omega | (simp only [lens, lenm]; omega))) only [go_sem, ↓reduceIte, Nat.reduceAdd, Nat.reduceEqDiff, Nat.reduceSub, Nat.reduceMul, Nat.reduceLT, Nat.reduceLeDiff, Nat.reduceBEq, Int.reduceEq, Int.reduceLT, Int.reduceLE, Int.reduceToNat, Int.reduceNeg, Int.reduceAdd, Int.reduceSub, Int.reduceMul, Int.reduceMod, Int.reduceDiv, reduceCtorEq, Nat.reducePow, Int.reducePow, ac_registers_New_L0, c0, c1, newB_length, h1, h2, size_eq0, size_eq1, fill_eq20, fill_eq32, hf1, hf2]
        refine loop_fuel 1 ?_
        simp (config := { maxSteps := 2000000 }) (disch := (first | omega | (simp only [lens, lenm]; omega))) only [go_sem, ↓reduceIte, Nat.reduceAdd, Nat.reduceEqDiff, Nat.reduceSub, Nat.reduceMul, Nat.reduceLT, Nat.reduceLeDiff, Nat.reduceBEq, Int.reduceEq, Int.reduceLT, Int.reduceLE, Int.reduceToNat, Int.reduceNeg, Int.reduceAdd, Int.reduceSub, Int.reduceMul, Int.reduceMod, Int.reduceDiv, reduceCtorEq, Nat.reducePow, Int.reducePow, loopN_succ, ac_registers_New_L1, c0, c1, newB_length, h1, h2, size_eq0, size_eq1, fill_eq20, fill_eq32, hf1, hf2]
        refine Weak.trans (fs' := [(0, .t (.int .i64 s)), (2, .ref 4096 0 0), (3, .ref 16384 0 0), (12, .t (.int .i64 2))]) (Weak.cv0 (hv := [(9002, .live 1 [] true false)]) (ho := [(16384, .live 2 [.agg [.sl 9000 0 2, .t (.int .i64 0)]] true true), (9000, .live 1 [.sl 9001 0 16, .sl 9002 0 0] true false), (9001, .live 1 (((newB 0 : Bank).map bsT).map V.t) true false), (4096, .live 2 [.agg [.nil, .t (.int .i64 0)]] true true)]) (fun j => if j = 9000 then 65600 else j) ?_ ?_ rfl rfl) (Weak.rd id ?_ ?_ rfl)
        all_goals simp (config := { maxSteps := 2000000 }) (disch := (first | omega | (simp only [lens, lenm]; omega))) only [go_sem, ↓reduceIte, Nat.reduceAdd, Nat.reduceEqDiff, Nat.reduceSub, Nat.reduceMul, Nat.reduceLT, Nat.reduceLeDiff, Nat.reduceBEq, Int.reduceEq, Int.reduceLT, Int.reduceLE, Int.reduceToNat, Int.reduceNeg, Int.reduceAdd, Int.reduceSub, Int.reduceMul, Int.reduceMod, Int.reduceDiv, reduceCtorEq, Nat.reducePow, Int.reducePow, List.map_cons, List.map_nil, id]
      · simp (config := { maxSteps := 2000000 }) (disch := (first | omega | (simp only [lens, lenm]; omega))) only [go_sem, ↓reduceIte, Nat.reduceAdd, Nat.reduceEqDiff, Nat.reduceSub, Nat.reduceMul, Nat.reduceLT, Nat.reduceLeDiff, Nat.reduceBEq, Int.reduceEq, Int.reduceLT, Int.reduceLE, Int.reduceToNat, Int.reduceNeg, Int.reduceAdd, Int.reduceSub, Int.reduceMul, Int.reduceMod, Int.reduceDiv, reduceCtorEq, Nat.reducePow, Int.reducePow, ac_registers_New_L0, c0, c1, newB_length, h1, h2, size_eq0, size_eq1, fill_eq20, fill_eq32, hf1, hf2]
        exact ⟨rfl, rfl⟩
  · rw [newBk_of h3, if_pos (by omega), if_pos (by omega)]
    simp (config := { maxSteps := 2000000 }) (disch := (first | omega | (simp only [lens, lenm]; omega))) only [go_sem, ↓reduceIte, Nat.reduceAdd, Nat.reduceEqDiff, Nat.reduceSub, Nat.reduceMul, Nat.reduceLT, Nat.reduceLeDiff, Nat.reduceBEq, Int.reduceEq, Int.reduceLT, Int.reduceLE, Int.reduceToNat, Int.reduceNeg, Int.reduceAdd, Int.reduceSub, Int.reduceMul, Int.reduceMod, Int.reduceDiv, reduceCtorEq, Nat.reducePow, Int.reducePow, ac_registers_New, h4, hf1, hf2]
    refine loop_upto 2 (fun k => match k with | 0 => [(0, .t (.int .i64 s)), (2, .ref 4096 0 0), (3, .ref 16384 0 0), (12, .t (.int .i64 0))] | 1 => [(0, .t (.int .i64 s)), (2, .ref 4096 0 0), (3, .ref 16384 0 0), (12, .t (.int .i64 1))] | _ => [(0, .t (.int .i64 s)), (2, .ref 4096 0 0), (3, .ref 16384 0 0), (12, .t (.int .i64 2))]) (fun k => match k with | 0 => [(16384, .live 2 [.agg [.nil, .t (.int .i64 0)]] true true), (4096, .live 2 [.agg [.nil, .t (.int .i64 0)]] true true)] | 1 => [(16384, .live 2 [.agg [.sl 9000 0 1, .t (.int .i64 0)]] true true), (9000, .live 1 [.sl 9001 0 16] true false), (9001, .live 1 (((newB 0 : Bank).map bsT).map V.t) true false), (4096, .live 2 [.agg [.nil, .t (.int .i64 0)]] true true)] | _ => [(16384, .live 2 [.agg [.sl 9000 0 2, .t (.int .i64 0)]] true true), (9000, .live 1 [.sl 9001 0 16, .sl 9002 0 16] true false), (9001, .live 1 (((newB 0 : Bank).map bsT).map V.t) true false), (9002, .live 1 (((newB 1 : Bank).map bsT).map V.t) true false), (4096, .live 2 [.agg [.nil, .t (.int .i64 0)]] true true)]) ?_ (fun k hk => ?_)
    · refine Weak.rd id ?_ ?_ rfl
      all_goals simp (config := { maxSteps := 2000000 }) (disch := (first | omega | (simp only [lens, lenm]; omega))) only [go_sem, ↓reduceIte, Nat.reduceAdd, Nat.reduceEqDiff, Nat.reduceSub, Nat.reduceMul, Nat.reduceLT, Nat.reduceLeDiff, Nat.reduceBEq, Int.reduceEq, Int.reduceLT, Int.reduceLE, Int.reduceToNat, Int.reduceNeg, Int.reduceAdd, Int.reduceSub, Int.reduceMul, Int.reduceMod, Int.reduceDiv, reduceCtorEq, Nat.reducePow, Int.reducePow, id]
    · rcases (show k = 0 ∨ k = 1 ∨ k = 2 by omega) with rfl | rfl | rfl
      · simp (config := { maxSteps := 2000000 }) (disch := (first | omega | (simp only [lens, lenm]; omega))) only [go_sem, ↓reduceIte, Nat.reduceAdd, Nat.reduceEqDiff, Nat.reduceSub, Nat.reduceMul, Nat.reduceLT, Nat.reduceLeDiff, Nat.reduceBEq, Int.reduceEq, Int.reduceLT, Int.reduceLE, Int.reduceToNat, Int.reduceNeg, Int.reduceAdd, Int.reduceSub, Int.reduceMul, Int.reduceMod, Int.reduceDiv, reduceCtorEq, Nat.reducePow, Int.reducePow, ac_registers_New_L0, c0, c1, newB_length, h1, h2, size_eq0, size_eq1, fill_eq20, fill_eq32, hf1, hf2]
        refine loop_upto 16 (fun i => [(0, .t (.int .i64 s)), (2, .ref 4096 0 0), (3, .ref 16384 0 0), (12, .t (.int .i64 0)), (4, .t (.int .i64 0)), (5, .sl 9100 0 i), (6, .t (.int .i64 (i : Nat)))]) (fun i => [(9100, .live 1 ((((newB 0).take i).map bsT).map V.t) true false), (16384, .live 2 [.agg [.nil, .t (.int .i64 0)]] true true), (4096, .live 2 [.agg [.nil, .t (.int .i64 0)]] true true)]) ?_ (fun i hi => ?_)
        · refine Weak.cv0 (hv := [(9100, .live 1 [] true false)]) (ho := [(16384, .live 2 [.agg [.nil, .t (.int .i64 0)]] true true), (4096, .live 2 [.agg [.nil, .t (.int .i64 0)]] true true)]) id ?_ ?_ rfl rfl
          all_goals simp (config := { maxSteps := 2000000 }) (disch := (first | omega | (simp only [lens, lenm]; omega))) only [go_sem, ↓reduceIte, Nat.reduceAdd, Nat.reduceEqDiff, Nat.reduceSub, Nat.reduceMul, Nat.reduceLT, Nat.reduceLeDiff, Nat.reduceBEq, Int.reduceEq, Int.reduceLT, Int.reduceLE, Int.reduceToNat, Int.reduceNeg, Int.reduceAdd, Int.reduceSub, Int.reduceMul, Int.reduceMod, Int.reduceDiv, reduceCtorEq, Nat.reducePow, Int.reducePow, List.map_cons, List.map_nil, id]
        · by_cases hlt : i < 16
          · by_cases h12 : i < 12
            · simp (config := { maxSteps := 2000000 }) (disch := (first | omega | (simp only [lens, lenm]; omega))) only [go_sem, ↓reduceIte, Nat.reduceAdd, Nat.reduceEqDiff, Nat.reduceSub, Nat.reduceMul, Nat.reduceLT, Nat.reduceLeDiff, Nat.reduceBEq, Int.reduceEq, Int.reduceLT, Int.reduceLE, Int.reduceToNat, Int.reduceNeg, Int.reduceAdd, Int.reduceSub, Int.reduceMul, Int.reduceMod, Int.reduceDiv, reduceCtorEq, Nat.reducePow, Int.reducePow, ac_registers_New_L1, c0, c1, newB_length, h1, h2, size_eq0, size_eq1, fill_eq20, fill_eq32, hf1, hf2]
              refine ⟨hlt, Weak.cv (hv := []) [61504] (fun j => if j = 9100 then 61536 else j) ?_ rfl⟩
              simp (config := { maxSteps := 2000000 }) (disch := (first | omega | (simp only [lens, lenm]; omega))) only [go_sem, ↓reduceIte, Nat.reduceAdd, Nat.reduceEqDiff, Nat.reduceSub, Nat.reduceMul, Nat.reduceLT, Nat.reduceLeDiff, Nat.reduceBEq, Int.reduceEq, Int.reduceLT, Int.reduceLE, Int.reduceToNat, Int.reduceNeg, Int.reduceAdd, Int.reduceSub, Int.reduceMul, Int.reduceMod, Int.reduceDiv, reduceCtorEq, Nat.reducePow, Int.reducePow, newB_take hlt, szA, List.take_replicate, Nat.min_self, newV_a h12]
              rfl
            · simp (config := { maxSteps := 2000000 }) (disch := (first | omega | (simp only [lens, lenm]; omega))) only [go_sem, ↓reduceIte, Nat.reduceAdd, Nat.reduceEqDiff, Nat.reduceSub, Nat.reduceMul, Nat.reduceLT, Nat.reduceLeDiff, Nat.reduceBEq, Int.reduceEq, Int.reduceLT, Int.reduceLE, Int.reduceToNat, Int.reduceNeg, Int.reduceAdd, Int.reduceSub, Int.reduceMul, Int.reduceMod, Int.reduceDiv, reduceCtorEq, Nat.reducePow, Int.reducePow, ac_registers_New_L1, c0, c1, newB_length, h1, h2, size_eq0, size_eq1, fill_eq20, fill_eq32, hf1, hf2]
              refine ⟨hlt, Weak.cv (hv := []) [61504] (fun j => if j = 9100 then 61536 else j) ?_ rfl⟩
              simp (config := { maxSteps := 2000000 }) (disch := (first | omega | (simp only [lens, lenm]; omega))) only [go_sem, ↓reduceIte, Nat.reduceAdd, Nat.reduceEqDiff, Nat.reduceSub, Nat.reduceMul, Nat.reduceLT, Nat.reduceLeDiff, Nat.reduceBEq, Int.reduceEq, Int.reduceLT, Int.reduceLE, Int.reduceToNat, Int.reduceNeg, Int.reduceAdd, Int.reduceSub, Int.reduceMul, Int.reduceMod, Int.reduceDiv, reduceCtorEq, Nat.reducePow, Int.reducePow, newB_take hlt, szA, List.take_replicate, Nat.min_self, newV_b h12]
              rfl
          · have e : i = 16 := by omega
            subst e
            simp (config := { maxSteps := 2000000 }) (disch := (first | omega | (simp only [lens, lenm]; omega))) only [go_sem, ↓reduceIte, Nat.reduceAdd, Nat.reduceEqDiff, Nat.reduceSub, Nat.reduceMul, Nat.reduceLT, Nat.reduceLeDiff, Nat.reduceBEq, Int.reduceEq, Int.reduceLT, Int.reduceLE, Int.reduceToNat, Int.reduceNeg, Int.reduceAdd, Int.reduceSub, Int.reduceMul, Int.reduceMod, Int.reduceDiv, reduceCtorEq, Nat.reducePow, Int.reducePow, ac_registers_New_L1, c0, c1, newB_length, h1, h2, size_eq0, size_eq1, fill_eq20, fill_eq32, hf1, hf2]
            refine Weak.rd (fun j => if j = 9000 then 65600 else if j = 9001 then 9100 else j) ?_ ?_ rfl
            all_goals simp (config := { maxSteps := 2000000 }) (disch := (first | omega | (simp only [lens, lenm]; omega))) only [go_sem, ↓reduceIte, Nat.reduceAdd, Nat.reduceEqDiff, Nat.reduceSub, Nat.reduceMul, Nat.reduceLT, Nat.reduceLeDiff, Nat.reduceBEq, Int.reduceEq, Int.reduceLT, Int.reduceLE, Int.reduceToNat, Int.reduceNeg, Int.reduceAdd, Int.reduceSub, Int.reduceMul, Int.reduceMod, Int.reduceDiv, reduceCtorEq, Nat.reducePow, Int.reducePow, newB_all]
      · simp (config := { maxSteps := 2000000 }) (disch := (first | omega | (simp only [lens, lenm]; omega))) only [go_sem, ↓reduceIte, Nat.reduceAdd, Nat.reduceEqDiff, Nat.reduceSub, Nat.reduceMul, Nat.reduceLT, Nat.reduceLeDiff, Nat.reduceBEq, Int.reduceEq, Int.reduceLT, Int.reduceLE, Int.reduceToNat, Int.reduceNeg, Int.reduceAdd, Int.reduceSub, Int.reduceMul, Int.reduceMod, Int.reduceDiv, reduceCtorEq, Nat.reducePow, Int.reducePow, ac_registers_New_L0, c0, c1, newB_length, h1, h2, size_eq0, size_eq1, fill_eq20, fill_eq32, hf1, hf2]
        refine loop_upto 16 (fun i => [(0, .t (.int .i64 s)), (2, .ref 4096 0 0), (3, .ref 16384 0 0), (12, .t (.int .i64 1)), (4, .t (.int .i64 1)), (5, .sl 9100 0 i), (6, .t (.int .i64 (i : Nat)))]) (fun i => [(9100, .live 1 ((((newB 1).take i).map bsT).map V.t) true false), (16384, .live 2 [.agg [.sl 9000 0 1, .t (.int .i64 0)]] true true), (9000, .live 1 [.sl 9001 0 16] true false), (9001, .live 1 (((newB 0 : Bank).map bsT).map V.t) true false), (4096, .live 2 [.agg [.nil, .t (.int .i64 0)]] true true)]) ?_ (fun i hi => ?_)
        · refine Weak.cv0 (hv := [(9100, .live 1 [] true false)]) (ho := [(16384, .live 2 [.agg [.sl 9000 0 1, .t (.int .i64 0)]] true true), (9000, .live 1 [.sl 9001 0 16] true false), (9001, .live 1 (((newB 0 : Bank).map bsT).map V.t) true false), (4096, .live 2 [.agg [.nil, .t (.int .i64 0)]] true true)]) id ?_ ?_ rfl rfl
          all_goals simp (config := { maxSteps := 2000000 }) (disch := (first | omega | (simp only [lens, lenm]; omega))) only [go_sem, ↓reduceIte, Nat.reduceAdd, Nat.reduceEqDiff, Nat.reduceSub, Nat.reduceMul, Nat.reduceLT, Nat.reduceLeDiff, Nat.reduceBEq, Int.reduceEq, Int.reduceLT, Int.reduceLE, Int.reduceToNat, Int.reduceNeg, Int.reduceAdd, Int.reduceSub, Int.reduceMul, Int.reduceMod, Int.reduceDiv, reduceCtorEq, Nat.reducePow, Int.reducePow, List.map_cons, List.map_nil, id]
        · by_cases hlt : i < 16
          · by_cases h12 : i < 12
            · simp (config := { maxSteps := 2000000 }) (disch := (first | omega | (simp only [lens, lenm]; omega))) only [go_sem, ↓reduceIte, Nat.reduceAdd, Nat.reduceEqDiff, Nat.reduceSub, Nat.reduceMul, Nat.reduceLT, Nat.reduceLeDiff, Nat.reduceBEq, Int.reduceEq, Int.reduceLT, Int.reduceLE, Int.reduceToNat, Int.reduceNeg, Int.reduceAdd, Int.reduceSub, Int.reduceMul, Int.reduceMod, Int.reduceDiv, reduceCtorEq, Nat.reducePow, Int.reducePow, ac_registers_New_L1, c0, c1, newB_length, h1, h2, size_eq0, size_eq1, fill_eq20, fill_eq32, hf1, hf2]
              refine ⟨hlt, Weak.cv (hv := []) [61504] (fun j => if j = 9100 then 61536 else j) ?_ rfl⟩
              simp (config := { maxSteps := 2000000 }) (disch := (first | omega | (simp only [lens, lenm]; omega))) only [go_sem, ↓reduceIte, Nat.reduceAdd, Nat.reduceEqDiff, Nat.reduceSub, Nat.reduceMul, Nat.reduceLT, Nat.reduceLeDiff, Nat.reduceBEq, Int.reduceEq, Int.reduceLT, Int.reduceLE, Int.reduceToNat, Int.reduceNeg, Int.reduceAdd, Int.reduceSub, Int.reduceMul, Int.reduceMod, Int.reduceDiv, reduceCtorEq, Nat.reducePow, Int.reducePow, newB_take hlt, szA, List.take_replicate, Nat.min_self, newV_a h12]
              rfl
            · simp (config := { maxSteps := 2000000 }) (disch := (first | omega | (simp only [lens, lenm]; omega))) only [go_sem, ↓reduceIte, Nat.reduceAdd, Nat.reduceEqDiff, Nat.reduceSub, Nat.reduceMul, Nat.reduceLT, Nat.reduceLeDiff, Nat.reduceBEq, Int.reduceEq, Int.reduceLT, Int.reduceLE, Int.reduceToNat, Int.reduceNeg, Int.reduceAdd, Int.reduceSub, Int.reduceMul, Int.reduceMod, Int.reduceDiv, reduceCtorEq, Nat.reducePow, Int.reducePow, ac_registers_New_L1, c0, c1, newB_length, h1, h2, size_eq0, size_eq1, fill_eq20, fill_eq32, hf1, hf2]
              refine ⟨hlt, Weak.cv (hv := []) [61504] (fun j => if j = 9100 then 61536 else j) ?_ rfl⟩
              simp (config := { maxSteps := 2000000 }) (disch := (first | omega | (simp only [lens, lenm]; omega))) only [go_sem, ↓reduceIte, Nat.reduceAdd, Nat.reduceEqDiff, Nat.reduceSub, Nat.reduceMul, Nat.reduceLT, Nat.reduceLeDiff, Nat.reduceBEq, Int.reduceEq, Int.reduceLT, Int.reduceLE, Int.reduceToNat, Int.reduceNeg, Int.reduceAdd, Int.reduceSub, Int.reduceMul, Int.reduceMod, Int.reduceDiv, reduceCtorEq, Nat.reducePow, Int.reducePow, newB_take hlt, szA, List.take_replicate, Nat.min_self, newV_b h12]
              rfl
          · have e : i = 16 := by omega
            subst e
            simp (config := { maxSteps := 2000000 }) (disch := (first | omega | (simp only [lens, lenm]; omega))) only [go_sem, ↓reduceIte, Nat.reduceAdd, Nat.reduceEqDiff, Nat.reduceSub, Nat.reduceMul, Nat.reduceLT, Nat.reduceLeDiff, Nat.reduceBEq, Int.reduceEq, Int.reduceLT, Int.reduceLE, Int.reduceToNat, Int.reduceNeg, Int.reduceAdd, Int.reduceSub, Int.reduceMul, Int.reduceMod, Int.reduceDiv, reduceCtorEq, Nat.reducePow, Int.reducePow, ac_registers_New_L1, c0, c1, newB_length, h1, h2, size_eq0, size_eq1, fill_eq20, fill_eq32, hf1, hf2]
            refine Weak.rd (fun j => if j = 9000 then 65600 else if j = 9002 then 9100 else j) ?_ ?_ rfl
            all_goals simp (config := { maxSteps := 2000000 }) (disch := (first | omega | (simp only [lens, lenm]; omega))) only [go_sem, ↓reduceIte, Nat.reduceAdd, Nat.reduceEqDiff, Nat.reduceSub, Nat.reduceMul, Nat.reduceLT, Nat.reduceLeDiff, Nat.reduceBEq, Int.reduceEq, Int.reduceLT, Int.reduceLE, Int.reduceToNat, Int.reduceNeg, Int.reduceAdd, Int.reduceSub, Int.reduceMul, Int.reduceMod, Int.reduceDiv, reduceCtorEq, Nat.reducePow, Int.reducePow, newB_all]
      · simp (config := { maxSteps := 2000000 }) (disch := (first | omega | (simp only [lens, lenm]; omega))) only [go_sem, ↓reduceIte, Nat.reduceAdd, Nat.reduceEqDiff, Nat.reduceSub, Nat.reduceMul, Nat.reduceLT, Nat.reduceLeDiff, Nat.reduceBEq, Int.reduceEq, Int.reduceLT, Int.reduceLE, Int.reduceToNat, Int.reduceNeg, Int.reduceAdd, Int.reduceSub, Int.reduceMul, Int.reduceMod, Int.reduceDiv, reduceCtorEq, Nat.reducePow, Int.reducePow, ac_registers_New_L0, c0, c1, newB_length, h1, h2, size_eq0, size_eq1, fill_eq20, fill_eq32, hf1, hf2]
        exact ⟨rfl, rfl⟩
theorem w_ref8_New (tab : Tab) (gl : Gl) (n1 : Nat) (h1 : tab.look n1 = some ct_init.fs) (s : Int) (h3 : ¬ s % 4 = 0) : (ac_ref8_New n1).wp tab gl (zipF 0 [.t (.int .i64 s)]) (zipF 0 []) (resF [] [(2, some (2, true))] 0 (fun r o => r = twR (newBk s) 0 ∧ o = twO (newBk s))) := by
  have h4 : (s % 4 == 0) = false := by simpa using h3
  have hf1 : s.fdiv 1 = s := Int.fdiv_one s
  have hf2 : s.fdiv 2 = s / 2 := Int.fdiv_eq_ediv_of_nonneg s (by omega)
  have hc0 : s % 2 = 0 ∨ s % 2 = 1 := by omega
  have hc1 : s / 2 % 2 = 0 ∨ s / 2 % 2 = 1 := by omega
  rcases hc0 with c0 | c0 <;> rcases hc1 with c1 | c1
  · exact absurd (by omega) h3
  · rw [newBk_of h3, if_neg (by omega), if_pos (by omega)]
    simp (config := { maxSteps := 2000000 }) (disch := (first | omega | (simp only [lens, lenm]; omega))) only [go_sem, ↓reduceIte, Nat.reduceAdd, Nat.reduceEqDiff, Nat.reduceSub, Nat.reduceMul, Nat.reduceLT, Nat.reduceLeDiff, Nat.reduceBEq, Int.reduceEq, Int.reduceLT, Int.reduceLE, Int.reduceToNat, Int.reduceNeg, Int.reduceAdd, Int.reduceSub, Int.reduceMul, Int.reduceMod, Int.reduceDiv, reduceCtorEq, Nat.reducePow, Int.reducePow, ac_ref8_New, h4, hf1, hf2]
    refine loop_upto 2 (fun k => match k with | 0 => [(0, .t (.int .i64 s)), (2, .ref 4096 0 0), (3, .ref 8208 0 0), (4, .t (.int .i64 0))] | 1 => [(0, .t (.int .i64 s)), (2, .ref 4096 0 0), (3, .ref 8208 0 0), (4, .t (.int .i64 1))] | _ => [(0, .t (.int .i64 s)), (2, .ref 4096 0 0), (3, .ref 8208 0 0), (4, .t (.int .i64 2))]) (fun k => match k with | 0 => [(8208, .live 2 [.agg [.nil, .t (.int .i64 0)]] true true), (4096, .live 2 [.agg [.nil, .t (.int .i64 0)]] true true)] | 1 => [(8208, .live 2 [.agg [.sl 9000 0 1, .t (.int .i64 0)]] true true), (9000, .live 1 [.sl 9001 0 0] true false), (9001, .live 1 ((([] : Bank).map bsT).map V.t) true false), (4096, .live 2 [.agg [.nil, .t (.int .i64 0)]] true true)] | _ => [(8208, .live 2 [.agg [.sl 9000 0 2, .t (.int .i64 0)]] true true), (9000, .live 1 [.sl 9001 0 0, .sl 9002 0 16] true false), (9001, .live 1 ((([] : Bank).map bsT).map V.t) true false), (9002, .live 1 (((newB 1 : Bank).map bsT).map V.t) true false), (4096, .live 2 [.agg [.nil, .t (.int .i64 0)]] true true)]) ?_ (fun k hk => ?_)
    · refine Weak.rd id ?_ ?_ rfl
      all_goals simp (config := { maxSteps := 2000000 }) (disch := (first | omega | (simp only [lens, lenm]; omega))) only [go_sem, ↓reduceIte, Nat.reduceAdd, Nat.reduceEqDiff, Nat.reduceSub, Nat.reduceMul, Nat.reduceLT, Nat.reduceLeDiff, Nat.reduceBEq, Int.reduceEq, Int.reduceLT, Int.reduceLE, Int.reduceToNat, Int.reduceNeg, Int.reduceAdd, Int.reduceSub, Int.reduceMul, Int.reduceMod, Int.reduceDiv, reduceCtorEq, Nat.reducePow, Int.reducePow, id]
    · rcases (show k = 0 ∨ k = 1 ∨ k = 2 by omega) with rfl | rfl | rfl
      · simp (config := { maxSteps := 2000000 }) (disch := (first | omega | (simp only [lens, lenm]; omega))) only [go_sem, ↓reduceIte, Nat.reduceAdd, Nat.reduceEqDiff, Nat.reduceSub, Nat.reduceMul, Nat.reduceLT, Nat.reduceLeDiff, Nat.reduceBEq, Int.reduceEq, Int.reduceLT, Int.reduceLE, Int.reduceToNat, Int.reduceNeg, Int.reduceAdd, Int.reduceSub, Int.reduceMul, Int.reduceMod, Int.reduceDiv, reduceCtorEq, Nat.reducePow, Int.reducePow, ac_ref8_New_L0, c0, c1, newB_length, h1, init_eq0, init_eq1, hf1, hf2]
        refine loop_fuel 1 ?_
        simp (config := { maxSteps := 2000000 }) (disch := (first | omega | (simp only [lens, lenm]; omega))) only [go_sem, ↓reduceIte, Nat.reduceAdd, Nat.reduceEqDiff, Nat.reduceSub, Nat.reduceMul, Nat.reduceLT, Nat.reduceLeDiff, Nat.reduceBEq, Int.reduceEq, Int.reduceLT, Int.reduceLE, Int.reduceToNat, Int.reduceNeg, Int.reduceAdd, Int.reduceSub, Int.reduceMul, Int.reduceMod, Int.reduceDiv, reduceCtorEq, Nat.reducePow, Int.reducePow, loopN_succ, ac_ref8_New_L1, c0, c1, newB_length, h1, init_eq0, init_eq1, hf1, hf2]
        refine Weak.trans (fs' := [(0, .t (.int .i64 s)), (2, .ref 4096 0 0), (3, .ref 8208 0 0), (4, .t (.int .i64 1))]) (Weak.cv0 (hv := [(9001, .live 1 [] true false)]) (ho := [(8208, .live 2 [.agg [.sl 9000 0 1, .t (.int .i64 0)]] true true), (9000, .live 1 [.sl 9001 0 0] true false), (4096, .live 2 [.agg [.nil, .t (.int .i64 0)]] true true)]) (fun j => if j = 9000 then 53312 else j) ?_ ?_ rfl rfl) (Weak.rd id ?_ ?_ rfl)
        all_goals simp (config := { maxSteps := 2000000 }) (disch := (first | omega | (simp only [lens, lenm]; omega))) only [go_sem, ↓reduceIte, Nat.reduceAdd, Nat.reduceEqDiff, Nat.reduceSub, Nat.reduceMul, Nat.reduceLT, Nat.reduceLeDiff, Nat.reduceBEq, Int.reduceEq, Int.reduceLT, Int.reduceLE, Int.reduceToNat, Int.reduceNeg, Int.reduceAdd, Int.reduceSub, Int.reduceMul, Int.reduceMod, Int.reduceDiv, reduceCtorEq, Nat.reducePow, Int.reducePow, List.map_cons, List.map_nil, id]
      · simp (config := { maxSteps := 2000000 }) (disch := (first | omega | (simp only [lens, lenm]; omega))) only [go_sem, ↓reduceIte, Nat.reduceAdd, Nat.reduceEqDiff, Nat.reduceSub, Nat.reduceMul, Nat.reduceLT, Nat.reduceLeDiff, Nat.reduceBEq, Int.reduceEq, Int.reduceLT, Int.reduceLE, Int.reduceToNat, Int.reduceNeg, Int.reduceAdd, Int.reduceSub, Int.reduceMul, Int.reduceMod, Int.reduceDiv, reduceCtorEq, Nat.reducePow, Int.reducePow, ac_ref8_New_L0, c0, c1, newB_length, h1, init_eq0, init_eq1, hf1, hf2]
        refine loop_upto 16 (fun i => [(0, .t (.int .i64 s)), (2, .ref 4096 0 0), (3, .ref 8208 0 0), (4, .t (.int .i64 1)), (5, .sl 9100 0 i), (6, .t (.int .i64 (i : Nat)))]) (fun i => [(9100, .live 1 ((((newB 1).take i).map bsT).map V.t) true false), (8208, .live 2 [.agg [.sl 9000 0 1, .t (.int .i64 0)]] true true), (9000, .live 1 [.sl 9001 0 0] true false), (9001, .live 1 ((([] : Bank).map bsT).map V.t) true false), (4096, .live 2 [.agg [.nil, .t (.int .i64 0)]] true true)]) ?_ (fun i hi => ?_)
        · refine Weak.cv0 (hv := [(9100, .live 1 [] true false)]) (ho := [(8208, .live 2 [.agg [.sl 9000 0 1, .t (.int .i64 0)]] true true), (9000, .live 1 [.sl 9001 0 0] true false), (9001, .live 1 ((([] : Bank).map bsT).map V.t) true false), (4096, .live 2 [.agg [.nil, .t (.int .i64 0)]] true true)]) id ?_ ?_ rfl rfl
          all_goals simp (config := { maxSteps := 2000000 }) (disch := (first | omega | (simp only [lens, lenm]; omega))) only [go_sem, ↓reduceIte, Nat.reduceAdd, Nat.reduceEqDiff, Nat.reduceSub, Nat.reduceMul, Nat.reduceLT, Nat.reduceLeDiff, Nat.reduceBEq, Int.reduceEq, Int.reduceLT, Int.reduceLE, Int.reduceToNat, Int.reduceNeg, Int.reduceAdd, Int.reduceSub, Int.reduceMul, Int.reduceMod, Int.reduceDiv, reduceCtorEq, Nat.reducePow, Int.reducePow, List.map_cons, List.map_nil, id]
        · by_cases hlt : i < 16
          · simp (config := { maxSteps := 2000000 }) (disch := (first | omega | (simp only [lens, lenm]; omega))) only [go_sem, ↓reduceIte, Nat.reduceAdd, Nat.reduceEqDiff, Nat.reduceSub, Nat.reduceMul, Nat.reduceLT, Nat.reduceLeDiff, Nat.reduceBEq, Int.reduceEq, Int.reduceLT, Int.reduceLE, Int.reduceToNat, Int.reduceNeg, Int.reduceAdd, Int.reduceSub, Int.reduceMul, Int.reduceMod, Int.reduceDiv, reduceCtorEq, Nat.reducePow, Int.reducePow, ac_ref8_New_L1, c0, c1, newB_length, h1, init_eq0, init_eq1, hf1, hf2]
            refine ⟨hlt, Weak.cv (hv := []) [49200] (fun j => if j = 9100 then 49232 else j) ?_ rfl⟩
            simp (config := { maxSteps := 2000000 }) (disch := (first | omega | (simp only [lens, lenm]; omega))) only [go_sem, ↓reduceIte, Nat.reduceAdd, Nat.reduceEqDiff, Nat.reduceSub, Nat.reduceMul, Nat.reduceLT, Nat.reduceLeDiff, Nat.reduceBEq, Int.reduceEq, Int.reduceLT, Int.reduceLE, Int.reduceToNat, Int.reduceNeg, Int.reduceAdd, Int.reduceSub, Int.reduceMul, Int.reduceMod, Int.reduceDiv, reduceCtorEq, Nat.reducePow, Int.reducePow, newB_take hlt, szA, List.take_replicate, Nat.min_self]
            rfl
          · have e : i = 16 := by omega
            subst e
            simp (config := { maxSteps := 2000000 }) (disch := (first | omega | (simp only [lens, lenm]; omega))) only [go_sem, ↓reduceIte, Nat.reduceAdd, Nat.reduceEqDiff, Nat.reduceSub, Nat.reduceMul, Nat.reduceLT, Nat.reduceLeDiff, Nat.reduceBEq, Int.reduceEq, Int.reduceLT, Int.reduceLE, Int.reduceToNat, Int.reduceNeg, Int.reduceAdd, Int.reduceSub, Int.reduceMul, Int.reduceMod, Int.reduceDiv, reduceCtorEq, Nat.reducePow, Int.reducePow, ac_ref8_New_L1, c0, c1, newB_length, h1, init_eq0, init_eq1, hf1, hf2]
            refine Weak.rd (fun j => if j = 9000 then 53312 else if j = 9002 then 9100 else j) ?_ ?_ rfl
            all_goals simp (config := { maxSteps := 2000000 }) (disch := (first | omega | (simp only [lens, lenm]; omega))) only [go_sem, ↓reduceIte, Nat.reduceAdd, Nat.reduceEqDiff, Nat.reduceSub, Nat.reduceMul, Nat.reduceLT, Nat.reduceLeDiff, Nat.reduceBEq, Int.reduceEq, Int.reduceLT, Int.reduceLE, Int.reduceToNat, Int.reduceNeg, Int.reduceAdd, Int.reduceSub, Int.reduceMul, Int.reduceMod, Int.reduceDiv, reduceCtorEq, Nat.reducePow, Int.reducePow, newB_all]
      · simp (config := { maxSteps := 2000000 }) (disch := (first | omega | (simp only [lens, lenm]; omega))) only [go_sem, ↓reduceIte, Nat.reduceAdd, Nat.reduceEqDiff, Nat.reduceSub, Nat.reduceMul, Nat.reduceLT, Nat.reduceLeDiff, Nat.reduceBEq, Int.reduceEq, Int.reduceLT, Int.reduceLE, Int.reduceToNat, Int.reduceNeg, Int.reduceAdd, Int.reduceSub, Int.reduceMul, Int.reduceMod, Int.reduceDiv, reduceCtorEq, Nat.reducePow, Int.reducePow, ac_ref8_New_L0, c0, c1, newB_length, h1, init_eq0, init_eq1, hf1, hf2]
        exact ⟨rfl, rfl⟩
  · rw [newBk_of h3, if_pos (by omega), if_neg (by omega)]
    simp (config := { maxSteps := 2000000 }) (disch := (first | omega | (simp only [lens, lenm]; omega))) only [go_sem, ↓reduceIte, Nat.reduceAdd, Nat.reduceEqDiff, Nat.reduceSub, Nat.reduceMul, Nat.reduceLT, Nat.reduceLeDiff, Nat.reduceBEq, Int.reduceEq, Int.reduceLT, Int.reduceLE, Int.reduceToNat, Int.reduceNeg, Int.reduceAdd, Int.reduceSub, Int.reduceMul, Int.reduceMod, Int.reduceDiv, reduceCtorEq, Nat.reducePow, Int.reducePow, ac_ref8_New, h4, hf1, hf2]
    refine loop_upto 2 (fun k => match k with | 0 => [(0, .t (.int .i64 s)), (2, .ref 4096 0 0), (3, .ref 8208 0 0), (4, .t (.int .i64 0))] | 1 => [(0, .t (.int .i64 s)), (2, .ref 4096 0 0), (3, .ref 8208 0 0), (4, .t (.int .i64 1))] | _ => [(0, .t (.int .i64 s)), (2, .ref 4096 0 0), (3, .ref 8208 0 0), (4, .t (.int .i64 2))]) (fun k => match k with | 0 => [(8208, .live 2 [.agg [.nil, .t (.int .i64 0)]] true true), (4096, .live 2 [.agg [.nil, .t (.int .i64 0)]] true true)] | 1 => [(8208, .live 2 [.agg [.sl 9000 0 1, .t (.int .i64 0)]] true true), (9000, .live 1 [.sl 9001 0 16] true false), (9001, .live 1 (((newB 0 : Bank).map bsT).map V.t) true false), (4096, .live 2 [.agg [.nil, .t (.int .i64 0)]] true true)] | _ => [(8208, .live 2 [.agg [.sl 9000 0 2, .t (.int .i64 0)]] true true), (9000, .live 1 [.sl 9001 0 16, .sl 9002 0 0] true false), (9001, .live 1 (((newB 0 : Bank).map bsT).map V.t) true false), (9002, .live 1 ((([] : Bank).map bsT).map V.t) true false), (4096, .live 2 [.agg [.nil, .t (.int .i64 0)]] true true)]) ?_ (fun k hk => ?_)
    · refine Weak.rd id ?_ ?_ rfl
      all_goals simp (config := { maxSteps := 2000000 }) (disch := (first | omega | (simp only [lens, lenm]; omega))) only [go_sem, ↓reduceIte, Nat.reduceAdd, Nat.reduceEqDiff, Nat.reduceSub, Nat.reduceMul, Nat.reduceLT, Nat.reduceLeDiff, Nat.reduceBEq, Int.reduceEq, Int.reduceLT, Int.reduceLE, Int.reduceToNat, Int.reduceNeg, Int.reduceAdd, Int.reduceSub, Int.reduceMul, Int.reduceMod, Int.reduceDiv, reduceCtorEq, Nat.reducePow, Int.reducePow, id]
    · rcases (show k = 0 ∨ k = 1 ∨ k = 2 by omega) with rfl | rfl | rfl
      · simp (config := { maxSteps := 2000000 }) (disch := (first | omega | (simp only [lens, lenm]; omega))) only [go_sem, ↓reduceIte, Nat.reduceAdd, Nat.reduceEqDiff, Nat.reduceSub, Nat.reduceMul, Nat.reduceLT, Nat.reduceLeDiff, Nat.reduceBEq, Int.reduceEq, Int.reduceLT, Int.reduceLE, Int.reduceToNat, Int.reduceNeg, Int.reduceAdd, Int.reduceSub, Int.reduceMul, Int.reduceMod, Int.reduceDiv, reduceCtorEq, Nat.reducePow, Int.reducePow, ac_ref8_New_L0, c0, c1, newB_length, h1, init_eq0, init_eq1, hf1, hf2]
        refine loop_upto 16 (fun i => [(0, .t (.int .i64 s)), (2, .ref 4096 0 0), (3, .ref 8208 0 0), (4, .t (.int .i64 0)), (5, .sl 9100 0 i), (6, .t (.int .i64 (i : Nat)))]) (fun i => [(9100, .live 1 ((((newB 0).take i).map bsT).map V.t) true false), (8208, .live 2 [.agg [.nil, .t (.int .i64 0)]] true true), (4096, .live 2 [.agg [.nil, .t (.int .i64 0)]] true true)]) ?_ (fun i hi => ?_)
        · refine Weak.cv0 (hv := [(9100, .live 1 [] true false)]) (ho := [(8208, .live 2 [.agg [.nil, .t (.int .i64 0)]] true true), (4096, .live 2 [.agg [.nil, .t (.int .i64 0)]] true true)]) id ?_ ?_ rfl rfl
          all_goals simp (config := { maxSteps := 2000000 }) (disch := (first | omega | (simp only [lens, lenm]; omega))) only [go_sem, ↓reduceIte, Nat.reduceAdd, Nat.reduceEqDiff, Nat.reduceSub, Nat.reduceMul, Nat.reduceLT, Nat.reduceLeDiff, Nat.reduceBEq, Int.reduceEq, Int.reduceLT, Int.reduceLE, Int.reduceToNat, Int.reduceNeg, Int.reduceAdd, Int.reduceSub, Int.reduceMul, Int.reduceMod, Int.reduceDiv, reduceCtorEq, Nat.reducePow, Int.reducePow, List.map_cons, List.map_nil, id]
        · by_cases hlt : i < 16
          · simp (config := { maxSteps := 2000000 }) (disch := (first | omega | (simp only [lens, lenm]; omega))) only [go_sem, ↓reduceIte, Nat.reduceAdd, Nat.reduceEqDiff, Nat.reduceSub, Nat.reduceMul, Nat.reduceLT, Nat.reduceLeDiff, Nat.reduceBEq, Int.reduceEq, Int.reduceLT, Int.reduceLE, Int.reduceToNat, Int.reduceNeg, Int.reduceAdd, Int.reduceSub, Int.reduceMul, Int.reduceMod, Int.reduceDiv, reduceCtorEq, Nat.reducePow, Int.reducePow, ac_ref8_New_L1, c0, c1, newB_length, h1, init_eq0, init_eq1, hf1, hf2]
            refine ⟨hlt, Weak.cv (hv := []) [49200] (fun j => if j = 9100 then 49232 else j) ?_ rfl⟩
            simp (config := { maxSteps := 2000000 }) (disch := (first | omega | (simp only [lens, lenm]; omega))) only [go_sem, ↓reduceIte, Nat.reduceAdd, Nat.reduceEqDiff, Nat.reduceSub, Nat.reduceMul, Nat.reduceLT, Nat.reduceLeDiff, Nat.reduceBEq, Int.reduceEq, Int.reduceLT, Int.reduceLE, Int.reduceToNat, Int.reduceNeg, Int.reduceAdd, Int.reduceSub, Int.reduceMul, Int.reduceMod, Int.reduceDiv, reduceCtorEq, Nat.reducePow, Int.reducePow, newB_take hlt, szA, List.take_replicate, Nat.min_self]
            rfl
          · have e : i = 16 := by omega
            subst e
            simp (config := { maxSteps := 2000000 }) (disch := (first | omega | (simp only [lens, lenm]; omega))) only [go_sem, ↓reduceIte, Nat.reduceAdd, Nat.reduceEqDiff, Nat.reduceSub, Nat.reduceMul, Nat.reduceLT, Nat.reduceLeDiff, Nat.reduceBEq, Int.reduceEq, Int.reduceLT, Int.reduceLE, Int.reduceToNat, Int.reduceNeg, Int.reduceAdd, Int.reduceSub, Int.reduceMul, Int.reduceMod, Int.reduceDiv, reduceCtorEq, Nat.reducePow, Int.reducePow, ac_ref8_New_L1, c0, c1, newB_length, h1, init_eq0, init_eq1, hf1, hf2]
            refine Weak.rd (fun j => if j = 9000 then 53312 else if j = 9001 then 9100 else j) ?_ ?_ rfl
            all_goals simp (config := { maxSteps := 2000000 }) (disch := (first | omega | (simp only [lens, lenm]; omega))) only [go_sem, ↓reduceIte, Nat.reduceAdd, Nat.reduceEqDiff, Nat.reduceSub, Nat.reduceMul, Nat.reduceLT, Nat.reduceLeDiff, Nat.reduceBEq, Int.reduceEq, Int.reduceLT, Int.reduceLE, Int.reduceToNat, Int.reduceNeg, Int.reduceAdd, Int.reduceSub, Int.reduceMul, Int.reduceMod, Int.reduceDiv, reduceCtorEq, Nat.reducePow, Int.reducePow, newB_all]
      · simp (config := { maxSteps := 2000000 }) (disch := (first | omega | (simp only [lens, lenm]; omega))) only [go_sem, ↓reduceIte, Nat.reduceAdd, Nat.reduceEqDiff, Nat.reduceSub, Nat.reduceMul, Nat.reduceLT, Nat.reduceLeDiff, Nat.reduceBEq, Int.reduceEq, Int.reduceLT, Int.reduceLE, Int.reduceToNat, Int.reduceNeg, Int.reduceAdd, Int.reduceSub, Int.reduceMul, Int.reduceMod, Int.reduceDiv, reduceCtorEq, Nat.reducePow, Int.reducePow, ac_ref8_New_L0, c0, c1, newB_length, h1, init_eq0, init_eq1, hf1, hf2]
        refine loop_fuel 1 ?_
        simp (config := { maxSteps := 2000000 }) (disch := (first | omega | (simp only [lens, lenm]; omega))) only [go_sem, ↓reduceIte, Nat.reduceAdd, Nat.reduceEqDiff, Nat.reduceSub, Nat.reduceMul, Nat.reduceLT, Nat.reduceLeDiff, Nat.reduceBEq, Int.reduceEq, Int.reduceLT, Int.reduceLE, Int.reduceToNat, Int.reduceNeg, Int.reduceAdd, Int.reduceSub, Int.reduceMul, Int.reduceMod, Int.reduceDiv, reduceCtorEq, Nat.reducePow, Int.reducePow, loopN_succ, ac_ref8_New_L1, c0, c1, newB_length, h1, init_eq0, init_eq1, hf1, hf2]
        refine Weak.trans (fs' := [(0, .t (.int .i64 s)), (2, .ref 4096 0 0), (3, .ref 8208 0 0), (4, .t (.int .i64 2))]) (Weak.cv0 (hv := [(9002, .live 1 [] true false)]) (ho := [(8208, .live 2 [.agg [.sl 9000 0 2, .t (.int .i64 0)]] true true), (9000, .live 1 [.sl 9001 0 16, .sl 9002 0 0] true false), (9001, .live 1 (((newB 0 : Bank).map bsT).map V.t) true false), (4096, .live 2 [.agg [.nil, .t (.int .i64 0)]] true true)]) (fun j => if j = 9000 then 53312 else j) ?_ ?_ rfl rfl) (Weak.rd id ?_ ?_ rfl)
        all_goals simp (config := { maxSteps := 2000000 }) (disch := (first | omega | (simp only [lens, lenm]; omega))) only [go_sem, ↓reduceIte, Nat.reduceAdd, Nat.reduceEqDiff, Nat.reduceSub, Nat.reduceMul, Nat.reduceLT, Nat.reduceLeDiff, Nat.reduceBEq, Int.reduceEq, Int.reduceLT, Int.reduceLE, Int.reduceToNat, Int.reduceNeg, Int.reduceAdd, Int.reduceSub, Int.reduceMul, Int.reduceMod, Int.reduceDiv, reduceCtorEq, Nat.reducePow, Int.reducePow, List.map_cons, List.map_nil, id]
      · simp (config := { maxSteps := 2000000 }) (disch := (first | omega | (simp only [lens, lenm]; omega))) only [go_sem, ↓reduceIte, Nat.reduceAdd, Nat.reduceEqDiff, Nat.reduceSub, Nat.reduceMul, Nat.reduceLT, Nat.reduceLeDiff, Nat.reduceBEq, Int.reduceEq, Int.reduceLT, Int.reduceLE, Int.reduceToNat, Int.reduceNeg, Int.reduceAdd, Int.reduceSub, Int.reduceMul, Int.reduceMod, Int.reduceDiv, reduceCtorEq, Nat.reducePow, Int.reducePow, ac_ref8_New_L0, c0, c1, newB_length, h1, init_eq0, init_eq1, hf1, hf2]
        exact ⟨rfl, rfl⟩
  · rw [newBk_of h3, if_pos (by omega), if_pos (by omega)]
    simp (config := { maxSteps := 2000000 }) (disch := (first | omega | (simp only [lens, lenm]; omega))) only [go_sem, ↓reduceIte, Nat.reduceAdd, Nat.reduceEqDiff, Nat.reduceSub, Nat.reduceMul, Nat.reduceLT, Nat.reduceLeDiff, Nat.reduceBEq, Int.reduceEq, Int.reduceLT, Int.reduceLE, Int.reduceToNat, Int.reduceNeg, Int.reduceAdd, Int.reduceSub, Int.reduceMul, Int.reduceMod, Int.reduceDiv, reduceCtorEq, Nat.reducePow, Int.reducePow, ac_ref8_New, h4, hf1, hf2]
    refine loop_upto 2 (fun k => match k with | 0 => [(0, .t (.int .i64 s)), (2, .ref 4096 0 0), (3, .ref 8208 0 0), (4, .t (.int .i64 0))] | 1 => [(0, .t (.int .i64 s)), (2, .ref 4096 0 0), (3, .ref 8208 0 0), (4, .t (.int .i64 1))] | _ => [(0, .t (.int .i64 s)), (2, .ref 4096 0 0), (3, .ref 8208 0 0), (4, .t (.int .i64 2))]) (fun k => match k with | 0 => [(8208, .live 2 [.agg [.nil, .t (.int .i64 0)]] true true), (4096, .live 2 [.agg [.nil, .t (.int .i64 0)]] true true)] | 1 => [(8208, .live 2 [.agg [.sl 9000 0 1, .t (.int .i64 0)]] true true), (9000, .live 1 [.sl 9001 0 16] true false), (9001, .live 1 (((newB 0 : Bank).map bsT).map V.t) true false), (4096, .live 2 [.agg [.nil, .t (.int .i64 0)]] true true)] | _ => [(8208, .live 2 [.agg [.sl 9000 0 2, .t (.int .i64 0)]] true true), (9000, .live 1 [.sl 9001 0 16, .sl 9002 0 16] true false), (9001, .live 1 (((newB 0 : Bank).map bsT).map V.t) true false), (9002, .live 1 (((newB 1 : Bank).map bsT).map V.t) true false), (4096, .live 2 [.agg [.nil, .t (.int .i64 0)]] true true)]) ?_ (fun k hk => ?_)
    · refine Weak.rd id ?_ ?_ rfl
      all_goals simp (config := { maxSteps := 2000000 }) (disch := (first | omega | (simp only [lens, lenm]; omega))) only [go_sem, ↓reduceIte, Nat.reduceAdd, Nat.reduceEqDiff, Nat.reduceSub, Nat.reduceMul, Nat.reduceLT, Nat.reduceLeDiff, Nat.reduceBEq, Int.reduceEq, Int.reduceLT, Int.reduceLE, Int.reduceToNat, Int.reduceNeg, Int.reduceAdd, Int.reduceSub, Int.reduceMul, Int.reduceMod, Int.reduceDiv, reduceCtorEq, Nat.reducePow, Int.reducePow, id]
    · rcases (show k = 0 ∨ k = 1 ∨ k = 2 by omega) with rfl | rfl | rfl
      · simp (config := { maxSteps := 2000000 }) (disch := (first | omega | (simp only [lens, lenm]; omega))) only [go_sem, ↓reduceIte, Nat.reduceAdd, Nat.reduceEqDiff, Nat.reduceSub, Nat.reduceMul, Nat.reduceLT, Nat.reduceLeDiff, Nat.reduceBEq, Int.reduceEq, Int.reduceLT, Int.reduceLE, Int.reduceToNat, Int.reduceNeg, Int.reduceAdd, Int.reduceSub, Int.reduceMul, Int.reduceMod, Int.reduceDiv, reduceCtorEq, Nat.reducePow, Int.reducePow, ac_ref8_New_L0, c0, c1, newB_length, h1, init_eq0, init_eq1, hf1, hf2]
        refine loop_upto 16 (fun i => [(0, .t (.int .i64 s)), (2, .ref 4096 0 0), (3, .ref 8208 0 0), (4, .t (.int .i64 0)), (5, .sl 9100 0 i), (6, .t (.int .i64 (i : Nat)))]) (fun i => [(9100, .live 1 ((((newB 0).take i).map bsT).map V.t) true false), (8208, .live 2 [.agg [.nil, .t (.int .i64 0)]] true true), (4096, .live 2 [.agg [.nil, .t (.int .i64 0)]] true true)]) ?_ (fun i hi => ?_)
        · refine Weak.cv0 (hv := [(9100, .live 1 [] true false)]) (ho := [(8208, .live 2 [.agg [.nil, .t (.int .i64 0)]] true true), (4096, .live 2 [.agg [.nil, .t (.int .i64 0)]] true true)]) id ?_ ?_ rfl rfl
          all_goals simp (config := { maxSteps := 2000000 }) (disch := (first | omega | (simp only [lens, lenm]; omega))) only [go_sem, ↓reduceIte, Nat.reduceAdd, Nat.reduceEqDiff, Nat.reduceSub, Nat.reduceMul, Nat.reduceLT, Nat.reduceLeDiff, Nat.reduceBEq, Int.reduceEq, Int.reduceLT, Int.reduceLE, Int.reduceToNat, Int.reduceNeg, Int.reduceAdd, Int.reduceSub, Int.reduceMul, Int.reduceMod, Int.reduceDiv, reduceCtorEq, Nat.reducePow, Int.reducePow, List.map_cons, List.map_nil, id]
        · by_cases hlt : i < 16
          · simp (config := { maxSteps := 2000000 }) (disch := (first | omega | (simp only [lens, lenm]; omega))) only [go_sem, ↓reduceIte, Nat.reduceAdd, Nat.reduceEqDiff, Nat.reduceSub, Nat.reduceMul, Nat.reduceLT, Nat.reduceLeDiff, Nat.reduceBEq, Int.reduceEq, Int.reduceLT, Int.reduceLE, Int.reduceToNat, Int.reduceNeg, Int.reduceAdd, Int.reduceSub, Int.reduceMul, Int.reduceMod, Int.reduceDiv, reduceCtorEq, Nat.reducePow, Int.reducePow, ac_ref8_New_L1, c0, c1, newB_length, h1, init_eq0, init_eq1, hf1, hf2]
            refine ⟨hlt, Weak.cv (hv := []) [49200] (fun j => if j = 9100 then 49232 else j) ?_ rfl⟩
            simp (config := { maxSteps := 2000000 }) (disch := (first | omega | (simp only [lens, lenm]; omega))) only [go_sem, ↓reduceIte, Nat.reduceAdd, Nat.reduceEqDiff, Nat.reduceSub, Nat.reduceMul, Nat.reduceLT, Nat.reduceLeDiff, Nat.reduceBEq, Int.reduceEq, Int.reduceLT, Int.reduceLE, Int.reduceToNat, Int.reduceNeg, Int.reduceAdd, Int.reduceSub, Int.reduceMul, Int.reduceMod, Int.reduceDiv, reduceCtorEq, Nat.reducePow, Int.reducePow, newB_take hlt, szA, List.take_replicate, Nat.min_self]
            rfl
          · have e : i = 16 := by omega
            subst e
            simp (config := { maxSteps := 2000000 }) (disch := (first | omega | (simp only [lens, lenm]; omega))) only [go_sem, ↓reduceIte, Nat.reduceAdd, Nat.reduceEqDiff, Nat.reduceSub, Nat.reduceMul, Nat.reduceLT, Nat.reduceLeDiff, Nat.reduceBEq, Int.reduceEq, Int.reduceLT, Int.reduceLE, Int.reduceToNat, Int.reduceNeg, Int.reduceAdd, Int.reduceSub, Int.reduceMul, Int.reduceMod, Int.reduceDiv, reduceCtorEq, Nat.reducePow, Int.reducePow, ac_ref8_New_L1, c0, c1, newB_length, h1, init_eq0, init_eq1, hf1, hf2]
            refine Weak.rd (fun j => if j = 9000 then 53312 else if j = 9001 then 9100 else j) ?_ ?_ rfl
            all_goals simp (config := { maxSteps := 2000000 }) (disch := (first | omega | (simp only [lens, lenm]; omega))) only [go_sem, ↓reduceIte, Nat.reduceAdd, Nat.reduceEqDiff, Nat.reduceSub, Nat.reduceMul, Nat.reduceLT, Nat.reduceLeDiff, Nat.reduceBEq, Int.reduceEq, Int.reduceLT, Int.reduceLE, Int.reduceToNat, Int.reduceNeg, Int.reduceAdd, Int.reduceSub, Int.reduceMul, Int.reduceMod, Int.reduceDiv, reduceCtorEq, Nat.reducePow, Int.reducePow, newB_all]
      · simp (config := { maxSteps := 2000000 }) (disch := (first | omega | (simp only [lens, lenm]; omega))) only [go_sem, ↓reduceIte, Nat.reduceAdd, Nat.reduceEqDiff, Nat.reduceSub, Nat.reduceMul, Nat.reduceLT, Nat.reduceLeDiff, Nat.reduceBEq, Int.reduceEq, Int.reduceLT, Int.reduceLE, Int.reduceToNat, Int.reduceNeg, Int.reduceAdd, Int.reduceSub, Int.reduceMul, Int.reduceMod, Int.reduceDiv, reduceCtorEq, Nat.reducePow, Int.reducePow, ac_ref8_New_L0, c0, c1, newB_length, h1, init_eq0, init_eq1, hf1, hf2]
        refine loop_upto 16 (fun i => [(0, .t (.int .i64 s)), (2, .ref 4096 0 0), (3, .ref 8208 0 0), (4, .t (.int .i64 1)), (5, .sl 9100 0 i), (6, .t (.int .i64 (i : Nat)))]) (fun i => [(9100, .live 1 ((((newB 1).take i).map bsT).map V.t) true false), (8208, .live 2 [.agg [.sl 9000 0 1, .t (.int .i64 0)]] true true), (9000, .live 1 [.sl 9001 0 16] true false), (9001, .live 1 (((newB 0 : Bank).map bsT).map V.t) true false), (4096, .live 2 [.agg [.nil, .t (.int .i64 0)]] true true)]) ?_ (fun i hi => ?_)
        · refine Weak.cv0 (hv := [(9100, .live 1 [] true false)]) (ho := [(8208, .live 2 [.agg [.sl 9000 0 1, .t (.int .i64 0)]] true true), (9000, .live 1 [.sl 9001 0 16] true false), (9001, .live 1 (((newB 0 : Bank).map bsT).map V.t) true false), (4096, .live 2 [.agg [.nil, .t (.int .i64 0)]] true true)]) id ?_ ?_ rfl rfl
          all_goals simp (config := { maxSteps := 2000000 }) (disch := (first | omega | (simp only [lens, lenm]; omega))) only [go_sem, ↓reduceIte, Nat.reduceAdd, Nat.reduceEqDiff, Nat.reduceSub, Nat.reduceMul, Nat.reduceLT, Nat.reduceLeDiff, Nat.reduceBEq, Int.reduceEq, Int.reduceLT, Int.reduceLE, Int.reduceToNat, Int.reduceNeg, Int.reduceAdd, Int.reduceSub, Int.reduceMul, Int.reduceMod, Int.reduceDiv, reduceCtorEq, Nat.reducePow, Int.reducePow, List.map_cons, List.map_nil, id]
        · by_cases hlt : i < 16
          · simp (config := { maxSteps := 2000000 }) (disch := (first | omega | (simp only [lens, lenm]; omega))) only [go_sem, ↓reduceIte, Nat.reduceAdd, Nat.reduceEqDiff, Nat.reduceSub, Nat.reduceMul, Nat.reduceLT, Nat.reduceLeDiff, Nat.reduceBEq, Int.reduceEq, Int.reduceLT, Int.reduceLE, Int.reduceToNat, Int.reduceNeg, Int.reduceAdd, Int.reduceSub, Int.reduceMul, Int.reduceMod, Int.reduceDiv, reduceCtorEq, Nat.reducePow, Int.reducePow, ac_ref8_New_L1, c0, c1, newB_length, h1, init_eq0, init_eq1, hf1, hf2]
            refine ⟨hlt, Weak.cv (hv := []) [49200] (fun j => if j = 9100 then 49232 else j) ?_ rfl⟩
            simp (config := { maxSteps := 2000000 }) (disch := (first | omega | (simp only [lens, lenm]; omega))) only [go_sem, ↓reduceIte, Nat.reduceAdd, Nat.reduceEqDiff, Nat.reduceSub, Nat.reduceMul, Nat.reduceLT, Nat.reduceLeDiff, Nat.reduceBEq, Int.reduceEq, Int.reduceLT, Int.reduceLE, Int.reduceToNat, Int.reduceNeg, Int.reduceAdd, Int.reduceSub, Int.reduceMul, Int.reduceMod, Int.reduceDiv, reduceCtorEq, Nat.reducePow, Int.reducePow, newB_take hlt, szA, List.take_replicate, Nat.min_self]
            rfl
          · have e : i = 16 := by omega
            subst e
            simp (config := { maxSteps := 2000000 }) (disch := (first | omega | (simp only [lens, lenm]; omega))) only [go_sem, ↓reduceIte, Nat.reduceAdd, Nat.reduceEqDiff, Nat.reduceSub, Nat.reduceMul, Nat.reduceLT, Nat.reduceLeDiff, Nat.reduceBEq, Int.reduceEq, Int.reduceLT, Int.reduceLE, Int.reduceToNat, Int.reduceNeg, Int.reduceAdd, Int.reduceSub, Int.reduceMul, Int.reduceMod, Int.reduceDiv, reduceCtorEq, Nat.reducePow, Int.reducePow, ac_ref8_New_L1, c0, c1, newB_length, h1, init_eq0, init_eq1, hf1, hf2]
            refine Weak.rd (fun j => if j = 9000 then 53312 else if j = 9002 then 9100 else j) ?_ ?_ rfl
            all_goals simp (config := { maxSteps := 2000000 }) (disch := (first | omega | (simp only [lens, lenm]; omega))) only [go_sem, ↓reduceIte, Nat.reduceAdd, Nat.reduceEqDiff, Nat.reduceSub, Nat.reduceMul, Nat.reduceLT, Nat.reduceLeDiff, Nat.reduceBEq, Int.reduceEq, Int.reduceLT, Int.reduceLE, Int.reduceToNat, Int.reduceNeg, Int.reduceAdd, Int.reduceSub, Int.reduceMul, Int.reduceMod, Int.reduceDiv, reduceCtorEq, Nat.reducePow, Int.reducePow, newB_all]
      · simp (config := { maxSteps := 2000000 }) (disch := (first | omega | (simp only [lens, lenm]; omega))) only [go_sem, ↓reduceIte, Nat.reduceAdd, Nat.reduceEqDiff, Nat.reduceSub, Nat.reduceMul, Nat.reduceLT, Nat.reduceLeDiff, Nat.reduceBEq, Int.reduceEq, Int.reduceLT, Int.reduceLE, Int.reduceToNat, Int.reduceNeg, Int.reduceAdd, Int.reduceSub, Int.reduceMul, Int.reduceMod, Int.reduceDiv, reduceCtorEq, Nat.reducePow, Int.reducePow, ac_ref8_New_L0, c0, c1, newB_length, h1, init_eq0, init_eq1, hf1, hf2]
        exact ⟨rfl, rfl⟩
end Go.Eng
end
section
set_option maxRecDepth 20000
set_option maxHeartbeats 16000000
namespace Go.Eng
def ct_index : Ct where
  α := Int
  as x := [.t (.int .i64 x)]
  ins _ := []
  pre _ := True
  r x := .t (.bool (decide ((0 : Int) ≤ x ∧ x < (16 : Int))))
  outs _ := []
  inj := by
    intro a b h _
    simp at h
    subst h; exact ⟨rfl, rfl⟩
theorem index_t {i : Int} (h : 0 ≤ i ∧ i < 16) : ct_index.fs [.t (.int .i64 i)] [] = some (.t (.bool true), []) := by
  refine (ct_index.eq i trivial).trans ?_
  simp [ct_index, h]
theorem index_f {i : Int} (h : ¬ (0 ≤ i ∧ i < 16)) : ct_index.fs [.t (.int .i64 i)] [] = some (.t (.bool false), []) := by
  refine (ct_index.eq i trivial).trans ?_
  simp only [ct_index, decide_eq_false h]
def ct_on : Ct where
  α := List Bank × Int × Nat
  as x := [.t (regT x.1 x.2.1), .t (.int .i64 x.2.2)]
  ins _ := []
  pre x := RK x.1 ∧ x.2.2 < 2
  r x := .t (.bool (onB x.1 x.2.2))
  outs _ := []
  inj := by
    rintro ⟨a, u, i⟩ ⟨b, v, j⟩ h _
    simp only [List.cons.injEq, V.t.injEq, T.int.injEq, true_and, and_true, Int.natCast_inj] at h
    obtain ⟨h1, rfl⟩ := h
    obtain ⟨rfl, rfl⟩ := regT_inj h1
    exact ⟨rfl, rfl⟩
theorem on_eq {bk : List Bank} {u : Int} {a : Nat} (hk : RK bk) (h : a < 2) : ct_on.fs [.t (.agg [.sl (bk.map bankT), .int .i64 u]), .t (.int .i64 a)] [] = some (.t (.bool (onB bk a)), []) := ct_on.eq (bk, u, a) ⟨hk, h⟩
theorem on_eq0 {b0 b1 : Bank} {u : Int} (hk : RK [b0, b1]) : ct_on.fs [.t (.agg [.sl [.sl (b0.map bsT), .sl (b1.map bsT)], .int .i64 u]), .t (.int .i64 0)] [] = some (.t (.bool (decide (b0.length = 16))), []) := ct_on.eq ([b0, b1], u, 0) ⟨hk, by show 0 < 2; omega⟩
theorem on_eq1 {b0 b1 : Bank} {u : Int} (hk : RK [b0, b1]) : ct_on.fs [.t (.agg [.sl [.sl (b0.map bsT), .sl (b1.map bsT)], .int .i64 u]), .t (.int .i64 1)] [] = some (.t (.bool (decide (b1.length = 16))), []) := ct_on.eq ([b0, b1], u, 1) ⟨hk, by show 1 < 2; omega⟩
theorem on_eqn {u : Int} {a : Nat} (h : a < 2) : ct_on.fs [.t (.agg [.sl [], .int .i64 u]), .t (.int .i64 a)] [] = some (.t (.bool false), []) := by
  refine (ct_on.eq ([], u, a) ⟨.nil, h⟩).trans ?_
  simp [ct_on, onB]
def ct_actv : Ct where
  α := List Bank × Int × Nat
  as x := [.t (regT x.1 x.2.1), .t (.int .i64 x.2.2)]
  ins _ := []
  pre x := RK x.1 ∧ x.2.2 < 1000000000
  r x := .t (.bool (actB x.1 x.2.2))
  outs _ := []
  inj := by
    rintro ⟨a, u, i⟩ ⟨b, v, j⟩ h _
    simp only [List.cons.injEq, V.t.injEq, T.int.injEq, true_and, and_true, Int.natCast_inj] at h
    obtain ⟨h1, rfl⟩ := h
    obtain ⟨rfl, rfl⟩ := regT_inj h1
    exact ⟨rfl, rfl⟩
theorem RK.on {bk : List Bank} (h : RK bk) (a : Nat) : actB bk a = onB bk a := by
  cases h with
  | nil => simp [actB, onB]
  | two b0 b1 h0 h1 =>
    have key : ∀ b : Bank, bkOk b → decide (0 < List.length b) = decide (List.length b = 16) := by
      intro b hb
      rcases hb with h | h <;> simp [h]
    match a with
    | 0 => simpa [actB, onB] using key b0 h0
    | 1 => simpa [actB, onB] using key b1 h1
    | a + 2 => simp [actB, onB]
theorem actv_eq {bk : List Bank} {u : Int} {a : Nat} (hk : RK bk) (h : a < 1000000000) : ct_actv.fs [.t (.agg [.sl (bk.map bankT), .int .i64 u]), .t (.int .i64 a)] [] = some (.t (.bool (onB bk a)), []) := by
  refine (ct_actv.eq (bk, u, a) ⟨hk, h⟩).trans ?_
  simp only [ct_actv, hk.on]
theorem actv_eq0 {b0 b1 : Bank} {u : Int} (hk : RK [b0, b1]) : ct_actv.fs [.t (.agg [.sl [.sl (b0.map bsT), .sl (b1.map bsT)], .int .i64 u]), .t (.int .i64 0)] [] = some (.t (.bool (decide (b0.length = 16))), []) := by
  refine (ct_actv.eq ([b0, b1], u, 0) ⟨hk, by show 0 < 1000000000; omega⟩).trans ?_
  simp only [ct_actv, hk.on]; rfl
theorem actv_eq1 {b0 b1 : Bank} {u : Int} (hk : RK [b0, b1]) : ct_actv.fs [.t (.agg [.sl [.sl (b0.map bsT), .sl (b1.map bsT)], .int .i64 u]), .t (.int .i64 1)] [] = some (.t (.bool (decide (b1.length = 16))), []) := by
  refine (ct_actv.eq ([b0, b1], u, 1) ⟨hk, by show 1 < 1000000000; omega⟩).trans ?_
  simp only [ct_actv, hk.on]; rfl
def valL (bk : List Bank) (a i : Nat) : List UInt8 := (bk.getD a []).getD i []
def badR (bank i : Int) : Prop := bank < 0 ∨ 2 ≤ bank ∨ i < 0 ∨ 16 ≤ i
instance (bank i : Int) : Decidable (badR bank i) := by unfold badR; infer_instance
def valR (bk : List Bank) (bank i : Int) : V := if badR bank i then .tup [.nil, .t (.int .i64 1)] else if onB bk bank.toNat then .tup [.sl 0 0 (valL bk bank.toNat i.toNat).length, .t (.int .i64 0)] else .tup [.nil, .t (.int .i64 27)]
def valO (bk : List Bank) (bank i : Int) : List Ob := if badR bank i then [] else if onB bk bank.toNat then [.live 1 (((valL bk bank.toNat i.toNat).map byteT).map V.t) true false] else []
theorem RM.val {bk : List Bank} (h : RM bk) (a i : Nat) : (valL bk a i).length < 1000000000 := by
  by_cases ha : a < bk.length
  · have e : bk.getD a [] = bk[a] := by simp [List.getD, ha]
    unfold valL
    rw [e]
    exact modL_get (h.2 _ (List.getElem_mem ha)) i
  · have e : bk.getD a [] = [] := by simp [List.getD, List.getElem?_eq_none (Nat.le_of_not_lt ha)]
    unfold valL
    rw [e]; simp
theorem RK.len {bk : List Bank} (h : RK bk) {a : Nat} (ho : onB bk a = true) : a < bk.length := by
  simp only [onB, decide_eq_true_eq] at ho
  rcases Nat.lt_or_ge a bk.length with h1 | h1
  · exact h1
  · rw [List.getD, List.getElem?_eq_none h1] at ho; simp at ho
theorem w_registers_Value (tab : Tab) (gl : Gl) (n1 n2 : Nat) (h1 : tab.look n1 = some ct_index.fs) (h2 : tab.look n2 = some ct_on.fs) (bk : List Bank) (u bank i : Int) (hk : RM bk) :
    (ac_registers_Value n1 n2).wp tab gl (zipF 0 [.t (regT bk u), .t (.int .i64 bank), .t (.int .i64 i)]) (zipF 0 []) (resF [] [(6, none), (7, none)] 0 (fun r o => r = valR bk bank i ∧ o = valO bk bank i)) := by
  by_cases hb : badR bank i
  · rw [valR, valO, if_pos hb, if_pos hb]
    by_cases b1 : bank < 0
    · simp (config := { maxSteps := 2000000 }) (disch := (first | omega | (simp only [lens, lenm]; omega))) only [go_sem, ↓reduceIte, Nat.reduceAdd, Nat.reduceEqDiff, Nat.reduceSub, Nat.reduceMul, Nat.reduceLT, Nat.reduceLeDiff, Nat.reduceBEq, Int.reduceEq, Int.reduceLT, Int.reduceLE, Int.reduceToNat, Int.reduceNeg, Int.reduceAdd, Int.reduceSub, Int.reduceMul, Int.reduceMod, Int.reduceDiv, reduceCtorEq, Nat.reducePow, Int.reducePow, ac_registers_Value, b1]
    · by_cases b2 : 2 ≤ bank
      · simp (config := { maxSteps := 2000000 }) (disch := (first | omega | (simp only [lens, lenm]; omega))) only [go_sem, ↓reduceIte, Nat.reduceAdd, Nat.reduceEqDiff, Nat.reduceSub, Nat.reduceMul, Nat.reduceLT, Nat.reduceLeDiff, Nat.reduceBEq, Int.reduceEq, Int.reduceLT, Int.reduceLE, Int.reduceToNat, Int.reduceNeg, Int.reduceAdd, Int.reduceSub, Int.reduceMul, Int.reduceMod, Int.reduceDiv, reduceCtorEq, Nat.reducePow, Int.reducePow, ac_registers_Value, b1]
      · have hi : ¬ (0 ≤ i ∧ i < 16) := by unfold badR at hb; omega
        simp (config := { maxSteps := 2000000 }) (disch := (first | omega | (simp only [lens, lenm]; omega))) only [go_sem, ↓reduceIte, Nat.reduceAdd, Nat.reduceEqDiff, Nat.reduceSub, Nat.reduceMul, Nat.reduceLT, Nat.reduceLeDiff, Nat.reduceBEq, Int.reduceEq, Int.reduceLT, Int.reduceLE, Int.reduceToNat, Int.reduceNeg, Int.reduceAdd, Int.reduceSub, Int.reduceMul, Int.reduceMod, Int.reduceDiv, reduceCtorEq, Nat.reducePow, Int.reducePow, ac_registers_Value, b1, h1, index_f]
  · rw [valR, valO, if_neg hb, if_neg hb]
    unfold badR at hb
    obtain ⟨a, rfl⟩ := Int.eq_ofNat_of_zero_le (show 0 ≤ bank by omega)
    obtain ⟨k, rfl⟩ := Int.eq_ofNat_of_zero_le (show 0 ≤ i by omega)
    have hon := on_eq (u := u) (a := a) hk.1 (by omega)
    by_cases ho : onB bk a = true
    · have hl := hk.1.len ho
      have hv := hk.val a k
      have hl2 : (bk.getD a []).length = 16 := by simpa [onB] using ho
      rw [ho] at hon
      unfold valL at hv
      simp (config := { maxSteps := 2000000 }) (disch := (first | omega | (simp only [lens, lenm]; omega))) only [go_sem, ↓reduceIte, Nat.reduceAdd, Nat.reduceEqDiff, Nat.reduceSub, Nat.reduceMul, Nat.reduceLT, Nat.reduceLeDiff, Nat.reduceBEq, Int.reduceEq, Int.reduceLT, Int.reduceLE, Int.reduceToNat, Int.reduceNeg, Int.reduceAdd, Int.reduceSub, Int.reduceMul, Int.reduceMod, Int.reduceDiv, reduceCtorEq, Nat.reducePow, Int.reducePow, ac_registers_Value, h1, h2, index_t, hon, ho, valL]
    · have ho' : onB bk a = false := by simpa using ho
      rw [ho'] at hon
      simp (config := { maxSteps := 2000000 }) (disch := (first | omega | (simp only [lens, lenm]; omega))) only [go_sem, ↓reduceIte, Nat.reduceAdd, Nat.reduceEqDiff, Nat.reduceSub, Nat.reduceMul, Nat.reduceLT, Nat.reduceLeDiff, Nat.reduceBEq, Int.reduceEq, Int.reduceLT, Int.reduceLE, Int.reduceToNat, Int.reduceNeg, Int.reduceAdd, Int.reduceSub, Int.reduceMul, Int.reduceMod, Int.reduceDiv, reduceCtorEq, Nat.reducePow, Int.reducePow, ac_registers_Value, h1, h2, index_t, hon, ho']
end Go.Eng
end
section
set_option maxRecDepth 20000
set_option maxHeartbeats 16000000
namespace Go.Eng
def ct_least : Ct where
  α := Int × Bool
  as x := [.t (.int .i64 x.1), .t (.bool x.2)]
  ins _ := []
  pre _ := True
  r x := .t (.int .i64 (leastI x.1 x.2))
  outs _ := []
  inj := by
    rintro ⟨a, b⟩ ⟨c, d⟩ h _
    simp at h
    obtain ⟨rfl, rfl⟩ := h; exact ⟨rfl, rfl⟩
theorem least_eq {i : Int} {rs : Bool} : ct_least.fs [.t (.int .i64 i), .t (.bool rs)] [] = some (.t (.int .i64 (leastI i rs)), []) := ct_least.eq (i, rs) trivial
def ct_rleast : Ct where
  α := Int × Bool
  as x := [.t (.int .i64 x.1), .t (.bool x.2)]
  ins _ := []
  pre _ := True
  r x := .t (.int .i64 (if leastI x.1 x.2 = 5 then -1 else leastI x.1 x.2))
  outs _ := []
  inj := by
    rintro ⟨a, b⟩ ⟨c, d⟩ h _
    simp at h
    obtain ⟨rfl, rfl⟩ := h; exact ⟨rfl, rfl⟩
theorem rleast_eq {i : Int} {rs : Bool} : ct_rleast.fs [.t (.int .i64 i), .t (.bool rs)] [] = some (.t (.int .i64 (if leastI i rs = 5 then -1 else leastI i rs)), []) := ct_rleast.eq (i, rs) trivial
def rstE (loc i : Int) : Int := if loc < 0 ∨ 4 < loc ∨ i < 0 ∨ 16 ≤ i then 1 else if loc < leastI i true then 13 else 0
def rst1 (a : Nat) (b : Bank) (i : Nat) : Bank := if List.length b = 16 then b.set i (List.replicate (szA a) 0) else b
def rstBk (bk : List Bank) (i : Nat) : List Bank := match bk with
  | [b0, b1] => [rst1 0 b0 i, rst1 1 b1 i]
  | bk => bk
def rstR (bk : List Bank) (u loc i : Int) : V := if rstE loc i = 0 then .tup [.t (regT (rstBk bk i.toNat) (u + 1)), .t (.int .i64 0)] else .tup [.t (regT [] 0), .t (.int .i64 (rstE loc i))]
theorem rst1_length {a : Nat} {b : Bank} {i : Nat} : List.length (rst1 a b i) = List.length b := by
  unfold rst1; split <;> simp
theorem w_ref8_Reset_err (tab : Tab) (gl : Gl) (n1 n2 n3 n4 n5 : Nat) (h1 : tab.look n1 = some ct_rleast.fs) (bk : List Bank) (u loc i : Int) (he : rstE loc i ≠ 0) : (ac_ref8_Reset n1 n2 n3 n4 n5).wp tab gl (zipF 0 [.t (regT bk u), .t (.int .i64 loc), .t (.int .i64 i)]) (zipF 0 []) (resW [(6, some (2, true)), (7, none)] 0 (fun r o => r = .tup [.t (regT [] 0), .t (.int .i64 (rstE loc i))] ∧ o = [])) := by
  unfold rstE at he ⊢
  by_cases a1 : loc < 0
  · simp (config := { maxSteps := 2000000 }) (disch := (first | omega | (simp only [lens, lenm]; omega))) only [go_sem, ↓reduceIte, Nat.reduceAdd, Nat.reduceEqDiff, Nat.reduceSub, Nat.reduceMul, Nat.reduceLT, Nat.reduceLeDiff, Nat.reduceBEq, Int.reduceEq, Int.reduceLT, Int.reduceLE, Int.reduceToNat, Int.reduceNeg, Int.reduceAdd, Int.reduceSub, Int.reduceMul, Int.reduceMod, Int.reduceDiv, reduceCtorEq, Nat.reducePow, Int.reducePow, ac_ref8_Reset, a1, List.map_nil]
  · by_cases a2 : 4 < loc
    · simp (config := { maxSteps := 2000000 }) (disch := (first | omega | (simp only [lens, lenm]; omega))) only [go_sem, ↓reduceIte, Nat.reduceAdd, Nat.reduceEqDiff, Nat.reduceSub, Nat.reduceMul, Nat.reduceLT, Nat.reduceLeDiff, Nat.reduceBEq, Int.reduceEq, Int.reduceLT, Int.reduceLE, Int.reduceToNat, Int.reduceNeg, Int.reduceAdd, Int.reduceSub, Int.reduceMul, Int.reduceMod, Int.reduceDiv, reduceCtorEq, Nat.reducePow, Int.reducePow, ac_ref8_Reset, a1, a2, List.map_nil]
    · by_cases a3 : i < 0
      · simp (config := { maxSteps := 2000000 }) (disch := (first | omega | (simp only [lens, lenm]; omega))) only [go_sem, ↓reduceIte, Nat.reduceAdd, Nat.reduceEqDiff, Nat.reduceSub, Nat.reduceMul, Nat.reduceLT, Nat.reduceLeDiff, Nat.reduceBEq, Int.reduceEq, Int.reduceLT, Int.reduceLE, Int.reduceToNat, Int.reduceNeg, Int.reduceAdd, Int.reduceSub, Int.reduceMul, Int.reduceMod, Int.reduceDiv, reduceCtorEq, Nat.reducePow, Int.reducePow, ac_ref8_Reset, a1, a2, a3, List.map_nil]
      · by_cases a4 : 16 ≤ i
        · simp (config := { maxSteps := 2000000 }) (disch := (first | omega | (simp only [lens, lenm]; omega))) only [go_sem, ↓reduceIte, Nat.reduceAdd, Nat.reduceEqDiff, Nat.reduceSub, Nat.reduceMul, Nat.reduceLT, Nat.reduceLeDiff, Nat.reduceBEq, Int.reduceEq, Int.reduceLT, Int.reduceLE, Int.reduceToNat, Int.reduceNeg, Int.reduceAdd, Int.reduceSub, Int.reduceMul, Int.reduceMod, Int.reduceDiv, reduceCtorEq, Nat.reducePow, Int.reducePow, ac_ref8_Reset, a1, a2, a3, a4, List.map_nil]
        · by_cases a5 : loc < leastI i true
          · by_cases a6 : leastI i true = 5
            · have a8 : loc < 5 := by omega
              simp (config := { maxSteps := 2000000 }) (disch := (first | omega | (simp only [lens, lenm]; omega))) only [go_sem, ↓reduceIte, Nat.reduceAdd, Nat.reduceEqDiff, Nat.reduceSub, Nat.reduceMul, Nat.reduceLT, Nat.reduceLeDiff, Nat.reduceBEq, Int.reduceEq, Int.reduceLT, Int.reduceLE, Int.reduceToNat, Int.reduceNeg, Int.reduceAdd, Int.reduceSub, Int.reduceMul, Int.reduceMod, Int.reduceDiv, reduceCtorEq, Nat.reducePow, Int.reducePow, ac_ref8_Reset, a1, a2, a3, a4, a6, a8, h1, rleast_eq, List.map_nil]
            · have a7 : 0 ≤ leastI i true := by unfold leastI; split <;> (try split) <;> (try split) <;> (try split) <;> omega
              simp (config := { maxSteps := 2000000 }) (disch := (first | omega | (simp only [lens, lenm]; omega))) only [go_sem, ↓reduceIte, Nat.reduceAdd, Nat.reduceEqDiff, Nat.reduceSub, Nat.reduceMul, Nat.reduceLT, Nat.reduceLeDiff, Nat.reduceBEq, Int.reduceEq, Int.reduceLT, Int.reduceLE, Int.reduceToNat, Int.reduceNeg, Int.reduceAdd, Int.reduceSub, Int.reduceMul, Int.reduceMod, Int.reduceDiv, reduceCtorEq, Nat.reducePow, Int.reducePow, ac_ref8_Reset, a1, a2, a3, a4, a5, a6, h1, rleast_eq, List.map_nil]
          · simp [a1, a2, a3, a4, a5] at he
theorem w_ref8_Reset0 (tab : Tab) (gl : Gl) (n1 n2 n3 n4 n5 : Nat) (h1 : tab.look n1 = some ct_rleast.fs) (h3 : tab.look n2 = some ct_twin.fs) (h4 : tab.look n3 = some ct_actv.fs) (u loc i : Int) (hu : 0 ≤ u ∧ u < 1000000000) (he : rstE loc i = 0) : (ac_ref8_Reset n1 n2 n3 n4 n5).wp tab gl (zipF 0 [.t (regT [] u), .t (.int .i64 loc), .t (.int .i64 i)]) (zipF 0 []) (resW [(6, some (2, true)), (7, none)] 0 (fun r o => r = .tup [.t (regT [] (u + 1)), .t (.int .i64 0)] ∧ o = [])) := by
  have c0 : ∀ a : Nat, a < 2 → ct_actv.fs [.t (.agg [.sl [], .int .i64 u]), .t (.int .i64 a)] [] = some (.t (.bool false), []) := fun a ha => (actv_eq (bk := []) .nil (by omega)).trans (by simp [onB])
  have c1 := c0 0 (by omega)
  have c2 := c0 1 (by omega)
  rw [show ((0 : Nat) : Int) = 0 from rfl] at c1
  rw [show ((1 : Nat) : Int) = 1 from rfl] at c2
  unfold rstE at he
  split at he
  · omega
  · split at he
    · omega
    · rename_i e1 e2
      have a7 : 0 ≤ leastI i true := by unfold leastI; split <;> (try split) <;> (try split) <;> (try split) <;> omega
      have a6 : ¬ leastI i true = 5 := by omega
      simp (config := { maxSteps := 2000000 }) (disch := (first | omega | (simp only [lens, lenm]; omega))) only [go_sem, ↓reduceIte, Nat.reduceAdd, Nat.reduceEqDiff, Nat.reduceSub, Nat.reduceMul, Nat.reduceLT, Nat.reduceLeDiff, Nat.reduceBEq, Int.reduceEq, Int.reduceLT, Int.reduceLE, Int.reduceToNat, Int.reduceNeg, Int.reduceAdd, Int.reduceSub, Int.reduceMul, Int.reduceMod, Int.reduceDiv, reduceCtorEq, Nat.reducePow, Int.reducePow, ac_ref8_Reset, h1, rleast_eq, h3, twin_eq0, List.map_nil, a6]
      refine loop_fuel 3 ?_
      simp (config := { maxSteps := 2000000 }) (disch := (first | omega | (simp only [lens, lenm]; omega))) only [go_sem, ↓reduceIte, Nat.reduceAdd, Nat.reduceEqDiff, Nat.reduceSub, Nat.reduceMul, Nat.reduceLT, Nat.reduceLeDiff, Nat.reduceBEq, Int.reduceEq, Int.reduceLT, Int.reduceLE, Int.reduceToNat, Int.reduceNeg, Int.reduceAdd, Int.reduceSub, Int.reduceMul, Int.reduceMod, Int.reduceDiv, reduceCtorEq, Nat.reducePow, Int.reducePow, loopN_succ, ac_ref8_Reset_L0, h4, c1, c2]
theorem w_ref8_Reset2 (tab : Tab) (gl : Gl) (n1 n2 n3 n4 n5 : Nat) (h1 : tab.look n1 = some ct_rleast.fs) (h3 : tab.look n2 = some ct_twin.fs) (h4 : tab.look n3 = some ct_actv.fs) (h5 : tab.look n4 = some ct_size.fs) (h6 : tab.look n5 = some ct_fill.fs) (b0 b1 : Bank) (u loc i : Int) (hu : 0 ≤ u ∧ u < 1000000000) (hk : RM [b0, b1]) (he : rstE loc i = 0) :
    (ac_ref8_Reset n1 n2 n3 n4 n5).wp tab gl (zipF 0 [.t (regT [b0, b1] u), .t (.int .i64 loc), .t (.int .i64 i)]) (zipF 0 []) (resW [(6, some (2, true)), (7, none)] 0 (fun r o => r = .tup [.t (regT (rstBk [b0, b1] i.toNat) (u + 1)), .t (.int .i64 0)] ∧ o = [])) := by
  have gg : bkOk b0 ∧ bkOk b1 := by
    obtain ⟨hrk, _⟩ := hk
    cases hrk with
    | two _ _ h0 h1 => exact ⟨h0, h1⟩
  obtain ⟨g0, g1⟩ := gg
  unfold rstE at he
  split at he
  · omega
  · split at he
    · omega
    · rename_i e1 e2
      obtain ⟨n, rfl⟩ := Int.eq_ofNat_of_zero_le (show 0 ≤ i by omega)
      have a7 : 0 ≤ leastI (n : Int) true := by unfold leastI; split <;> (try split) <;> (try split) <;> (try split) <;> omega
      have a6 : ¬ leastI (n : Int) true = 5 := by omega
      simp (config := { maxSteps := 2000000 }) (disch := (first | omega | (simp only [lens, lenm]; omega))) only [go_sem, ↓reduceIte, Nat.reduceAdd, Nat.reduceEqDiff, Nat.reduceSub, Nat.reduceMul, Nat.reduceLT, Nat.reduceLeDiff, Nat.reduceBEq, Int.reduceEq, Int.reduceLT, Int.reduceLE, Int.reduceToNat, Int.reduceNeg, Int.reduceAdd, Int.reduceSub, Int.reduceMul, Int.reduceMod, Int.reduceDiv, reduceCtorEq, Nat.reducePow, Int.reducePow, ac_ref8_Reset, h1, rleast_eq, h3, twin_eq2 hk, List.map_nil, List.map_cons, a6]
      refine loop_upto 2 (fun k => match k with | 0 => [(2, .t (.int .i64 (n : Nat))), (3, .ref 4096 0 0), (6, .ref 4112 0 0), (9, .ref 28704 0 0), (10, .t (.int .i64 0))] | 1 => [(2, .t (.int .i64 (n : Nat))), (3, .ref 4096 0 0), (6, .ref 4112 0 0), (9, .ref 28704 0 0), (10, .t (.int .i64 1))] | _ => [(2, .t (.int .i64 (n : Nat))), (3, .ref 4096 0 0), (6, .ref 4112 0 0), (9, .ref 28704 0 0), (10, .t (.int .i64 2))]) (fun k => match k with | 0 => [(28704, .live 2 [.agg [.sl 28688 0 2, .t (.int .i64 u)]] true true), (28690, .live 1 (((b1).map bsT).map V.t) true false), (28689, .live 1 (((b0).map bsT).map V.t) true false), (28688, .live 1 [.sl 28689 0 (List.length b0), .sl 28690 0 (List.length b1)] true false), (4112, .live 2 [.agg [.nil, .t (.int .i64 0)]] true true), (4096, .live 2 [.t (regT [b0, b1] u)] true true)] | 1 => [(28704, .live 2 [.agg [.sl 28688 0 2, .t (.int .i64 u)]] true true), (28690, .live 1 (((b1).map bsT).map V.t) true false), (28689, .live 1 (((rst1 0 b0 n).map bsT).map V.t) true false), (28688, .live 1 [.sl 28689 0 (List.length b0), .sl 28690 0 (List.length b1)] true false), (4112, .live 2 [.agg [.nil, .t (.int .i64 0)]] true true), (4096, .live 2 [.t (regT [b0, b1] u)] true true)] | _ => [(28704, .live 2 [.agg [.sl 28688 0 2, .t (.int .i64 u)]] true true), (28690, .live 1 (((rst1 1 b1 n).map bsT).map V.t) true false), (28689, .live 1 (((rst1 0 b0 n).map bsT).map V.t) true false), (28688, .live 1 [.sl 28689 0 (List.length b0), .sl 28690 0 (List.length b1)] true false), (4112, .live 2 [.agg [.nil, .t (.int .i64 0)]] true true), (4096, .live 2 [.t (regT [b0, b1] u)] true true)]) ?_ (fun k hk2 => ?_)
      · refine Weak.rd id ?_ ?_ rfl
        all_goals simp (config := { maxSteps := 2000000 }) (disch := (first | omega | (simp only [lens, lenm]; omega))) only [go_sem, ↓reduceIte, Nat.reduceAdd, Nat.reduceEqDiff, Nat.reduceSub, Nat.reduceMul, Nat.reduceLT, Nat.reduceLeDiff, Nat.reduceBEq, Int.reduceEq, Int.reduceLT, Int.reduceLE, Int.reduceToNat, Int.reduceNeg, Int.reduceAdd, Int.reduceSub, Int.reduceMul, Int.reduceMod, Int.reduceDiv, reduceCtorEq, Nat.reducePow, Int.reducePow, id]
      · rcases (show k = 0 ∨ k = 1 ∨ k = 2 by omega) with rfl | rfl | rfl
        · rcases g0 with z0 | z0
          · simp (config := { maxSteps := 2000000 }) (disch := (first | omega | (simp only [lens, lenm]; omega))) only [go_sem, ↓reduceIte, Nat.reduceAdd, Nat.reduceEqDiff, Nat.reduceSub, Nat.reduceMul, Nat.reduceLT, Nat.reduceLeDiff, Nat.reduceBEq, Int.reduceEq, Int.reduceLT, Int.reduceLE, Int.reduceToNat, Int.reduceNeg, Int.reduceAdd, Int.reduceSub, Int.reduceMul, Int.reduceMod, Int.reduceDiv, reduceCtorEq, Nat.reducePow, Int.reducePow, ac_ref8_Reset_L0, z0, h5, h6, size_eq0, size_eq1, fill_eq20, fill_eq32, h4, actv_eq0 hk.1, actv_eq1 hk.1, rst1_length]
            refine Weak.rd id ?_ ?_ rfl
            all_goals simp (config := { maxSteps := 2000000 }) (disch := (first | omega | (simp only [lens, lenm]; omega))) only [go_sem, ↓reduceIte, Nat.reduceAdd, Nat.reduceEqDiff, Nat.reduceSub, Nat.reduceMul, Nat.reduceLT, Nat.reduceLeDiff, Nat.reduceBEq, Int.reduceEq, Int.reduceLT, Int.reduceLE, Int.reduceToNat, Int.reduceNeg, Int.reduceAdd, Int.reduceSub, Int.reduceMul, Int.reduceMod, Int.reduceDiv, reduceCtorEq, Nat.reducePow, Int.reducePow, id, rst1, z0, rst1_length]
          · simp (config := { maxSteps := 2000000 }) (disch := (first | omega | (simp only [lens, lenm]; omega))) only [go_sem, ↓reduceIte, Nat.reduceAdd, Nat.reduceEqDiff, Nat.reduceSub, Nat.reduceMul, Nat.reduceLT, Nat.reduceLeDiff, Nat.reduceBEq, Int.reduceEq, Int.reduceLT, Int.reduceLE, Int.reduceToNat, Int.reduceNeg, Int.reduceAdd, Int.reduceSub, Int.reduceMul, Int.reduceMod, Int.reduceDiv, reduceCtorEq, Nat.reducePow, Int.reducePow, ac_ref8_Reset_L0, z0, h5, h6, size_eq0, size_eq1, fill_eq20, fill_eq32, h4, actv_eq0 hk.1, actv_eq1 hk.1, rst1_length]
            repeat refine And.intro rfl ?_
            refine Weak.cv (hv := []) [49280] id ?_ rfl
            simp (config := { maxSteps := 2000000 }) (disch := (first | omega | (simp only [lens, lenm]; omega))) only [go_sem, ↓reduceIte, Nat.reduceAdd, Nat.reduceEqDiff, Nat.reduceSub, Nat.reduceMul, Nat.reduceLT, Nat.reduceLeDiff, Nat.reduceBEq, Int.reduceEq, Int.reduceLT, Int.reduceLE, Int.reduceToNat, Int.reduceNeg, Int.reduceAdd, Int.reduceSub, Int.reduceMul, Int.reduceMod, Int.reduceDiv, reduceCtorEq, Nat.reducePow, Int.reducePow, id, rst1, z0, List.take_replicate, Nat.min_self, rst1_length, szA]
            all_goals rfl
        · rcases g1 with z1 | z1
          · simp (config := { maxSteps := 2000000 }) (disch := (first | omega | (simp only [lens, lenm]; omega))) only [go_sem, ↓reduceIte, Nat.reduceAdd, Nat.reduceEqDiff, Nat.reduceSub, Nat.reduceMul, Nat.reduceLT, Nat.reduceLeDiff, Nat.reduceBEq, Int.reduceEq, Int.reduceLT, Int.reduceLE, Int.reduceToNat, Int.reduceNeg, Int.reduceAdd, Int.reduceSub, Int.reduceMul, Int.reduceMod, Int.reduceDiv, reduceCtorEq, Nat.reducePow, Int.reducePow, ac_ref8_Reset_L0, z1, h5, h6, size_eq0, size_eq1, fill_eq20, fill_eq32, h4, actv_eq0 hk.1, actv_eq1 hk.1, rst1_length]
            refine Weak.rd id ?_ ?_ rfl
            all_goals simp (config := { maxSteps := 2000000 }) (disch := (first | omega | (simp only [lens, lenm]; omega))) only [go_sem, ↓reduceIte, Nat.reduceAdd, Nat.reduceEqDiff, Nat.reduceSub, Nat.reduceMul, Nat.reduceLT, Nat.reduceLeDiff, Nat.reduceBEq, Int.reduceEq, Int.reduceLT, Int.reduceLE, Int.reduceToNat, Int.reduceNeg, Int.reduceAdd, Int.reduceSub, Int.reduceMul, Int.reduceMod, Int.reduceDiv, reduceCtorEq, Nat.reducePow, Int.reducePow, id, rst1, z1, rst1_length]
          · simp (config := { maxSteps := 2000000 }) (disch := (first | omega | (simp only [lens, lenm]; omega))) only [go_sem, ↓reduceIte, Nat.reduceAdd, Nat.reduceEqDiff, Nat.reduceSub, Nat.reduceMul, Nat.reduceLT, Nat.reduceLeDiff, Nat.reduceBEq, Int.reduceEq, Int.reduceLT, Int.reduceLE, Int.reduceToNat, Int.reduceNeg, Int.reduceAdd, Int.reduceSub, Int.reduceMul, Int.reduceMod, Int.reduceDiv, reduceCtorEq, Nat.reducePow, Int.reducePow, ac_ref8_Reset_L0, z1, h5, h6, size_eq0, size_eq1, fill_eq20, fill_eq32, h4, actv_eq0 hk.1, actv_eq1 hk.1, rst1_length]
            repeat refine And.intro rfl ?_
            refine Weak.cv (hv := []) [49280] id ?_ rfl
            simp (config := { maxSteps := 2000000 }) (disch := (first | omega | (simp only [lens, lenm]; omega))) only [go_sem, ↓reduceIte, Nat.reduceAdd, Nat.reduceEqDiff, Nat.reduceSub, Nat.reduceMul, Nat.reduceLT, Nat.reduceLeDiff, Nat.reduceBEq, Int.reduceEq, Int.reduceLT, Int.reduceLE, Int.reduceToNat, Int.reduceNeg, Int.reduceAdd, Int.reduceSub, Int.reduceMul, Int.reduceMod, Int.reduceDiv, reduceCtorEq, Nat.reducePow, Int.reducePow, id, rst1, z1, List.take_replicate, Nat.min_self, rst1_length, szA]
            all_goals rfl
        · have t0 : List.take (List.length b0) (rst1 0 b0 n) = rst1 0 b0 n := List.take_of_length_le (by rw [rst1_length]; exact Nat.le_refl _)
          have t1 : List.take (List.length b1) (rst1 1 b1 n) = rst1 1 b1 n := List.take_of_length_le (by rw [rst1_length]; exact Nat.le_refl _)
          simp (config := { maxSteps := 2000000 }) (disch := (first | omega | (simp only [lens, lenm]; omega))) only [go_sem, ↓reduceIte, Nat.reduceAdd, Nat.reduceEqDiff, Nat.reduceSub, Nat.reduceMul, Nat.reduceLT, Nat.reduceLeDiff, Nat.reduceBEq, Int.reduceEq, Int.reduceLT, Int.reduceLE, Int.reduceToNat, Int.reduceNeg, Int.reduceAdd, Int.reduceSub, Int.reduceMul, Int.reduceMod, Int.reduceDiv, reduceCtorEq, Nat.reducePow, Int.reducePow, ac_ref8_Reset_L0, rst1_length, t0, t1]
          rfl
end Go.Eng
end
section
set_option maxRecDepth 20000
set_option maxHeartbeats 64000000
namespace Go.Eng
def extE (l0 l1 : Nat) (loc i : Int) (nd k0 k1 : Nat) : Int :=
  if loc < 0 ∨ 4 < loc ∨ i < 0 ∨ 16 ≤ i ∨ nd ≠ 2 then 1 else if loc < leastI i false then 13
  else if (l0 ≠ 16 ∧ 0 < k0) ∨ (l1 ≠ 16 ∧ 0 < k1) then 27 else if (l0 = 16 ∧ k0 ≠ 20) ∨ (l1 = 16 ∧ k1 ≠ 32) then 24 else 0
def ext1 (a : Nat) (b : Bank) (i : Nat) (d : List UInt8) : Bank := if List.length b = 16 then b.set i (sumA a (b.getD i [] ++ d)) else b
theorem ext1_length {a : Nat} {b : Bank} {i : Nat} {d : List UInt8} : List.length (ext1 a b i d) = List.length b := by
  unfold ext1; split <;> simp
def extBk (bk : List Bank) (i : Nat) (ds : List (List UInt8)) : List Bank := match bk with
  | [b0, b1] => [ext1 0 b0 i (ds.getD 0 []), ext1 1 b1 i (ds.getD 1 [])]
  | bk => bk
def extEr (bk : List Bank) (loc i : Int) (ds : List (List UInt8)) : Int := extE (bk.getD 0 []).length (bk.getD 1 []).length loc i ds.length (ds.getD 0 []).length (ds.getD 1 []).length
def extR (bk : List Bank) (u loc i : Int) (ds : List (List UInt8)) : V :=
  if extE (bk.getD 0 []).length (bk.getD 1 []).length loc i ds.length (ds.getD 0 []).length (ds.getD 1 []).length = 0 then .tup [.t (regT (extBk bk i.toNat ds) (u + 1)), .t (.int .i64 0)]
  else .tup [.t (regT [] 0), .t (.int .i64 (extE (bk.getD 0 []).length (bk.getD 1 []).length loc i ds.length (ds.getD 0 []).length (ds.getD 1 []).length))]
theorem sumA0 {x : List UInt8} : sumA 0 x = sum1 x := rfl
theorem sumA1 {x : List UInt8} : sumA 1 x = sum256 x := rfl
theorem take_sum1 {x : List UInt8} : List.take 20 (sum1 x) = sum1 x := List.take_of_length_le (by rw [sum1_length]; exact Nat.le_refl _)
theorem take_sum256 {x : List UInt8} : List.take 32 (sum256 x) = sum256 x := List.take_of_length_le (by rw [sum256_length]; exact Nat.le_refl _)
theorem w_registers_Extend2 (tab : Tab) (gl : Gl) (n1 n2 n3 n4 n5 n6 : Nat) (h1 : tab.look n1 = some ct_index.fs) (h2 : tab.look n2 = some ct_least.fs) (h3 : tab.look n3 = some ct_on.fs) (h4 : tab.look n4 = some ct_size.fs) (h5 : tab.look n5 = some ct_twin.fs) (h6 : tab.look n6 = some ct_sumA.fs)
    (b0 b1 : Bank) (u loc : Int) (n : Nat) (d0 d1 : List UInt8) (hu : 0 ≤ u ∧ u < 1000000000) (hk : RM [b0, b1]) (hv0 : (b0.getD n []).length ≤ 64) (hv1 : (b1.getD n []).length ≤ 64) (hd : d0.length < 9223372036854775808 ∧ d1.length < 9223372036854775808) (e1 : ¬(loc < 0 ∨ 4 < loc ∨ 16 ≤ n)) (e2 : ¬ loc < leastI n false) :
    (ac_registers_Extend n1 n2 n3 n4 n5 n6).wp tab gl (zipF 0 [.t (regT [b0, b1] u), .t (.int .i64 loc), .t (.int .i64 n), .t (.sl [bsT d0, bsT d1])]) (zipF 0 []) (resW [(8, some (2, true)), (9, none)] 0 (fun r o => r = extR [b0, b1] u loc n [d0, d1] ∧ o = [])) := by
  have gg : bkOk b0 ∧ bkOk b1 := by
    obtain ⟨hrk, _⟩ := hk
    cases hrk with
    | two _ _ h0 h1 => exact ⟨h0, h1⟩
  obtain ⟨g0, g1⟩ := gg
  simp (config := { maxSteps := 2000000 }) (disch := (first | omega | (simp only [lens, lenm]; omega))) only [go_sem, ↓reduceIte, Nat.reduceAdd, Nat.reduceEqDiff, Nat.reduceSub, Nat.reduceMul, Nat.reduceLT, Nat.reduceLeDiff, Nat.reduceBEq, Int.reduceEq, Int.reduceLT, Int.reduceLE, Int.reduceToNat, Int.reduceNeg, Int.reduceAdd, Int.reduceSub, Int.reduceMul, Int.reduceMod, Int.reduceDiv, reduceCtorEq, Nat.reducePow, Int.reducePow, ac_registers_Extend, h1, index_t, h2, least_eq, List.map_nil, List.map_cons]
  refine loopW_weak (fs' := [(2, .t (.int .i64 (n : Nat))), (3, .t (.sl [bsT d0, bsT d1])), (4, .ref 4096 0 0), (8, .ref 4112 0 0), (38, .t (.sl [bsT d0, bsT d1])), (39, .t (.int .i64 2)), (40, .t (.int .i64 0))]) (hs' := [(4112, .live 2 [.agg [.nil, .t (.int .i64 0)]] true true), (4096, .live 2 [.t (regT [b0, b1] u)] true true)]) (Weak.rd id ?_ ?_ rfl) ?_
  · simp (config := { maxSteps := 2000000 }) (disch := (first | omega | (simp only [lens, lenm]; omega))) only [go_sem, ↓reduceIte, Nat.reduceAdd, Nat.reduceEqDiff, Nat.reduceSub, Nat.reduceMul, Nat.reduceLT, Nat.reduceLeDiff, Nat.reduceBEq, Int.reduceEq, Int.reduceLT, Int.reduceLE, Int.reduceToNat, Int.reduceNeg, Int.reduceAdd, Int.reduceSub, Int.reduceMul, Int.reduceMod, Int.reduceDiv, reduceCtorEq, Nat.reducePow, Int.reducePow, id]
  · simp (config := { maxSteps := 2000000 }) (disch := (first | omega | (simp only [lens, lenm]; omega))) only [go_sem, ↓reduceIte, Nat.reduceAdd, Nat.reduceEqDiff, Nat.reduceSub, Nat.reduceMul, Nat.reduceLT, Nat.reduceLeDiff, Nat.reduceBEq, Int.reduceEq, Int.reduceLT, Int.reduceLE, Int.reduceToNat, Int.reduceNeg, Int.reduceAdd, Int.reduceSub, Int.reduceMul, Int.reduceMod, Int.reduceDiv, reduceCtorEq, Nat.reducePow, Int.reducePow, id]
  rcases g0 with z0 | z0 <;> rcases g1 with z1 | z1
  · have zz : True := trivial
    by_cases p2 : 0 < d0.length
    · have zz : True := trivial
      have hE : extE 0 0 loc n 2 d0.length d1.length = 27 := by unfold extE; rw [if_neg (by omega), if_neg (by omega), if_pos (by omega)]
      refine loop_fuel 3 ?_
      simp (config := { maxSteps := 2000000 }) (disch := (first | omega | (simp only [lens, lenm]; omega))) only [go_sem, ↓reduceIte, Nat.reduceAdd, Nat.reduceEqDiff, Nat.reduceSub, Nat.reduceMul, Nat.reduceLT, Nat.reduceLeDiff, Nat.reduceBEq, Int.reduceEq, Int.reduceLT, Int.reduceLE, Int.reduceToNat, Int.reduceNeg, Int.reduceAdd, Int.reduceSub, Int.reduceMul, Int.reduceMod, Int.reduceDiv, reduceCtorEq, Nat.reducePow, Int.reducePow, loopN_succ, ac_registers_Extend_L0, h3, on_eq0 hk.1, on_eq1 hk.1, h4, size_eq0, size_eq1, h5, twin_eq2 hk, h6, sumA_eq0, sumA_eq1, z0, z1, hE, List.map_nil, extR, extEr, List.getD_cons_zero, List.getD_cons_succ, List.length_cons, List.length_nil]
      all_goals repeat refine And.intro rfl ?_
      all_goals rfl
    · have zz : True := trivial
      by_cases p1 : 0 < d1.length
      · have zz : True := trivial
        have hE : extE 0 0 loc n 2 d0.length d1.length = 27 := by unfold extE; rw [if_neg (by omega), if_neg (by omega), if_pos (by omega)]
        refine loop_fuel 3 ?_
        simp (config := { maxSteps := 2000000 }) (disch := (first | omega | (simp only [lens, lenm]; omega))) only [go_sem, ↓reduceIte, Nat.reduceAdd, Nat.reduceEqDiff, Nat.reduceSub, Nat.reduceMul, Nat.reduceLT, Nat.reduceLeDiff, Nat.reduceBEq, Int.reduceEq, Int.reduceLT, Int.reduceLE, Int.reduceToNat, Int.reduceNeg, Int.reduceAdd, Int.reduceSub, Int.reduceMul, Int.reduceMod, Int.reduceDiv, reduceCtorEq, Nat.reducePow, Int.reducePow, loopN_succ, ac_registers_Extend_L0, h3, on_eq0 hk.1, on_eq1 hk.1, h4, size_eq0, size_eq1, h5, twin_eq2 hk, h6, sumA_eq0, sumA_eq1, z0, z1, hE, List.map_nil, extR, extEr, List.getD_cons_zero, List.getD_cons_succ, List.length_cons, List.length_nil]
        all_goals repeat refine And.intro rfl ?_
        all_goals rfl
      · have zz : True := trivial
        refine loop_fuel 3 ?_
        simp (config := { maxSteps := 2000000 }) (disch := (first | omega | (simp only [lens, lenm]; omega))) only [go_sem, ↓reduceIte, Nat.reduceAdd, Nat.reduceEqDiff, Nat.reduceSub, Nat.reduceMul, Nat.reduceLT, Nat.reduceLeDiff, Nat.reduceBEq, Int.reduceEq, Int.reduceLT, Int.reduceLE, Int.reduceToNat, Int.reduceNeg, Int.reduceAdd, Int.reduceSub, Int.reduceMul, Int.reduceMod, Int.reduceDiv, reduceCtorEq, Nat.reducePow, Int.reducePow, loopN_succ, ac_registers_Extend_L0, h3, on_eq0 hk.1, on_eq1 hk.1, h4, size_eq0, size_eq1, h5, twin_eq2 hk, h6, sumA_eq0, sumA_eq1, z0, z1]
        all_goals repeat refine And.intro rfl ?_
        refine loopW_weak (fs' := [(2, .t (.int .i64 (n : Nat))), (3, .t (.sl [bsT d0, bsT d1])), (4, .ref 4096 0 0), (8, .ref 4112 0 0), (56, .t (.sl [bsT d0, bsT d1])), (57, .t (.int .i64 2)), (58, .t (.int .i64 0))]) (hs' := [(4112, .live 2 [.agg [.nil, .t (.int .i64 0)]] true true), (4096, .live 2 [.t (regT [b0, b1] u)] true true)]) (Weak.rd id ?_ ?_ rfl) ?_
        · simp (config := { maxSteps := 2000000 }) (disch := (first | omega | (simp only [lens, lenm]; omega))) only [go_sem, ↓reduceIte, Nat.reduceAdd, Nat.reduceEqDiff, Nat.reduceSub, Nat.reduceMul, Nat.reduceLT, Nat.reduceLeDiff, Nat.reduceBEq, Int.reduceEq, Int.reduceLT, Int.reduceLE, Int.reduceToNat, Int.reduceNeg, Int.reduceAdd, Int.reduceSub, Int.reduceMul, Int.reduceMod, Int.reduceDiv, reduceCtorEq, Nat.reducePow, Int.reducePow, id]
        · simp (config := { maxSteps := 2000000 }) (disch := (first | omega | (simp only [lens, lenm]; omega))) only [go_sem, ↓reduceIte, Nat.reduceAdd, Nat.reduceEqDiff, Nat.reduceSub, Nat.reduceMul, Nat.reduceLT, Nat.reduceLeDiff, Nat.reduceBEq, Int.reduceEq, Int.reduceLT, Int.reduceLE, Int.reduceToNat, Int.reduceNeg, Int.reduceAdd, Int.reduceSub, Int.reduceMul, Int.reduceMod, Int.reduceDiv, reduceCtorEq, Nat.reducePow, Int.reducePow, id]
        have hE : extE 0 0 loc n 2 d0.length d1.length = 0 := by unfold extE; rw [if_neg (by omega), if_neg (by omega), if_neg (by omega), if_neg (by omega)]
        refine loop_fuel 3 ?_
        simp (config := { maxSteps := 2000000 }) (disch := (first | omega | (simp only [lens, lenm]; omega))) only [go_sem, ↓reduceIte, Nat.reduceAdd, Nat.reduceEqDiff, Nat.reduceSub, Nat.reduceMul, Nat.reduceLT, Nat.reduceLeDiff, Nat.reduceBEq, Int.reduceEq, Int.reduceLT, Int.reduceLE, Int.reduceToNat, Int.reduceNeg, Int.reduceAdd, Int.reduceSub, Int.reduceMul, Int.reduceMod, Int.reduceDiv, reduceCtorEq, Nat.reducePow, Int.reducePow, loopN_succ, ac_registers_Extend_L1, h3, on_eq0 hk.1, on_eq1 hk.1, h4, size_eq0, size_eq1, h5, twin_eq2 hk, h6, sumA_eq0, sumA_eq1, z0, z1]
        all_goals repeat refine And.intro rfl ?_
        refine loop_upto 2 (fun k => match k with | 0 => [(2, .t (.int .i64 (n : Nat))), (3, .t (.sl [bsT d0, bsT d1])), (4, .ref 4096 0 0), (8, .ref 4112 0 0), (14, .ref 73760 0 0), (79, .t (.int .i64 2)), (80, .t (.int .i64 0))] | 1 => [(2, .t (.int .i64 (n : Nat))), (3, .t (.sl [bsT d0, bsT d1])), (4, .ref 4096 0 0), (8, .ref 4112 0 0), (14, .ref 73760 0 0), (79, .t (.int .i64 2)), (80, .t (.int .i64 1))] | _ => [(2, .t (.int .i64 (n : Nat))), (3, .t (.sl [bsT d0, bsT d1])), (4, .ref 4096 0 0), (8, .ref 4112 0 0), (14, .ref 73760 0 0), (79, .t (.int .i64 2)), (80, .t (.int .i64 2))]) (fun k => match k with | 0 => [(73760, .live 2 [.agg [.sl 73744 0 2, .t (.int .i64 u)]] true true), (73746, .live 1 (((b1).map bsT).map V.t) true false), (73745, .live 1 (((b0).map bsT).map V.t) true false), (73744, .live 1 [.sl 73745 0 0, .sl 73746 0 0] true false), (4112, .live 2 [.agg [.nil, .t (.int .i64 0)]] true true), (4096, .live 2 [.t (regT [b0, b1] u)] true true)] | 1 => [(73760, .live 2 [.agg [.sl 73744 0 2, .t (.int .i64 u)]] true true), (73746, .live 1 (((b1).map bsT).map V.t) true false), (73745, .live 1 (((ext1 0 b0 n d0).map bsT).map V.t) true false), (73744, .live 1 [.sl 73745 0 0, .sl 73746 0 0] true false), (4112, .live 2 [.agg [.nil, .t (.int .i64 0)]] true true), (4096, .live 2 [.t (regT [b0, b1] u)] true true)] | _ => [(73760, .live 2 [.agg [.sl 73744 0 2, .t (.int .i64 u)]] true true), (73746, .live 1 (((ext1 1 b1 n d1).map bsT).map V.t) true false), (73745, .live 1 (((ext1 0 b0 n d0).map bsT).map V.t) true false), (73744, .live 1 [.sl 73745 0 0, .sl 73746 0 0] true false), (4112, .live 2 [.agg [.nil, .t (.int .i64 0)]] true true), (4096, .live 2 [.t (regT [b0, b1] u)] true true)]) ?_ (fun k hk2 => ?_)
        · refine Weak.rd id ?_ ?_ rfl
          all_goals simp (config := { maxSteps := 2000000 }) (disch := (first | omega | (simp only [lens, lenm]; omega))) only [go_sem, ↓reduceIte, Nat.reduceAdd, Nat.reduceEqDiff, Nat.reduceSub, Nat.reduceMul, Nat.reduceLT, Nat.reduceLeDiff, Nat.reduceBEq, Int.reduceEq, Int.reduceLT, Int.reduceLE, Int.reduceToNat, Int.reduceNeg, Int.reduceAdd, Int.reduceSub, Int.reduceMul, Int.reduceMod, Int.reduceDiv, reduceCtorEq, Nat.reducePow, Int.reducePow, id, z0, z1]
        · rcases (show k = 0 ∨ k = 1 ∨ k = 2 by omega) with rfl | rfl | rfl
          · have q := List.take_of_length_le (show (b0.getD n [] ++ d0).length ≤ (List.getD b0 n []).length + d0.length by rw [List.length_append]; exact Nat.le_refl _)
            simp (config := { maxSteps := 2000000 }) (disch := (first | omega | (simp only [lens, lenm]; omega))) only [go_sem, ↓reduceIte, Nat.reduceAdd, Nat.reduceEqDiff, Nat.reduceSub, Nat.reduceMul, Nat.reduceLT, Nat.reduceLeDiff, Nat.reduceBEq, Int.reduceEq, Int.reduceLT, Int.reduceLE, Int.reduceToNat, Int.reduceNeg, Int.reduceAdd, Int.reduceSub, Int.reduceMul, Int.reduceMod, Int.reduceDiv, reduceCtorEq, Nat.reducePow, Int.reducePow, ac_registers_Extend_L2, h3, on_eq0 hk.1, on_eq1 hk.1, h4, size_eq0, size_eq1, h5, twin_eq2 hk, h6, sumA_eq0, sumA_eq1, z0, z1, ext1_length, q]
            refine Weak.rd id ?_ ?_ rfl
            all_goals simp (config := { maxSteps := 2000000 }) (disch := (first | omega | (simp only [lens, lenm]; omega))) only [go_sem, ↓reduceIte, Nat.reduceAdd, Nat.reduceEqDiff, Nat.reduceSub, Nat.reduceMul, Nat.reduceLT, Nat.reduceLeDiff, Nat.reduceBEq, Int.reduceEq, Int.reduceLT, Int.reduceLE, Int.reduceToNat, Int.reduceNeg, Int.reduceAdd, Int.reduceSub, Int.reduceMul, Int.reduceMod, Int.reduceDiv, reduceCtorEq, Nat.reducePow, Int.reducePow, id, ext1, z0, z1]
          · have q := List.take_of_length_le (show (b1.getD n [] ++ d1).length ≤ (List.getD b1 n []).length + d1.length by rw [List.length_append]; exact Nat.le_refl _)
            simp (config := { maxSteps := 2000000 }) (disch := (first | omega | (simp only [lens, lenm]; omega))) only [go_sem, ↓reduceIte, Nat.reduceAdd, Nat.reduceEqDiff, Nat.reduceSub, Nat.reduceMul, Nat.reduceLT, Nat.reduceLeDiff, Nat.reduceBEq, Int.reduceEq, Int.reduceLT, Int.reduceLE, Int.reduceToNat, Int.reduceNeg, Int.reduceAdd, Int.reduceSub, Int.reduceMul, Int.reduceMod, Int.reduceDiv, reduceCtorEq, Nat.reducePow, Int.reducePow, ac_registers_Extend_L2, h3, on_eq0 hk.1, on_eq1 hk.1, h4, size_eq0, size_eq1, h5, twin_eq2 hk, h6, sumA_eq0, sumA_eq1, z0, z1, ext1_length, q]
            refine Weak.rd id ?_ ?_ rfl
            all_goals simp (config := { maxSteps := 2000000 }) (disch := (first | omega | (simp only [lens, lenm]; omega))) only [go_sem, ↓reduceIte, Nat.reduceAdd, Nat.reduceEqDiff, Nat.reduceSub, Nat.reduceMul, Nat.reduceLT, Nat.reduceLeDiff, Nat.reduceBEq, Int.reduceEq, Int.reduceLT, Int.reduceLE, Int.reduceToNat, Int.reduceNeg, Int.reduceAdd, Int.reduceSub, Int.reduceMul, Int.reduceMod, Int.reduceDiv, reduceCtorEq, Nat.reducePow, Int.reducePow, id, ext1, z0, z1]
          · have t0 : List.take 0 (ext1 0 b0 n d0) = ext1 0 b0 n d0 := List.take_of_length_le (by rw [ext1_length, z0]; exact Nat.le_refl _)
            have t1 : List.take 0 (ext1 1 b1 n d1) = ext1 1 b1 n d1 := List.take_of_length_le (by rw [ext1_length, z1]; exact Nat.le_refl _)
            have y0 : ext1 0 b0 n d0 = [] := List.eq_nil_of_length_eq_zero (by rw [ext1_length, z0])
            have y1 : ext1 1 b1 n d1 = [] := List.eq_nil_of_length_eq_zero (by rw [ext1_length, z1])
            simp (config := { maxSteps := 2000000 }) (disch := (first | omega | (simp only [lens, lenm]; omega))) only [go_sem, ↓reduceIte, Nat.reduceAdd, Nat.reduceEqDiff, Nat.reduceSub, Nat.reduceMul, Nat.reduceLT, Nat.reduceLeDiff, Nat.reduceBEq, Int.reduceEq, Int.reduceLT, Int.reduceLE, Int.reduceToNat, Int.reduceNeg, Int.reduceAdd, Int.reduceSub, Int.reduceMul, Int.reduceMod, Int.reduceDiv, reduceCtorEq, Nat.reducePow, Int.reducePow, ac_registers_Extend_L2, ext1_length, t0, t1, z0, z1, hE, extBk, Int.toNat_natCast, List.map_cons, List.map_nil, y0, y1, extR, extEr, List.getD_cons_zero, List.getD_cons_succ, List.length_cons, List.length_nil]
  · have zz : True := trivial
    by_cases p1 : 0 < d0.length
    · have zz : True := trivial
      have hE : extE 0 16 loc n 2 d0.length d1.length = 27 := by unfold extE; rw [if_neg (by omega), if_neg (by omega), if_pos (by omega)]
      refine loop_fuel 3 ?_
      simp (config := { maxSteps := 2000000 }) (disch := (first | omega | (simp only [lens, lenm]; omega))) only [go_sem, ↓reduceIte, Nat.reduceAdd, Nat.reduceEqDiff, Nat.reduceSub, Nat.reduceMul, Nat.reduceLT, Nat.reduceLeDiff, Nat.reduceBEq, Int.reduceEq, Int.reduceLT, Int.reduceLE, Int.reduceToNat, Int.reduceNeg, Int.reduceAdd, Int.reduceSub, Int.reduceMul, Int.reduceMod, Int.reduceDiv, reduceCtorEq, Nat.reducePow, Int.reducePow, loopN_succ, ac_registers_Extend_L0, h3, on_eq0 hk.1, on_eq1 hk.1, h4, size_eq0, size_eq1, h5, twin_eq2 hk, h6, sumA_eq0, sumA_eq1, z0, z1, hE, List.map_nil, extR, extEr, List.getD_cons_zero, List.getD_cons_succ, List.length_cons, List.length_nil]
      all_goals repeat refine And.intro rfl ?_
      all_goals rfl
    · have zz : True := trivial
      refine loop_fuel 3 ?_
      simp (config := { maxSteps := 2000000 }) (disch := (first | omega | (simp only [lens, lenm]; omega))) only [go_sem, ↓reduceIte, Nat.reduceAdd, Nat.reduceEqDiff, Nat.reduceSub, Nat.reduceMul, Nat.reduceLT, Nat.reduceLeDiff, Nat.reduceBEq, Int.reduceEq, Int.reduceLT, Int.reduceLE, Int.reduceToNat, Int.reduceNeg, Int.reduceAdd, Int.reduceSub, Int.reduceMul, Int.reduceMod, Int.reduceDiv, reduceCtorEq, Nat.reducePow, Int.reducePow, loopN_succ, ac_registers_Extend_L0, h3, on_eq0 hk.1, on_eq1 hk.1, h4, size_eq0, size_eq1, h5, twin_eq2 hk, h6, sumA_eq0, sumA_eq1, z0, z1]
      all_goals repeat refine And.intro rfl ?_
      refine loopW_weak (fs' := [(2, .t (.int .i64 (n : Nat))), (3, .t (.sl [bsT d0, bsT d1])), (4, .ref 4096 0 0), (8, .ref 4112 0 0), (56, .t (.sl [bsT d0, bsT d1])), (57, .t (.int .i64 2)), (58, .t (.int .i64 0))]) (hs' := [(4112, .live 2 [.agg [.nil, .t (.int .i64 0)]] true true), (4096, .live 2 [.t (regT [b0, b1] u)] true true)]) (Weak.rd id ?_ ?_ rfl) ?_
      · simp (config := { maxSteps := 2000000 }) (disch := (first | omega | (simp only [lens, lenm]; omega))) only [go_sem, ↓reduceIte, Nat.reduceAdd, Nat.reduceEqDiff, Nat.reduceSub, Nat.reduceMul, Nat.reduceLT, Nat.reduceLeDiff, Nat.reduceBEq, Int.reduceEq, Int.reduceLT, Int.reduceLE, Int.reduceToNat, Int.reduceNeg, Int.reduceAdd, Int.reduceSub, Int.reduceMul, Int.reduceMod, Int.reduceDiv, reduceCtorEq, Nat.reducePow, Int.reducePow, id]
      · simp (config := { maxSteps := 2000000 }) (disch := (first | omega | (simp only [lens, lenm]; omega))) only [go_sem, ↓reduceIte, Nat.reduceAdd, Nat.reduceEqDiff, Nat.reduceSub, Nat.reduceMul, Nat.reduceLT, Nat.reduceLeDiff, Nat.reduceBEq, Int.reduceEq, Int.reduceLT, Int.reduceLE, Int.reduceToNat, Int.reduceNeg, Int.reduceAdd, Int.reduceSub, Int.reduceMul, Int.reduceMod, Int.reduceDiv, reduceCtorEq, Nat.reducePow, Int.reducePow, id]
      by_cases q1 : d1.length ≠ 32
      · have zz : True := trivial
        have hE : extE 0 16 loc n 2 d0.length d1.length = 24 := by unfold extE; rw [if_neg (by omega), if_neg (by omega), if_neg (by omega), if_pos (by omega)]
        refine loop_fuel 3 ?_
        simp (config := { maxSteps := 2000000 }) (disch := (first | omega | (simp only [lens, lenm]; omega))) only [go_sem, ↓reduceIte, Nat.reduceAdd, Nat.reduceEqDiff, Nat.reduceSub, Nat.reduceMul, Nat.reduceLT, Nat.reduceLeDiff, Nat.reduceBEq, Int.reduceEq, Int.reduceLT, Int.reduceLE, Int.reduceToNat, Int.reduceNeg, Int.reduceAdd, Int.reduceSub, Int.reduceMul, Int.reduceMod, Int.reduceDiv, reduceCtorEq, Nat.reducePow, Int.reducePow, loopN_succ, ac_registers_Extend_L1, h3, on_eq0 hk.1, on_eq1 hk.1, h4, size_eq0, size_eq1, h5, twin_eq2 hk, h6, sumA_eq0, sumA_eq1, z0, z1, hE, List.map_nil, extR, extEr, List.getD_cons_zero, List.getD_cons_succ, List.length_cons, List.length_nil]
        all_goals repeat refine And.intro rfl ?_
        all_goals rfl
      · have zz : True := trivial
        have hE : extE 0 16 loc n 2 d0.length d1.length = 0 := by unfold extE; rw [if_neg (by omega), if_neg (by omega), if_neg (by omega), if_neg (by omega)]
        refine loop_fuel 3 ?_
        simp (config := { maxSteps := 2000000 }) (disch := (first | omega | (simp only [lens, lenm]; omega))) only [go_sem, ↓reduceIte, Nat.reduceAdd, Nat.reduceEqDiff, Nat.reduceSub, Nat.reduceMul, Nat.reduceLT, Nat.reduceLeDiff, Nat.reduceBEq, Int.reduceEq, Int.reduceLT, Int.reduceLE, Int.reduceToNat, Int.reduceNeg, Int.reduceAdd, Int.reduceSub, Int.reduceMul, Int.reduceMod, Int.reduceDiv, reduceCtorEq, Nat.reducePow, Int.reducePow, loopN_succ, ac_registers_Extend_L1, h3, on_eq0 hk.1, on_eq1 hk.1, h4, size_eq0, size_eq1, h5, twin_eq2 hk, h6, sumA_eq0, sumA_eq1, z0, z1]
        all_goals repeat refine And.intro rfl ?_
        refine loop_upto 2 (fun k => match k with | 0 => [(2, .t (.int .i64 (n : Nat))), (3, .t (.sl [bsT d0, bsT d1])), (4, .ref 4096 0 0), (8, .ref 4112 0 0), (14, .ref 73760 0 0), (79, .t (.int .i64 2)), (80, .t (.int .i64 0))] | 1 => [(2, .t (.int .i64 (n : Nat))), (3, .t (.sl [bsT d0, bsT d1])), (4, .ref 4096 0 0), (8, .ref 4112 0 0), (14, .ref 73760 0 0), (79, .t (.int .i64 2)), (80, .t (.int .i64 1))] | _ => [(2, .t (.int .i64 (n : Nat))), (3, .t (.sl [bsT d0, bsT d1])), (4, .ref 4096 0 0), (8, .ref 4112 0 0), (14, .ref 73760 0 0), (79, .t (.int .i64 2)), (80, .t (.int .i64 2))]) (fun k => match k with | 0 => [(73760, .live 2 [.agg [.sl 73744 0 2, .t (.int .i64 u)]] true true), (73746, .live 1 (((b1).map bsT).map V.t) true false), (73745, .live 1 (((b0).map bsT).map V.t) true false), (73744, .live 1 [.sl 73745 0 0, .sl 73746 0 16] true false), (4112, .live 2 [.agg [.nil, .t (.int .i64 0)]] true true), (4096, .live 2 [.t (regT [b0, b1] u)] true true)] | 1 => [(73760, .live 2 [.agg [.sl 73744 0 2, .t (.int .i64 u)]] true true), (73746, .live 1 (((b1).map bsT).map V.t) true false), (73745, .live 1 (((ext1 0 b0 n d0).map bsT).map V.t) true false), (73744, .live 1 [.sl 73745 0 0, .sl 73746 0 16] true false), (4112, .live 2 [.agg [.nil, .t (.int .i64 0)]] true true), (4096, .live 2 [.t (regT [b0, b1] u)] true true)] | _ => [(73760, .live 2 [.agg [.sl 73744 0 2, .t (.int .i64 u)]] true true), (73746, .live 1 (((ext1 1 b1 n d1).map bsT).map V.t) true false), (73745, .live 1 (((ext1 0 b0 n d0).map bsT).map V.t) true false), (73744, .live 1 [.sl 73745 0 0, .sl 73746 0 16] true false), (4112, .live 2 [.agg [.nil, .t (.int .i64 0)]] true true), (4096, .live 2 [.t (regT [b0, b1] u)] true true)]) ?_ (fun k hk2 => ?_)
        · refine Weak.rd id ?_ ?_ rfl
          all_goals simp (config := { maxSteps := 2000000 }) (disch := (first | omega | (simp only [lens, lenm]; omega))) only [go_sem, ↓reduceIte, Nat.reduceAdd, Nat.reduceEqDiff, Nat.reduceSub, Nat.reduceMul, Nat.reduceLT, Nat.reduceLeDiff, Nat.reduceBEq, Int.reduceEq, Int.reduceLT, Int.reduceLE, Int.reduceToNat, Int.reduceNeg, Int.reduceAdd, Int.reduceSub, Int.reduceMul, Int.reduceMod, Int.reduceDiv, reduceCtorEq, Nat.reducePow, Int.reducePow, id, z0, z1]
        · rcases (show k = 0 ∨ k = 1 ∨ k = 2 by omega) with rfl | rfl | rfl
          · have q := List.take_of_length_le (show (b0.getD n [] ++ d0).length ≤ (List.getD b0 n []).length + d0.length by rw [List.length_append]; exact Nat.le_refl _)
            simp (config := { maxSteps := 2000000 }) (disch := (first | omega | (simp only [lens, lenm]; omega))) only [go_sem, ↓reduceIte, Nat.reduceAdd, Nat.reduceEqDiff, Nat.reduceSub, Nat.reduceMul, Nat.reduceLT, Nat.reduceLeDiff, Nat.reduceBEq, Int.reduceEq, Int.reduceLT, Int.reduceLE, Int.reduceToNat, Int.reduceNeg, Int.reduceAdd, Int.reduceSub, Int.reduceMul, Int.reduceMod, Int.reduceDiv, reduceCtorEq, Nat.reducePow, Int.reducePow, ac_registers_Extend_L2, h3, on_eq0 hk.1, on_eq1 hk.1, h4, size_eq0, size_eq1, h5, twin_eq2 hk, h6, sumA_eq0, sumA_eq1, z0, z1, ext1_length, q]
            refine Weak.rd id ?_ ?_ rfl
            all_goals simp (config := { maxSteps := 2000000 }) (disch := (first | omega | (simp only [lens, lenm]; omega))) only [go_sem, ↓reduceIte, Nat.reduceAdd, Nat.reduceEqDiff, Nat.reduceSub, Nat.reduceMul, Nat.reduceLT, Nat.reduceLeDiff, Nat.reduceBEq, Int.reduceEq, Int.reduceLT, Int.reduceLE, Int.reduceToNat, Int.reduceNeg, Int.reduceAdd, Int.reduceSub, Int.reduceMul, Int.reduceMod, Int.reduceDiv, reduceCtorEq, Nat.reducePow, Int.reducePow, id, ext1, z0, z1]
          · have q := List.take_of_length_le (show (b1.getD n [] ++ d1).length ≤ (List.getD b1 n []).length + d1.length by rw [List.length_append]; exact Nat.le_refl _)
            simp (config := { maxSteps := 2000000 }) (disch := (first | omega | (simp only [lens, lenm]; omega))) only [go_sem, ↓reduceIte, Nat.reduceAdd, Nat.reduceEqDiff, Nat.reduceSub, Nat.reduceMul, Nat.reduceLT, Nat.reduceLeDiff, Nat.reduceBEq, Int.reduceEq, Int.reduceLT, Int.reduceLE, Int.reduceToNat, Int.reduceNeg, Int.reduceAdd, Int.reduceSub, Int.reduceMul, Int.reduceMod, Int.reduceDiv, reduceCtorEq, Nat.reducePow, Int.reducePow, ac_registers_Extend_L2, h3, on_eq0 hk.1, on_eq1 hk.1, h4, size_eq0, size_eq1, h5, twin_eq2 hk, h6, sumA_eq0, sumA_eq1, z0, z1, ext1_length, q]
            repeat refine And.intro rfl ?_
            refine Weak.cv (hv := []) [94544] id ?_ rfl
            simp (config := { maxSteps := 2000000 }) (disch := (first | omega | (simp only [lens, lenm]; omega))) only [go_sem, ↓reduceIte, Nat.reduceAdd, Nat.reduceEqDiff, Nat.reduceSub, Nat.reduceMul, Nat.reduceLT, Nat.reduceLeDiff, Nat.reduceBEq, Int.reduceEq, Int.reduceLT, Int.reduceLE, Int.reduceToNat, Int.reduceNeg, Int.reduceAdd, Int.reduceSub, Int.reduceMul, Int.reduceMod, Int.reduceDiv, reduceCtorEq, Nat.reducePow, Int.reducePow, id, ext1, z0, z1, take_sum1, take_sum256, sumA0, sumA1, sum1_length, sum256_length]
            all_goals rfl
          · have t0 : List.take 0 (ext1 0 b0 n d0) = ext1 0 b0 n d0 := List.take_of_length_le (by rw [ext1_length, z0]; exact Nat.le_refl _)
            have t1 : List.take 16 (ext1 1 b1 n d1) = ext1 1 b1 n d1 := List.take_of_length_le (by rw [ext1_length, z1]; exact Nat.le_refl _)
            have y0 : ext1 0 b0 n d0 = [] := List.eq_nil_of_length_eq_zero (by rw [ext1_length, z0])
            simp (config := { maxSteps := 2000000 }) (disch := (first | omega | (simp only [lens, lenm]; omega))) only [go_sem, ↓reduceIte, Nat.reduceAdd, Nat.reduceEqDiff, Nat.reduceSub, Nat.reduceMul, Nat.reduceLT, Nat.reduceLeDiff, Nat.reduceBEq, Int.reduceEq, Int.reduceLT, Int.reduceLE, Int.reduceToNat, Int.reduceNeg, Int.reduceAdd, Int.reduceSub, Int.reduceMul, Int.reduceMod, Int.reduceDiv, reduceCtorEq, Nat.reducePow, Int.reducePow, ac_registers_Extend_L2, ext1_length, t0, t1, z0, z1, hE, extBk, Int.toNat_natCast, List.map_cons, List.map_nil, y0, extR, extEr, List.getD_cons_zero, List.getD_cons_succ, List.length_cons, List.length_nil]
  · have zz : True := trivial
    by_cases p1 : 0 < d1.length
    · have zz : True := trivial
      have hE : extE 16 0 loc n 2 d0.length d1.length = 27 := by unfold extE; rw [if_neg (by omega), if_neg (by omega), if_pos (by omega)]
      refine loop_fuel 3 ?_
      simp (config := { maxSteps := 2000000 }) (disch := (first | omega | (simp only [lens, lenm]; omega))) only [go_sem, ↓reduceIte, Nat.reduceAdd, Nat.reduceEqDiff, Nat.reduceSub, Nat.reduceMul, Nat.reduceLT, Nat.reduceLeDiff, Nat.reduceBEq, Int.reduceEq, Int.reduceLT, Int.reduceLE, Int.reduceToNat, Int.reduceNeg, Int.reduceAdd, Int.reduceSub, Int.reduceMul, Int.reduceMod, Int.reduceDiv, reduceCtorEq, Nat.reducePow, Int.reducePow, loopN_succ, ac_registers_Extend_L0, h3, on_eq0 hk.1, on_eq1 hk.1, h4, size_eq0, size_eq1, h5, twin_eq2 hk, h6, sumA_eq0, sumA_eq1, z0, z1, hE, List.map_nil, extR, extEr, List.getD_cons_zero, List.getD_cons_succ, List.length_cons, List.length_nil]
      all_goals repeat refine And.intro rfl ?_
      all_goals rfl
    · have zz : True := trivial
      refine loop_fuel 3 ?_
      simp (config := { maxSteps := 2000000 }) (disch := (first | omega | (simp only [lens, lenm]; omega))) only [go_sem, ↓reduceIte, Nat.reduceAdd, Nat.reduceEqDiff, Nat.reduceSub, Nat.reduceMul, Nat.reduceLT, Nat.reduceLeDiff, Nat.reduceBEq, Int.reduceEq, Int.reduceLT, Int.reduceLE, Int.reduceToNat, Int.reduceNeg, Int.reduceAdd, Int.reduceSub, Int.reduceMul, Int.reduceMod, Int.reduceDiv, reduceCtorEq, Nat.reducePow, Int.reducePow, loopN_succ, ac_registers_Extend_L0, h3, on_eq0 hk.1, on_eq1 hk.1, h4, size_eq0, size_eq1, h5, twin_eq2 hk, h6, sumA_eq0, sumA_eq1, z0, z1]
      all_goals repeat refine And.intro rfl ?_
      refine loopW_weak (fs' := [(2, .t (.int .i64 (n : Nat))), (3, .t (.sl [bsT d0, bsT d1])), (4, .ref 4096 0 0), (8, .ref 4112 0 0), (56, .t (.sl [bsT d0, bsT d1])), (57, .t (.int .i64 2)), (58, .t (.int .i64 0))]) (hs' := [(4112, .live 2 [.agg [.nil, .t (.int .i64 0)]] true true), (4096, .live 2 [.t (regT [b0, b1] u)] true true)]) (Weak.rd id ?_ ?_ rfl) ?_
      · simp (config := { maxSteps := 2000000 }) (disch := (first | omega | (simp only [lens, lenm]; omega))) only [go_sem, ↓reduceIte, Nat.reduceAdd, Nat.reduceEqDiff, Nat.reduceSub, Nat.reduceMul, Nat.reduceLT, Nat.reduceLeDiff, Nat.reduceBEq, Int.reduceEq, Int.reduceLT, Int.reduceLE, Int.reduceToNat, Int.reduceNeg, Int.reduceAdd, Int.reduceSub, Int.reduceMul, Int.reduceMod, Int.reduceDiv, reduceCtorEq, Nat.reducePow, Int.reducePow, id]
      · simp (config := { maxSteps := 2000000 }) (disch := (first | omega | (simp only [lens, lenm]; omega))) only [go_sem, ↓reduceIte, Nat.reduceAdd, Nat.reduceEqDiff, Nat.reduceSub, Nat.reduceMul, Nat.reduceLT, Nat.reduceLeDiff, Nat.reduceBEq, Int.reduceEq, Int.reduceLT, Int.reduceLE, Int.reduceToNat, Int.reduceNeg, Int.reduceAdd, Int.reduceSub, Int.reduceMul, Int.reduceMod, Int.reduceDiv, reduceCtorEq, Nat.reducePow, Int.reducePow, id]
      by_cases q1 : d0.length ≠ 20
      · have zz : True := trivial
        have hE : extE 16 0 loc n 2 d0.length d1.length = 24 := by unfold extE; rw [if_neg (by omega), if_neg (by omega), if_neg (by omega), if_pos (by omega)]
        refine loop_fuel 3 ?_
        simp (config := { maxSteps := 2000000 }) (disch := (first | omega | (simp only [lens, lenm]; omega))) only [go_sem, ↓reduceIte, Nat.reduceAdd, Nat.reduceEqDiff, Nat.reduceSub, Nat.reduceMul, Nat.reduceLT, Nat.reduceLeDiff, Nat.reduceBEq, Int.reduceEq, Int.reduceLT, Int.reduceLE, Int.reduceToNat, Int.reduceNeg, Int.reduceAdd, Int.reduceSub, Int.reduceMul, Int.reduceMod, Int.reduceDiv, reduceCtorEq, Nat.reducePow, Int.reducePow, loopN_succ, ac_registers_Extend_L1, h3, on_eq0 hk.1, on_eq1 hk.1, h4, size_eq0, size_eq1, h5, twin_eq2 hk, h6, sumA_eq0, sumA_eq1, z0, z1, hE, List.map_nil, extR, extEr, List.getD_cons_zero, List.getD_cons_succ, List.length_cons, List.length_nil]
        all_goals repeat refine And.intro rfl ?_
        all_goals rfl
      · have zz : True := trivial
        have hE : extE 16 0 loc n 2 d0.length d1.length = 0 := by unfold extE; rw [if_neg (by omega), if_neg (by omega), if_neg (by omega), if_neg (by omega)]
        refine loop_fuel 3 ?_
        simp (config := { maxSteps := 2000000 }) (disch := (first | omega | (simp only [lens, lenm]; omega))) only [go_sem, ↓reduceIte, Nat.reduceAdd, Nat.reduceEqDiff, Nat.reduceSub, Nat.reduceMul, Nat.reduceLT, Nat.reduceLeDiff, Nat.reduceBEq, Int.reduceEq, Int.reduceLT, Int.reduceLE, Int.reduceToNat, Int.reduceNeg, Int.reduceAdd, Int.reduceSub, Int.reduceMul, Int.reduceMod, Int.reduceDiv, reduceCtorEq, Nat.reducePow, Int.reducePow, loopN_succ, ac_registers_Extend_L1, h3, on_eq0 hk.1, on_eq1 hk.1, h4, size_eq0, size_eq1, h5, twin_eq2 hk, h6, sumA_eq0, sumA_eq1, z0, z1]
        all_goals repeat refine And.intro rfl ?_
        refine loop_upto 2 (fun k => match k with | 0 => [(2, .t (.int .i64 (n : Nat))), (3, .t (.sl [bsT d0, bsT d1])), (4, .ref 4096 0 0), (8, .ref 4112 0 0), (14, .ref 73760 0 0), (79, .t (.int .i64 2)), (80, .t (.int .i64 0))] | 1 => [(2, .t (.int .i64 (n : Nat))), (3, .t (.sl [bsT d0, bsT d1])), (4, .ref 4096 0 0), (8, .ref 4112 0 0), (14, .ref 73760 0 0), (79, .t (.int .i64 2)), (80, .t (.int .i64 1))] | _ => [(2, .t (.int .i64 (n : Nat))), (3, .t (.sl [bsT d0, bsT d1])), (4, .ref 4096 0 0), (8, .ref 4112 0 0), (14, .ref 73760 0 0), (79, .t (.int .i64 2)), (80, .t (.int .i64 2))]) (fun k => match k with | 0 => [(73760, .live 2 [.agg [.sl 73744 0 2, .t (.int .i64 u)]] true true), (73746, .live 1 (((b1).map bsT).map V.t) true false), (73745, .live 1 (((b0).map bsT).map V.t) true false), (73744, .live 1 [.sl 73745 0 16, .sl 73746 0 0] true false), (4112, .live 2 [.agg [.nil, .t (.int .i64 0)]] true true), (4096, .live 2 [.t (regT [b0, b1] u)] true true)] | 1 => [(73760, .live 2 [.agg [.sl 73744 0 2, .t (.int .i64 u)]] true true), (73746, .live 1 (((b1).map bsT).map V.t) true false), (73745, .live 1 (((ext1 0 b0 n d0).map bsT).map V.t) true false), (73744, .live 1 [.sl 73745 0 16, .sl 73746 0 0] true false), (4112, .live 2 [.agg [.nil, .t (.int .i64 0)]] true true), (4096, .live 2 [.t (regT [b0, b1] u)] true true)] | _ => [(73760, .live 2 [.agg [.sl 73744 0 2, .t (.int .i64 u)]] true true), (73746, .live 1 (((ext1 1 b1 n d1).map bsT).map V.t) true false), (73745, .live 1 (((ext1 0 b0 n d0).map bsT).map V.t) true false), (73744, .live 1 [.sl 73745 0 16, .sl 73746 0 0] true false), (4112, .live 2 [.agg [.nil, .t (.int .i64 0)]] true true), (4096, .live 2 [.t (regT [b0, b1] u)] true true)]) ?_ (fun k hk2 => ?_)
        · refine Weak.rd id ?_ ?_ rfl
          all_goals simp (config := { maxSteps := 2000000 }) (disch := (first | omega | (simp only [lens, lenm]; omega))) only [go_sem, ↓reduceIte, Nat.reduceAdd, Nat.reduceEqDiff, Nat.reduceSub, Nat.reduceMul, Nat.reduceLT, Nat.reduceLeDiff, Nat.reduceBEq, Int.reduceEq, Int.reduceLT, Int.reduceLE, Int.reduceToNat, Int.reduceNeg, Int.reduceAdd, Int.reduceSub, Int.reduceMul, Int.reduceMod, Int.reduceDiv, reduceCtorEq, Nat.reducePow, Int.reducePow, id, z0, z1]
        · rcases (show k = 0 ∨ k = 1 ∨ k = 2 by omega) with rfl | rfl | rfl
          · have q := List.take_of_length_le (show (b0.getD n [] ++ d0).length ≤ (List.getD b0 n []).length + d0.length by rw [List.length_append]; exact Nat.le_refl _)
            simp (config := { maxSteps := 2000000 }) (disch := (first | omega | (simp only [lens, lenm]; omega))) only [go_sem, ↓reduceIte, Nat.reduceAdd, Nat.reduceEqDiff, Nat.reduceSub, Nat.reduceMul, Nat.reduceLT, Nat.reduceLeDiff, Nat.reduceBEq, Int.reduceEq, Int.reduceLT, Int.reduceLE, Int.reduceToNat, Int.reduceNeg, Int.reduceAdd, Int.reduceSub, Int.reduceMul, Int.reduceMod, Int.reduceDiv, reduceCtorEq, Nat.reducePow, Int.reducePow, ac_registers_Extend_L2, h3, on_eq0 hk.1, on_eq1 hk.1, h4, size_eq0, size_eq1, h5, twin_eq2 hk, h6, sumA_eq0, sumA_eq1, z0, z1, ext1_length, q]
            repeat refine And.intro rfl ?_
            refine Weak.cv (hv := []) [94544] id ?_ rfl
            simp (config := { maxSteps := 2000000 }) (disch := (first | omega | (simp only [lens, lenm]; omega))) only [go_sem, ↓reduceIte, Nat.reduceAdd, Nat.reduceEqDiff, Nat.reduceSub, Nat.reduceMul, Nat.reduceLT, Nat.reduceLeDiff, Nat.reduceBEq, Int.reduceEq, Int.reduceLT, Int.reduceLE, Int.reduceToNat, Int.reduceNeg, Int.reduceAdd, Int.reduceSub, Int.reduceMul, Int.reduceMod, Int.reduceDiv, reduceCtorEq, Nat.reducePow, Int.reducePow, id, ext1, z0, z1, take_sum1, take_sum256, sumA0, sumA1, sum1_length, sum256_length]
            all_goals rfl
          · have q := List.take_of_length_le (show (b1.getD n [] ++ d1).length ≤ (List.getD b1 n []).length + d1.length by rw [List.length_append]; exact Nat.le_refl _)
            simp (config := { maxSteps := 2000000 }) (disch := (first | omega | (simp only [lens, lenm]; omega))) only [go_sem, ↓reduceIte, Nat.reduceAdd, Nat.reduceEqDiff, Nat.reduceSub, Nat.reduceMul, Nat.reduceLT, Nat.reduceLeDiff, Nat.reduceBEq, Int.reduceEq, Int.reduceLT, Int.reduceLE, Int.reduceToNat, Int.reduceNeg, Int.reduceAdd, Int.reduceSub, Int.reduceMul, Int.reduceMod, Int.reduceDiv, reduceCtorEq, Nat.reducePow, Int.reducePow, ac_registers_Extend_L2, h3, on_eq0 hk.1, on_eq1 hk.1, h4, size_eq0, size_eq1, h5, twin_eq2 hk, h6, sumA_eq0, sumA_eq1, z0, z1, ext1_length, q]
            refine Weak.rd id ?_ ?_ rfl
            all_goals simp (config := { maxSteps := 2000000 }) (disch := (first | omega | (simp only [lens, lenm]; omega))) only [go_sem, ↓reduceIte, Nat.reduceAdd, Nat.reduceEqDiff, Nat.reduceSub, Nat.reduceMul, Nat.reduceLT, Nat.reduceLeDiff, Nat.reduceBEq, Int.reduceEq, Int.reduceLT, Int.reduceLE, Int.reduceToNat, Int.reduceNeg, Int.reduceAdd, Int.reduceSub, Int.reduceMul, Int.reduceMod, Int.reduceDiv, reduceCtorEq, Nat.reducePow, Int.reducePow, id, ext1, z0, z1]
          · have t0 : List.take 16 (ext1 0 b0 n d0) = ext1 0 b0 n d0 := List.take_of_length_le (by rw [ext1_length, z0]; exact Nat.le_refl _)
            have t1 : List.take 0 (ext1 1 b1 n d1) = ext1 1 b1 n d1 := List.take_of_length_le (by rw [ext1_length, z1]; exact Nat.le_refl _)
            have y1 : ext1 1 b1 n d1 = [] := List.eq_nil_of_length_eq_zero (by rw [ext1_length, z1])
            simp (config := { maxSteps := 2000000 }) (disch := (first | omega | (simp only [lens, lenm]; omega))) only [go_sem, ↓reduceIte, Nat.reduceAdd, Nat.reduceEqDiff, Nat.reduceSub, Nat.reduceMul, Nat.reduceLT, Nat.reduceLeDiff, Nat.reduceBEq, Int.reduceEq, Int.reduceLT, Int.reduceLE, Int.reduceToNat, Int.reduceNeg, Int.reduceAdd, Int.reduceSub, Int.reduceMul, Int.reduceMod, Int.reduceDiv, reduceCtorEq, Nat.reducePow, Int.reducePow, ac_registers_Extend_L2, ext1_length, t0, t1, z0, z1, hE, extBk, Int.toNat_natCast, List.map_cons, List.map_nil, y1, extR, extEr, List.getD_cons_zero, List.getD_cons_succ, List.length_cons, List.length_nil]
  · have zz : True := trivial
    refine loop_fuel 3 ?_
    simp (config := { maxSteps := 2000000 }) (disch := (first | omega | (simp only [lens, lenm]; omega))) only [go_sem, ↓reduceIte, Nat.reduceAdd, Nat.reduceEqDiff, Nat.reduceSub, Nat.reduceMul, Nat.reduceLT, Nat.reduceLeDiff, Nat.reduceBEq, Int.reduceEq, Int.reduceLT, Int.reduceLE, Int.reduceToNat, Int.reduceNeg, Int.reduceAdd, Int.reduceSub, Int.reduceMul, Int.reduceMod, Int.reduceDiv, reduceCtorEq, Nat.reducePow, Int.reducePow, loopN_succ, ac_registers_Extend_L0, h3, on_eq0 hk.1, on_eq1 hk.1, h4, size_eq0, size_eq1, h5, twin_eq2 hk, h6, sumA_eq0, sumA_eq1, z0, z1]
    all_goals repeat refine And.intro rfl ?_
    refine loopW_weak (fs' := [(2, .t (.int .i64 (n : Nat))), (3, .t (.sl [bsT d0, bsT d1])), (4, .ref 4096 0 0), (8, .ref 4112 0 0), (56, .t (.sl [bsT d0, bsT d1])), (57, .t (.int .i64 2)), (58, .t (.int .i64 0))]) (hs' := [(4112, .live 2 [.agg [.nil, .t (.int .i64 0)]] true true), (4096, .live 2 [.t (regT [b0, b1] u)] true true)]) (Weak.rd id ?_ ?_ rfl) ?_
    · simp (config := { maxSteps := 2000000 }) (disch := (first | omega | (simp only [lens, lenm]; omega))) only [go_sem, ↓reduceIte, Nat.reduceAdd, Nat.reduceEqDiff, Nat.reduceSub, Nat.reduceMul, Nat.reduceLT, Nat.reduceLeDiff, Nat.reduceBEq, Int.reduceEq, Int.reduceLT, Int.reduceLE, Int.reduceToNat, Int.reduceNeg, Int.reduceAdd, Int.reduceSub, Int.reduceMul, Int.reduceMod, Int.reduceDiv, reduceCtorEq, Nat.reducePow, Int.reducePow, id]
    · simp (config := { maxSteps := 2000000 }) (disch := (first | omega | (simp only [lens, lenm]; omega))) only [go_sem, ↓reduceIte, Nat.reduceAdd, Nat.reduceEqDiff, Nat.reduceSub, Nat.reduceMul, Nat.reduceLT, Nat.reduceLeDiff, Nat.reduceBEq, Int.reduceEq, Int.reduceLT, Int.reduceLE, Int.reduceToNat, Int.reduceNeg, Int.reduceAdd, Int.reduceSub, Int.reduceMul, Int.reduceMod, Int.reduceDiv, reduceCtorEq, Nat.reducePow, Int.reducePow, id]
    by_cases q2 : d0.length ≠ 20
    · have zz : True := trivial
      have hE : extE 16 16 loc n 2 d0.length d1.length = 24 := by unfold extE; rw [if_neg (by omega), if_neg (by omega), if_neg (by omega), if_pos (by omega)]
      refine loop_fuel 3 ?_
      simp (config := { maxSteps := 2000000 }) (disch := (first | omega | (simp only [lens, lenm]; omega))) only [go_sem, ↓reduceIte, Nat.reduceAdd, Nat.reduceEqDiff, Nat.reduceSub, Nat.reduceMul, Nat.reduceLT, Nat.reduceLeDiff, Nat.reduceBEq, Int.reduceEq, Int.reduceLT, Int.reduceLE, Int.reduceToNat, Int.reduceNeg, Int.reduceAdd, Int.reduceSub, Int.reduceMul, Int.reduceMod, Int.reduceDiv, reduceCtorEq, Nat.reducePow, Int.reducePow, loopN_succ, ac_registers_Extend_L1, h3, on_eq0 hk.1, on_eq1 hk.1, h4, size_eq0, size_eq1, h5, twin_eq2 hk, h6, sumA_eq0, sumA_eq1, z0, z1, hE, List.map_nil, extR, extEr, List.getD_cons_zero, List.getD_cons_succ, List.length_cons, List.length_nil]
      all_goals repeat refine And.intro rfl ?_
      all_goals rfl
    · have zz : True := trivial
      by_cases q1 : d1.length ≠ 32
      · have zz : True := trivial
        have hE : extE 16 16 loc n 2 d0.length d1.length = 24 := by unfold extE; rw [if_neg (by omega), if_neg (by omega), if_neg (by omega), if_pos (by omega)]
        refine loop_fuel 3 ?_
        simp (config := { maxSteps := 2000000 }) (disch := (first | omega | (simp only [lens, lenm]; omega))) only [go_sem, ↓reduceIte, Nat.reduceAdd, Nat.reduceEqDiff, Nat.reduceSub, Nat.reduceMul, Nat.reduceLT, Nat.reduceLeDiff, Nat.reduceBEq, Int.reduceEq, Int.reduceLT, Int.reduceLE, Int.reduceToNat, Int.reduceNeg, Int.reduceAdd, Int.reduceSub, Int.reduceMul, Int.reduceMod, Int.reduceDiv, reduceCtorEq, Nat.reducePow, Int.reducePow, loopN_succ, ac_registers_Extend_L1, h3, on_eq0 hk.1, on_eq1 hk.1, h4, size_eq0, size_eq1, h5, twin_eq2 hk, h6, sumA_eq0, sumA_eq1, z0, z1, hE, List.map_nil, extR, extEr, List.getD_cons_zero, List.getD_cons_succ, List.length_cons, List.length_nil]
        all_goals repeat refine And.intro rfl ?_
        all_goals rfl
      · have zz : True := trivial
        have hE : extE 16 16 loc n 2 d0.length d1.length = 0 := by unfold extE; rw [if_neg (by omega), if_neg (by omega), if_neg (by omega), if_neg (by omega)]
        refine loop_fuel 3 ?_
        simp (config := { maxSteps := 2000000 }) (disch := (first | omega | (simp only [lens, lenm]; omega))) only [go_sem, ↓reduceIte, Nat.reduceAdd, Nat.reduceEqDiff, Nat.reduceSub, Nat.reduceMul, Nat.reduceLT, Nat.reduceLeDiff, Nat.reduceBEq, Int.reduceEq, Int.reduceLT, Int.reduceLE, Int.reduceToNat, Int.reduceNeg, Int.reduceAdd, Int.reduceSub, Int.reduceMul, Int.reduceMod, Int.reduceDiv, reduceCtorEq, Nat.reducePow, Int.reducePow, loopN_succ, ac_registers_Extend_L1, h3, on_eq0 hk.1, on_eq1 hk.1, h4, size_eq0, size_eq1, h5, twin_eq2 hk, h6, sumA_eq0, sumA_eq1, z0, z1]
        all_goals repeat refine And.intro rfl ?_
        refine loop_upto 2 (fun k => match k with | 0 => [(2, .t (.int .i64 (n : Nat))), (3, .t (.sl [bsT d0, bsT d1])), (4, .ref 4096 0 0), (8, .ref 4112 0 0), (14, .ref 73760 0 0), (79, .t (.int .i64 2)), (80, .t (.int .i64 0))] | 1 => [(2, .t (.int .i64 (n : Nat))), (3, .t (.sl [bsT d0, bsT d1])), (4, .ref 4096 0 0), (8, .ref 4112 0 0), (14, .ref 73760 0 0), (79, .t (.int .i64 2)), (80, .t (.int .i64 1))] | _ => [(2, .t (.int .i64 (n : Nat))), (3, .t (.sl [bsT d0, bsT d1])), (4, .ref 4096 0 0), (8, .ref 4112 0 0), (14, .ref 73760 0 0), (79, .t (.int .i64 2)), (80, .t (.int .i64 2))]) (fun k => match k with | 0 => [(73760, .live 2 [.agg [.sl 73744 0 2, .t (.int .i64 u)]] true true), (73746, .live 1 (((b1).map bsT).map V.t) true false), (73745, .live 1 (((b0).map bsT).map V.t) true false), (73744, .live 1 [.sl 73745 0 16, .sl 73746 0 16] true false), (4112, .live 2 [.agg [.nil, .t (.int .i64 0)]] true true), (4096, .live 2 [.t (regT [b0, b1] u)] true true)] | 1 => [(73760, .live 2 [.agg [.sl 73744 0 2, .t (.int .i64 u)]] true true), (73746, .live 1 (((b1).map bsT).map V.t) true false), (73745, .live 1 (((ext1 0 b0 n d0).map bsT).map V.t) true false), (73744, .live 1 [.sl 73745 0 16, .sl 73746 0 16] true false), (4112, .live 2 [.agg [.nil, .t (.int .i64 0)]] true true), (4096, .live 2 [.t (regT [b0, b1] u)] true true)] | _ => [(73760, .live 2 [.agg [.sl 73744 0 2, .t (.int .i64 u)]] true true), (73746, .live 1 (((ext1 1 b1 n d1).map bsT).map V.t) true false), (73745, .live 1 (((ext1 0 b0 n d0).map bsT).map V.t) true false), (73744, .live 1 [.sl 73745 0 16, .sl 73746 0 16] true false), (4112, .live 2 [.agg [.nil, .t (.int .i64 0)]] true true), (4096, .live 2 [.t (regT [b0, b1] u)] true true)]) ?_ (fun k hk2 => ?_)
        · refine Weak.rd id ?_ ?_ rfl
          all_goals simp (config := { maxSteps := 2000000 }) (disch := (first | omega | (simp only [lens, lenm]; omega))) only [go_sem, ↓reduceIte, Nat.reduceAdd, Nat.reduceEqDiff, Nat.reduceSub, Nat.reduceMul, Nat.reduceLT, Nat.reduceLeDiff, Nat.reduceBEq, Int.reduceEq, Int.reduceLT, Int.reduceLE, Int.reduceToNat, Int.reduceNeg, Int.reduceAdd, Int.reduceSub, Int.reduceMul, Int.reduceMod, Int.reduceDiv, reduceCtorEq, Nat.reducePow, Int.reducePow, id, z0, z1]
        · rcases (show k = 0 ∨ k = 1 ∨ k = 2 by omega) with rfl | rfl | rfl
          · have q := List.take_of_length_le (show (b0.getD n [] ++ d0).length ≤ (List.getD b0 n []).length + d0.length by rw [List.length_append]; exact Nat.le_refl _)
            simp (config := { maxSteps := 2000000 }) (disch := (first | omega | (simp only [lens, lenm]; omega))) only [go_sem, ↓reduceIte, Nat.reduceAdd, Nat.reduceEqDiff, Nat.reduceSub, Nat.reduceMul, Nat.reduceLT, Nat.reduceLeDiff, Nat.reduceBEq, Int.reduceEq, Int.reduceLT, Int.reduceLE, Int.reduceToNat, Int.reduceNeg, Int.reduceAdd, Int.reduceSub, Int.reduceMul, Int.reduceMod, Int.reduceDiv, reduceCtorEq, Nat.reducePow, Int.reducePow, ac_registers_Extend_L2, h3, on_eq0 hk.1, on_eq1 hk.1, h4, size_eq0, size_eq1, h5, twin_eq2 hk, h6, sumA_eq0, sumA_eq1, z0, z1, ext1_length, q]
            repeat refine And.intro rfl ?_
            refine Weak.cv (hv := []) [94544] id ?_ rfl
            simp (config := { maxSteps := 2000000 }) (disch := (first | omega | (simp only [lens, lenm]; omega))) only [go_sem, ↓reduceIte, Nat.reduceAdd, Nat.reduceEqDiff, Nat.reduceSub, Nat.reduceMul, Nat.reduceLT, Nat.reduceLeDiff, Nat.reduceBEq, Int.reduceEq, Int.reduceLT, Int.reduceLE, Int.reduceToNat, Int.reduceNeg, Int.reduceAdd, Int.reduceSub, Int.reduceMul, Int.reduceMod, Int.reduceDiv, reduceCtorEq, Nat.reducePow, Int.reducePow, id, ext1, z0, z1, take_sum1, take_sum256, sumA0, sumA1, sum1_length, sum256_length]
            all_goals rfl
          · have q := List.take_of_length_le (show (b1.getD n [] ++ d1).length ≤ (List.getD b1 n []).length + d1.length by rw [List.length_append]; exact Nat.le_refl _)
            simp (config := { maxSteps := 2000000 }) (disch := (first | omega | (simp only [lens, lenm]; omega))) only [go_sem, ↓reduceIte, Nat.reduceAdd, Nat.reduceEqDiff, Nat.reduceSub, Nat.reduceMul, Nat.reduceLT, Nat.reduceLeDiff, Nat.reduceBEq, Int.reduceEq, Int.reduceLT, Int.reduceLE, Int.reduceToNat, Int.reduceNeg, Int.reduceAdd, Int.reduceSub, Int.reduceMul, Int.reduceMod, Int.reduceDiv, reduceCtorEq, Nat.reducePow, Int.reducePow, ac_registers_Extend_L2, h3, on_eq0 hk.1, on_eq1 hk.1, h4, size_eq0, size_eq1, h5, twin_eq2 hk, h6, sumA_eq0, sumA_eq1, z0, z1, ext1_length, q]
            repeat refine And.intro rfl ?_
            refine Weak.cv (hv := []) [94544] id ?_ rfl
            simp (config := { maxSteps := 2000000 }) (disch := (first | omega | (simp only [lens, lenm]; omega))) only [go_sem, ↓reduceIte, Nat.reduceAdd, Nat.reduceEqDiff, Nat.reduceSub, Nat.reduceMul, Nat.reduceLT, Nat.reduceLeDiff, Nat.reduceBEq, Int.reduceEq, Int.reduceLT, Int.reduceLE, Int.reduceToNat, Int.reduceNeg, Int.reduceAdd, Int.reduceSub, Int.reduceMul, Int.reduceMod, Int.reduceDiv, reduceCtorEq, Nat.reducePow, Int.reducePow, id, ext1, z0, z1, take_sum1, take_sum256, sumA0, sumA1, sum1_length, sum256_length]
            all_goals rfl
          · have t0 : List.take 16 (ext1 0 b0 n d0) = ext1 0 b0 n d0 := List.take_of_length_le (by rw [ext1_length, z0]; exact Nat.le_refl _)
            have t1 : List.take 16 (ext1 1 b1 n d1) = ext1 1 b1 n d1 := List.take_of_length_le (by rw [ext1_length, z1]; exact Nat.le_refl _)
            simp (config := { maxSteps := 2000000 }) (disch := (first | omega | (simp only [lens, lenm]; omega))) only [go_sem, ↓reduceIte, Nat.reduceAdd, Nat.reduceEqDiff, Nat.reduceSub, Nat.reduceMul, Nat.reduceLT, Nat.reduceLeDiff, Nat.reduceBEq, Int.reduceEq, Int.reduceLT, Int.reduceLE, Int.reduceToNat, Int.reduceNeg, Int.reduceAdd, Int.reduceSub, Int.reduceMul, Int.reduceMod, Int.reduceDiv, reduceCtorEq, Nat.reducePow, Int.reducePow, ac_registers_Extend_L2, ext1_length, t0, t1, z0, z1, hE, extBk, Int.toNat_natCast, List.map_cons, List.map_nil, extR, extEr, List.getD_cons_zero, List.getD_cons_succ, List.length_cons, List.length_nil]
end Go.Eng
end
