/- My own text: an abstract machine, its walks over the functions reached, and their tie to the program. -/
import Derived.Test.YtcklafcpgiomfaaDoorU2
set_option linter.unusedSimpArgs false
set_option linter.unusedVariables false
section
namespace Go.Eng
def ac_digest_Size : AC :=
 (.seq
 (.reg 4096 none [
 ⟨some 2, (.op .mov), [.cst (.t (.int .i64 0))], none⟩])
 (.seq
 (.seq
 (.reg 8192 none [
 ⟨some 3, (.op .mov), [.tmp 0], none⟩])
 (.block 0
 (.seq
 (.reg 12288 none [
 ⟨some 5, (.op (.bin .eql)), [.tmp 3, .cst (.t (.int .i64 0))], none⟩,
 ⟨some 4, (.op .mov), [.tmp 5], none⟩])
 (.cond (.tmp 4)
 (.seq
 (.reg 16384 none [
 ⟨some 2, (.op .mov), [.cst (.t (.int .i64 20))], none⟩])
 .ret)
 (.seq
 (.reg 20480 none [
 ⟨some 7, (.op (.bin .eql)), [.tmp 3, .cst (.t (.int .i64 1))], none⟩,
 ⟨some 6, (.op .mov), [.tmp 7], none⟩])
 (.cond (.tmp 6)
 (.seq
 (.reg 24576 none [
 ⟨some 2, (.op .mov), [.cst (.t (.int .i64 32))], none⟩])
 .ret)
 .skip))))))
 (.seq
 (.reg 28672 none [
 ⟨some 2, (.op .mov), [.cst (.t (.int .i64 0))], none⟩])
 .ret)))
def hints_digest_Size : List (Nat × List Nat) := []
def ac_digest_pad_L0 : AC :=
 (.seq
 (.seq
 (.reg 12288 none [
 ⟨some 14, (.op .mov), [.tmp 3], none⟩,
 ⟨some 15, (.op .len), [.tmp 14], none⟩,
 ⟨some 16, (.op (.bin .rem)), [.tmp 15, .cst (.t (.int .i64 64))], none⟩,
 ⟨some 17, (.op (.bin .neq)), [.tmp 16, .cst (.t (.int .i64 56))], none⟩])
 (.cond (.tmp 17)
 .skip
 (.exit 0)))
 (.block 1
 (.reg 16384 none [
 ⟨some 18, (.op .mov), [.tmp 3], none⟩,
 ⟨some 19, (.op (.bslice 1 1 (.t (byteT 0)) [0])), [.cst (.t (byteT 0))], none⟩,
 ⟨some 20, (.op (.append 1 1)), [.tmp 18, .tmp 19], none⟩,
 ⟨some 3, (.op .mov), [.tmp 20], none⟩])))
def ac_digest_pad_L1 : AC :=
 (.seq
 (.seq
 (.reg 28672 none [
 ⟨some 25, (.op .mov), [.tmp 5], none⟩,
 ⟨some 26, (.op (.bin .geq)), [.tmp 25, .cst (.t (.int .i64 0))], none⟩])
 (.cond (.tmp 26)
 .skip
 (.exit 2)))
 (.seq
 (.block 3
 (.reg 36864 none [
 ⟨some 29, (.op .mov), [.tmp 3], none⟩,
 ⟨some 30, (.op .mov), [.tmp 4], none⟩,
 ⟨some 31, (.op .mov), [.tmp 5], none⟩,
 ⟨some 32, (.op (.conv .u64)), [.tmp 31], none⟩,
 ⟨some 33, (.op (.bin .shr)), [.tmp 30, .tmp 32], none⟩,
 ⟨some 34, (.op (.conv .u8)), [.tmp 33], none⟩,
 ⟨some 35, (.op (.bslice 1 1 (.t (byteT 0)) [0])), [.tmp 34], none⟩,
 ⟨some 36, (.op (.append 1 1)), [.tmp 29, .tmp 35], none⟩,
 ⟨some 3, (.op .mov), [.tmp 36], none⟩]))
 (.reg 32768 none [
 ⟨some 27, (.op .mov), [.tmp 5], none⟩,
 ⟨some 28, (.op (.bin .sub)), [.tmp 27, .cst (.t (.int .i64 8))], none⟩,
 ⟨some 5, (.op .mov), [.tmp 28], none⟩])))
def ac_digest_pad : AC :=
 (.seq
 (.reg 4096 none [
 ⟨some 2, (.op .mov), [.cst .nil], none⟩])
 (.seq
 (.reg 8192 none [
 ⟨some 6, (.op .mov), [.tmp 0], none⟩,
 ⟨some 7, (.op .len), [.tmp 6], none⟩,
 ⟨some 8, (.op (.bin .add)), [.tmp 7, .cst (.t (.int .i64 72))], none⟩,
 ⟨some 9, (.op (.mkslice 1 1 (.t (byteT 0)))), [.cst (.t (.int .i64 0)), .tmp 8], none⟩,
 ⟨some 10, (.op .mov), [.tmp 0], none⟩,
 ⟨some 11, (.op (.append 1 1)), [.tmp 9, .tmp 10], none⟩,
 ⟨some 12, (.op (.bslice 1 1 (.t (byteT 0)) [0])), [.cst (.t (byteT 128))], none⟩,
 ⟨some 13, (.op (.append 1 1)), [.tmp 11, .tmp 12], none⟩,
 ⟨some 3, (.op .mov), [.tmp 13], none⟩])
 (.seq
 (.block 0
 (.loop ac_digest_pad_L0))
 (.seq
 (.reg 20480 none [
 ⟨some 21, (.op .mov), [.tmp 0], none⟩,
 ⟨some 22, (.op .len), [.tmp 21], none⟩,
 ⟨some 23, (.op (.conv .u64)), [.tmp 22], none⟩,
 ⟨some 24, (.op (.bin .mul)), [.tmp 23, .cst (.t (.int .u64 8))], none⟩,
 ⟨some 4, (.op .mov), [.tmp 24], none⟩])
 (.seq
 (.seq
 (.reg 24576 none [
 ⟨some 5, (.op .mov), [.cst (.t (.int .i64 56))], none⟩])
 (.block 2
 (.loop ac_digest_pad_L1)))
 (.seq
 (.reg 40960 none [
 ⟨some 37, (.op .mov), [.tmp 3], none⟩,
 ⟨some 2, (.op .mov), [.tmp 37], none⟩])
 .ret))))))
def hints_digest_pad : List (Nat × List Nat) := []
def ac_digest_word : AC :=
 (.seq
 (.reg 4096 none [
 ⟨some 4, (.op .mov), [.cst (.t (u32T 0))], none⟩])
 (.seq
 (.reg 8192 (some [0, 0, 2, 7, 15, 31, 63, 0, 0, 256, 768, 1920, 3968, 8064, 16256, 32767, 0, 0, 131072, 393216, 983040, 2031616, 4128768, 8323072, 16777215, 0, 0, 67108864, 201326592, 503316480, 1040187392, 2113929216, 4294967295, 8589934591]) [
 ⟨some 5, (.op .mov), [.tmp 0], none⟩,
 ⟨some 6, (.op .mov), [.tmp 1], none⟩,
 ⟨some 7, (.op (.bin .mul)), [.cst (.t (.int .i64 4)), .tmp 6], none⟩,
 ⟨some 8, (.op (.iaddr 1)), [.tmp 5, .tmp 7], none⟩,
 ⟨some 9, (.op (.load 1 false)), [.tmp 8], none⟩,
 ⟨some 10, (.op (.conv .u32)), [.tmp 9], none⟩,
 ⟨some 11, (.op (.bin .shl)), [.tmp 10, .cst (.t (.int .u64 24))], none⟩,
 ⟨some 12, (.op .mov), [.tmp 0], none⟩,
 ⟨some 13, (.op .mov), [.tmp 1], none⟩,
 ⟨some 14, (.op (.bin .mul)), [.cst (.t (.int .i64 4)), .tmp 13], none⟩,
 ⟨some 15, (.op (.bin .add)), [.tmp 14, .cst (.t (.int .i64 1))], none⟩,
 ⟨some 16, (.op (.iaddr 1)), [.tmp 12, .tmp 15], none⟩,
 ⟨some 17, (.op (.load 1 false)), [.tmp 16], none⟩,
 ⟨some 18, (.op (.conv .u32)), [.tmp 17], none⟩,
 ⟨some 19, (.op (.bin .shl)), [.tmp 18, .cst (.t (.int .u64 16))], none⟩,
 ⟨some 20, (.op (.bin .or)), [.tmp 11, .tmp 19], none⟩,
 ⟨some 21, (.op .mov), [.tmp 0], none⟩,
 ⟨some 22, (.op .mov), [.tmp 1], none⟩,
 ⟨some 23, (.op (.bin .mul)), [.cst (.t (.int .i64 4)), .tmp 22], none⟩,
 ⟨some 24, (.op (.bin .add)), [.tmp 23, .cst (.t (.int .i64 2))], none⟩,
 ⟨some 25, (.op (.iaddr 1)), [.tmp 21, .tmp 24], none⟩,
 ⟨some 26, (.op (.load 1 false)), [.tmp 25], none⟩,
 ⟨some 27, (.op (.conv .u32)), [.tmp 26], none⟩,
 ⟨some 28, (.op (.bin .shl)), [.tmp 27, .cst (.t (.int .u64 8))], none⟩,
 ⟨some 29, (.op (.bin .or)), [.tmp 20, .tmp 28], none⟩,
 ⟨some 30, (.op .mov), [.tmp 0], none⟩,
 ⟨some 31, (.op .mov), [.tmp 1], none⟩,
 ⟨some 32, (.op (.bin .mul)), [.cst (.t (.int .i64 4)), .tmp 31], none⟩,
 ⟨some 33, (.op (.bin .add)), [.tmp 32, .cst (.t (.int .i64 3))], none⟩,
 ⟨some 34, (.op (.iaddr 1)), [.tmp 30, .tmp 33], none⟩,
 ⟨some 35, (.op (.load 1 false)), [.tmp 34], none⟩,
 ⟨some 36, (.op (.conv .u32)), [.tmp 35], none⟩,
 ⟨some 37, (.op (.bin .or)), [.tmp 29, .tmp 36], none⟩,
 ⟨some 4, (.op .mov), [.tmp 37], none⟩])
 .ret))
def hints_digest_word : List (Nat × List Nat) := []
def ac_digest_spread_L0 : AC :=
 (.seq
 (.reg 16384 none [
 ⟨some 13, (.op (.bin .lss)), [.tmp 12, .tmp 11], none⟩])
 (.seq
 (.cond (.tmp 13)
 .skip
 (.exit 0))
 (.seq
 (.block 1
 (.seq
 (.reg 20480 none [
 ⟨some 14, (.op (.iaddr 1)), [.tmp 10, .tmp 12], none⟩,
 ⟨some 15, (.op (.load 1 false)), [.tmp 14], none⟩,
 ⟨some 5, (.op .mov), [.tmp 15], none⟩])
 (.reg 24576 none [
 ⟨some 16, (.op .mov), [.tmp 3], none⟩,
 ⟨some 17, (.op .mov), [.tmp 5], none⟩,
 ⟨some 18, (.op (.bin .shr)), [.tmp 17, .cst (.t (.int .u64 24))], none⟩,
 ⟨some 19, (.op (.conv .u8)), [.tmp 18], none⟩,
 ⟨some 20, (.op .mov), [.tmp 5], none⟩,
 ⟨some 21, (.op (.bin .shr)), [.tmp 20, .cst (.t (.int .u64 16))], none⟩,
 ⟨some 22, (.op (.conv .u8)), [.tmp 21], none⟩,
 ⟨some 23, (.op .mov), [.tmp 5], none⟩,
 ⟨some 24, (.op (.bin .shr)), [.tmp 23, .cst (.t (.int .u64 8))], none⟩,
 ⟨some 25, (.op (.conv .u8)), [.tmp 24], none⟩,
 ⟨some 26, (.op .mov), [.tmp 5], none⟩,
 ⟨some 27, (.op (.conv .u8)), [.tmp 26], none⟩,
 ⟨some 28, (.op (.bslice 1 4 (.t (byteT 0)) [0, 1, 2, 3])), [.tmp 19, .tmp 22, .tmp 25, .tmp 27], none⟩,
 ⟨some 29, (.op (.append 1 1)), [.tmp 16, .tmp 28], none⟩,
 ⟨some 3, (.op .mov), [.tmp 29], none⟩])))
 (.reg 28672 none [
 ⟨some 30, (.op (.bin .add)), [.tmp 12, .cst (.t (.int .i64 1))], none⟩,
 ⟨some 12, (.op .mov), [.tmp 30], none⟩]))))
def ac_digest_spread : AC :=
 (.seq
 (.reg 4096 none [
 ⟨some 2, (.op .mov), [.cst .nil], none⟩])
 (.seq
 (.reg 8192 none [
 ⟨some 6, (.op .mov), [.tmp 0], none⟩,
 ⟨some 7, (.op .len), [.tmp 6], none⟩,
 ⟨some 8, (.op (.bin .mul)), [.cst (.t (.int .i64 4)), .tmp 7], none⟩,
 ⟨some 9, (.op (.mkslice 1 1 (.t (byteT 0)))), [.cst (.t (.int .i64 0)), .tmp 8], none⟩,
 ⟨some 3, (.op .mov), [.tmp 9], none⟩])
 (.seq
 (.seq
 (.reg 12288 none [
 ⟨some 10, (.op .mov), [.tmp 0], none⟩,
 ⟨some 11, (.op .len), [.tmp 10], none⟩,
 ⟨some 12, (.op .mov), [.cst (.t (.int .i64 0))], none⟩])
 (.block 0
 (.loop ac_digest_spread_L0)))
 (.seq
 (.reg 32768 none [
 ⟨some 31, (.op .mov), [.tmp 3], none⟩,
 ⟨some 2, (.op .mov), [.tmp 31], none⟩])
 .ret))))
def hints_digest_spread : List (Nat × List Nat) := []
def ac_digest_compress256_L0 (n_digest_word n_bits_RotateLeft32 : Nat) : AC :=
 (.seq
 (.reg 12288 none [
 ⟨some 18, (.op (.bin .lss)), [.tmp 17, .cst (.t (.int .i64 64))], none⟩])
 (.seq
 (.cond (.tmp 18)
 .skip
 (.exit 0))
 (.seq
 (.block 1
 (.seq
 (.reg 16384 none [
 ⟨some 19, (.op .mov), [.tmp 17], none⟩,
 ⟨some 5, (.op .mov), [.tmp 19], none⟩])
 (.seq
 (.seq
 (.reg 20480 none [
 ⟨some 20, (.op .mov), [.tmp 5], none⟩,
 ⟨some 21, (.op (.bin .lss)), [.tmp 20, .cst (.t (.int .i64 16))], none⟩])
 (.cond (.tmp 21)
 (.seq
 (.reg 24576 none [
 ⟨some 22, (.op .mov), [.tmp 5], none⟩,
 ⟨some 23, (.op .mov), [.tmp 1], none⟩,
 ⟨some 24, (.op .mov), [.tmp 5], none⟩,
 ⟨some 25, (.call n_digest_word false), [.tmp 23, .tmp 24], none⟩,
 ⟨some 26, (.op (.aaddr 64 1)), [.tmp 4, .tmp 22], none⟩,
 ⟨none, (.op (.store 1)), [.tmp 26, .tmp 25], none⟩])
 (.exit 1))
 .skip))
 (.seq
 (.reg 28672 (some [0, 1, 3, 7, 0, 16, 48, 112, 15, 511]) [
 ⟨some 27, (.op .mov), [.tmp 5], none⟩,
 ⟨some 28, (.op (.bin .sub)), [.tmp 27, .cst (.t (.int .i64 15))], none⟩,
 ⟨some 29, (.op (.aaddr 64 1)), [.tmp 4, .tmp 28], none⟩,
 ⟨some 30, (.op (.load 1 false)), [.tmp 29], none⟩,
 ⟨some 31, (.op .mov), [.tmp 5], none⟩,
 ⟨some 32, (.op (.bin .sub)), [.tmp 31, .cst (.t (.int .i64 2))], none⟩,
 ⟨some 33, (.op (.aaddr 64 1)), [.tmp 4, .tmp 32], none⟩,
 ⟨some 34, (.op (.load 1 false)), [.tmp 33], none⟩,
 ⟨some 6, (.op .mov), [.tmp 30], none⟩,
 ⟨some 7, (.op .mov), [.tmp 34], none⟩])
 (.seq
 (.reg 32768 none [
 ⟨some 35, (.op .mov), [.tmp 6], none⟩,
 ⟨some 36, (.call n_bits_RotateLeft32 false), [.tmp 35, .cst (.t (.int .i64 (-7)))], none⟩,
 ⟨some 37, (.op .mov), [.tmp 6], none⟩,
 ⟨some 38, (.call n_bits_RotateLeft32 false), [.tmp 37, .cst (.t (.int .i64 (-18)))], none⟩,
 ⟨some 39, (.op (.bin .xor)), [.tmp 36, .tmp 38], none⟩,
 ⟨some 40, (.op .mov), [.tmp 6], none⟩,
 ⟨some 41, (.op (.bin .shr)), [.tmp 40, .cst (.t (.int .u64 3))], none⟩,
 ⟨some 42, (.op (.bin .xor)), [.tmp 39, .tmp 41], none⟩,
 ⟨some 8, (.op .mov), [.tmp 42], none⟩])
 (.seq
 (.reg 36864 none [
 ⟨some 43, (.op .mov), [.tmp 7], none⟩,
 ⟨some 44, (.call n_bits_RotateLeft32 false), [.tmp 43, .cst (.t (.int .i64 (-17)))], none⟩,
 ⟨some 45, (.op .mov), [.tmp 7], none⟩,
 ⟨some 46, (.call n_bits_RotateLeft32 false), [.tmp 45, .cst (.t (.int .i64 (-19)))], none⟩,
 ⟨some 47, (.op (.bin .xor)), [.tmp 44, .tmp 46], none⟩,
 ⟨some 48, (.op .mov), [.tmp 7], none⟩,
 ⟨some 49, (.op (.bin .shr)), [.tmp 48, .cst (.t (.int .u64 10))], none⟩,
 ⟨some 50, (.op (.bin .xor)), [.tmp 47, .tmp 49], none⟩,
 ⟨some 9, (.op .mov), [.tmp 50], none⟩])
 (.reg 40960 (some [0, 0, 0, 4, 12, 28, 62, 0, 254, 0, 512, 1536, 3584, 8190, 16383, 32767]) [
 ⟨some 51, (.op .mov), [.tmp 5], none⟩,
 ⟨some 52, (.op .mov), [.tmp 9], none⟩,
 ⟨some 53, (.op .mov), [.tmp 5], none⟩,
 ⟨some 54, (.op (.bin .sub)), [.tmp 53, .cst (.t (.int .i64 7))], none⟩,
 ⟨some 55, (.op (.aaddr 64 1)), [.tmp 4, .tmp 54], none⟩,
 ⟨some 56, (.op (.load 1 false)), [.tmp 55], none⟩,
 ⟨some 57, (.op (.bin .add)), [.tmp 52, .tmp 56], none⟩,
 ⟨some 58, (.op .mov), [.tmp 8], none⟩,
 ⟨some 59, (.op (.bin .add)), [.tmp 57, .tmp 58], none⟩,
 ⟨some 60, (.op .mov), [.tmp 5], none⟩,
 ⟨some 61, (.op (.bin .sub)), [.tmp 60, .cst (.t (.int .i64 16))], none⟩,
 ⟨some 62, (.op (.aaddr 64 1)), [.tmp 4, .tmp 61], none⟩,
 ⟨some 63, (.op (.load 1 false)), [.tmp 62], none⟩,
 ⟨some 64, (.op (.bin .add)), [.tmp 59, .tmp 63], none⟩,
 ⟨some 65, (.op (.aaddr 64 1)), [.tmp 4, .tmp 51], none⟩,
 ⟨none, (.op (.store 1)), [.tmp 65, .tmp 64], none⟩])))))))
 (.reg 45056 none [
 ⟨some 66, (.op (.bin .add)), [.tmp 17, .cst (.t (.int .i64 1))], none⟩,
 ⟨some 17, (.op .mov), [.tmp 66], none⟩]))))
def ac_digest_compress256_L1 (n_bits_RotateLeft32 g_digest_round256 : Nat) : AC :=
 (.seq
 (.reg 57344 none [
 ⟨some 71, (.op (.bin .lss)), [.tmp 70, .cst (.t (.int .i64 64))], none⟩])
 (.seq
 (.cond (.tmp 71)
 .skip
 (.exit 2))
 (.seq
 (.block 3
 (.seq
 (.reg 61440 none [
 ⟨some 72, (.op .mov), [.tmp 70], none⟩,
 ⟨some 11, (.op .mov), [.tmp 72], none⟩])
 (.seq
 (.reg 65536 (some [0, 1, 0, 4, 3, 31]) [
 ⟨some 73, (.op (.aaddr 8 1)), [.tmp 10, .cst (.t (.int .i64 0))], none⟩,
 ⟨some 74, (.op (.load 1 false)), [.tmp 73], none⟩,
 ⟨some 75, (.op (.aaddr 8 1)), [.tmp 10, .cst (.t (.int .i64 4))], none⟩,
 ⟨some 76, (.op (.load 1 false)), [.tmp 75], none⟩,
 ⟨some 12, (.op .mov), [.tmp 74], none⟩,
 ⟨some 13, (.op .mov), [.tmp 76], none⟩])
 (.seq
 (.reg 69632 (some [0, 1, 0, 4, 0, 28, 60, 0, 188, 508, 1023, 0, 0, 4096, 14336, 0, 32768, 0, 131072, 491520, 1046528, 2097151, 0, 4194304, 12582912, 33554431, 0, 67108864, 201326592, 536870911, 1073741823]) [
 ⟨some 77, (.op (.aaddr 8 1)), [.tmp 10, .cst (.t (.int .i64 7))], none⟩,
 ⟨some 78, (.op (.load 1 false)), [.tmp 77], none⟩,
 ⟨some 79, (.op .mov), [.tmp 13], none⟩,
 ⟨some 80, (.call n_bits_RotateLeft32 false), [.tmp 79, .cst (.t (.int .i64 (-6)))], none⟩,
 ⟨some 81, (.op .mov), [.tmp 13], none⟩,
 ⟨some 82, (.call n_bits_RotateLeft32 false), [.tmp 81, .cst (.t (.int .i64 (-11)))], none⟩,
 ⟨some 83, (.op (.bin .xor)), [.tmp 80, .tmp 82], none⟩,
 ⟨some 84, (.op .mov), [.tmp 13], none⟩,
 ⟨some 85, (.call n_bits_RotateLeft32 false), [.tmp 84, .cst (.t (.int .i64 (-25)))], none⟩,
 ⟨some 86, (.op (.bin .xor)), [.tmp 83, .tmp 85], none⟩,
 ⟨some 87, (.op (.bin .add)), [.tmp 78, .tmp 86], none⟩,
 ⟨some 88, (.op .mov), [.tmp 13], none⟩,
 ⟨some 89, (.op (.aaddr 8 1)), [.tmp 10, .cst (.t (.int .i64 5))], none⟩,
 ⟨some 90, (.op (.load 1 false)), [.tmp 89], none⟩,
 ⟨some 91, (.op (.bin .and)), [.tmp 88, .tmp 90], none⟩,
 ⟨some 92, (.op .mov), [.tmp 13], none⟩,
 ⟨some 93, (.op (.un .xor)), [.tmp 92], none⟩,
 ⟨some 94, (.op (.aaddr 8 1)), [.tmp 10, .cst (.t (.int .i64 6))], none⟩,
 ⟨some 95, (.op (.load 1 false)), [.tmp 94], none⟩,
 ⟨some 96, (.op (.bin .and)), [.tmp 93, .tmp 95], none⟩,
 ⟨some 97, (.op (.bin .xor)), [.tmp 91, .tmp 96], none⟩,
 ⟨some 98, (.op (.bin .add)), [.tmp 87, .tmp 97], none⟩,
 ⟨some 99, (.op .mov), [.tmp 11], none⟩,
 ⟨some 100, (.op (.aaddr 64 1)), [.glob g_digest_round256, .tmp 99], none⟩,
 ⟨some 101, (.op (.load 1 false)), [.tmp 100], none⟩,
 ⟨some 102, (.op (.bin .add)), [.tmp 98, .tmp 101], none⟩,
 ⟨some 103, (.op .mov), [.tmp 11], none⟩,
 ⟨some 104, (.op (.aaddr 64 1)), [.tmp 4, .tmp 103], none⟩,
 ⟨some 105, (.op (.load 1 false)), [.tmp 104], none⟩,
 ⟨some 106, (.op (.bin .add)), [.tmp 102, .tmp 105], none⟩,
 ⟨some 14, (.op .mov), [.tmp 106], none⟩])
 (.seq
 (.reg 73728 (some [0, 1, 0, 7, 15, 0, 47, 127, 0, 0, 512, 1792, 0, 0, 8192, 28672, 65280, 0, 131072, 0, 524288, 1966080, 4194048, 8388607, 16777215]) [
 ⟨some 107, (.op .mov), [.tmp 12], none⟩,
 ⟨some 108, (.call n_bits_RotateLeft32 false), [.tmp 107, .cst (.t (.int .i64 (-2)))], none⟩,
 ⟨some 109, (.op .mov), [.tmp 12], none⟩,
 ⟨some 110, (.call n_bits_RotateLeft32 false), [.tmp 109, .cst (.t (.int .i64 (-13)))], none⟩,
 ⟨some 111, (.op (.bin .xor)), [.tmp 108, .tmp 110], none⟩,
 ⟨some 112, (.op .mov), [.tmp 12], none⟩,
 ⟨some 113, (.call n_bits_RotateLeft32 false), [.tmp 112, .cst (.t (.int .i64 (-22)))], none⟩,
 ⟨some 114, (.op (.bin .xor)), [.tmp 111, .tmp 113], none⟩,
 ⟨some 115, (.op .mov), [.tmp 12], none⟩,
 ⟨some 116, (.op (.aaddr 8 1)), [.tmp 10, .cst (.t (.int .i64 1))], none⟩,
 ⟨some 117, (.op (.load 1 false)), [.tmp 116], none⟩,
 ⟨some 118, (.op (.bin .and)), [.tmp 115, .tmp 117], none⟩,
 ⟨some 119, (.op .mov), [.tmp 12], none⟩,
 ⟨some 120, (.op (.aaddr 8 1)), [.tmp 10, .cst (.t (.int .i64 2))], none⟩,
 ⟨some 121, (.op (.load 1 false)), [.tmp 120], none⟩,
 ⟨some 122, (.op (.bin .and)), [.tmp 119, .tmp 121], none⟩,
 ⟨some 123, (.op (.bin .xor)), [.tmp 118, .tmp 122], none⟩,
 ⟨some 124, (.op (.aaddr 8 1)), [.tmp 10, .cst (.t (.int .i64 1))], none⟩,
 ⟨some 125, (.op (.load 1 false)), [.tmp 124], none⟩,
 ⟨some 126, (.op (.aaddr 8 1)), [.tmp 10, .cst (.t (.int .i64 2))], none⟩,
 ⟨some 127, (.op (.load 1 false)), [.tmp 126], none⟩,
 ⟨some 128, (.op (.bin .and)), [.tmp 125, .tmp 127], none⟩,
 ⟨some 129, (.op (.bin .xor)), [.tmp 123, .tmp 128], none⟩,
 ⟨some 130, (.op (.bin .add)), [.tmp 114, .tmp 129], none⟩,
 ⟨some 15, (.op .mov), [.tmp 130], none⟩])
 (.reg 77824 none [
 ⟨some 131, (.op .mov), [.tmp 14], none⟩,
 ⟨some 132, (.op .mov), [.tmp 15], none⟩,
 ⟨some 133, (.op (.bin .add)), [.tmp 131, .tmp 132], none⟩,
 ⟨some 134, (.op (.aaddr 8 1)), [.tmp 10, .cst (.t (.int .i64 0))], none⟩,
 ⟨some 135, (.op (.load 1 false)), [.tmp 134], none⟩,
 ⟨some 136, (.op (.aaddr 8 1)), [.tmp 10, .cst (.t (.int .i64 1))], none⟩,
 ⟨some 137, (.op (.load 1 false)), [.tmp 136], none⟩,
 ⟨some 138, (.op (.aaddr 8 1)), [.tmp 10, .cst (.t (.int .i64 2))], none⟩,
 ⟨some 139, (.op (.load 1 false)), [.tmp 138], none⟩,
 ⟨some 140, (.op (.aaddr 8 1)), [.tmp 10, .cst (.t (.int .i64 3))], none⟩,
 ⟨some 141, (.op (.load 1 false)), [.tmp 140], none⟩,
 ⟨some 142, (.op .mov), [.tmp 14], none⟩,
 ⟨some 143, (.op (.bin .add)), [.tmp 141, .tmp 142], none⟩,
 ⟨some 144, (.op (.aaddr 8 1)), [.tmp 10, .cst (.t (.int .i64 4))], none⟩,
 ⟨some 145, (.op (.load 1 false)), [.tmp 144], none⟩,
 ⟨some 146, (.op (.aaddr 8 1)), [.tmp 10, .cst (.t (.int .i64 5))], none⟩,
 ⟨some 147, (.op (.load 1 false)), [.tmp 146], none⟩,
 ⟨some 148, (.op (.aaddr 8 1)), [.tmp 10, .cst (.t (.int .i64 6))], none⟩,
 ⟨some 149, (.op (.load 1 false)), [.tmp 148], none⟩,
 ⟨some 150, (.op (.build [(.t (u32T 0)), (.t (u32T 0)), (.t (u32T 0)), (.t (u32T 0)), (.t (u32T 0)), (.t (u32T 0)), (.t (u32T 0)), (.t (u32T 0))] [(0, 1), (1, 1), (2, 1), (3, 1), (4, 1), (5, 1), (6, 1), (7, 1)])), [.tmp 133, .tmp 135, .tmp 137, .tmp 139, .tmp 143, .tmp 145, .tmp 147, .tmp 149], none⟩,
 ⟨none, (.op (.store 8)), [.tmp 10, .tmp 150], none⟩]))))))
 (.reg 81920 none [
 ⟨some 151, (.op (.bin .add)), [.tmp 70, .cst (.t (.int .i64 1))], none⟩,
 ⟨some 70, (.op .mov), [.tmp 151], none⟩]))))
def ac_digest_compress256_L2 : AC :=
 (.seq
 (.reg 90112 none [
 ⟨some 153, (.op (.bin .lss)), [.tmp 152, .cst (.t (.int .i64 8))], none⟩])
 (.seq
 (.cond (.tmp 153)
 .skip
 (.exit 4))
 (.seq
 (.block 5
 (.seq
 (.reg 94208 none [
 ⟨some 154, (.op .mov), [.tmp 152], none⟩,
 ⟨some 16, (.op .mov), [.tmp 154], none⟩])
 (.reg 98304 (some [0, 0, 1, 7, 15, 0, 32, 96, 255, 1, 1023, 2047]) [
 ⟨some 155, (.op .mov), [.tmp 0], none⟩,
 ⟨some 156, (.op .mov), [.tmp 16], none⟩,
 ⟨some 157, (.op .nilchk), [.tmp 155], none⟩,
 ⟨some 158, (.op (.aaddr 8 1)), [.tmp 157, .tmp 156], none⟩,
 ⟨some 159, (.op (.load 1 false)), [.tmp 158], none⟩,
 ⟨some 160, (.op .mov), [.tmp 16], none⟩,
 ⟨some 161, (.op (.aaddr 8 1)), [.tmp 10, .tmp 160], none⟩,
 ⟨some 162, (.op (.load 1 false)), [.tmp 161], none⟩,
 ⟨some 163, (.op (.bin .add)), [.tmp 159, .tmp 162], none⟩,
 ⟨some 164, (.op .nilchk), [.tmp 155], none⟩,
 ⟨some 165, (.op (.aaddr 8 1)), [.tmp 164, .tmp 156], none⟩,
 ⟨none, (.op (.store 1)), [.tmp 165, .tmp 163], none⟩])))
 (.reg 102400 none [
 ⟨some 166, (.op (.bin .add)), [.tmp 152, .cst (.t (.int .i64 1))], none⟩,
 ⟨some 152, (.op .mov), [.tmp 166], none⟩]))))
def ac_digest_compress256 (n_digest_word n_bits_RotateLeft32 g_digest_round256 : Nat) : AC :=
 (.seq
 (.reg 4096 none [
 ⟨some 4, (.op (.new 1 (List.replicate 64 (.t (u32T 0))))), [], none⟩])
 (.seq
 (.seq
 (.reg 8192 none [
 ⟨some 17, (.op .mov), [.cst (.t (.int .i64 0))], none⟩])
 (.block 0
 (.loop (ac_digest_compress256_L0 n_digest_word n_bits_RotateLeft32))))
 (.seq
 (.reg 49152 none [
 ⟨some 67, (.op .mov), [.tmp 0], none⟩,
 ⟨some 68, (.op .nilchk), [.tmp 67], none⟩,
 ⟨some 69, (.op (.load 8 true)), [.tmp 68], none⟩,
 ⟨some 10, (.op (.new 1 [(.t (u32T 0)), (.t (u32T 0)), (.t (u32T 0)), (.t (u32T 0)), (.t (u32T 0)), (.t (u32T 0)), (.t (u32T 0)), (.t (u32T 0))])), [], none⟩,
 ⟨none, (.op (.store 8)), [.tmp 10, .tmp 69], none⟩])
 (.seq
 (.seq
 (.reg 53248 none [
 ⟨some 70, (.op .mov), [.cst (.t (.int .i64 0))], none⟩])
 (.block 2
 (.loop (ac_digest_compress256_L1 n_bits_RotateLeft32 g_digest_round256))))
 (.seq
 (.reg 86016 none [
 ⟨some 152, (.op .mov), [.cst (.t (.int .i64 0))], none⟩])
 (.block 4
 (.loop ac_digest_compress256_L2)))))))
def hints_digest_compress256 : List (Nat × List Nat) := []
def ac_digest_compress1_L0 (n_digest_word n_bits_RotateLeft32 : Nat) : AC :=
 (.seq
 (.reg 12288 none [
 ⟨some 15, (.op (.bin .lss)), [.tmp 14, .cst (.t (.int .i64 80))], none⟩])
 (.seq
 (.cond (.tmp 15)
 .skip
 (.exit 0))
 (.seq
 (.block 1
 (.seq
 (.reg 16384 none [
 ⟨some 16, (.op .mov), [.tmp 14], none⟩,
 ⟨some 5, (.op .mov), [.tmp 16], none⟩])
 (.seq
 (.reg 20480 none [
 ⟨some 17, (.op .mov), [.tmp 5], none⟩,
 ⟨some 18, (.op (.bin .lss)), [.tmp 17, .cst (.t (.int .i64 16))], none⟩])
 (.cond (.tmp 18)
 (.reg 24576 none [
 ⟨some 19, (.op .mov), [.tmp 5], none⟩,
 ⟨some 20, (.op .mov), [.tmp 1], none⟩,
 ⟨some 21, (.op .mov), [.tmp 5], none⟩,
 ⟨some 22, (.call n_digest_word false), [.tmp 20, .tmp 21], none⟩,
 ⟨some 23, (.op (.aaddr 80 1)), [.tmp 4, .tmp 19], none⟩,
 ⟨none, (.op (.store 1)), [.tmp 23, .tmp 22], none⟩])
 (.reg 28672 (some [0, 0, 2, 6, 14, 0, 32, 96, 224, 510, 0, 1024, 3072, 7168, 16382, 0, 32768, 98304, 229376, 524286, 1048574, 2097151, 4194303]) [
 ⟨some 24, (.op .mov), [.tmp 5], none⟩,
 ⟨some 25, (.op .mov), [.tmp 5], none⟩,
 ⟨some 26, (.op (.bin .sub)), [.tmp 25, .cst (.t (.int .i64 3))], none⟩,
 ⟨some 27, (.op (.aaddr 80 1)), [.tmp 4, .tmp 26], none⟩,
 ⟨some 28, (.op (.load 1 false)), [.tmp 27], none⟩,
 ⟨some 29, (.op .mov), [.tmp 5], none⟩,
 ⟨some 30, (.op (.bin .sub)), [.tmp 29, .cst (.t (.int .i64 8))], none⟩,
 ⟨some 31, (.op (.aaddr 80 1)), [.tmp 4, .tmp 30], none⟩,
 ⟨some 32, (.op (.load 1 false)), [.tmp 31], none⟩,
 ⟨some 33, (.op (.bin .xor)), [.tmp 28, .tmp 32], none⟩,
 ⟨some 34, (.op .mov), [.tmp 5], none⟩,
 ⟨some 35, (.op (.bin .sub)), [.tmp 34, .cst (.t (.int .i64 14))], none⟩,
 ⟨some 36, (.op (.aaddr 80 1)), [.tmp 4, .tmp 35], none⟩,
 ⟨some 37, (.op (.load 1 false)), [.tmp 36], none⟩,
 ⟨some 38, (.op (.bin .xor)), [.tmp 33, .tmp 37], none⟩,
 ⟨some 39, (.op .mov), [.tmp 5], none⟩,
 ⟨some 40, (.op (.bin .sub)), [.tmp 39, .cst (.t (.int .i64 16))], none⟩,
 ⟨some 41, (.op (.aaddr 80 1)), [.tmp 4, .tmp 40], none⟩,
 ⟨some 42, (.op (.load 1 false)), [.tmp 41], none⟩,
 ⟨some 43, (.op (.bin .xor)), [.tmp 38, .tmp 42], none⟩,
 ⟨some 44, (.call n_bits_RotateLeft32 false), [.tmp 43, .cst (.t (.int .i64 1))], none⟩,
 ⟨some 45, (.op (.aaddr 80 1)), [.tmp 4, .tmp 24], none⟩,
 ⟨none, (.op (.store 1)), [.tmp 45, .tmp 44], none⟩])))))
 (.reg 32768 none [
 ⟨some 46, (.op (.bin .add)), [.tmp 14, .cst (.t (.int .i64 1))], none⟩,
 ⟨some 14, (.op .mov), [.tmp 46], none⟩]))))
def ac_digest_compress1_L1 (n_bits_RotateLeft32 : Nat) : AC :=
 (.seq
 (.reg 45056 none [
 ⟨some 68, (.op (.bin .lss)), [.tmp 67, .cst (.t (.int .i64 80))], none⟩])
 (.seq
 (.cond (.tmp 68)
 .skip
 (.exit 2))
 (.seq
 (.block 3
 (.seq
 (.reg 49152 none [
 ⟨some 69, (.op .mov), [.tmp 67], none⟩,
 ⟨some 11, (.op .mov), [.tmp 69], none⟩])
 (.seq
 (.reg 53248 none [
 ⟨some 12, (.op .mov), [.cst (.t (u32T 0))], none⟩,
 ⟨some 13, (.op .mov), [.cst (.t (u32T 0))], none⟩])
 (.seq
 (.seq
 (.reg 57344 none [
 ⟨some 70, (.op .mov), [.tmp 11], none⟩,
 ⟨some 71, (.op (.bin .quo)), [.tmp 70, .cst (.t (.int .i64 20))], none⟩])
 (.block 4
 (.seq
 (.reg 65536 none [
 ⟨some 78, (.op (.bin .eql)), [.tmp 71, .cst (.t (.int .i64 0))], none⟩,
 ⟨some 77, (.op .mov), [.tmp 78], none⟩])
 (.cond (.tmp 77)
 (.reg 69632 none [
 ⟨some 79, (.op .mov), [.tmp 7], none⟩,
 ⟨some 80, (.op .mov), [.tmp 8], none⟩,
 ⟨some 81, (.op (.bin .and)), [.tmp 79, .tmp 80], none⟩,
 ⟨some 82, (.op .mov), [.tmp 7], none⟩,
 ⟨some 83, (.op (.un .xor)), [.tmp 82], none⟩,
 ⟨some 84, (.op .mov), [.tmp 9], none⟩,
 ⟨some 85, (.op (.bin .and)), [.tmp 83, .tmp 84], none⟩,
 ⟨some 86, (.op (.bin .xor)), [.tmp 81, .tmp 85], none⟩,
 ⟨some 12, (.op .mov), [.tmp 86], none⟩,
 ⟨some 13, (.op .mov), [.cst (.t (u32T 1518500249))], none⟩])
 (.seq
 (.reg 73728 none [
 ⟨some 88, (.op (.bin .eql)), [.tmp 71, .cst (.t (.int .i64 1))], none⟩,
 ⟨some 87, (.op .mov), [.tmp 88], none⟩])
 (.cond (.tmp 87)
 (.reg 77824 none [
 ⟨some 89, (.op .mov), [.tmp 7], none⟩,
 ⟨some 90, (.op .mov), [.tmp 8], none⟩,
 ⟨some 91, (.op (.bin .xor)), [.tmp 89, .tmp 90], none⟩,
 ⟨some 92, (.op .mov), [.tmp 9], none⟩,
 ⟨some 93, (.op (.bin .xor)), [.tmp 91, .tmp 92], none⟩,
 ⟨some 12, (.op .mov), [.tmp 93], none⟩,
 ⟨some 13, (.op .mov), [.cst (.t (u32T 1859775393))], none⟩])
 (.seq
 (.reg 81920 none [
 ⟨some 95, (.op (.bin .eql)), [.tmp 71, .cst (.t (.int .i64 2))], none⟩,
 ⟨some 94, (.op .mov), [.tmp 95], none⟩])
 (.cond (.tmp 94)
 (.reg 86016 none [
 ⟨some 96, (.op .mov), [.tmp 7], none⟩,
 ⟨some 97, (.op .mov), [.tmp 8], none⟩,
 ⟨some 98, (.op (.bin .and)), [.tmp 96, .tmp 97], none⟩,
 ⟨some 99, (.op .mov), [.tmp 7], none⟩,
 ⟨some 100, (.op .mov), [.tmp 9], none⟩,
 ⟨some 101, (.op (.bin .and)), [.tmp 99, .tmp 100], none⟩,
 ⟨some 102, (.op (.bin .xor)), [.tmp 98, .tmp 101], none⟩,
 ⟨some 103, (.op .mov), [.tmp 8], none⟩,
 ⟨some 104, (.op .mov), [.tmp 9], none⟩,
 ⟨some 105, (.op (.bin .and)), [.tmp 103, .tmp 104], none⟩,
 ⟨some 106, (.op (.bin .xor)), [.tmp 102, .tmp 105], none⟩,
 ⟨some 12, (.op .mov), [.tmp 106], none⟩,
 ⟨some 13, (.op .mov), [.cst (.t (u32T 2400959708))], none⟩])
 (.reg 61440 none [
 ⟨some 72, (.op .mov), [.tmp 7], none⟩,
 ⟨some 73, (.op .mov), [.tmp 8], none⟩,
 ⟨some 74, (.op (.bin .xor)), [.tmp 72, .tmp 73], none⟩,
 ⟨some 75, (.op .mov), [.tmp 9], none⟩,
 ⟨some 76, (.op (.bin .xor)), [.tmp 74, .tmp 75], none⟩,
 ⟨some 12, (.op .mov), [.tmp 76], none⟩,
 ⟨some 13, (.op .mov), [.cst (.t (u32T 3395469782))], none⟩])))))))))
 (.reg 90112 (some [0, 1, 0, 7, 0, 31, 0, 127, 0, 256, 768, 2047, 0, 0, 8195, 0, 0, 131071, 262143, 524287, 1048575, 2097151]) [
 ⟨some 107, (.op .mov), [.tmp 6], none⟩,
 ⟨some 108, (.call n_bits_RotateLeft32 false), [.tmp 107, .cst (.t (.int .i64 5))], none⟩,
 ⟨some 109, (.op .mov), [.tmp 12], none⟩,
 ⟨some 110, (.op (.bin .add)), [.tmp 108, .tmp 109], none⟩,
 ⟨some 111, (.op .mov), [.tmp 10], none⟩,
 ⟨some 112, (.op (.bin .add)), [.tmp 110, .tmp 111], none⟩,
 ⟨some 113, (.op .mov), [.tmp 13], none⟩,
 ⟨some 114, (.op (.bin .add)), [.tmp 112, .tmp 113], none⟩,
 ⟨some 115, (.op .mov), [.tmp 11], none⟩,
 ⟨some 116, (.op (.aaddr 80 1)), [.tmp 4, .tmp 115], none⟩,
 ⟨some 117, (.op (.load 1 false)), [.tmp 116], none⟩,
 ⟨some 118, (.op (.bin .add)), [.tmp 114, .tmp 117], none⟩,
 ⟨some 119, (.op .mov), [.tmp 6], none⟩,
 ⟨some 120, (.op .mov), [.tmp 7], none⟩,
 ⟨some 121, (.call n_bits_RotateLeft32 false), [.tmp 120, .cst (.t (.int .i64 30))], none⟩,
 ⟨some 122, (.op .mov), [.tmp 8], none⟩,
 ⟨some 123, (.op .mov), [.tmp 9], none⟩,
 ⟨some 6, (.op .mov), [.tmp 118], none⟩,
 ⟨some 7, (.op .mov), [.tmp 119], none⟩,
 ⟨some 8, (.op .mov), [.tmp 121], none⟩,
 ⟨some 9, (.op .mov), [.tmp 122], none⟩,
 ⟨some 10, (.op .mov), [.tmp 123], none⟩])))))
 (.reg 94208 none [
 ⟨some 124, (.op (.bin .add)), [.tmp 67, .cst (.t (.int .i64 1))], none⟩,
 ⟨some 67, (.op .mov), [.tmp 124], none⟩]))))
def ac_digest_compress1 (n_digest_word n_bits_RotateLeft32 : Nat) : AC :=
 (.seq
 (.reg 4096 none [
 ⟨some 4, (.op (.new 1 (List.replicate 80 (.t (u32T 0))))), [], none⟩])
 (.seq
 (.seq
 (.reg 8192 none [
 ⟨some 14, (.op .mov), [.cst (.t (.int .i64 0))], none⟩])
 (.block 0
 (.loop (ac_digest_compress1_L0 n_digest_word n_bits_RotateLeft32))))
 (.seq
 (.reg 36864 (some [0, 1, 3, 7, 0, 16, 48, 112, 0, 256, 768, 1792, 0, 4096, 12288, 28672, 0, 65536, 196608, 458752, 15, 1048831, 3149823, 7405567, 16777215]) [
 ⟨some 47, (.op .mov), [.tmp 0], none⟩,
 ⟨some 48, (.op .nilchk), [.tmp 47], none⟩,
 ⟨some 49, (.op (.aaddr 5 1)), [.tmp 48, .cst (.t (.int .i64 0))], none⟩,
 ⟨some 50, (.op (.load 1 false)), [.tmp 49], none⟩,
 ⟨some 51, (.op .mov), [.tmp 0], none⟩,
 ⟨some 52, (.op .nilchk), [.tmp 51], none⟩,
 ⟨some 53, (.op (.aaddr 5 1)), [.tmp 52, .cst (.t (.int .i64 1))], none⟩,
 ⟨some 54, (.op (.load 1 false)), [.tmp 53], none⟩,
 ⟨some 55, (.op .mov), [.tmp 0], none⟩,
 ⟨some 56, (.op .nilchk), [.tmp 55], none⟩,
 ⟨some 57, (.op (.aaddr 5 1)), [.tmp 56, .cst (.t (.int .i64 2))], none⟩,
 ⟨some 58, (.op (.load 1 false)), [.tmp 57], none⟩,
 ⟨some 59, (.op .mov), [.tmp 0], none⟩,
 ⟨some 60, (.op .nilchk), [.tmp 59], none⟩,
 ⟨some 61, (.op (.aaddr 5 1)), [.tmp 60, .cst (.t (.int .i64 3))], none⟩,
 ⟨some 62, (.op (.load 1 false)), [.tmp 61], none⟩,
 ⟨some 63, (.op .mov), [.tmp 0], none⟩,
 ⟨some 64, (.op .nilchk), [.tmp 63], none⟩,
 ⟨some 65, (.op (.aaddr 5 1)), [.tmp 64, .cst (.t (.int .i64 4))], none⟩,
 ⟨some 66, (.op (.load 1 false)), [.tmp 65], none⟩,
 ⟨some 6, (.op .mov), [.tmp 50], none⟩,
 ⟨some 7, (.op .mov), [.tmp 54], none⟩,
 ⟨some 8, (.op .mov), [.tmp 58], none⟩,
 ⟨some 9, (.op .mov), [.tmp 62], none⟩,
 ⟨some 10, (.op .mov), [.tmp 66], none⟩])
 (.seq
 (.seq
 (.reg 40960 none [
 ⟨some 67, (.op .mov), [.cst (.t (.int .i64 0))], none⟩])
 (.block 2
 (.loop (ac_digest_compress1_L1 n_bits_RotateLeft32))))
 (.seq
 (.reg 98304 (some [0, 1, 3, 7, 0, 31, 1, 127, 255]) [
 ⟨some 125, (.op .mov), [.tmp 0], none⟩,
 ⟨some 126, (.op .nilchk), [.tmp 125], none⟩,
 ⟨some 127, (.op (.aaddr 5 1)), [.tmp 126, .cst (.t (.int .i64 0))], none⟩,
 ⟨some 128, (.op (.load 1 false)), [.tmp 127], none⟩,
 ⟨some 129, (.op .mov), [.tmp 6], none⟩,
 ⟨some 130, (.op (.bin .add)), [.tmp 128, .tmp 129], none⟩,
 ⟨some 131, (.op .nilchk), [.tmp 125], none⟩,
 ⟨some 132, (.op (.aaddr 5 1)), [.tmp 131, .cst (.t (.int .i64 0))], none⟩,
 ⟨none, (.op (.store 1)), [.tmp 132, .tmp 130], none⟩])
 (.seq
 (.reg 102400 (some [0, 1, 3, 7, 0, 31, 1, 127, 255]) [
 ⟨some 133, (.op .mov), [.tmp 0], none⟩,
 ⟨some 134, (.op .nilchk), [.tmp 133], none⟩,
 ⟨some 135, (.op (.aaddr 5 1)), [.tmp 134, .cst (.t (.int .i64 1))], none⟩,
 ⟨some 136, (.op (.load 1 false)), [.tmp 135], none⟩,
 ⟨some 137, (.op .mov), [.tmp 7], none⟩,
 ⟨some 138, (.op (.bin .add)), [.tmp 136, .tmp 137], none⟩,
 ⟨some 139, (.op .nilchk), [.tmp 133], none⟩,
 ⟨some 140, (.op (.aaddr 5 1)), [.tmp 139, .cst (.t (.int .i64 1))], none⟩,
 ⟨none, (.op (.store 1)), [.tmp 140, .tmp 138], none⟩])
 (.seq
 (.reg 106496 (some [0, 1, 3, 7, 0, 31, 1, 127, 255]) [
 ⟨some 141, (.op .mov), [.tmp 0], none⟩,
 ⟨some 142, (.op .nilchk), [.tmp 141], none⟩,
 ⟨some 143, (.op (.aaddr 5 1)), [.tmp 142, .cst (.t (.int .i64 2))], none⟩,
 ⟨some 144, (.op (.load 1 false)), [.tmp 143], none⟩,
 ⟨some 145, (.op .mov), [.tmp 8], none⟩,
 ⟨some 146, (.op (.bin .add)), [.tmp 144, .tmp 145], none⟩,
 ⟨some 147, (.op .nilchk), [.tmp 141], none⟩,
 ⟨some 148, (.op (.aaddr 5 1)), [.tmp 147, .cst (.t (.int .i64 2))], none⟩,
 ⟨none, (.op (.store 1)), [.tmp 148, .tmp 146], none⟩])
 (.seq
 (.reg 110592 (some [0, 1, 3, 7, 0, 31, 1, 127, 255]) [
 ⟨some 149, (.op .mov), [.tmp 0], none⟩,
 ⟨some 150, (.op .nilchk), [.tmp 149], none⟩,
 ⟨some 151, (.op (.aaddr 5 1)), [.tmp 150, .cst (.t (.int .i64 3))], none⟩,
 ⟨some 152, (.op (.load 1 false)), [.tmp 151], none⟩,
 ⟨some 153, (.op .mov), [.tmp 9], none⟩,
 ⟨some 154, (.op (.bin .add)), [.tmp 152, .tmp 153], none⟩,
 ⟨some 155, (.op .nilchk), [.tmp 149], none⟩,
 ⟨some 156, (.op (.aaddr 5 1)), [.tmp 155, .cst (.t (.int .i64 3))], none⟩,
 ⟨none, (.op (.store 1)), [.tmp 156, .tmp 154], none⟩])
 (.reg 114688 (some [0, 1, 3, 7, 0, 31, 1, 127, 255]) [
 ⟨some 157, (.op .mov), [.tmp 0], none⟩,
 ⟨some 158, (.op .nilchk), [.tmp 157], none⟩,
 ⟨some 159, (.op (.aaddr 5 1)), [.tmp 158, .cst (.t (.int .i64 4))], none⟩,
 ⟨some 160, (.op (.load 1 false)), [.tmp 159], none⟩,
 ⟨some 161, (.op .mov), [.tmp 10], none⟩,
 ⟨some 162, (.op (.bin .add)), [.tmp 160, .tmp 161], none⟩,
 ⟨some 163, (.op .nilchk), [.tmp 157], none⟩,
 ⟨some 164, (.op (.aaddr 5 1)), [.tmp 163, .cst (.t (.int .i64 4))], none⟩,
 ⟨none, (.op (.store 1)), [.tmp 164, .tmp 162], none⟩])))))))))
def hints_digest_compress1 : List (Nat × List Nat) := []
def ac_digest_Sum_L0 (n_digest_compress1 : Nat) : AC :=
 (.seq
 (.seq
 (.reg 24576 none [
 ⟨some 15, (.op .mov), [.tmp 6], none⟩,
 ⟨some 16, (.op .len), [.tmp 15], none⟩,
 ⟨some 17, (.op (.bin .gtr)), [.tmp 16, .cst (.t (.int .i64 0))], none⟩])
 (.cond (.tmp 17)
 .skip
 (.exit 1)))
 (.seq
 (.block 2
 (.reg 32768 none [
 ⟨some 20, (.op .mov), [.tmp 6], none⟩,
 ⟨some 21, (.op (.slice 1 false true false)), [.tmp 20, .cst (.t (.int .i64 64))], none⟩,
 ⟨some 22, (.call n_digest_compress1 false), [.tmp 5, .tmp 21], none⟩]))
 (.reg 28672 none [
 ⟨some 18, (.op .mov), [.tmp 6], none⟩,
 ⟨some 19, (.op (.slice 1 true false false)), [.tmp 18, .cst (.t (.int .i64 64))], none⟩,
 ⟨some 6, (.op .mov), [.tmp 19], none⟩])))
def ac_digest_Sum_L1 (n_digest_compress256 : Nat) : AC :=
 (.seq
 (.seq
 (.reg 53248 none [
 ⟨some 30, (.op .mov), [.tmp 8], none⟩,
 ⟨some 31, (.op .len), [.tmp 30], none⟩,
 ⟨some 32, (.op (.bin .gtr)), [.tmp 31, .cst (.t (.int .i64 0))], none⟩])
 (.cond (.tmp 32)
 .skip
 (.exit 3)))
 (.seq
 (.block 4
 (.reg 61440 none [
 ⟨some 35, (.op .mov), [.tmp 8], none⟩,
 ⟨some 36, (.op (.slice 1 false true false)), [.tmp 35, .cst (.t (.int .i64 64))], none⟩,
 ⟨some 37, (.call n_digest_compress256 false), [.tmp 7, .tmp 36], none⟩]))
 (.reg 57344 none [
 ⟨some 33, (.op .mov), [.tmp 8], none⟩,
 ⟨some 34, (.op (.slice 1 true false false)), [.tmp 33, .cst (.t (.int .i64 64))], none⟩,
 ⟨some 8, (.op .mov), [.tmp 34], none⟩])))
def ac_digest_Sum (n_digest_pad n_digest_compress1 n_digest_spread n_digest_compress256 : Nat) : AC :=
 (.seq
 (.reg 4096 none [
 ⟨some 4, (.op .mov), [.cst .nil], none⟩])
 (.seq
 (.seq
 (.reg 8192 none [
 ⟨some 9, (.op .mov), [.tmp 0], none⟩])
 (.block 0
 (.seq
 (.reg 12288 none [
 ⟨some 11, (.op (.bin .eql)), [.tmp 9, .cst (.t (.int .i64 0))], none⟩,
 ⟨some 10, (.op .mov), [.tmp 11], none⟩])
 (.cond (.tmp 10)
 (.seq
 (.reg 16384 none [
 ⟨some 12, (.op (.build [(.t (u32T 0)), (.t (u32T 0)), (.t (u32T 0)), (.t (u32T 0)), (.t (u32T 0))] [(0, 1), (1, 1), (2, 1), (3, 1), (4, 1)])), [.cst (.t (u32T 1732584193)), .cst (.t (u32T 4023233417)), .cst (.t (u32T 2562383102)), .cst (.t (u32T 271733878)), .cst (.t (u32T 3285377520))], none⟩,
 ⟨some 5, (.op (.new 1 [(.t (u32T 0)), (.t (u32T 0)), (.t (u32T 0)), (.t (u32T 0)), (.t (u32T 0))])), [], none⟩,
 ⟨none, (.op (.store 5)), [.tmp 5, .tmp 12], none⟩])
 (.seq
 (.seq
 (.reg 20480 none [
 ⟨some 13, (.op .mov), [.tmp 1], none⟩,
 ⟨some 14, (.call n_digest_pad false), [.tmp 13], none⟩,
 ⟨some 6, (.op .mov), [.tmp 14], none⟩])
 (.block 1
 (.loop (ac_digest_Sum_L0 n_digest_compress1))))
 (.seq
 (.reg 36864 none [
 ⟨some 23, (.op (.aslice 5 1 false false false)), [.tmp 5], none⟩,
 ⟨some 24, (.call n_digest_spread false), [.tmp 23], none⟩,
 ⟨some 4, (.op .mov), [.tmp 24], none⟩])
 .ret)))
 (.seq
 (.reg 40960 none [
 ⟨some 26, (.op (.bin .eql)), [.tmp 9, .cst (.t (.int .i64 1))], none⟩,
 ⟨some 25, (.op .mov), [.tmp 26], none⟩])
 (.cond (.tmp 25)
 (.seq
 (.reg 45056 none [
 ⟨some 27, (.op (.build [(.t (u32T 0)), (.t (u32T 0)), (.t (u32T 0)), (.t (u32T 0)), (.t (u32T 0)), (.t (u32T 0)), (.t (u32T 0)), (.t (u32T 0))] [(0, 1), (1, 1), (2, 1), (3, 1), (4, 1), (5, 1), (6, 1), (7, 1)])), [.cst (.t (u32T 1779033703)), .cst (.t (u32T 3144134277)), .cst (.t (u32T 1013904242)), .cst (.t (u32T 2773480762)), .cst (.t (u32T 1359893119)), .cst (.t (u32T 2600822924)), .cst (.t (u32T 528734635)), .cst (.t (u32T 1541459225))], none⟩,
 ⟨some 7, (.op (.new 1 [(.t (u32T 0)), (.t (u32T 0)), (.t (u32T 0)), (.t (u32T 0)), (.t (u32T 0)), (.t (u32T 0)), (.t (u32T 0)), (.t (u32T 0))])), [], none⟩,
 ⟨none, (.op (.store 8)), [.tmp 7, .tmp 27], none⟩])
 (.seq
 (.seq
 (.reg 49152 none [
 ⟨some 28, (.op .mov), [.tmp 1], none⟩,
 ⟨some 29, (.call n_digest_pad false), [.tmp 28], none⟩,
 ⟨some 8, (.op .mov), [.tmp 29], none⟩])
 (.block 3
 (.loop (ac_digest_Sum_L1 n_digest_compress256))))
 (.seq
 (.reg 65536 none [
 ⟨some 38, (.op (.aslice 8 1 false false false)), [.tmp 7], none⟩,
 ⟨some 39, (.call n_digest_spread false), [.tmp 38], none⟩,
 ⟨some 4, (.op .mov), [.tmp 39], none⟩])
 .ret)))
 .skip))))))
 (.seq
 (.reg 69632 none [
 ⟨some 4, (.op .mov), [.cst .nil], none⟩])
 .ret)))
def hints_digest_Sum : List (Nat × List Nat) := []
def ac_digest_Frame_L0 : AC :=
 (.seq
 (.reg 16384 none [
 ⟨some 15, (.op (.bin .lss)), [.tmp 14, .tmp 13], none⟩])
 (.seq
 (.cond (.tmp 15)
 .skip
 (.exit 0))
 (.seq
 (.block 1
 (.seq
 (.reg 20480 none [
 ⟨some 16, (.op (.iaddr 1)), [.tmp 12, .tmp 14], none⟩,
 ⟨some 17, (.op (.load 1 false)), [.tmp 16], none⟩,
 ⟨some 7, (.op .mov), [.tmp 17], none⟩])
 (.seq
 (.reg 24576 none [
 ⟨some 18, (.op .mov), [.tmp 7], none⟩,
 ⟨some 19, (.op .len), [.tmp 18], none⟩,
 ⟨some 20, (.op (.conv .u32)), [.tmp 19], none⟩,
 ⟨some 8, (.op .mov), [.tmp 20], none⟩])
 (.seq
 (.reg 28672 none [
 ⟨some 21, (.op .mov), [.tmp 5], none⟩,
 ⟨some 22, (.op .mov), [.tmp 8], none⟩,
 ⟨some 23, (.op (.bin .shr)), [.tmp 22, .cst (.t (.int .u64 24))], none⟩,
 ⟨some 24, (.op (.conv .u8)), [.tmp 23], none⟩,
 ⟨some 25, (.op .mov), [.tmp 8], none⟩,
 ⟨some 26, (.op (.bin .shr)), [.tmp 25, .cst (.t (.int .u64 16))], none⟩,
 ⟨some 27, (.op (.conv .u8)), [.tmp 26], none⟩,
 ⟨some 28, (.op .mov), [.tmp 8], none⟩,
 ⟨some 29, (.op (.bin .shr)), [.tmp 28, .cst (.t (.int .u64 8))], none⟩,
 ⟨some 30, (.op (.conv .u8)), [.tmp 29], none⟩,
 ⟨some 31, (.op .mov), [.tmp 8], none⟩,
 ⟨some 32, (.op (.conv .u8)), [.tmp 31], none⟩,
 ⟨some 33, (.op (.bslice 1 4 (.t (byteT 0)) [0, 1, 2, 3])), [.tmp 24, .tmp 27, .tmp 30, .tmp 32], none⟩,
 ⟨some 34, (.op (.append 1 1)), [.tmp 21, .tmp 33], none⟩,
 ⟨some 5, (.op .mov), [.tmp 34], none⟩])
 (.reg 32768 none [
 ⟨some 35, (.op .mov), [.tmp 5], none⟩,
 ⟨some 36, (.op .mov), [.tmp 7], none⟩,
 ⟨some 37, (.op (.append 1 1)), [.tmp 35, .tmp 36], none⟩,
 ⟨some 5, (.op .mov), [.tmp 37], none⟩])))))
 (.reg 36864 none [
 ⟨some 38, (.op (.bin .add)), [.tmp 14, .cst (.t (.int .i64 1))], none⟩,
 ⟨some 14, (.op .mov), [.tmp 38], none⟩]))))
def ac_digest_Frame : AC :=
 (.seq
 (.reg 4096 none [
 ⟨some 4, (.op .mov), [.cst .nil], none⟩])
 (.seq
 (.reg 8192 none [
 ⟨some 9, (.op .mov), [.tmp 0], none⟩,
 ⟨some 10, (.op (.conv .u8)), [.tmp 9], none⟩,
 ⟨some 11, (.op (.bslice 1 1 (.t (byteT 0)) [0])), [.tmp 10], none⟩,
 ⟨some 5, (.op .mov), [.tmp 11], none⟩])
 (.seq
 (.seq
 (.reg 12288 none [
 ⟨some 12, (.op .mov), [.tmp 1], none⟩,
 ⟨some 13, (.op .len), [.tmp 12], none⟩,
 ⟨some 14, (.op .mov), [.cst (.t (.int .i64 0))], none⟩])
 (.block 0
 (.loop ac_digest_Frame_L0)))
 (.seq
 (.reg 40960 none [
 ⟨some 39, (.op .mov), [.tmp 5], none⟩,
 ⟨some 4, (.op .mov), [.tmp 39], none⟩])
 .ret))))
def hints_digest_Frame : List (Nat × List Nat) := []
def ac_digest_Hash (n_digest_Frame n_digest_Sum : Nat) : AC :=
 (.seq
 (.reg 4096 none [
 ⟨some 4, (.op .mov), [.cst .nil], none⟩])
 (.seq
 (.reg 8192 none [
 ⟨some 5, (.op .mov), [.tmp 0], none⟩,
 ⟨some 6, (.op .mov), [.tmp 1], none⟩,
 ⟨some 7, (.call n_digest_Frame false), [.tmp 5, .tmp 6], none⟩,
 ⟨some 8, (.call n_digest_Sum false), [.cst (.t (.int .i64 1)), .tmp 7], none⟩,
 ⟨some 4, (.op .mov), [.tmp 8], none⟩])
 .ret))
def hints_digest_Hash : List (Nat × List Nat) := []
def ac_bits_RotateLeft32 : AC :=
 (.seq
 (.reg 4096 none [
 ⟨some 4, (.op .mov), [.cst (.t (u32T 0))], none⟩])
 (.seq
 (.reg 8192 none [
 ⟨some 6, (.op .mov), [.tmp 1], none⟩,
 ⟨some 7, (.op (.conv .u64)), [.tmp 6], none⟩,
 ⟨some 8, (.op (.bin .and)), [.tmp 7, .cst (.t (.int .u64 31))], none⟩,
 ⟨some 5, (.op .mov), [.tmp 8], none⟩])
 (.seq
 (.reg 12288 none [
 ⟨some 9, (.op .mov), [.tmp 0], none⟩,
 ⟨some 10, (.op .mov), [.tmp 5], none⟩,
 ⟨some 11, (.op (.bin .shl)), [.tmp 9, .tmp 10], none⟩,
 ⟨some 12, (.op .mov), [.tmp 0], none⟩,
 ⟨some 13, (.op .mov), [.tmp 5], none⟩,
 ⟨some 14, (.op (.bin .sub)), [.cst (.t (.int .u64 32)), .tmp 13], none⟩,
 ⟨some 15, (.op (.bin .shr)), [.tmp 12, .tmp 14], none⟩,
 ⟨some 16, (.op (.bin .or)), [.tmp 11, .tmp 15], none⟩,
 ⟨some 4, (.op .mov), [.tmp 16], none⟩])
 .ret)))
def hints_bits_RotateLeft32 : List (Nat × List Nat) := []
def ac_ref1_rotr : AC :=
 (.seq
 (.reg 4096 none [
 ⟨some 4, (.op .mov), [.cst (.t (u32T 0))], none⟩])
 (.seq
 (.reg 8192 none [
 ⟨some 5, (.op .mov), [.tmp 0], none⟩,
 ⟨some 6, (.op .mov), [.tmp 1], none⟩,
 ⟨some 7, (.op (.bin .shr)), [.tmp 5, .tmp 6], none⟩,
 ⟨some 8, (.op .mov), [.tmp 0], none⟩,
 ⟨some 9, (.op .mov), [.tmp 1], none⟩,
 ⟨some 10, (.op (.bin .sub)), [.cst (.t (.int .u64 32)), .tmp 9], none⟩,
 ⟨some 11, (.op (.bin .shl)), [.tmp 8, .tmp 10], none⟩,
 ⟨some 12, (.op (.bin .or)), [.tmp 7, .tmp 11], none⟩,
 ⟨some 4, (.op .mov), [.tmp 12], none⟩])
 .ret))
def hints_ref1_rotr : List (Nat × List Nat) := []
def ac_ref1_rotl : AC :=
 (.seq
 (.reg 4096 none [
 ⟨some 4, (.op .mov), [.cst (.t (u32T 0))], none⟩])
 (.seq
 (.reg 8192 none [
 ⟨some 5, (.op .mov), [.tmp 0], none⟩,
 ⟨some 6, (.op .mov), [.tmp 1], none⟩,
 ⟨some 7, (.op (.bin .shl)), [.tmp 5, .tmp 6], none⟩,
 ⟨some 8, (.op .mov), [.tmp 0], none⟩,
 ⟨some 9, (.op .mov), [.tmp 1], none⟩,
 ⟨some 10, (.op (.bin .sub)), [.cst (.t (.int .u64 32)), .tmp 9], none⟩,
 ⟨some 11, (.op (.bin .shr)), [.tmp 8, .tmp 10], none⟩,
 ⟨some 12, (.op (.bin .or)), [.tmp 7, .tmp 11], none⟩,
 ⟨some 4, (.op .mov), [.tmp 12], none⟩])
 .ret))
def hints_ref1_rotl : List (Nat × List Nat) := []
def ac_ref1_constants : AC :=
 (.seq
 (.reg 4096 none [
 ⟨some 0, (.op (.new 1 (List.replicate 64 (.t (u32T 0))))), [], none⟩])
 (.seq
 (.reg 8192 none [
 ⟨some 1, (.op (.build (List.replicate 64 (.t (u32T 0))) [(0, 1), (1, 1), (2, 1), (3, 1), (4, 1), (5, 1), (6, 1), (7, 1), (8, 1), (9, 1), (10, 1), (11, 1), (12, 1), (13, 1), (14, 1), (15, 1), (16, 1), (17, 1), (18, 1), (19, 1), (20, 1), (21, 1), (22, 1), (23, 1), (24, 1), (25, 1), (26, 1), (27, 1), (28, 1), (29, 1), (30, 1), (31, 1), (32, 1), (33, 1), (34, 1), (35, 1), (36, 1), (37, 1), (38, 1), (39, 1), (40, 1), (41, 1), (42, 1), (43, 1), (44, 1), (45, 1), (46, 1), (47, 1), (48, 1), (49, 1), (50, 1), (51, 1), (52, 1), (53, 1), (54, 1), (55, 1), (56, 1), (57, 1), (58, 1), (59, 1), (60, 1), (61, 1), (62, 1), (63, 1)])), [.cst (.t (u32T 1116352408)), .cst (.t (u32T 1899447441)), .cst (.t (u32T 3049323471)), .cst (.t (u32T 3921009573)), .cst (.t (u32T 961987163)), .cst (.t (u32T 1508970993)), .cst (.t (u32T 2453635748)), .cst (.t (u32T 2870763221)), .cst (.t (u32T 3624381080)), .cst (.t (u32T 310598401)), .cst (.t (u32T 607225278)), .cst (.t (u32T 1426881987)), .cst (.t (u32T 1925078388)), .cst (.t (u32T 2162078206)), .cst (.t (u32T 2614888103)), .cst (.t (u32T 3248222580)), .cst (.t (u32T 3835390401)), .cst (.t (u32T 4022224774)), .cst (.t (u32T 264347078)), .cst (.t (u32T 604807628)), .cst (.t (u32T 770255983)), .cst (.t (u32T 1249150122)), .cst (.t (u32T 1555081692)), .cst (.t (u32T 1996064986)), .cst (.t (u32T 2554220882)), .cst (.t (u32T 2821834349)), .cst (.t (u32T 2952996808)), .cst (.t (u32T 3210313671)), .cst (.t (u32T 3336571891)), .cst (.t (u32T 3584528711)), .cst (.t (u32T 113926993)), .cst (.t (u32T 338241895)), .cst (.t (u32T 666307205)), .cst (.t (u32T 773529912)), .cst (.t (u32T 1294757372)), .cst (.t (u32T 1396182291)), .cst (.t (u32T 1695183700)), .cst (.t (u32T 1986661051)), .cst (.t (u32T 2177026350)), .cst (.t (u32T 2456956037)), .cst (.t (u32T 2730485921)), .cst (.t (u32T 2820302411)), .cst (.t (u32T 3259730800)), .cst (.t (u32T 3345764771)), .cst (.t (u32T 3516065817)), .cst (.t (u32T 3600352804)), .cst (.t (u32T 4094571909)), .cst (.t (u32T 275423344)), .cst (.t (u32T 430227734)), .cst (.t (u32T 506948616)), .cst (.t (u32T 659060556)), .cst (.t (u32T 883997877)), .cst (.t (u32T 958139571)), .cst (.t (u32T 1322822218)), .cst (.t (u32T 1537002063)), .cst (.t (u32T 1747873779)), .cst (.t (u32T 1955562222)), .cst (.t (u32T 2024104815)), .cst (.t (u32T 2227730452)), .cst (.t (u32T 2361852424)), .cst (.t (u32T 2428436474)), .cst (.t (u32T 2756734187)), .cst (.t (u32T 3204031479)), .cst (.t (u32T 3329325298))], none⟩,
 ⟨none, (.op (.store 64)), [.tmp 0, .tmp 1], none⟩])
 .ret))
def hints_ref1_constants : List (Nat × List Nat) := []
def ac_ref1_pad_L0 : AC :=
 (.seq
 (.seq
 (.reg 12288 none [
 ⟨some 11, (.op .mov), [.tmp 3], none⟩,
 ⟨some 12, (.op .len), [.tmp 11], none⟩,
 ⟨some 13, (.op (.bin .rem)), [.tmp 12, .cst (.t (.int .i64 64))], none⟩,
 ⟨some 14, (.op (.bin .neq)), [.tmp 13, .cst (.t (.int .i64 56))], none⟩])
 (.cond (.tmp 14)
 .skip
 (.exit 0)))
 (.block 1
 (.reg 16384 none [
 ⟨some 15, (.op .mov), [.tmp 3], none⟩,
 ⟨some 16, (.op (.bslice 1 1 (.t (byteT 0)) [0])), [.cst (.t (byteT 0))], none⟩,
 ⟨some 17, (.op (.append 1 1)), [.tmp 15, .tmp 16], none⟩,
 ⟨some 3, (.op .mov), [.tmp 17], none⟩])))
def ac_ref1_pad_L1 : AC :=
 (.seq
 (.seq
 (.reg 28672 none [
 ⟨some 22, (.op .mov), [.tmp 5], none⟩,
 ⟨some 23, (.op (.bin .geq)), [.tmp 22, .cst (.t (.int .i64 0))], none⟩])
 (.cond (.tmp 23)
 .skip
 (.exit 2)))
 (.seq
 (.block 3
 (.reg 36864 none [
 ⟨some 26, (.op .mov), [.tmp 3], none⟩,
 ⟨some 27, (.op .mov), [.tmp 4], none⟩,
 ⟨some 28, (.op .mov), [.tmp 5], none⟩,
 ⟨some 29, (.op (.conv .u64)), [.tmp 28], none⟩,
 ⟨some 30, (.op (.bin .mul)), [.cst (.t (.int .u64 8)), .tmp 29], none⟩,
 ⟨some 31, (.op (.bin .shr)), [.tmp 27, .tmp 30], none⟩,
 ⟨some 32, (.op (.conv .u8)), [.tmp 31], none⟩,
 ⟨some 33, (.op (.bslice 1 1 (.t (byteT 0)) [0])), [.tmp 32], none⟩,
 ⟨some 34, (.op (.append 1 1)), [.tmp 26, .tmp 33], none⟩,
 ⟨some 3, (.op .mov), [.tmp 34], none⟩]))
 (.reg 32768 none [
 ⟨some 24, (.op .mov), [.tmp 5], none⟩,
 ⟨some 25, (.op (.bin .sub)), [.tmp 24, .cst (.t (.int .i64 1))], none⟩,
 ⟨some 5, (.op .mov), [.tmp 25], none⟩])))
def ac_ref1_pad : AC :=
 (.seq
 (.reg 4096 none [
 ⟨some 2, (.op .mov), [.cst .nil], none⟩])
 (.seq
 (.reg 8192 none [
 ⟨some 6, (.op (.bslice 1 0 (.t (byteT 0)) [])), [], none⟩,
 ⟨some 7, (.op .mov), [.tmp 0], none⟩,
 ⟨some 8, (.op (.append 1 1)), [.tmp 6, .tmp 7], none⟩,
 ⟨some 9, (.op (.bslice 1 1 (.t (byteT 0)) [0])), [.cst (.t (byteT 128))], none⟩,
 ⟨some 10, (.op (.append 1 1)), [.tmp 8, .tmp 9], none⟩,
 ⟨some 3, (.op .mov), [.tmp 10], none⟩])
 (.seq
 (.block 0
 (.loop ac_ref1_pad_L0))
 (.seq
 (.reg 20480 none [
 ⟨some 18, (.op .mov), [.tmp 0], none⟩,
 ⟨some 19, (.op .len), [.tmp 18], none⟩,
 ⟨some 20, (.op (.conv .u64)), [.tmp 19], none⟩,
 ⟨some 21, (.op (.bin .mul)), [.tmp 20, .cst (.t (.int .u64 8))], none⟩,
 ⟨some 4, (.op .mov), [.tmp 21], none⟩])
 (.seq
 (.seq
 (.reg 24576 none [
 ⟨some 5, (.op .mov), [.cst (.t (.int .i64 7))], none⟩])
 (.block 2
 (.loop ac_ref1_pad_L1)))
 (.seq
 (.reg 40960 none [
 ⟨some 35, (.op .mov), [.tmp 3], none⟩,
 ⟨some 2, (.op .mov), [.tmp 35], none⟩])
 .ret))))))
def hints_ref1_pad : List (Nat × List Nat) := []
def ac_ref1_word : AC :=
 (.seq
 (.reg 4096 none [
 ⟨some 4, (.op .mov), [.cst (.t (u32T 0))], none⟩])
 (.seq
 (.reg 8192 (some [0, 0, 2, 7, 15, 31, 63, 0, 0, 256, 768, 1920, 3968, 8064, 16256, 32767, 0, 0, 131072, 393216, 983040, 2031616, 4128768, 8323072, 16777215, 0, 0, 67108864, 201326592, 503316480, 1040187392, 2113929216, 4294967295, 8589934591]) [
 ⟨some 5, (.op .mov), [.tmp 0], none⟩,
 ⟨some 6, (.op .mov), [.tmp 1], none⟩,
 ⟨some 7, (.op (.bin .mul)), [.cst (.t (.int .i64 4)), .tmp 6], none⟩,
 ⟨some 8, (.op (.iaddr 1)), [.tmp 5, .tmp 7], none⟩,
 ⟨some 9, (.op (.load 1 false)), [.tmp 8], none⟩,
 ⟨some 10, (.op (.conv .u32)), [.tmp 9], none⟩,
 ⟨some 11, (.op (.bin .shl)), [.tmp 10, .cst (.t (.int .u64 24))], none⟩,
 ⟨some 12, (.op .mov), [.tmp 0], none⟩,
 ⟨some 13, (.op .mov), [.tmp 1], none⟩,
 ⟨some 14, (.op (.bin .mul)), [.cst (.t (.int .i64 4)), .tmp 13], none⟩,
 ⟨some 15, (.op (.bin .add)), [.tmp 14, .cst (.t (.int .i64 1))], none⟩,
 ⟨some 16, (.op (.iaddr 1)), [.tmp 12, .tmp 15], none⟩,
 ⟨some 17, (.op (.load 1 false)), [.tmp 16], none⟩,
 ⟨some 18, (.op (.conv .u32)), [.tmp 17], none⟩,
 ⟨some 19, (.op (.bin .shl)), [.tmp 18, .cst (.t (.int .u64 16))], none⟩,
 ⟨some 20, (.op (.bin .or)), [.tmp 11, .tmp 19], none⟩,
 ⟨some 21, (.op .mov), [.tmp 0], none⟩,
 ⟨some 22, (.op .mov), [.tmp 1], none⟩,
 ⟨some 23, (.op (.bin .mul)), [.cst (.t (.int .i64 4)), .tmp 22], none⟩,
 ⟨some 24, (.op (.bin .add)), [.tmp 23, .cst (.t (.int .i64 2))], none⟩,
 ⟨some 25, (.op (.iaddr 1)), [.tmp 21, .tmp 24], none⟩,
 ⟨some 26, (.op (.load 1 false)), [.tmp 25], none⟩,
 ⟨some 27, (.op (.conv .u32)), [.tmp 26], none⟩,
 ⟨some 28, (.op (.bin .shl)), [.tmp 27, .cst (.t (.int .u64 8))], none⟩,
 ⟨some 29, (.op (.bin .or)), [.tmp 20, .tmp 28], none⟩,
 ⟨some 30, (.op .mov), [.tmp 0], none⟩,
 ⟨some 31, (.op .mov), [.tmp 1], none⟩,
 ⟨some 32, (.op (.bin .mul)), [.cst (.t (.int .i64 4)), .tmp 31], none⟩,
 ⟨some 33, (.op (.bin .add)), [.tmp 32, .cst (.t (.int .i64 3))], none⟩,
 ⟨some 34, (.op (.iaddr 1)), [.tmp 30, .tmp 33], none⟩,
 ⟨some 35, (.op (.load 1 false)), [.tmp 34], none⟩,
 ⟨some 36, (.op (.conv .u32)), [.tmp 35], none⟩,
 ⟨some 37, (.op (.bin .or)), [.tmp 29, .tmp 36], none⟩,
 ⟨some 4, (.op .mov), [.tmp 37], none⟩])
 .ret))
def hints_ref1_word : List (Nat × List Nat) := []
def ac_ref1_bytes_L0 : AC :=
 (.seq
 (.seq
 (.reg 16384 none [
 ⟨some 5, (.op .mov), [.tmp 4], none⟩,
 ⟨some 6, (.op .mov), [.tmp 0], none⟩,
 ⟨some 7, (.op .len), [.tmp 6], none⟩,
 ⟨some 8, (.op (.bin .lss)), [.tmp 5, .tmp 7], none⟩])
 (.cond (.tmp 8)
 .skip
 (.exit 0)))
 (.seq
 (.block 1
 (.reg 24576 (some [0, 0, 0, 6, 14, 30, 62, 0, 0, 384, 896, 1920, 3968, 0, 0, 24576, 57344, 122880, 253952, 0, 0, 1572864, 3670016, 7864320, 16777214, 33554431, 67108863]) [
 ⟨some 11, (.op .mov), [.tmp 3], none⟩,
 ⟨some 12, (.op .mov), [.tmp 0], none⟩,
 ⟨some 13, (.op .mov), [.tmp 4], none⟩,
 ⟨some 14, (.op (.iaddr 1)), [.tmp 12, .tmp 13], none⟩,
 ⟨some 15, (.op (.load 1 false)), [.tmp 14], none⟩,
 ⟨some 16, (.op (.bin .shr)), [.tmp 15, .cst (.t (.int .u64 24))], none⟩,
 ⟨some 17, (.op (.conv .u8)), [.tmp 16], none⟩,
 ⟨some 18, (.op .mov), [.tmp 0], none⟩,
 ⟨some 19, (.op .mov), [.tmp 4], none⟩,
 ⟨some 20, (.op (.iaddr 1)), [.tmp 18, .tmp 19], none⟩,
 ⟨some 21, (.op (.load 1 false)), [.tmp 20], none⟩,
 ⟨some 22, (.op (.bin .shr)), [.tmp 21, .cst (.t (.int .u64 16))], none⟩,
 ⟨some 23, (.op (.conv .u8)), [.tmp 22], none⟩,
 ⟨some 24, (.op .mov), [.tmp 0], none⟩,
 ⟨some 25, (.op .mov), [.tmp 4], none⟩,
 ⟨some 26, (.op (.iaddr 1)), [.tmp 24, .tmp 25], none⟩,
 ⟨some 27, (.op (.load 1 false)), [.tmp 26], none⟩,
 ⟨some 28, (.op (.bin .shr)), [.tmp 27, .cst (.t (.int .u64 8))], none⟩,
 ⟨some 29, (.op (.conv .u8)), [.tmp 28], none⟩,
 ⟨some 30, (.op .mov), [.tmp 0], none⟩,
 ⟨some 31, (.op .mov), [.tmp 4], none⟩,
 ⟨some 32, (.op (.iaddr 1)), [.tmp 30, .tmp 31], none⟩,
 ⟨some 33, (.op (.load 1 false)), [.tmp 32], none⟩,
 ⟨some 34, (.op (.conv .u8)), [.tmp 33], none⟩,
 ⟨some 35, (.op (.bslice 1 4 (.t (byteT 0)) [0, 1, 2, 3])), [.tmp 17, .tmp 23, .tmp 29, .tmp 34], none⟩,
 ⟨some 36, (.op (.append 1 1)), [.tmp 11, .tmp 35], none⟩,
 ⟨some 3, (.op .mov), [.tmp 36], none⟩]))
 (.reg 20480 none [
 ⟨some 9, (.op .mov), [.tmp 4], none⟩,
 ⟨some 10, (.op (.bin .add)), [.tmp 9, .cst (.t (.int .i64 1))], none⟩,
 ⟨some 4, (.op .mov), [.tmp 10], none⟩])))
def ac_ref1_bytes : AC :=
 (.seq
 (.reg 4096 none [
 ⟨some 2, (.op .mov), [.cst .nil], none⟩])
 (.seq
 (.reg 8192 none [
 ⟨some 3, (.op .mov), [.cst .nil], none⟩])
 (.seq
 (.seq
 (.reg 12288 none [
 ⟨some 4, (.op .mov), [.cst (.t (.int .i64 0))], none⟩])
 (.block 0
 (.loop ac_ref1_bytes_L0)))
 (.seq
 (.reg 28672 none [
 ⟨some 37, (.op .mov), [.tmp 3], none⟩,
 ⟨some 2, (.op .mov), [.tmp 37], none⟩])
 .ret))))
def hints_ref1_bytes : List (Nat × List Nat) := []
def ac_ref1_Sum256_L1 (n_ref1_word n_ref1_rotr : Nat) : AC :=
 (.seq
 (.seq
 (.reg 40960 none [
 ⟨some 28, (.op .mov), [.tmp 8], none⟩,
 ⟨some 29, (.op (.bin .lss)), [.tmp 28, .cst (.t (.int .i64 64))], none⟩])
 (.cond (.tmp 29)
 .skip
 (.exit 2)))
 (.seq
 (.block 3
 (.seq
 (.seq
 (.reg 49152 none [
 ⟨some 32, (.op .mov), [.tmp 8], none⟩,
 ⟨some 33, (.op (.bin .lss)), [.tmp 32, .cst (.t (.int .i64 16))], none⟩])
 (.cond (.tmp 33)
 (.seq
 (.reg 53248 none [
 ⟨some 34, (.op .mov), [.tmp 8], none⟩,
 ⟨some 35, (.op .mov), [.tmp 5], none⟩,
 ⟨some 36, (.op .mov), [.tmp 6], none⟩,
 ⟨some 37, (.op .mov), [.tmp 6], none⟩,
 ⟨some 38, (.op (.bin .add)), [.tmp 37, .cst (.t (.int .i64 64))], none⟩,
 ⟨some 39, (.op (.slice 1 true true false)), [.tmp 35, .tmp 36, .tmp 38], none⟩,
 ⟨some 40, (.op .mov), [.tmp 8], none⟩,
 ⟨some 41, (.call n_ref1_word false), [.tmp 39, .tmp 40], none⟩,
 ⟨some 42, (.op (.aaddr 64 1)), [.tmp 7, .tmp 34], none⟩,
 ⟨none, (.op (.store 1)), [.tmp 42, .tmp 41], none⟩])
 (.exit 3))
 .skip))
 (.seq
 (.reg 57344 (some [0, 1, 3, 7, 15, 0, 32, 96, 224, 511, 1023, 0, 2048, 6144, 14336, 30720, 65535, 131071]) [
 ⟨some 43, (.op .mov), [.tmp 8], none⟩,
 ⟨some 44, (.op (.bin .sub)), [.tmp 43, .cst (.t (.int .i64 15))], none⟩,
 ⟨some 45, (.op (.aaddr 64 1)), [.tmp 7, .tmp 44], none⟩,
 ⟨some 46, (.op (.load 1 false)), [.tmp 45], none⟩,
 ⟨some 47, (.call n_ref1_rotr false), [.tmp 46, .cst (.t (.int .u64 7))], none⟩,
 ⟨some 48, (.op .mov), [.tmp 8], none⟩,
 ⟨some 49, (.op (.bin .sub)), [.tmp 48, .cst (.t (.int .i64 15))], none⟩,
 ⟨some 50, (.op (.aaddr 64 1)), [.tmp 7, .tmp 49], none⟩,
 ⟨some 51, (.op (.load 1 false)), [.tmp 50], none⟩,
 ⟨some 52, (.call n_ref1_rotr false), [.tmp 51, .cst (.t (.int .u64 18))], none⟩,
 ⟨some 53, (.op (.bin .xor)), [.tmp 47, .tmp 52], none⟩,
 ⟨some 54, (.op .mov), [.tmp 8], none⟩,
 ⟨some 55, (.op (.bin .sub)), [.tmp 54, .cst (.t (.int .i64 15))], none⟩,
 ⟨some 56, (.op (.aaddr 64 1)), [.tmp 7, .tmp 55], none⟩,
 ⟨some 57, (.op (.load 1 false)), [.tmp 56], none⟩,
 ⟨some 58, (.op (.bin .shr)), [.tmp 57, .cst (.t (.int .u64 3))], none⟩,
 ⟨some 59, (.op (.bin .xor)), [.tmp 53, .tmp 58], none⟩,
 ⟨some 9, (.op .mov), [.tmp 59], none⟩])
 (.seq
 (.reg 61440 (some [0, 1, 3, 7, 15, 0, 32, 96, 224, 511, 1023, 0, 2048, 6144, 14336, 30720, 65535, 131071]) [
 ⟨some 60, (.op .mov), [.tmp 8], none⟩,
 ⟨some 61, (.op (.bin .sub)), [.tmp 60, .cst (.t (.int .i64 2))], none⟩,
 ⟨some 62, (.op (.aaddr 64 1)), [.tmp 7, .tmp 61], none⟩,
 ⟨some 63, (.op (.load 1 false)), [.tmp 62], none⟩,
 ⟨some 64, (.call n_ref1_rotr false), [.tmp 63, .cst (.t (.int .u64 17))], none⟩,
 ⟨some 65, (.op .mov), [.tmp 8], none⟩,
 ⟨some 66, (.op (.bin .sub)), [.tmp 65, .cst (.t (.int .i64 2))], none⟩,
 ⟨some 67, (.op (.aaddr 64 1)), [.tmp 7, .tmp 66], none⟩,
 ⟨some 68, (.op (.load 1 false)), [.tmp 67], none⟩,
 ⟨some 69, (.call n_ref1_rotr false), [.tmp 68, .cst (.t (.int .u64 19))], none⟩,
 ⟨some 70, (.op (.bin .xor)), [.tmp 64, .tmp 69], none⟩,
 ⟨some 71, (.op .mov), [.tmp 8], none⟩,
 ⟨some 72, (.op (.bin .sub)), [.tmp 71, .cst (.t (.int .i64 2))], none⟩,
 ⟨some 73, (.op (.aaddr 64 1)), [.tmp 7, .tmp 72], none⟩,
 ⟨some 74, (.op (.load 1 false)), [.tmp 73], none⟩,
 ⟨some 75, (.op (.bin .shr)), [.tmp 74, .cst (.t (.int .u64 10))], none⟩,
 ⟨some 76, (.op (.bin .xor)), [.tmp 70, .tmp 75], none⟩,
 ⟨some 10, (.op .mov), [.tmp 76], none⟩])
 (.reg 65536 (some [0, 0, 0, 4, 12, 28, 62, 0, 254, 0, 512, 1536, 3584, 8190, 16383, 32767]) [
 ⟨some 77, (.op .mov), [.tmp 8], none⟩,
 ⟨some 78, (.op .mov), [.tmp 10], none⟩,
 ⟨some 79, (.op .mov), [.tmp 8], none⟩,
 ⟨some 80, (.op (.bin .sub)), [.tmp 79, .cst (.t (.int .i64 7))], none⟩,
 ⟨some 81, (.op (.aaddr 64 1)), [.tmp 7, .tmp 80], none⟩,
 ⟨some 82, (.op (.load 1 false)), [.tmp 81], none⟩,
 ⟨some 83, (.op (.bin .add)), [.tmp 78, .tmp 82], none⟩,
 ⟨some 84, (.op .mov), [.tmp 9], none⟩,
 ⟨some 85, (.op (.bin .add)), [.tmp 83, .tmp 84], none⟩,
 ⟨some 86, (.op .mov), [.tmp 8], none⟩,
 ⟨some 87, (.op (.bin .sub)), [.tmp 86, .cst (.t (.int .i64 16))], none⟩,
 ⟨some 88, (.op (.aaddr 64 1)), [.tmp 7, .tmp 87], none⟩,
 ⟨some 89, (.op (.load 1 false)), [.tmp 88], none⟩,
 ⟨some 90, (.op (.bin .add)), [.tmp 85, .tmp 89], none⟩,
 ⟨some 91, (.op (.aaddr 64 1)), [.tmp 7, .tmp 77], none⟩,
 ⟨none, (.op (.store 1)), [.tmp 91, .tmp 90], none⟩])))))
 (.reg 45056 none [
 ⟨some 30, (.op .mov), [.tmp 8], none⟩,
 ⟨some 31, (.op (.bin .add)), [.tmp 30, .cst (.t (.int .i64 1))], none⟩,
 ⟨some 8, (.op .mov), [.tmp 31], none⟩])))
def ac_ref1_Sum256_L2 (n_ref1_rotr : Nat) : AC :=
 (.seq
 (.seq
 (.reg 77824 none [
 ⟨some 95, (.op .mov), [.tmp 12], none⟩,
 ⟨some 96, (.op (.bin .lss)), [.tmp 95, .cst (.t (.int .i64 64))], none⟩])
 (.cond (.tmp 96)
 .skip
 (.exit 4)))
 (.seq
 (.block 5
 (.seq
 (.reg 86016 (some [0, 1, 3, 0, 8, 24, 7, 127]) [
 ⟨some 99, (.op .mov), [.tmp 11], none⟩,
 ⟨some 100, (.op (.iaddr 1)), [.tmp 99, .cst (.t (.int .i64 0))], none⟩,
 ⟨some 101, (.op (.load 1 false)), [.tmp 100], none⟩,
 ⟨some 102, (.op .mov), [.tmp 11], none⟩,
 ⟨some 103, (.op (.iaddr 1)), [.tmp 102, .cst (.t (.int .i64 4))], none⟩,
 ⟨some 104, (.op (.load 1 false)), [.tmp 103], none⟩,
 ⟨some 13, (.op .mov), [.tmp 101], none⟩,
 ⟨some 14, (.op .mov), [.tmp 104], none⟩])
 (.seq
 (.reg 90112 (some [0, 1, 3, 0, 8, 0, 56, 120, 0, 376, 1016, 2047, 0, 0, 8192, 24576, 61440, 0, 131072, 0, 524288, 1572864, 4063232, 8384512, 16777215, 0, 33554432, 100663296, 268435455, 0, 536870912, 1610612736, 4294967295, 8589934591]) [
 ⟨some 105, (.op .mov), [.tmp 11], none⟩,
 ⟨some 106, (.op (.iaddr 1)), [.tmp 105, .cst (.t (.int .i64 7))], none⟩,
 ⟨some 107, (.op (.load 1 false)), [.tmp 106], none⟩,
 ⟨some 108, (.op .mov), [.tmp 14], none⟩,
 ⟨some 109, (.call n_ref1_rotr false), [.tmp 108, .cst (.t (.int .u64 6))], none⟩,
 ⟨some 110, (.op .mov), [.tmp 14], none⟩,
 ⟨some 111, (.call n_ref1_rotr false), [.tmp 110, .cst (.t (.int .u64 11))], none⟩,
 ⟨some 112, (.op (.bin .xor)), [.tmp 109, .tmp 111], none⟩,
 ⟨some 113, (.op .mov), [.tmp 14], none⟩,
 ⟨some 114, (.call n_ref1_rotr false), [.tmp 113, .cst (.t (.int .u64 25))], none⟩,
 ⟨some 115, (.op (.bin .xor)), [.tmp 112, .tmp 114], none⟩,
 ⟨some 116, (.op (.bin .add)), [.tmp 107, .tmp 115], none⟩,
 ⟨some 117, (.op .mov), [.tmp 14], none⟩,
 ⟨some 118, (.op .mov), [.tmp 11], none⟩,
 ⟨some 119, (.op (.iaddr 1)), [.tmp 118, .cst (.t (.int .i64 5))], none⟩,
 ⟨some 120, (.op (.load 1 false)), [.tmp 119], none⟩,
 ⟨some 121, (.op (.bin .and)), [.tmp 117, .tmp 120], none⟩,
 ⟨some 122, (.op .mov), [.tmp 14], none⟩,
 ⟨some 123, (.op (.un .xor)), [.tmp 122], none⟩,
 ⟨some 124, (.op .mov), [.tmp 11], none⟩,
 ⟨some 125, (.op (.iaddr 1)), [.tmp 124, .cst (.t (.int .i64 6))], none⟩,
 ⟨some 126, (.op (.load 1 false)), [.tmp 125], none⟩,
 ⟨some 127, (.op (.bin .and)), [.tmp 123, .tmp 126], none⟩,
 ⟨some 128, (.op (.bin .xor)), [.tmp 121, .tmp 127], none⟩,
 ⟨some 129, (.op (.bin .add)), [.tmp 116, .tmp 128], none⟩,
 ⟨some 130, (.op .mov), [.tmp 12], none⟩,
 ⟨some 131, (.op (.aaddr 64 1)), [.tmp 3, .tmp 130], none⟩,
 ⟨some 132, (.op (.load 1 false)), [.tmp 131], none⟩,
 ⟨some 133, (.op (.bin .add)), [.tmp 129, .tmp 132], none⟩,
 ⟨some 134, (.op .mov), [.tmp 12], none⟩,
 ⟨some 135, (.op (.aaddr 64 1)), [.tmp 7, .tmp 134], none⟩,
 ⟨some 136, (.op (.load 1 false)), [.tmp 135], none⟩,
 ⟨some 137, (.op (.bin .add)), [.tmp 133, .tmp 136], none⟩,
 ⟨some 15, (.op .mov), [.tmp 137], none⟩])
 (.seq
 (.reg 94208 (some [0, 1, 0, 7, 15, 0, 47, 127, 0, 0, 512, 1536, 3840, 0, 0, 16384, 49152, 122880, 261888, 0, 524288, 1572864, 0, 4194304, 12582912, 33030144, 67108608, 134217727, 268435455]) [
 ⟨some 138, (.op .mov), [.tmp 13], none⟩,
 ⟨some 139, (.call n_ref1_rotr false), [.tmp 138, .cst (.t (.int .u64 2))], none⟩,
 ⟨some 140, (.op .mov), [.tmp 13], none⟩,
 ⟨some 141, (.call n_ref1_rotr false), [.tmp 140, .cst (.t (.int .u64 13))], none⟩,
 ⟨some 142, (.op (.bin .xor)), [.tmp 139, .tmp 141], none⟩,
 ⟨some 143, (.op .mov), [.tmp 13], none⟩,
 ⟨some 144, (.call n_ref1_rotr false), [.tmp 143, .cst (.t (.int .u64 22))], none⟩,
 ⟨some 145, (.op (.bin .xor)), [.tmp 142, .tmp 144], none⟩,
 ⟨some 146, (.op .mov), [.tmp 13], none⟩,
 ⟨some 147, (.op .mov), [.tmp 11], none⟩,
 ⟨some 148, (.op (.iaddr 1)), [.tmp 147, .cst (.t (.int .i64 1))], none⟩,
 ⟨some 149, (.op (.load 1 false)), [.tmp 148], none⟩,
 ⟨some 150, (.op (.bin .and)), [.tmp 146, .tmp 149], none⟩,
 ⟨some 151, (.op .mov), [.tmp 13], none⟩,
 ⟨some 152, (.op .mov), [.tmp 11], none⟩,
 ⟨some 153, (.op (.iaddr 1)), [.tmp 152, .cst (.t (.int .i64 2))], none⟩,
 ⟨some 154, (.op (.load 1 false)), [.tmp 153], none⟩,
 ⟨some 155, (.op (.bin .and)), [.tmp 151, .tmp 154], none⟩,
 ⟨some 156, (.op (.bin .xor)), [.tmp 150, .tmp 155], none⟩,
 ⟨some 157, (.op .mov), [.tmp 11], none⟩,
 ⟨some 158, (.op (.iaddr 1)), [.tmp 157, .cst (.t (.int .i64 1))], none⟩,
 ⟨some 159, (.op (.load 1 false)), [.tmp 158], none⟩,
 ⟨some 160, (.op .mov), [.tmp 11], none⟩,
 ⟨some 161, (.op (.iaddr 1)), [.tmp 160, .cst (.t (.int .i64 2))], none⟩,
 ⟨some 162, (.op (.load 1 false)), [.tmp 161], none⟩,
 ⟨some 163, (.op (.bin .and)), [.tmp 159, .tmp 162], none⟩,
 ⟨some 164, (.op (.bin .xor)), [.tmp 156, .tmp 163], none⟩,
 ⟨some 165, (.op (.bin .add)), [.tmp 145, .tmp 164], none⟩,
 ⟨some 16, (.op .mov), [.tmp 165], none⟩])
 (.reg 98304 (some [0, 0, 3, 0, 0, 16, 48, 0, 128, 384, 0, 1024, 3072, 0, 15360, 0, 0, 65536, 196608, 0, 524288, 1572864, 4194303, 8388607]) [
 ⟨some 166, (.op .mov), [.tmp 15], none⟩,
 ⟨some 167, (.op .mov), [.tmp 16], none⟩,
 ⟨some 168, (.op (.bin .add)), [.tmp 166, .tmp 167], none⟩,
 ⟨some 169, (.op .mov), [.tmp 13], none⟩,
 ⟨some 170, (.op .mov), [.tmp 11], none⟩,
 ⟨some 171, (.op (.iaddr 1)), [.tmp 170, .cst (.t (.int .i64 1))], none⟩,
 ⟨some 172, (.op (.load 1 false)), [.tmp 171], none⟩,
 ⟨some 173, (.op .mov), [.tmp 11], none⟩,
 ⟨some 174, (.op (.iaddr 1)), [.tmp 173, .cst (.t (.int .i64 2))], none⟩,
 ⟨some 175, (.op (.load 1 false)), [.tmp 174], none⟩,
 ⟨some 176, (.op .mov), [.tmp 11], none⟩,
 ⟨some 177, (.op (.iaddr 1)), [.tmp 176, .cst (.t (.int .i64 3))], none⟩,
 ⟨some 178, (.op (.load 1 false)), [.tmp 177], none⟩,
 ⟨some 179, (.op .mov), [.tmp 15], none⟩,
 ⟨some 180, (.op (.bin .add)), [.tmp 178, .tmp 179], none⟩,
 ⟨some 181, (.op .mov), [.tmp 14], none⟩,
 ⟨some 182, (.op .mov), [.tmp 11], none⟩,
 ⟨some 183, (.op (.iaddr 1)), [.tmp 182, .cst (.t (.int .i64 5))], none⟩,
 ⟨some 184, (.op (.load 1 false)), [.tmp 183], none⟩,
 ⟨some 185, (.op .mov), [.tmp 11], none⟩,
 ⟨some 186, (.op (.iaddr 1)), [.tmp 185, .cst (.t (.int .i64 6))], none⟩,
 ⟨some 187, (.op (.load 1 false)), [.tmp 186], none⟩,
 ⟨some 188, (.op (.bslice 1 8 (.t (u32T 0)) [0, 1, 2, 3, 4, 5, 6, 7])), [.tmp 168, .tmp 169, .tmp 172, .tmp 175, .tmp 180, .tmp 181, .tmp 184, .tmp 187], none⟩,
 ⟨some 11, (.op .mov), [.tmp 188], none⟩])))))
 (.reg 81920 none [
 ⟨some 97, (.op .mov), [.tmp 12], none⟩,
 ⟨some 98, (.op (.bin .add)), [.tmp 97, .cst (.t (.int .i64 1))], none⟩,
 ⟨some 12, (.op .mov), [.tmp 98], none⟩])))
def ac_ref1_Sum256_L3 : AC :=
 (.seq
 (.seq
 (.reg 106496 none [
 ⟨some 189, (.op .mov), [.tmp 17], none⟩,
 ⟨some 190, (.op (.bin .lss)), [.tmp 189, .cst (.t (.int .i64 8))], none⟩])
 (.cond (.tmp 190)
 .skip
 (.exit 6)))
 (.seq
 (.block 7
 (.reg 114688 (some [0, 0, 3, 7, 0, 0, 48, 112, 255, 511, 1023]) [
 ⟨some 193, (.op .mov), [.tmp 4], none⟩,
 ⟨some 194, (.op .mov), [.tmp 17], none⟩,
 ⟨some 195, (.op (.iaddr 1)), [.tmp 193, .tmp 194], none⟩,
 ⟨some 196, (.op (.load 1 false)), [.tmp 195], none⟩,
 ⟨some 197, (.op .mov), [.tmp 11], none⟩,
 ⟨some 198, (.op .mov), [.tmp 17], none⟩,
 ⟨some 199, (.op (.iaddr 1)), [.tmp 197, .tmp 198], none⟩,
 ⟨some 200, (.op (.load 1 false)), [.tmp 199], none⟩,
 ⟨some 201, (.op (.bin .add)), [.tmp 196, .tmp 200], none⟩,
 ⟨some 202, (.op (.iaddr 1)), [.tmp 193, .tmp 194], none⟩,
 ⟨none, (.op (.store 1)), [.tmp 202, .tmp 201], none⟩]))
 (.reg 110592 none [
 ⟨some 191, (.op .mov), [.tmp 17], none⟩,
 ⟨some 192, (.op (.bin .add)), [.tmp 191, .cst (.t (.int .i64 1))], none⟩,
 ⟨some 17, (.op .mov), [.tmp 192], none⟩])))
def ac_ref1_Sum256_L0 (n_ref1_word n_ref1_rotr : Nat) : AC :=
 (.seq
 (.seq
 (.reg 24576 none [
 ⟨some 22, (.op .mov), [.tmp 6], none⟩,
 ⟨some 23, (.op .mov), [.tmp 5], none⟩,
 ⟨some 24, (.op .len), [.tmp 23], none⟩,
 ⟨some 25, (.op (.bin .lss)), [.tmp 22, .tmp 24], none⟩])
 (.cond (.tmp 25)
 .skip
 (.exit 0)))
 (.seq
 (.block 1
 (.seq
 (.reg 32768 none [
 ⟨some 7, (.op (.new 1 (List.replicate 64 (.t (u32T 0))))), [], none⟩])
 (.seq
 (.seq
 (.reg 36864 none [
 ⟨some 8, (.op .mov), [.cst (.t (.int .i64 0))], none⟩])
 (.block 2
 (.loop (ac_ref1_Sum256_L1 n_ref1_word n_ref1_rotr))))
 (.seq
 (.reg 69632 none [
 ⟨some 92, (.op (.bslice 1 0 (.t (u32T 0)) [])), [], none⟩,
 ⟨some 93, (.op .mov), [.tmp 4], none⟩,
 ⟨some 94, (.op (.append 1 4)), [.tmp 92, .tmp 93], none⟩,
 ⟨some 11, (.op .mov), [.tmp 94], none⟩])
 (.seq
 (.seq
 (.reg 73728 none [
 ⟨some 12, (.op .mov), [.cst (.t (.int .i64 0))], none⟩])
 (.block 4
 (.loop (ac_ref1_Sum256_L2 n_ref1_rotr))))
 (.seq
 (.reg 102400 none [
 ⟨some 17, (.op .mov), [.cst (.t (.int .i64 0))], none⟩])
 (.block 6
 (.loop ac_ref1_Sum256_L3))))))))
 (.reg 28672 none [
 ⟨some 26, (.op .mov), [.tmp 6], none⟩,
 ⟨some 27, (.op (.bin .add)), [.tmp 26, .cst (.t (.int .i64 64))], none⟩,
 ⟨some 6, (.op .mov), [.tmp 27], none⟩])))
def ac_ref1_Sum256 (n_ref1_constants n_ref1_pad n_ref1_word n_ref1_rotr n_ref1_bytes : Nat) : AC :=
 (.seq
 (.reg 4096 none [
 ⟨some 2, (.op .mov), [.cst .nil], none⟩])
 (.seq
 (.reg 8192 none [
 ⟨some 18, (.call n_ref1_constants false), [], none⟩,
 ⟨some 3, (.op (.new 1 (List.replicate 64 (.t (u32T 0))))), [], none⟩,
 ⟨none, (.op (.store 64)), [.tmp 3, .tmp 18], none⟩])
 (.seq
 (.reg 12288 none [
 ⟨some 19, (.op (.bslice 1 8 (.t (u32T 0)) [0, 1, 2, 3, 4, 5, 6, 7])), [.cst (.t (u32T 1779033703)), .cst (.t (u32T 3144134277)), .cst (.t (u32T 1013904242)), .cst (.t (u32T 2773480762)), .cst (.t (u32T 1359893119)), .cst (.t (u32T 2600822924)), .cst (.t (u32T 528734635)), .cst (.t (u32T 1541459225))], none⟩,
 ⟨some 4, (.op .mov), [.tmp 19], none⟩])
 (.seq
 (.reg 16384 none [
 ⟨some 20, (.op .mov), [.tmp 0], none⟩,
 ⟨some 21, (.call n_ref1_pad false), [.tmp 20], none⟩,
 ⟨some 5, (.op .mov), [.tmp 21], none⟩])
 (.seq
 (.seq
 (.reg 20480 none [
 ⟨some 6, (.op .mov), [.cst (.t (.int .i64 0))], none⟩])
 (.block 0
 (.loop (ac_ref1_Sum256_L0 n_ref1_word n_ref1_rotr))))
 (.seq
 (.reg 118784 none [
 ⟨some 203, (.op .mov), [.tmp 4], none⟩,
 ⟨some 204, (.call n_ref1_bytes false), [.tmp 203], none⟩,
 ⟨some 2, (.op .mov), [.tmp 204], none⟩])
 .ret))))))
def hints_ref1_Sum256 : List (Nat × List Nat) := []
def ac_ref1_Sum1_L1 (n_ref1_word n_ref1_rotl : Nat) : AC :=
 (.seq
 (.seq
 (.reg 36864 none [
 ⟨some 26, (.op .mov), [.tmp 7], none⟩,
 ⟨some 27, (.op (.bin .lss)), [.tmp 26, .cst (.t (.int .i64 80))], none⟩])
 (.cond (.tmp 27)
 .skip
 (.exit 2)))
 (.seq
 (.block 3
 (.seq
 (.seq
 (.reg 45056 none [
 ⟨some 30, (.op .mov), [.tmp 7], none⟩,
 ⟨some 31, (.op (.bin .lss)), [.tmp 30, .cst (.t (.int .i64 16))], none⟩])
 (.cond (.tmp 31)
 (.seq
 (.reg 49152 none [
 ⟨some 32, (.op .mov), [.tmp 7], none⟩,
 ⟨some 33, (.op .mov), [.tmp 4], none⟩,
 ⟨some 34, (.op .mov), [.tmp 5], none⟩,
 ⟨some 35, (.op .mov), [.tmp 5], none⟩,
 ⟨some 36, (.op (.bin .add)), [.tmp 35, .cst (.t (.int .i64 64))], none⟩,
 ⟨some 37, (.op (.slice 1 true true false)), [.tmp 33, .tmp 34, .tmp 36], none⟩,
 ⟨some 38, (.op .mov), [.tmp 7], none⟩,
 ⟨some 39, (.call n_ref1_word false), [.tmp 37, .tmp 38], none⟩,
 ⟨some 40, (.op (.aaddr 80 1)), [.tmp 6, .tmp 32], none⟩,
 ⟨none, (.op (.store 1)), [.tmp 40, .tmp 39], none⟩])
 (.exit 3))
 .skip))
 (.reg 53248 (some [0, 0, 2, 6, 14, 0, 32, 96, 224, 510, 0, 1024, 3072, 7168, 16382, 0, 32768, 98304, 229376, 524286, 1048574, 2097151, 4194303]) [
 ⟨some 41, (.op .mov), [.tmp 7], none⟩,
 ⟨some 42, (.op .mov), [.tmp 7], none⟩,
 ⟨some 43, (.op (.bin .sub)), [.tmp 42, .cst (.t (.int .i64 3))], none⟩,
 ⟨some 44, (.op (.aaddr 80 1)), [.tmp 6, .tmp 43], none⟩,
 ⟨some 45, (.op (.load 1 false)), [.tmp 44], none⟩,
 ⟨some 46, (.op .mov), [.tmp 7], none⟩,
 ⟨some 47, (.op (.bin .sub)), [.tmp 46, .cst (.t (.int .i64 8))], none⟩,
 ⟨some 48, (.op (.aaddr 80 1)), [.tmp 6, .tmp 47], none⟩,
 ⟨some 49, (.op (.load 1 false)), [.tmp 48], none⟩,
 ⟨some 50, (.op (.bin .xor)), [.tmp 45, .tmp 49], none⟩,
 ⟨some 51, (.op .mov), [.tmp 7], none⟩,
 ⟨some 52, (.op (.bin .sub)), [.tmp 51, .cst (.t (.int .i64 14))], none⟩,
 ⟨some 53, (.op (.aaddr 80 1)), [.tmp 6, .tmp 52], none⟩,
 ⟨some 54, (.op (.load 1 false)), [.tmp 53], none⟩,
 ⟨some 55, (.op (.bin .xor)), [.tmp 50, .tmp 54], none⟩,
 ⟨some 56, (.op .mov), [.tmp 7], none⟩,
 ⟨some 57, (.op (.bin .sub)), [.tmp 56, .cst (.t (.int .i64 16))], none⟩,
 ⟨some 58, (.op (.aaddr 80 1)), [.tmp 6, .tmp 57], none⟩,
 ⟨some 59, (.op (.load 1 false)), [.tmp 58], none⟩,
 ⟨some 60, (.op (.bin .xor)), [.tmp 55, .tmp 59], none⟩,
 ⟨some 61, (.call n_ref1_rotl false), [.tmp 60, .cst (.t (.int .u64 1))], none⟩,
 ⟨some 62, (.op (.aaddr 80 1)), [.tmp 6, .tmp 41], none⟩,
 ⟨none, (.op (.store 1)), [.tmp 62, .tmp 61], none⟩])))
 (.reg 40960 none [
 ⟨some 28, (.op .mov), [.tmp 7], none⟩,
 ⟨some 29, (.op (.bin .add)), [.tmp 28, .cst (.t (.int .i64 1))], none⟩,
 ⟨some 7, (.op .mov), [.tmp 29], none⟩])))
def ac_ref1_Sum1_L2 (n_ref1_rotl : Nat) : AC :=
 (.seq
 (.seq
 (.reg 65536 none [
 ⟨some 78, (.op .mov), [.tmp 13], none⟩,
 ⟨some 79, (.op (.bin .lss)), [.tmp 78, .cst (.t (.int .i64 80))], none⟩])
 (.cond (.tmp 79)
 .skip
 (.exit 4)))
 (.seq
 (.block 5
 (.seq
 (.reg 73728 none [
 ⟨some 82, (.op .mov), [.tmp 9], none⟩,
 ⟨some 83, (.op .mov), [.tmp 10], none⟩,
 ⟨some 84, (.op (.bin .xor)), [.tmp 82, .tmp 83], none⟩,
 ⟨some 85, (.op .mov), [.tmp 11], none⟩,
 ⟨some 86, (.op (.bin .xor)), [.tmp 84, .tmp 85], none⟩,
 ⟨some 14, (.op .mov), [.tmp 86], none⟩,
 ⟨some 15, (.op .mov), [.cst (.t (u32T 3395469782))], none⟩])
 (.seq
 (.block 6
 (.seq
 (.reg 77824 none [
 ⟨some 88, (.op .mov), [.tmp 13], none⟩,
 ⟨some 89, (.op (.bin .lss)), [.tmp 88, .cst (.t (.int .i64 20))], none⟩,
 ⟨some 87, (.op .mov), [.tmp 89], none⟩])
 (.cond (.tmp 87)
 (.reg 81920 none [
 ⟨some 90, (.op .mov), [.tmp 9], none⟩,
 ⟨some 91, (.op .mov), [.tmp 10], none⟩,
 ⟨some 92, (.op (.bin .and)), [.tmp 90, .tmp 91], none⟩,
 ⟨some 93, (.op .mov), [.tmp 9], none⟩,
 ⟨some 94, (.op (.un .xor)), [.tmp 93], none⟩,
 ⟨some 95, (.op .mov), [.tmp 11], none⟩,
 ⟨some 96, (.op (.bin .and)), [.tmp 94, .tmp 95], none⟩,
 ⟨some 97, (.op (.bin .xor)), [.tmp 92, .tmp 96], none⟩,
 ⟨some 14, (.op .mov), [.tmp 97], none⟩,
 ⟨some 15, (.op .mov), [.cst (.t (u32T 1518500249))], none⟩])
 (.seq
 (.reg 86016 none [
 ⟨some 99, (.op .mov), [.tmp 13], none⟩,
 ⟨some 100, (.op (.bin .lss)), [.tmp 99, .cst (.t (.int .i64 40))], none⟩,
 ⟨some 98, (.op .mov), [.tmp 100], none⟩])
 (.cond (.tmp 98)
 (.reg 90112 none [
 ⟨some 15, (.op .mov), [.cst (.t (u32T 1859775393))], none⟩])
 (.seq
 (.reg 94208 none [
 ⟨some 102, (.op .mov), [.tmp 13], none⟩,
 ⟨some 103, (.op (.bin .lss)), [.tmp 102, .cst (.t (.int .i64 60))], none⟩,
 ⟨some 101, (.op .mov), [.tmp 103], none⟩])
 (.cond (.tmp 101)
 (.reg 98304 none [
 ⟨some 104, (.op .mov), [.tmp 9], none⟩,
 ⟨some 105, (.op .mov), [.tmp 10], none⟩,
 ⟨some 106, (.op (.bin .and)), [.tmp 104, .tmp 105], none⟩,
 ⟨some 107, (.op .mov), [.tmp 9], none⟩,
 ⟨some 108, (.op .mov), [.tmp 11], none⟩,
 ⟨some 109, (.op (.bin .and)), [.tmp 107, .tmp 108], none⟩,
 ⟨some 110, (.op (.bin .xor)), [.tmp 106, .tmp 109], none⟩,
 ⟨some 111, (.op .mov), [.tmp 10], none⟩,
 ⟨some 112, (.op .mov), [.tmp 11], none⟩,
 ⟨some 113, (.op (.bin .and)), [.tmp 111, .tmp 112], none⟩,
 ⟨some 114, (.op (.bin .xor)), [.tmp 110, .tmp 113], none⟩,
 ⟨some 14, (.op .mov), [.tmp 114], none⟩,
 ⟨some 15, (.op .mov), [.cst (.t (u32T 2400959708))], none⟩])
 .skip)))))))
 (.seq
 (.reg 102400 (some [0, 1, 0, 7, 0, 31, 0, 127, 0, 256, 768, 2047, 4095]) [
 ⟨some 115, (.op .mov), [.tmp 8], none⟩,
 ⟨some 116, (.call n_ref1_rotl false), [.tmp 115, .cst (.t (.int .u64 5))], none⟩,
 ⟨some 117, (.op .mov), [.tmp 14], none⟩,
 ⟨some 118, (.op (.bin .add)), [.tmp 116, .tmp 117], none⟩,
 ⟨some 119, (.op .mov), [.tmp 12], none⟩,
 ⟨some 120, (.op (.bin .add)), [.tmp 118, .tmp 119], none⟩,
 ⟨some 121, (.op .mov), [.tmp 15], none⟩,
 ⟨some 122, (.op (.bin .add)), [.tmp 120, .tmp 121], none⟩,
 ⟨some 123, (.op .mov), [.tmp 13], none⟩,
 ⟨some 124, (.op (.aaddr 80 1)), [.tmp 6, .tmp 123], none⟩,
 ⟨some 125, (.op (.load 1 false)), [.tmp 124], none⟩,
 ⟨some 126, (.op (.bin .add)), [.tmp 122, .tmp 125], none⟩,
 ⟨some 16, (.op .mov), [.tmp 126], none⟩])
 (.reg 106496 none [
 ⟨some 127, (.op .mov), [.tmp 16], none⟩,
 ⟨some 128, (.op .mov), [.tmp 8], none⟩,
 ⟨some 129, (.op .mov), [.tmp 9], none⟩,
 ⟨some 130, (.call n_ref1_rotl false), [.tmp 129, .cst (.t (.int .u64 30))], none⟩,
 ⟨some 131, (.op .mov), [.tmp 10], none⟩,
 ⟨some 132, (.op .mov), [.tmp 11], none⟩,
 ⟨some 8, (.op .mov), [.tmp 127], none⟩,
 ⟨some 9, (.op .mov), [.tmp 128], none⟩,
 ⟨some 10, (.op .mov), [.tmp 130], none⟩,
 ⟨some 11, (.op .mov), [.tmp 131], none⟩,
 ⟨some 12, (.op .mov), [.tmp 132], none⟩])))))
 (.reg 69632 none [
 ⟨some 80, (.op .mov), [.tmp 13], none⟩,
 ⟨some 81, (.op (.bin .add)), [.tmp 80, .cst (.t (.int .i64 1))], none⟩,
 ⟨some 13, (.op .mov), [.tmp 81], none⟩])))
def ac_ref1_Sum1_L0 (n_ref1_word n_ref1_rotl : Nat) : AC :=
 (.seq
 (.seq
 (.reg 20480 none [
 ⟨some 20, (.op .mov), [.tmp 5], none⟩,
 ⟨some 21, (.op .mov), [.tmp 4], none⟩,
 ⟨some 22, (.op .len), [.tmp 21], none⟩,
 ⟨some 23, (.op (.bin .lss)), [.tmp 20, .tmp 22], none⟩])
 (.cond (.tmp 23)
 .skip
 (.exit 0)))
 (.seq
 (.block 1
 (.seq
 (.reg 28672 none [
 ⟨some 6, (.op (.new 1 (List.replicate 80 (.t (u32T 0))))), [], none⟩])
 (.seq
 (.seq
 (.reg 32768 none [
 ⟨some 7, (.op .mov), [.cst (.t (.int .i64 0))], none⟩])
 (.block 2
 (.loop (ac_ref1_Sum1_L1 n_ref1_word n_ref1_rotl))))
 (.seq
 (.reg 57344 (some [0, 1, 3, 0, 8, 24, 0, 64, 192, 0, 512, 1536, 0, 4096, 12288, 7, 32831, 98815, 233471, 524287]) [
 ⟨some 63, (.op .mov), [.tmp 3], none⟩,
 ⟨some 64, (.op (.iaddr 1)), [.tmp 63, .cst (.t (.int .i64 0))], none⟩,
 ⟨some 65, (.op (.load 1 false)), [.tmp 64], none⟩,
 ⟨some 66, (.op .mov), [.tmp 3], none⟩,
 ⟨some 67, (.op (.iaddr 1)), [.tmp 66, .cst (.t (.int .i64 1))], none⟩,
 ⟨some 68, (.op (.load 1 false)), [.tmp 67], none⟩,
 ⟨some 69, (.op .mov), [.tmp 3], none⟩,
 ⟨some 70, (.op (.iaddr 1)), [.tmp 69, .cst (.t (.int .i64 2))], none⟩,
 ⟨some 71, (.op (.load 1 false)), [.tmp 70], none⟩,
 ⟨some 72, (.op .mov), [.tmp 3], none⟩,
 ⟨some 73, (.op (.iaddr 1)), [.tmp 72, .cst (.t (.int .i64 3))], none⟩,
 ⟨some 74, (.op (.load 1 false)), [.tmp 73], none⟩,
 ⟨some 75, (.op .mov), [.tmp 3], none⟩,
 ⟨some 76, (.op (.iaddr 1)), [.tmp 75, .cst (.t (.int .i64 4))], none⟩,
 ⟨some 77, (.op (.load 1 false)), [.tmp 76], none⟩,
 ⟨some 8, (.op .mov), [.tmp 65], none⟩,
 ⟨some 9, (.op .mov), [.tmp 68], none⟩,
 ⟨some 10, (.op .mov), [.tmp 71], none⟩,
 ⟨some 11, (.op .mov), [.tmp 74], none⟩,
 ⟨some 12, (.op .mov), [.tmp 77], none⟩])
 (.seq
 (.seq
 (.reg 61440 none [
 ⟨some 13, (.op .mov), [.cst (.t (.int .i64 0))], none⟩])
 (.block 4
 (.loop (ac_ref1_Sum1_L2 n_ref1_rotl))))
 (.reg 110592 (some [0, 1, 3, 0, 15, 0, 32, 96, 0, 480, 0, 1024, 3072, 0, 15360, 0, 32768, 98304, 0, 491520, 0, 1048576, 3145728, 0, 15728640, 33554431, 67108863]) [
 ⟨some 133, (.op .mov), [.tmp 3], none⟩,
 ⟨some 134, (.op (.iaddr 1)), [.tmp 133, .cst (.t (.int .i64 0))], none⟩,
 ⟨some 135, (.op (.load 1 false)), [.tmp 134], none⟩,
 ⟨some 136, (.op .mov), [.tmp 8], none⟩,
 ⟨some 137, (.op (.bin .add)), [.tmp 135, .tmp 136], none⟩,
 ⟨some 138, (.op .mov), [.tmp 3], none⟩,
 ⟨some 139, (.op (.iaddr 1)), [.tmp 138, .cst (.t (.int .i64 1))], none⟩,
 ⟨some 140, (.op (.load 1 false)), [.tmp 139], none⟩,
 ⟨some 141, (.op .mov), [.tmp 9], none⟩,
 ⟨some 142, (.op (.bin .add)), [.tmp 140, .tmp 141], none⟩,
 ⟨some 143, (.op .mov), [.tmp 3], none⟩,
 ⟨some 144, (.op (.iaddr 1)), [.tmp 143, .cst (.t (.int .i64 2))], none⟩,
 ⟨some 145, (.op (.load 1 false)), [.tmp 144], none⟩,
 ⟨some 146, (.op .mov), [.tmp 10], none⟩,
 ⟨some 147, (.op (.bin .add)), [.tmp 145, .tmp 146], none⟩,
 ⟨some 148, (.op .mov), [.tmp 3], none⟩,
 ⟨some 149, (.op (.iaddr 1)), [.tmp 148, .cst (.t (.int .i64 3))], none⟩,
 ⟨some 150, (.op (.load 1 false)), [.tmp 149], none⟩,
 ⟨some 151, (.op .mov), [.tmp 11], none⟩,
 ⟨some 152, (.op (.bin .add)), [.tmp 150, .tmp 151], none⟩,
 ⟨some 153, (.op .mov), [.tmp 3], none⟩,
 ⟨some 154, (.op (.iaddr 1)), [.tmp 153, .cst (.t (.int .i64 4))], none⟩,
 ⟨some 155, (.op (.load 1 false)), [.tmp 154], none⟩,
 ⟨some 156, (.op .mov), [.tmp 12], none⟩,
 ⟨some 157, (.op (.bin .add)), [.tmp 155, .tmp 156], none⟩,
 ⟨some 158, (.op (.bslice 1 5 (.t (u32T 0)) [0, 1, 2, 3, 4])), [.tmp 137, .tmp 142, .tmp 147, .tmp 152, .tmp 157], none⟩,
 ⟨some 3, (.op .mov), [.tmp 158], none⟩]))))))
 (.reg 24576 none [
 ⟨some 24, (.op .mov), [.tmp 5], none⟩,
 ⟨some 25, (.op (.bin .add)), [.tmp 24, .cst (.t (.int .i64 64))], none⟩,
 ⟨some 5, (.op .mov), [.tmp 25], none⟩])))
def ac_ref1_Sum1 (n_ref1_pad n_ref1_word n_ref1_rotl n_ref1_bytes : Nat) : AC :=
 (.seq
 (.reg 4096 none [
 ⟨some 2, (.op .mov), [.cst .nil], none⟩])
 (.seq
 (.reg 8192 none [
 ⟨some 17, (.op (.bslice 1 5 (.t (u32T 0)) [0, 1, 2, 3, 4])), [.cst (.t (u32T 1732584193)), .cst (.t (u32T 4023233417)), .cst (.t (u32T 2562383102)), .cst (.t (u32T 271733878)), .cst (.t (u32T 3285377520))], none⟩,
 ⟨some 3, (.op .mov), [.tmp 17], none⟩])
 (.seq
 (.reg 12288 none [
 ⟨some 18, (.op .mov), [.tmp 0], none⟩,
 ⟨some 19, (.call n_ref1_pad false), [.tmp 18], none⟩,
 ⟨some 4, (.op .mov), [.tmp 19], none⟩])
 (.seq
 (.seq
 (.reg 16384 none [
 ⟨some 5, (.op .mov), [.cst (.t (.int .i64 0))], none⟩])
 (.block 0
 (.loop (ac_ref1_Sum1_L0 n_ref1_word n_ref1_rotl))))
 (.seq
 (.reg 114688 none [
 ⟨some 159, (.op .mov), [.tmp 3], none⟩,
 ⟨some 160, (.call n_ref1_bytes false), [.tmp 159], none⟩,
 ⟨some 2, (.op .mov), [.tmp 160], none⟩])
 .ret)))))
def hints_ref1_Sum1 : List (Nat × List Nat) := []
def ac_ref1_Size : AC :=
 (.seq
 (.reg 4096 none [
 ⟨some 2, (.op .mov), [.cst (.t (.int .i64 0))], none⟩])
 (.seq
 (.seq
 (.reg 8192 none [
 ⟨some 3, (.op .mov), [.tmp 0], none⟩])
 (.block 0
 (.seq
 (.reg 12288 none [
 ⟨some 5, (.op (.bin .eql)), [.tmp 3, .cst (.t (.int .i64 0))], none⟩,
 ⟨some 4, (.op .mov), [.tmp 5], none⟩])
 (.cond (.tmp 4)
 (.seq
 (.reg 16384 none [
 ⟨some 2, (.op .mov), [.cst (.t (.int .i64 20))], none⟩])
 .ret)
 (.seq
 (.reg 20480 none [
 ⟨some 7, (.op (.bin .eql)), [.tmp 3, .cst (.t (.int .i64 1))], none⟩,
 ⟨some 6, (.op .mov), [.tmp 7], none⟩])
 (.cond (.tmp 6)
 (.seq
 (.reg 24576 none [
 ⟨some 2, (.op .mov), [.cst (.t (.int .i64 32))], none⟩])
 .ret)
 .skip))))))
 (.seq
 (.reg 28672 none [
 ⟨some 2, (.op .mov), [.cst (.t (.int .i64 0))], none⟩])
 .ret)))
def hints_ref1_Size : List (Nat × List Nat) := []
def ac_ref1_Sum (n_ref1_Sum1 n_ref1_Sum256 : Nat) : AC :=
 (.seq
 (.reg 4096 none [
 ⟨some 4, (.op .mov), [.cst .nil], none⟩])
 (.seq
 (.seq
 (.reg 8192 none [
 ⟨some 5, (.op .mov), [.tmp 0], none⟩])
 (.block 0
 (.seq
 (.reg 12288 none [
 ⟨some 7, (.op (.bin .eql)), [.tmp 5, .cst (.t (.int .i64 0))], none⟩,
 ⟨some 6, (.op .mov), [.tmp 7], none⟩])
 (.cond (.tmp 6)
 (.seq
 (.reg 16384 none [
 ⟨some 8, (.op .mov), [.tmp 1], none⟩,
 ⟨some 9, (.call n_ref1_Sum1 false), [.tmp 8], none⟩,
 ⟨some 4, (.op .mov), [.tmp 9], none⟩])
 .ret)
 (.seq
 (.reg 20480 none [
 ⟨some 11, (.op (.bin .eql)), [.tmp 5, .cst (.t (.int .i64 1))], none⟩,
 ⟨some 10, (.op .mov), [.tmp 11], none⟩])
 (.cond (.tmp 10)
 (.seq
 (.reg 24576 none [
 ⟨some 12, (.op .mov), [.tmp 1], none⟩,
 ⟨some 13, (.call n_ref1_Sum256 false), [.tmp 12], none⟩,
 ⟨some 4, (.op .mov), [.tmp 13], none⟩])
 .ret)
 .skip))))))
 (.seq
 (.reg 28672 none [
 ⟨some 4, (.op .mov), [.cst .nil], none⟩])
 .ret)))
def hints_ref1_Sum : List (Nat × List Nat) := []
def ac_ref1_Frame_L0 : AC :=
 (.seq
 (.seq
 (.reg 16384 none [
 ⟨some 11, (.op .mov), [.tmp 6], none⟩,
 ⟨some 12, (.op .mov), [.tmp 1], none⟩,
 ⟨some 13, (.op .len), [.tmp 12], none⟩,
 ⟨some 14, (.op (.bin .lss)), [.tmp 11, .tmp 13], none⟩])
 (.cond (.tmp 14)
 .skip
 (.exit 0)))
 (.seq
 (.block 1
 (.seq
 (.reg 24576 none [
 ⟨some 17, (.op .mov), [.tmp 1], none⟩,
 ⟨some 18, (.op .mov), [.tmp 6], none⟩,
 ⟨some 19, (.op (.iaddr 1)), [.tmp 17, .tmp 18], none⟩,
 ⟨some 20, (.op (.load 1 false)), [.tmp 19], none⟩,
 ⟨some 21, (.op .len), [.tmp 20], none⟩,
 ⟨some 7, (.op .mov), [.tmp 21], none⟩])
 (.seq
 (.reg 28672 none [
 ⟨some 22, (.op .mov), [.tmp 5], none⟩,
 ⟨some 23, (.op .mov), [.tmp 7], none⟩,
 ⟨some 24, (.op (.bin .shr)), [.tmp 23, .cst (.t (.int .u64 24))], none⟩,
 ⟨some 25, (.op (.conv .u8)), [.tmp 24], none⟩,
 ⟨some 26, (.op .mov), [.tmp 7], none⟩,
 ⟨some 27, (.op (.bin .shr)), [.tmp 26, .cst (.t (.int .u64 16))], none⟩,
 ⟨some 28, (.op (.conv .u8)), [.tmp 27], none⟩,
 ⟨some 29, (.op .mov), [.tmp 7], none⟩,
 ⟨some 30, (.op (.bin .shr)), [.tmp 29, .cst (.t (.int .u64 8))], none⟩,
 ⟨some 31, (.op (.conv .u8)), [.tmp 30], none⟩,
 ⟨some 32, (.op .mov), [.tmp 7], none⟩,
 ⟨some 33, (.op (.conv .u8)), [.tmp 32], none⟩,
 ⟨some 34, (.op (.bslice 1 4 (.t (byteT 0)) [0, 1, 2, 3])), [.tmp 25, .tmp 28, .tmp 31, .tmp 33], none⟩,
 ⟨some 35, (.op (.append 1 1)), [.tmp 22, .tmp 34], none⟩,
 ⟨some 5, (.op .mov), [.tmp 35], none⟩])
 (.reg 32768 none [
 ⟨some 36, (.op .mov), [.tmp 5], none⟩,
 ⟨some 37, (.op .mov), [.tmp 1], none⟩,
 ⟨some 38, (.op .mov), [.tmp 6], none⟩,
 ⟨some 39, (.op (.iaddr 1)), [.tmp 37, .tmp 38], none⟩,
 ⟨some 40, (.op (.load 1 false)), [.tmp 39], none⟩,
 ⟨some 41, (.op (.append 1 1)), [.tmp 36, .tmp 40], none⟩,
 ⟨some 5, (.op .mov), [.tmp 41], none⟩]))))
 (.reg 20480 none [
 ⟨some 15, (.op .mov), [.tmp 6], none⟩,
 ⟨some 16, (.op (.bin .add)), [.tmp 15, .cst (.t (.int .i64 1))], none⟩,
 ⟨some 6, (.op .mov), [.tmp 16], none⟩])))
def ac_ref1_Frame : AC :=
 (.seq
 (.reg 4096 none [
 ⟨some 4, (.op .mov), [.cst .nil], none⟩])
 (.seq
 (.reg 8192 none [
 ⟨some 8, (.op .mov), [.tmp 0], none⟩,
 ⟨some 9, (.op (.conv .u8)), [.tmp 8], none⟩,
 ⟨some 10, (.op (.bslice 1 1 (.t (byteT 0)) [0])), [.tmp 9], none⟩,
 ⟨some 5, (.op .mov), [.tmp 10], none⟩])
 (.seq
 (.seq
 (.reg 12288 none [
 ⟨some 6, (.op .mov), [.cst (.t (.int .i64 0))], none⟩])
 (.block 0
 (.loop ac_ref1_Frame_L0)))
 (.seq
 (.reg 36864 none [
 ⟨some 42, (.op .mov), [.tmp 5], none⟩,
 ⟨some 4, (.op .mov), [.tmp 42], none⟩])
 .ret))))
def hints_ref1_Frame : List (Nat × List Nat) := []
def ac_ref1_Hash (n_ref1_Frame n_ref1_Sum256 : Nat) : AC :=
 (.seq
 (.reg 4096 none [
 ⟨some 4, (.op .mov), [.cst .nil], none⟩])
 (.seq
 (.reg 8192 none [
 ⟨some 5, (.op .mov), [.tmp 0], none⟩,
 ⟨some 6, (.op .mov), [.tmp 1], none⟩,
 ⟨some 7, (.call n_ref1_Frame false), [.tmp 5, .tmp 6], none⟩,
 ⟨some 8, (.call n_ref1_Sum256 false), [.tmp 7], none⟩,
 ⟨some 4, (.op .mov), [.tmp 8], none⟩])
 .ret))
def hints_ref1_Hash : List (Nat × List Nat) := []
def ac_ref1_Same_L0 : AC :=
 (.seq
 (.seq
 (.reg 20480 none [
 ⟨some 11, (.op .mov), [.tmp 5], none⟩,
 ⟨some 12, (.op .mov), [.tmp 0], none⟩,
 ⟨some 13, (.op .len), [.tmp 12], none⟩,
 ⟨some 14, (.op (.bin .lss)), [.tmp 11, .tmp 13], none⟩])
 (.cond (.tmp 14)
 .skip
 (.exit 0)))
 (.seq
 (.block 1
 (.seq
 (.reg 28672 (some [0, 0, 3, 7, 0, 0, 48, 112, 255]) [
 ⟨some 17, (.op .mov), [.tmp 0], none⟩,
 ⟨some 18, (.op .mov), [.tmp 5], none⟩,
 ⟨some 19, (.op (.iaddr 1)), [.tmp 17, .tmp 18], none⟩,
 ⟨some 20, (.op (.load 1 false)), [.tmp 19], none⟩,
 ⟨some 21, (.op .mov), [.tmp 1], none⟩,
 ⟨some 22, (.op .mov), [.tmp 5], none⟩,
 ⟨some 23, (.op (.iaddr 1)), [.tmp 21, .tmp 22], none⟩,
 ⟨some 24, (.op (.load 1 false)), [.tmp 23], none⟩,
 ⟨some 25, (.op (.bin .neq)), [.tmp 20, .tmp 24], none⟩])
 (.cond (.tmp 25)
 (.seq
 (.reg 32768 none [
 ⟨some 4, (.op .mov), [.cst (.t (.bool false))], none⟩])
 .ret)
 .skip)))
 (.reg 24576 none [
 ⟨some 15, (.op .mov), [.tmp 5], none⟩,
 ⟨some 16, (.op (.bin .add)), [.tmp 15, .cst (.t (.int .i64 1))], none⟩,
 ⟨some 5, (.op .mov), [.tmp 16], none⟩])))
def ac_ref1_Same : AC :=
 (.seq
 (.reg 4096 none [
 ⟨some 4, (.op .mov), [.cst (.t (.bool false))], none⟩])
 (.seq
 (.seq
 (.reg 8192 none [
 ⟨some 6, (.op .mov), [.tmp 0], none⟩,
 ⟨some 7, (.op .len), [.tmp 6], none⟩,
 ⟨some 8, (.op .mov), [.tmp 1], none⟩,
 ⟨some 9, (.op .len), [.tmp 8], none⟩,
 ⟨some 10, (.op (.bin .neq)), [.tmp 7, .tmp 9], none⟩])
 (.cond (.tmp 10)
 (.seq
 (.reg 12288 none [
 ⟨some 4, (.op .mov), [.cst (.t (.bool false))], none⟩])
 .ret)
 .skip))
 (.seq
 (.seq
 (.reg 16384 none [
 ⟨some 5, (.op .mov), [.cst (.t (.int .i64 0))], none⟩])
 (.block 0
 (.loop ac_ref1_Same_L0)))
 (.seq
 (.reg 36864 none [
 ⟨some 4, (.op .mov), [.cst (.t (.bool true))], none⟩])
 .ret))))
def hints_ref1_Same : List (Nat × List Nat) := []
def ac_ref1_Copy : AC :=
 (.seq
 (.reg 4096 none [
 ⟨some 2, (.op .mov), [.cst .nil], none⟩])
 (.seq
 (.reg 8192 none [
 ⟨some 3, (.op (.bslice 1 0 (.t (byteT 0)) [])), [], none⟩,
 ⟨some 4, (.op .mov), [.tmp 0], none⟩,
 ⟨some 5, (.op (.append 1 1)), [.tmp 3, .tmp 4], none⟩,
 ⟨some 2, (.op .mov), [.tmp 5], none⟩])
 .ret))
def hints_ref1_Copy : List (Nat × List Nat) := []
end Go.Eng
end
section
set_option maxRecDepth 20000
namespace Go.Eng
def padZ (n : Nat) : Nat := (119 - n % 64) % 64
def beL (n : Nat) (k : Nat) : List UInt8 := (List.range k).map fun i => UInt8.ofNat (n / 2 ^ (56 - 8 * i))
def padL (bs : List UInt8) : List UInt8 := bs ++ [128] ++ List.replicate (padZ bs.length) 0 ++ beL (bs.length * 8) 8
theorem beL_zero {n : Nat} : beL n 0 = [] := rfl
theorem beL_length {n k : Nat} : (beL n k).length = k := by simp [beL]
theorem beL_succ {n k : Nat} : beL n (k + 1) = beL n k ++ [UInt8.ofNat (n / 2 ^ (56 - 8 * k))] := by simp [beL, List.range_succ]
theorem w_digest_pad (tab : Tab) (gl : Gl) (bs : List UInt8) (hb : bs.length < 1000000000) : ac_digest_pad.wp tab gl (zipF 0 [.t (.sl (bs.map byteT))]) (zipF 0 []) (resF [] [(2, none)] 0 (fun r o => r = .sl 0 0 (padL bs).length ∧ o = [.live 1 (((padL bs).map byteT).map V.t) true false])) := by
  have hz : padZ bs.length = (119 - bs.length % 64) % 64 := rfl
  simp (config := { maxSteps := 2000000 }) (disch := (first | omega | (simp only [lens, lenm]; omega))) only [go_sem, ↓reduceIte, Nat.reduceAdd, Nat.reduceEqDiff, Nat.reduceSub, Nat.reduceMul, Nat.reduceLT, Nat.reduceLeDiff, Nat.reduceBEq, Int.reduceEq, Int.reduceLT, Int.reduceLE, Int.reduceToNat, Int.reduceNeg, Int.reduceAdd, Int.reduceSub, Int.reduceMul, Int.reduceMod, Int.reduceDiv, reduceCtorEq, Nat.reducePow, Int.reducePow, ac_digest_pad]
  refine loop_upto (padZ bs.length) (fun k => [(0, .t (.sl (bs.map byteT))), (3, .sl 8304 0 (bs.length + 1 + k))]) (fun k => [(8304, .live 1 (((bs ++ [128] ++ List.replicate k 0).map byteT).map V.t) true false)]) ?_ (fun k hk => ?_)
  · refine Weak.rd id ?_ ?_ rfl
    all_goals simp (config := { maxSteps := 2000000 }) (disch := (first | omega | (simp only [lens, lenm]; omega))) only [go_sem, ↓reduceIte, Nat.reduceAdd, Nat.reduceEqDiff, Nat.reduceSub, Nat.reduceMul, Nat.reduceLT, Nat.reduceLeDiff, Nat.reduceBEq, Int.reduceEq, Int.reduceLT, Int.reduceLE, Int.reduceToNat, Int.reduceNeg, Int.reduceAdd, Int.reduceSub, Int.reduceMul, Int.reduceMod, Int.reduceDiv, reduceCtorEq, Nat.reducePow, Int.reducePow, id]
  · by_cases hlt : k < padZ bs.length
    · simp (config := { maxSteps := 2000000 }) (disch := (first | omega | (simp only [lens, lenm]; omega))) only [go_sem, ↓reduceIte, Nat.reduceAdd, Nat.reduceEqDiff, Nat.reduceSub, Nat.reduceMul, Nat.reduceLT, Nat.reduceLeDiff, Nat.reduceBEq, Int.reduceEq, Int.reduceLT, Int.reduceLE, Int.reduceToNat, Int.reduceNeg, Int.reduceAdd, Int.reduceSub, Int.reduceMul, Int.reduceMod, Int.reduceDiv, reduceCtorEq, Nat.reducePow, Int.reducePow, ac_digest_pad_L0]
      refine ⟨hlt, Weak.rd (fun _ => 16416) ?_ ?_ rfl⟩
      all_goals simp (config := { maxSteps := 2000000 }) (disch := (first | omega | (simp only [lens, lenm]; omega))) only [go_sem, ↓reduceIte, Nat.reduceAdd, Nat.reduceEqDiff, Nat.reduceSub, Nat.reduceMul, Nat.reduceLT, Nat.reduceLeDiff, Nat.reduceBEq, Int.reduceEq, Int.reduceLT, Int.reduceLE, Int.reduceToNat, Int.reduceNeg, Int.reduceAdd, Int.reduceSub, Int.reduceMul, Int.reduceMod, Int.reduceDiv, reduceCtorEq, Nat.reducePow, Int.reducePow, List.replicate_succ', List.append_assoc, Nat.add_assoc]
    · have e : k = padZ bs.length := by omega
      subst e
      simp (config := { maxSteps := 2000000 }) (disch := (first | omega | (simp only [lens, lenm]; omega))) only [go_sem, ↓reduceIte, Nat.reduceAdd, Nat.reduceEqDiff, Nat.reduceSub, Nat.reduceMul, Nat.reduceLT, Nat.reduceLeDiff, Nat.reduceBEq, Int.reduceEq, Int.reduceLT, Int.reduceLE, Int.reduceToNat, Int.reduceNeg, Int.reduceAdd, Int.reduceSub, Int.reduceMul, Int.reduceMod, Int.reduceDiv, reduceCtorEq, Nat.reducePow, Int.reducePow, ac_digest_pad_L0]
      refine loop_upto 8 (fun k => [(3, .sl 8304 0 (bs.length + 1 + padZ bs.length + k)), (4, V.t (T.int IntKind.u64 (bs.length * 8 : Nat))), (5, .t (.int .i64 (56 - ((8 * k : Nat) : Int))))]) (fun k => [(8304, .live 1 (((bs ++ [128] ++ List.replicate (padZ bs.length) 0 ++ beL (bs.length * 8) k).map byteT).map V.t) true false)]) ?_ (fun k hk => ?_)
      · refine Weak.rd id ?_ ?_ rfl
        all_goals simp (config := { maxSteps := 2000000 }) (disch := (first | omega | (simp only [lens, lenm]; omega))) only [go_sem, ↓reduceIte, Nat.reduceAdd, Nat.reduceEqDiff, Nat.reduceSub, Nat.reduceMul, Nat.reduceLT, Nat.reduceLeDiff, Nat.reduceBEq, Int.reduceEq, Int.reduceLT, Int.reduceLE, Int.reduceToNat, Int.reduceNeg, Int.reduceAdd, Int.reduceSub, Int.reduceMul, Int.reduceMod, Int.reduceDiv, reduceCtorEq, Nat.reducePow, Int.reducePow, id, beL_zero, List.append_nil]
      · by_cases hlt : k < 8
        · simp (config := { maxSteps := 2000000 }) (disch := (first | omega | (simp only [lens, lenm]; omega))) only [go_sem, ↓reduceIte, Nat.reduceAdd, Nat.reduceEqDiff, Nat.reduceSub, Nat.reduceMul, Nat.reduceLT, Nat.reduceLeDiff, Nat.reduceBEq, Int.reduceEq, Int.reduceLT, Int.reduceLE, Int.reduceToNat, Int.reduceNeg, Int.reduceAdd, Int.reduceSub, Int.reduceMul, Int.reduceMod, Int.reduceDiv, reduceCtorEq, Nat.reducePow, Int.reducePow, ac_digest_pad_L1, beL_length]
          refine ⟨hlt, Weak.rd (fun _ => 36976) ?_ ?_ rfl⟩
          all_goals simp (config := { maxSteps := 2000000 }) (disch := (first | omega | (simp only [lens, lenm]; omega))) only [go_sem, ↓reduceIte, Nat.reduceAdd, Nat.reduceEqDiff, Nat.reduceSub, Nat.reduceMul, Nat.reduceLT, Nat.reduceLeDiff, Nat.reduceBEq, Int.reduceEq, Int.reduceLT, Int.reduceLE, Int.reduceToNat, Int.reduceNeg, Int.reduceAdd, Int.reduceSub, Int.reduceMul, Int.reduceMod, Int.reduceDiv, reduceCtorEq, Nat.reducePow, Int.reducePow, beL_succ, List.append_assoc, Nat.add_assoc]
          omega
        · have e : k = 8 := by omega
          subst e
          simp (config := { maxSteps := 2000000 }) (disch := (first | omega | (simp only [lens, lenm]; omega))) only [go_sem, ↓reduceIte, Nat.reduceAdd, Nat.reduceEqDiff, Nat.reduceSub, Nat.reduceMul, Nat.reduceLT, Nat.reduceLeDiff, Nat.reduceBEq, Int.reduceEq, Int.reduceLT, Int.reduceLE, Int.reduceToNat, Int.reduceNeg, Int.reduceAdd, Int.reduceSub, Int.reduceMul, Int.reduceMod, Int.reduceDiv, reduceCtorEq, Nat.reducePow, Int.reducePow, ac_digest_pad_L1, beL_length, padL]
theorem w_digest_Size (tab : Tab) (gl : Gl) (a : Int) : ac_digest_Size.wp tab gl (zipF 0 [.t (.int .i64 a)]) (zipF 0 []) (resW [(2, none)] 0 (fun r o => r = .t (.int .i64 (if a = 0 then 20 else if a = 1 then 32 else 0)) ∧ o = [])) := by
  by_cases h0 : a = 0
  · subst h0; simp (config := { maxSteps := 2000000 }) (disch := (first | omega | (simp only [lens, lenm]; omega))) only [go_sem, ↓reduceIte, Nat.reduceAdd, Nat.reduceEqDiff, Nat.reduceSub, Nat.reduceMul, Nat.reduceLT, Nat.reduceLeDiff, Nat.reduceBEq, Int.reduceEq, Int.reduceLT, Int.reduceLE, Int.reduceToNat, Int.reduceNeg, Int.reduceAdd, Int.reduceSub, Int.reduceMul, Int.reduceMod, Int.reduceDiv, reduceCtorEq, Nat.reducePow, Int.reducePow, ac_digest_Size]
  · by_cases h1 : a = 1
    · subst h1; simp (config := { maxSteps := 2000000 }) (disch := (first | omega | (simp only [lens, lenm]; omega))) only [go_sem, ↓reduceIte, Nat.reduceAdd, Nat.reduceEqDiff, Nat.reduceSub, Nat.reduceMul, Nat.reduceLT, Nat.reduceLeDiff, Nat.reduceBEq, Int.reduceEq, Int.reduceLT, Int.reduceLE, Int.reduceToNat, Int.reduceNeg, Int.reduceAdd, Int.reduceSub, Int.reduceMul, Int.reduceMod, Int.reduceDiv, reduceCtorEq, Nat.reducePow, Int.reducePow, ac_digest_Size]
    · simp (config := { maxSteps := 2000000 }) (disch := (first | omega | (simp only [lens, lenm]; omega))) only [go_sem, ↓reduceIte, Nat.reduceAdd, Nat.reduceEqDiff, Nat.reduceSub, Nat.reduceMul, Nat.reduceLT, Nat.reduceLeDiff, Nat.reduceBEq, Int.reduceEq, Int.reduceLT, Int.reduceLE, Int.reduceToNat, Int.reduceNeg, Int.reduceAdd, Int.reduceSub, Int.reduceMul, Int.reduceMod, Int.reduceDiv, reduceCtorEq, Nat.reducePow, Int.reducePow, ac_digest_Size, h0, h1]
theorem w_ref1_Size (tab : Tab) (gl : Gl) (a : Int) : ac_ref1_Size.wp tab gl (zipF 0 [.t (.int .i64 a)]) (zipF 0 []) (resW [(2, none)] 0 (fun r o => r = .t (.int .i64 (if a = 0 then 20 else if a = 1 then 32 else 0)) ∧ o = [])) := by
  by_cases h0 : a = 0
  · subst h0; simp (config := { maxSteps := 2000000 }) (disch := (first | omega | (simp only [lens, lenm]; omega))) only [go_sem, ↓reduceIte, Nat.reduceAdd, Nat.reduceEqDiff, Nat.reduceSub, Nat.reduceMul, Nat.reduceLT, Nat.reduceLeDiff, Nat.reduceBEq, Int.reduceEq, Int.reduceLT, Int.reduceLE, Int.reduceToNat, Int.reduceNeg, Int.reduceAdd, Int.reduceSub, Int.reduceMul, Int.reduceMod, Int.reduceDiv, reduceCtorEq, Nat.reducePow, Int.reducePow, ac_ref1_Size]
  · by_cases h1 : a = 1
    · subst h1; simp (config := { maxSteps := 2000000 }) (disch := (first | omega | (simp only [lens, lenm]; omega))) only [go_sem, ↓reduceIte, Nat.reduceAdd, Nat.reduceEqDiff, Nat.reduceSub, Nat.reduceMul, Nat.reduceLT, Nat.reduceLeDiff, Nat.reduceBEq, Int.reduceEq, Int.reduceLT, Int.reduceLE, Int.reduceToNat, Int.reduceNeg, Int.reduceAdd, Int.reduceSub, Int.reduceMul, Int.reduceMod, Int.reduceDiv, reduceCtorEq, Nat.reducePow, Int.reducePow, ac_ref1_Size]
    · simp (config := { maxSteps := 2000000 }) (disch := (first | omega | (simp only [lens, lenm]; omega))) only [go_sem, ↓reduceIte, Nat.reduceAdd, Nat.reduceEqDiff, Nat.reduceSub, Nat.reduceMul, Nat.reduceLT, Nat.reduceLeDiff, Nat.reduceBEq, Int.reduceEq, Int.reduceLT, Int.reduceLE, Int.reduceToNat, Int.reduceNeg, Int.reduceAdd, Int.reduceSub, Int.reduceMul, Int.reduceMod, Int.reduceDiv, reduceCtorEq, Nat.reducePow, Int.reducePow, ac_ref1_Size, h0, h1]
def wordOf (bs : List UInt8) (i : Nat) : UInt32 := (bs.getD (4 * i) 0).toUInt32 <<< 24 ||| (bs.getD (4 * i + 1) 0).toUInt32 <<< 16 ||| (bs.getD (4 * i + 2) 0).toUInt32 <<< 8 ||| (bs.getD (4 * i + 3) 0).toUInt32
theorem w_digest_word (tab : Tab) (gl : Gl) (bs : List UInt8) (i : Nat) (hi : 4 * i + 3 < bs.length) (hb : bs.length < 1000000000) : ac_digest_word.wp tab gl (zipF 0 [.t (.sl (bs.map byteT)), .t (.int .i64 i)]) (zipF 0 []) (resW [(4, none)] 0 (fun r o => r = .t (u32T (wordOf bs i)) ∧ o = [])) := by
  simp (config := { maxSteps := 2000000 }) (disch := (first | omega | (simp only [lens, lenm]; omega))) only [go_sem, ↓reduceIte, Nat.reduceAdd, Nat.reduceEqDiff, Nat.reduceSub, Nat.reduceMul, Nat.reduceLT, Nat.reduceLeDiff, Nat.reduceBEq, Int.reduceEq, Int.reduceLT, Int.reduceLE, Int.reduceToNat, Int.reduceNeg, Int.reduceAdd, Int.reduceSub, Int.reduceMul, Int.reduceMod, Int.reduceDiv, reduceCtorEq, Nat.reducePow, Int.reducePow, ac_digest_word]
  exact ⟨rfl, rfl⟩
theorem w_ref1_word (tab : Tab) (gl : Gl) (bs : List UInt8) (i : Nat) (hi : 4 * i + 3 < bs.length) (hb : bs.length < 1000000000) : ac_ref1_word.wp tab gl (zipF 0 [.t (.sl (bs.map byteT)), .t (.int .i64 i)]) (zipF 0 []) (resW [(4, none)] 0 (fun r o => r = .t (u32T (wordOf bs i)) ∧ o = [])) := by
  simp (config := { maxSteps := 2000000 }) (disch := (first | omega | (simp only [lens, lenm]; omega))) only [go_sem, ↓reduceIte, Nat.reduceAdd, Nat.reduceEqDiff, Nat.reduceSub, Nat.reduceMul, Nat.reduceLT, Nat.reduceLeDiff, Nat.reduceBEq, Int.reduceEq, Int.reduceLT, Int.reduceLE, Int.reduceToNat, Int.reduceNeg, Int.reduceAdd, Int.reduceSub, Int.reduceMul, Int.reduceMod, Int.reduceDiv, reduceCtorEq, Nat.reducePow, Int.reducePow, ac_ref1_word]
  exact ⟨rfl, rfl⟩
def rotr (x : UInt32) (n : Nat) : UInt32 := x >>> UInt32.ofNat n ||| x <<< UInt32.ofNat (32 - n)
theorem w_ref1_rotr (tab : Tab) (gl : Gl) (x : UInt32) (n : Nat) (h : 0 < n ∧ n < 32) : ac_ref1_rotr.wp tab gl (zipF 0 [.t (u32T x), .t (.int .u64 n)]) (zipF 0 []) (resW [(4, none)] 0 (fun r o => r = .t (u32T (rotr x n)) ∧ o = [])) := by
  simp (config := { maxSteps := 2000000 }) (disch := (first | omega | (simp only [lens, lenm]; omega))) only [go_sem, ↓reduceIte, Nat.reduceAdd, Nat.reduceEqDiff, Nat.reduceSub, Nat.reduceMul, Nat.reduceLT, Nat.reduceLeDiff, Nat.reduceBEq, Int.reduceEq, Int.reduceLT, Int.reduceLE, Int.reduceToNat, Int.reduceNeg, Int.reduceAdd, Int.reduceSub, Int.reduceMul, Int.reduceMod, Int.reduceDiv, reduceCtorEq, Nat.reducePow, Int.reducePow, ac_ref1_rotr]
  rfl
theorem w_ref1_rotl (tab : Tab) (gl : Gl) (x : UInt32) (n : Nat) (h : 0 < n ∧ n < 32) : ac_ref1_rotl.wp tab gl (zipF 0 [.t (u32T x), .t (.int .u64 n)]) (zipF 0 []) (resW [(4, none)] 0 (fun r o => r = .t (u32T (rotr x (32 - n))) ∧ o = [])) := by
  simp (config := { maxSteps := 2000000 }) (disch := (first | omega | (simp only [lens, lenm]; omega))) only [go_sem, ↓reduceIte, Nat.reduceAdd, Nat.reduceEqDiff, Nat.reduceSub, Nat.reduceMul, Nat.reduceLT, Nat.reduceLeDiff, Nat.reduceBEq, Int.reduceEq, Int.reduceLT, Int.reduceLE, Int.reduceToNat, Int.reduceNeg, Int.reduceAdd, Int.reduceSub, Int.reduceMul, Int.reduceMod, Int.reduceDiv, reduceCtorEq, Nat.reducePow, Int.reducePow, ac_ref1_rotl]
  rw [rotr, UInt32.or_comm, show 32 - (32 - n) = n by omega]
theorem w_bits_RotateLeft32 (tab : Tab) (gl : Gl) (x : UInt32) (n : Int) (h : -32 < n ∧ n < 32 ∧ n ≠ 0) : ac_bits_RotateLeft32.wp tab gl (zipF 0 [.t (u32T x), .t (.int .i64 n)]) (zipF 0 []) (resW [(4, none)] 0 (fun r o => r = .t (u32T (rotr x ((32 - n) % 32).toNat)) ∧ o = [])) := by
  have e : IntKind.u64.wrap n % 32 = ((32 - (32 - n).toNat % 32 : Nat) : Int) := by rw [wrap_u64]; omega
  have e2 : ((32 - n) % 32).toNat = (32 - n).toNat % 32 := by omega
  have e3 : 32 - (32 - (32 - n).toNat % 32) = (32 - n).toNat % 32 := by omega
  simp (config := { maxSteps := 2000000 }) (disch := (first | omega | (simp only [lens, lenm]; omega))) only [go_sem, ↓reduceIte, Nat.reduceAdd, Nat.reduceEqDiff, Nat.reduceSub, Nat.reduceMul, Nat.reduceLT, Nat.reduceLeDiff, Nat.reduceBEq, Int.reduceEq, Int.reduceLT, Int.reduceLE, Int.reduceToNat, Int.reduceNeg, Int.reduceAdd, Int.reduceSub, Int.reduceMul, Int.reduceMod, Int.reduceDiv, reduceCtorEq, Nat.reducePow, Int.reducePow, ac_bits_RotateLeft32, e, e2, e3]
  rw [rotr, UInt32.or_comm]
def spread1 (w : UInt32) : List UInt8 := [(w >>> 24).toUInt8, (w >>> 16).toUInt8, (w >>> 8).toUInt8, w.toUInt8]
def spreadL (ws : List UInt32) : List UInt8 := ws.flatMap spread1
theorem spreadL_length (ws : List UInt32) : (spreadL ws).length = 4 * ws.length := by
  induction ws with
  | nil => rfl
  | cons w r ih => simp only [spreadL, List.flatMap_cons, List.length_append] at *; rw [ih]; simp [spread1]; omega
theorem spreadL_take {ws : List UInt32} {k : Nat} (h : k < ws.length) : spreadL (ws.take (k + 1)) = spreadL (ws.take k) ++ spread1 (ws.getD k 0) := by
  rw [take_s (d := 0) h]; simp [spreadL]
theorem w_digest_spread (tab : Tab) (gl : Gl) (ws : List UInt32) (hb : ws.length < 1000000000) : ac_digest_spread.wp tab gl (zipF 0 [.t (.sl (ws.map u32T))]) (zipF 0 []) (resF [] [(2, none)] 0 (fun r o => r = .sl 0 0 (4 * ws.length) ∧ o = [.live 1 (((spreadL ws).map byteT).map V.t) true false])) := by
  simp (config := { maxSteps := 2000000 }) (disch := (first | omega | (simp only [lens, lenm]; omega))) only [go_sem, ↓reduceIte, Nat.reduceAdd, Nat.reduceEqDiff, Nat.reduceSub, Nat.reduceMul, Nat.reduceLT, Nat.reduceLeDiff, Nat.reduceBEq, Int.reduceEq, Int.reduceLT, Int.reduceLE, Int.reduceToNat, Int.reduceNeg, Int.reduceAdd, Int.reduceSub, Int.reduceMul, Int.reduceMod, Int.reduceDiv, reduceCtorEq, Nat.reducePow, Int.reducePow, ac_digest_spread]
  refine loop_upto ws.length (fun k => [(3, .sl 8240 0 (4 * k)), (10, .t (.sl (ws.map u32T))), (11, .t (.int .i64 ws.length)), (12, .t (.int .i64 k))]) (fun k => [(8240, .live 1 (((spreadL (ws.take k)).map byteT).map V.t) true false)]) ?_ (fun k hk => ?_)
  · refine Weak.rd id ?_ ?_ rfl
    all_goals simp (config := { maxSteps := 2000000 }) (disch := (first | omega | (simp only [lens, lenm]; omega))) only [go_sem, ↓reduceIte, Nat.reduceAdd, Nat.reduceEqDiff, Nat.reduceSub, Nat.reduceMul, Nat.reduceLT, Nat.reduceLeDiff, Nat.reduceBEq, Int.reduceEq, Int.reduceLT, Int.reduceLE, Int.reduceToNat, Int.reduceNeg, Int.reduceAdd, Int.reduceSub, Int.reduceMul, Int.reduceMod, Int.reduceDiv, reduceCtorEq, Nat.reducePow, Int.reducePow, id, spreadL, List.flatMap_nil, List.map_nil]
  · have hl : (spreadL (ws.take k)).length = 4 * k := by rw [spreadL_length, List.length_take]; omega
    by_cases hlt : k < ws.length
    · simp (config := { maxSteps := 2000000 }) (disch := (first | omega | (simp only [lens, lenm]; omega))) only [go_sem, ↓reduceIte, Nat.reduceAdd, Nat.reduceEqDiff, Nat.reduceSub, Nat.reduceMul, Nat.reduceLT, Nat.reduceLeDiff, Nat.reduceBEq, Int.reduceEq, Int.reduceLT, Int.reduceLE, Int.reduceToNat, Int.reduceNeg, Int.reduceAdd, Int.reduceSub, Int.reduceMul, Int.reduceMod, Int.reduceDiv, reduceCtorEq, Nat.reducePow, Int.reducePow, ac_digest_spread_L0, hl]
      refine ⟨hlt, Weak.rd (fun _ => 24784) ?_ ?_ rfl⟩
      all_goals simp (config := { maxSteps := 2000000 }) (disch := (first | omega | (simp only [lens, lenm]; omega))) only [go_sem, ↓reduceIte, Nat.reduceAdd, Nat.reduceEqDiff, Nat.reduceSub, Nat.reduceMul, Nat.reduceLT, Nat.reduceLeDiff, Nat.reduceBEq, Int.reduceEq, Int.reduceLT, Int.reduceLE, Int.reduceToNat, Int.reduceNeg, Int.reduceAdd, Int.reduceSub, Int.reduceMul, Int.reduceMod, Int.reduceDiv, reduceCtorEq, Nat.reducePow, Int.reducePow, spreadL_take, spread1]
      · omega
      · simp only [List.append_assoc, List.cons_append, List.nil_append]; rfl
    · have e : k = ws.length := by omega
      subst e
      rw [List.take_length] at hl
      simp (config := { maxSteps := 2000000 }) (disch := (first | omega | (simp only [lens, lenm]; omega))) only [go_sem, ↓reduceIte, Nat.reduceAdd, Nat.reduceEqDiff, Nat.reduceSub, Nat.reduceMul, Nat.reduceLT, Nat.reduceLeDiff, Nat.reduceBEq, Int.reduceEq, Int.reduceLT, Int.reduceLE, Int.reduceToNat, Int.reduceNeg, Int.reduceAdd, Int.reduceSub, Int.reduceMul, Int.reduceMod, Int.reduceDiv, reduceCtorEq, Nat.reducePow, Int.reducePow, ac_digest_spread_L0, hl, List.take_length]
end Go.Eng
end
section
set_option maxRecDepth 20000
set_option maxHeartbeats 4000000
namespace Go.Eng
def sig0 (x : UInt32) : UInt32 := rotr x 7 ^^^ rotr x 18 ^^^ x >>> 3
def sig1 (x : UInt32) : UInt32 := rotr x 17 ^^^ rotr x 19 ^^^ x >>> 10
def sched (bs : List UInt8) : Nat → List UInt32
  | 0 => List.replicate 64 0
  | t + 1 => let w := sched bs t
    w.set t (if t < 16 then wordOf bs t else sig1 (w.getD (t - 2) 0) + w.getD (t - 7) 0 + sig0 (w.getD (t - 15) 0) + w.getD (t - 16) 0)
theorem sched_length {bs : List UInt8} {t : Nat} : (sched bs t).length = 64 := by
  induction t with
  | zero => rfl
  | succ t ih => simp only [sched, List.length_set, ih]
def ct_word : Ct where
  α := List UInt8 × Nat
  as x := [.t (.sl (x.1.map byteT)), .t (.int .i64 x.2)]
  ins _ := []
  pre x := 4 * x.2 + 3 < x.1.length ∧ x.1.length < 1000000000
  r x := .t (u32T (wordOf x.1 x.2))
  outs _ := []
  inj := by
    rintro ⟨a, b⟩ ⟨c, d⟩ h _
    simp [mapB_inj, Int.natCast_inj] at h
    obtain ⟨rfl, rfl⟩ := h
    exact ⟨rfl, rfl⟩
theorem word_eq {bs : List UInt8} {i : Nat} (h : 4 * i + 3 < bs.length ∧ bs.length < 1000000000) : ct_word.fs [.t (.sl (bs.map byteT)), .t (.int .i64 i)] [] = some (.t (u32T (wordOf bs i)), []) := ct_word.eq (bs, i) h
def ct_rotl : Ct where
  α := UInt32 × Int
  as x := [.t (u32T x.1), .t (.int .i64 x.2)]
  ins _ := []
  pre x := -32 < x.2 ∧ x.2 < 32 ∧ x.2 ≠ 0
  r x := .t (u32T (rotr x.1 ((32 - x.2) % 32).toNat))
  outs _ := []
  inj := by
    rintro ⟨a, b⟩ ⟨c, d⟩ h _
    simp [u32T_eq] at h
    obtain ⟨rfl, rfl⟩ := h
    exact ⟨rfl, rfl⟩
theorem rotl_eq {x : UInt32} {i : Int} (h : -32 < i ∧ i < 32 ∧ i ≠ 0) : ct_rotl.fs [.t (u32T x), .t (.int .i64 i)] [] = some (.t (u32T (rotr x ((32 - i) % 32).toNat)), []) := ct_rotl.eq (x, i) h
def k256 : List UInt32 := [0x428a2f98, 0x71374491, 0xb5c0fbcf, 0xe9b5dba5, 0x3956c25b, 0x59f111f1, 0x923f82a4, 0xab1c5ed5, 0xd807aa98, 0x12835b01, 0x243185be, 0x550c7dc3, 0x72be5d74, 0x80deb1fe, 0x9bdc06a7, 0xc19bf174, 0xe49b69c1, 0xefbe4786, 0x0fc19dc6, 0x240ca1cc, 0x2de92c6f, 0x4a7484aa, 0x5cb0a9dc, 0x76f988da, 0x983e5152, 0xa831c66d, 0xb00327c8, 0xbf597fc7, 0xc6e00bf3, 0xd5a79147, 0x06ca6351, 0x14292967, 0x27b70a85, 0x2e1b2138, 0x4d2c6dfc, 0x53380d13, 0x650a7354, 0x766a0abb, 0x81c2c92e, 0x92722c85, 0xa2bfe8a1, 0xa81a664b, 0xc24b8b70, 0xc76c51a3, 0xd192e819, 0xd6990624, 0xf40e3585, 0x106aa070, 0x19a4c116, 0x1e376c08, 0x2748774c, 0x34b0bcb5, 0x391c0cb3, 0x4ed8aa4a, 0x5b9cca4f, 0x682e6ff3, 0x748f82ee, 0x78a5636f, 0x84c87814, 0x8cc70208, 0x90befffa, 0xa4506ceb, 0xbef9a3f7, 0xc67178f2]
def rnd (k w : UInt32) (s : List UInt32) : List UInt32 :=
  let a := s.getD 0 0
  let e := s.getD 4 0
  let t1 := s.getD 7 0 + (rotr e 6 ^^^ rotr e 11 ^^^ rotr e 25) + ((e &&& s.getD 5 0) ^^^ (~~~e &&& s.getD 6 0)) + k + w
  let t2 := (rotr a 2 ^^^ rotr a 13 ^^^ rotr a 22) + ((a &&& s.getD 1 0) ^^^ (a &&& s.getD 2 0) ^^^ (s.getD 1 0 &&& s.getD 2 0))
  [t1 + t2, s.getD 0 0, s.getD 1 0, s.getD 2 0, s.getD 3 0 + t1, s.getD 4 0, s.getD 5 0, s.getD 6 0]
def rounds (ws hs : List UInt32) : Nat → List UInt32
  | 0 => hs
  | t + 1 => rnd (k256.getD t 0) (ws.getD t 0) (rounds ws hs t)
theorem rounds_length {ws hs : List UInt32} {t : Nat} (h : hs.length = 8) : (rounds ws hs t).length = 8 := by
  cases t with
  | zero => exact h
  | succ t => rfl
def addW (hs s : List UInt32) : Nat → List UInt32
  | 0 => hs
  | i + 1 => (addW hs s i).set i ((addW hs s i).getD i 0 + s.getD i 0)
theorem addW_length {hs s : List UInt32} {i : Nat} : (addW hs s i).length = hs.length := by
  induction i with
  | zero => rfl
  | succ i ih => simp only [addW, List.length_set, ih]
def comp256 (hs : List UInt32) (bs : List UInt8) : List UInt32 := addW hs (rounds (sched bs 64) hs 64) 8
theorem w_digest_compress256 (tab : Tab) (gl : Gl) (n1 n2 g : Nat) (h1 : tab.look n1 = some ct_word.fs) (h2 : tab.look n2 = some ct_rotl.fs) (hg : gl g = some (k256.map u32T)) (bs : List UInt8) (hs : List UInt32) (hb : bs.length = 64) (hh : hs.length = 8) :
    (ac_digest_compress256 n1 n2 g).wp tab gl (zipF 0 [.ref 0 0 0, .t (.sl (bs.map byteT))]) (zipF 0 [.live 1 ((hs.map u32T).map V.t) true true]) (resW [] 1 (fun r o => r = .tup [] ∧ o = [.live 1 (((comp256 hs bs).map u32T).map V.t) true true])) := by
  have ht : hs.take 8 = hs := List.take_of_length_le (by omega)
  simp (config := { maxSteps := 2000000 }) (disch := (first | omega | (simp only [lens, lenm]; omega))) only [go_sem, ↓reduceIte, Nat.reduceAdd, Nat.reduceEqDiff, Nat.reduceSub, Nat.reduceMul, Nat.reduceLT, Nat.reduceLeDiff, Nat.reduceBEq, Int.reduceEq, Int.reduceLT, Int.reduceLE, Int.reduceToNat, Int.reduceNeg, Int.reduceAdd, Int.reduceSub, Int.reduceMul, Int.reduceMod, Int.reduceDiv, reduceCtorEq, Nat.reducePow, Int.reducePow, ac_digest_compress256]
  refine loop_upto 64 (fun k => [(17, .t (.int .i64 k)), (4, .ref 4096 0 0), (0, .ref 0 0 0), (1, V.t (T.sl (List.map byteT bs)))]) (fun k => [(4096, .live 1 (((sched bs k).map u32T).map V.t) true true), (0, .live 1 ((hs.map u32T).map V.t) true true)]) ?_ (fun k hk => ?_)
  · refine Weak.rd id ?_ ?_ rfl
    all_goals simp (config := { maxSteps := 2000000 }) (disch := (first | omega | (simp only [lens, lenm]; omega))) only [go_sem, ↓reduceIte, Nat.reduceAdd, Nat.reduceEqDiff, Nat.reduceSub, Nat.reduceMul, Nat.reduceLT, Nat.reduceLeDiff, Nat.reduceBEq, Int.reduceEq, Int.reduceLT, Int.reduceLE, Int.reduceToNat, Int.reduceNeg, Int.reduceAdd, Int.reduceSub, Int.reduceMul, Int.reduceMod, Int.reduceDiv, reduceCtorEq, Nat.reducePow, Int.reducePow, id, sched]
  · have hl : (sched bs k).length = 64 := sched_length
    by_cases hlt : k < 64
    · by_cases h16 : k < 16
      · simp (config := { maxSteps := 2000000 }) (disch := (first | omega | (simp only [lens, lenm]; omega))) only [go_sem, ↓reduceIte, Nat.reduceAdd, Nat.reduceEqDiff, Nat.reduceSub, Nat.reduceMul, Nat.reduceLT, Nat.reduceLeDiff, Nat.reduceBEq, Int.reduceEq, Int.reduceLT, Int.reduceLE, Int.reduceToNat, Int.reduceNeg, Int.reduceAdd, Int.reduceSub, Int.reduceMul, Int.reduceMod, Int.reduceDiv, reduceCtorEq, Nat.reducePow, Int.reducePow, ac_digest_compress256_L0, h1, h2, word_eq, hl]
        refine ⟨hlt, Weak.rd id ?_ ?_ rfl⟩
        all_goals simp (config := { maxSteps := 2000000 }) (disch := (first | omega | (simp only [lens, lenm]; omega))) only [go_sem, ↓reduceIte, Nat.reduceAdd, Nat.reduceEqDiff, Nat.reduceSub, Nat.reduceMul, Nat.reduceLT, Nat.reduceLeDiff, Nat.reduceBEq, Int.reduceEq, Int.reduceLT, Int.reduceLE, Int.reduceToNat, Int.reduceNeg, Int.reduceAdd, Int.reduceSub, Int.reduceMul, Int.reduceMod, Int.reduceDiv, reduceCtorEq, Nat.reducePow, Int.reducePow, id, sched, if_pos h16]
      · simp (config := { maxSteps := 2000000 }) (disch := (first | omega | (simp only [lens, lenm]; omega))) only [go_sem, ↓reduceIte, Nat.reduceAdd, Nat.reduceEqDiff, Nat.reduceSub, Nat.reduceMul, Nat.reduceLT, Nat.reduceLeDiff, Nat.reduceBEq, Int.reduceEq, Int.reduceLT, Int.reduceLE, Int.reduceToNat, Int.reduceNeg, Int.reduceAdd, Int.reduceSub, Int.reduceMul, Int.reduceMod, Int.reduceDiv, reduceCtorEq, Nat.reducePow, Int.reducePow, ac_digest_compress256_L0, h1, h2, rotl_eq, hl]
        refine ⟨rfl, rfl, hlt, Weak.rd id ?_ ?_ rfl⟩
        all_goals simp (config := { maxSteps := 2000000 }) (disch := (first | omega | (simp only [lens, lenm]; omega))) only [go_sem, ↓reduceIte, Nat.reduceAdd, Nat.reduceEqDiff, Nat.reduceSub, Nat.reduceMul, Nat.reduceLT, Nat.reduceLeDiff, Nat.reduceBEq, Int.reduceEq, Int.reduceLT, Int.reduceLE, Int.reduceToNat, Int.reduceNeg, Int.reduceAdd, Int.reduceSub, Int.reduceMul, Int.reduceMod, Int.reduceDiv, reduceCtorEq, Nat.reducePow, Int.reducePow, id, sched, if_neg h16]
        rfl
    · have e : k = 64 := by omega
      subst e
      simp (config := { maxSteps := 2000000 }) (disch := (first | omega | (simp only [lens, lenm]; omega))) only [go_sem, ↓reduceIte, Nat.reduceAdd, Nat.reduceEqDiff, Nat.reduceSub, Nat.reduceMul, Nat.reduceLT, Nat.reduceLeDiff, Nat.reduceBEq, Int.reduceEq, Int.reduceLT, Int.reduceLE, Int.reduceToNat, Int.reduceNeg, Int.reduceAdd, Int.reduceSub, Int.reduceMul, Int.reduceMod, Int.reduceDiv, reduceCtorEq, Nat.reducePow, Int.reducePow, ac_digest_compress256_L0, ht, hh]
      refine loop_upto 64 (fun k => [(70, .t (.int .i64 k)), (4, .ref 4096 0 0), (0, .ref 0 0 0), (10, .ref 49200 0 0)]) (fun k => [(49200, .live 1 (((rounds (sched bs 64) hs k).map u32T).map V.t) true true), (4096, .live 1 (((sched bs 64).map u32T).map V.t) true true), (0, .live 1 ((hs.map u32T).map V.t) true true)]) ?_ (fun k hk => ?_)
      · refine Weak.rd id ?_ ?_ rfl
        all_goals simp (config := { maxSteps := 2000000 }) (disch := (first | omega | (simp only [lens, lenm]; omega))) only [go_sem, ↓reduceIte, Nat.reduceAdd, Nat.reduceEqDiff, Nat.reduceSub, Nat.reduceMul, Nat.reduceLT, Nat.reduceLeDiff, Nat.reduceBEq, Int.reduceEq, Int.reduceLT, Int.reduceLE, Int.reduceToNat, Int.reduceNeg, Int.reduceAdd, Int.reduceSub, Int.reduceMul, Int.reduceMod, Int.reduceDiv, reduceCtorEq, Nat.reducePow, Int.reducePow, id, rounds]
      · have hl2 : (rounds (sched bs 64) hs k).length = 8 := rounds_length hh
        by_cases hlt : k < 64
        · have hk2 : k256.length = 64 := rfl
          simp (config := { maxSteps := 2000000 }) (disch := (first | omega | (simp only [lens, lenm]; omega))) only [go_sem, ↓reduceIte, Nat.reduceAdd, Nat.reduceEqDiff, Nat.reduceSub, Nat.reduceMul, Nat.reduceLT, Nat.reduceLeDiff, Nat.reduceBEq, Int.reduceEq, Int.reduceLT, Int.reduceLE, Int.reduceToNat, Int.reduceNeg, Int.reduceAdd, Int.reduceSub, Int.reduceMul, Int.reduceMod, Int.reduceDiv, reduceCtorEq, Nat.reducePow, Int.reducePow, ac_digest_compress256_L1, h1, h2, rotl_eq, hl, hl2, hg, hk2]
          repeat refine And.intro rfl ?_
          refine ⟨hlt, Weak.rd id ?_ ?_ rfl⟩
          all_goals simp (config := { maxSteps := 2000000 }) (disch := (first | omega | (simp only [lens, lenm]; omega))) only [go_sem, ↓reduceIte, Nat.reduceAdd, Nat.reduceEqDiff, Nat.reduceSub, Nat.reduceMul, Nat.reduceLT, Nat.reduceLeDiff, Nat.reduceBEq, Int.reduceEq, Int.reduceLT, Int.reduceLE, Int.reduceToNat, Int.reduceNeg, Int.reduceAdd, Int.reduceSub, Int.reduceMul, Int.reduceMod, Int.reduceDiv, reduceCtorEq, Nat.reducePow, Int.reducePow, id, rounds, rnd, List.drop_eq_nil_of_le (show (rounds (sched bs 64) hs k).length ≤ 8 by omega)]
        · have e : k = 64 := by omega
          subst e
          simp (config := { maxSteps := 2000000 }) (disch := (first | omega | (simp only [lens, lenm]; omega))) only [go_sem, ↓reduceIte, Nat.reduceAdd, Nat.reduceEqDiff, Nat.reduceSub, Nat.reduceMul, Nat.reduceLT, Nat.reduceLeDiff, Nat.reduceBEq, Int.reduceEq, Int.reduceLT, Int.reduceLE, Int.reduceToNat, Int.reduceNeg, Int.reduceAdd, Int.reduceSub, Int.reduceMul, Int.reduceMod, Int.reduceDiv, reduceCtorEq, Nat.reducePow, Int.reducePow, ac_digest_compress256_L1]
          refine loop_upto 8 (fun k => [(152, .t (.int .i64 k)), (0, .ref 0 0 0), (10, .ref 49200 0 0)]) (fun k => [(49200, .live 1 (((rounds (sched bs 64) hs 64).map u32T).map V.t) true true), (0, .live 1 (((addW hs (rounds (sched bs 64) hs 64) k).map u32T).map V.t) true true)]) ?_ (fun k hk => ?_)
          · refine Weak.rd id ?_ ?_ rfl
            all_goals simp (config := { maxSteps := 2000000 }) (disch := (first | omega | (simp only [lens, lenm]; omega))) only [go_sem, ↓reduceIte, Nat.reduceAdd, Nat.reduceEqDiff, Nat.reduceSub, Nat.reduceMul, Nat.reduceLT, Nat.reduceLeDiff, Nat.reduceBEq, Int.reduceEq, Int.reduceLT, Int.reduceLE, Int.reduceToNat, Int.reduceNeg, Int.reduceAdd, Int.reduceSub, Int.reduceMul, Int.reduceMod, Int.reduceDiv, reduceCtorEq, Nat.reducePow, Int.reducePow, id, addW]
          · have hl3 : (addW hs (rounds (sched bs 64) hs 64) k).length = 8 := by rw [addW_length, hh]
            by_cases hlt : k < 8
            · simp (config := { maxSteps := 2000000 }) (disch := (first | omega | (simp only [lens, lenm]; omega))) only [go_sem, ↓reduceIte, Nat.reduceAdd, Nat.reduceEqDiff, Nat.reduceSub, Nat.reduceMul, Nat.reduceLT, Nat.reduceLeDiff, Nat.reduceBEq, Int.reduceEq, Int.reduceLT, Int.reduceLE, Int.reduceToNat, Int.reduceNeg, Int.reduceAdd, Int.reduceSub, Int.reduceMul, Int.reduceMod, Int.reduceDiv, reduceCtorEq, Nat.reducePow, Int.reducePow, ac_digest_compress256_L2, hl2, hl3]
              refine ⟨rfl, hlt, Weak.rd id ?_ ?_ rfl⟩
              all_goals simp (config := { maxSteps := 2000000 }) (disch := (first | omega | (simp only [lens, lenm]; omega))) only [go_sem, ↓reduceIte, Nat.reduceAdd, Nat.reduceEqDiff, Nat.reduceSub, Nat.reduceMul, Nat.reduceLT, Nat.reduceLeDiff, Nat.reduceBEq, Int.reduceEq, Int.reduceLT, Int.reduceLE, Int.reduceToNat, Int.reduceNeg, Int.reduceAdd, Int.reduceSub, Int.reduceMul, Int.reduceMod, Int.reduceDiv, reduceCtorEq, Nat.reducePow, Int.reducePow, id, addW]
            · have e : k = 8 := by omega
              subst e
              simp (config := { maxSteps := 2000000 }) (disch := (first | omega | (simp only [lens, lenm]; omega))) only [go_sem, ↓reduceIte, Nat.reduceAdd, Nat.reduceEqDiff, Nat.reduceSub, Nat.reduceMul, Nat.reduceLT, Nat.reduceLeDiff, Nat.reduceBEq, Int.reduceEq, Int.reduceLT, Int.reduceLE, Int.reduceToNat, Int.reduceNeg, Int.reduceAdd, Int.reduceSub, Int.reduceMul, Int.reduceMod, Int.reduceDiv, reduceCtorEq, Nat.reducePow, Int.reducePow, ac_digest_compress256_L2, comp256]
end Go.Eng
end
section
set_option maxRecDepth 20000
set_option maxHeartbeats 4000000
namespace Go.Eng
theorem padL_length (bs : List UInt8) : (padL bs).length = bs.length + 1 + padZ bs.length + 8 := by
  simp only [padL, List.length_append, List.length_replicate, beL_length, List.length_cons, List.length_nil]
theorem padL_mod (bs : List UInt8) : (padL bs).length % 64 = 0 := by
  rw [padL_length, padZ]; omega
def hN (comp : List UInt32 → List UInt8 → List UInt32) (iv : List UInt32) (p : List UInt8) : Nat → List UInt32
  | 0 => iv
  | k + 1 => comp (hN comp iv p k) ((p.drop (64 * k)).take 64)
def sumL (comp : List UInt32 → List UInt8 → List UInt32) (iv : List UInt32) (bs : List UInt8) : List UInt8 := spreadL (hN comp iv (padL bs) ((padL bs).length / 64))
def iv256 : List UInt32 := [0x6a09e667, 0xbb67ae85, 0x3c6ef372, 0xa54ff53a, 0x510e527f, 0x9b05688c, 0x1f83d9ab, 0x5be0cd19]
def sum256 (bs : List UInt8) : List UInt8 := sumL comp256 iv256 bs
theorem hN_length {comp : List UInt32 → List UInt8 → List UInt32} {iv : List UInt32} {p : List UInt8} {n : Nat} (hc : ∀ h b, (comp h b).length = h.length) (hi : iv.length = n) {k : Nat} : (hN comp iv p k).length = n := by
  induction k with
  | zero => exact hi
  | succ k ih => rw [hN, hc, ih]
theorem comp256_length (h : List UInt32) (b : List UInt8) : (comp256 h b).length = h.length := addW_length
theorem h256_length {p : List UInt8} {k : Nat} : (hN comp256 iv256 p k).length = 8 := hN_length comp256_length rfl
def ct_pad : Ct where
  α := List UInt8
  as x := [.t (.sl (x.map byteT))]
  ins _ := []
  pre x := x.length < 1000000000
  r x := .sl 0 0 (padL x).length
  outs x := [.live 1 (((padL x).map byteT).map V.t) true false]
  inj := by
    intro a b h _
    simp [mapB_inj] at h
    subst h; exact ⟨rfl, rfl⟩
theorem pad_eq {bs : List UInt8} (h : bs.length < 1000000000) : ct_pad.fs [.t (.sl (bs.map byteT))] [] = some (.sl 0 0 (padL bs).length, [.live 1 (((padL bs).map byteT).map V.t) true false]) := ct_pad.eq bs h
def ct_spread : Ct where
  α := List UInt32
  as x := [.t (.sl (x.map u32T))]
  ins _ := []
  pre x := x.length < 1000000000
  r x := .sl 0 0 (4 * x.length)
  outs x := [.live 1 (((spreadL x).map byteT).map V.t) true false]
  inj := by
    intro a b h _
    simp [mapW_inj] at h
    subst h; exact ⟨rfl, rfl⟩
theorem spread_eq {ws : List UInt32} (h : ws.length < 1000000000) : ct_spread.fs [.t (.sl (ws.map u32T))] [] = some (.sl 0 0 (4 * ws.length), [.live 1 (((spreadL ws).map byteT).map V.t) true false]) := ct_spread.eq ws h
def ct_comp (n : Nat) (comp : List UInt32 → List UInt8 → List UInt32) : Ct where
  α := List UInt32 × List UInt8
  as x := [.ref 0 0 0, .t (.sl (x.2.map byteT))]
  ins x := [.live 1 ((x.1.map u32T).map V.t) true true]
  pre x := x.2.length = 64 ∧ x.1.length = n
  r _ := .tup []
  outs x := [.live 1 (((comp x.1 x.2).map u32T).map V.t) true true]
  inj := by
    rintro ⟨a, b⟩ ⟨c, d⟩ h1 h2
    simp [mapB_inj] at h1
    simp only [Ob.live.injEq, mapV_inj, mapW_inj, List.cons.injEq] at h2
    obtain ⟨⟨_, rfl, _, _⟩, _⟩ := h2
    subst h1; exact ⟨rfl, rfl⟩
theorem comp_eq {n : Nat} {comp : List UInt32 → List UInt8 → List UInt32} {hs : List UInt32} {bs : List UInt8} (h : bs.length = 64 ∧ hs.length = n) : (ct_comp n comp).fs [.ref 0 0 0, .t (.sl (bs.map byteT))] [.live 1 ((hs.map u32T).map V.t) true true] =
    some (.tup [], [.live 1 (((comp hs bs).map u32T).map V.t) true true]) := (ct_comp n comp).eq (hs, bs) h
theorem w_digest_Sum_256 (tab : Tab) (gl : Gl) (n1 n2 n3 n4 : Nat) (h1 : tab.look n1 = some ct_pad.fs) (h3 : tab.look n3 = some ct_spread.fs) (h4 : tab.look n4 = some (ct_comp 8 comp256).fs) (bs : List UInt8) (hb : bs.length < 1000000000) :
    (ac_digest_Sum n1 n2 n3 n4).wp tab gl (zipF 0 [.t (.int .i64 1), .t (.sl (bs.map byteT))]) (zipF 0 []) (resF [] [(4, none)] 0 (fun r o => r = .sl 0 0 32 ∧ o = [.live 1 (((sum256 bs).map byteT).map V.t) true false])) := by
  have hp := padL_length bs
  have hm := padL_mod bs
  simp (config := { maxSteps := 2000000 }) (disch := (first | omega | (simp only [lens, lenm]; omega))) only [go_sem, ↓reduceIte, Nat.reduceAdd, Nat.reduceEqDiff, Nat.reduceSub, Nat.reduceMul, Nat.reduceLT, Nat.reduceLeDiff, Nat.reduceBEq, Int.reduceEq, Int.reduceLT, Int.reduceLE, Int.reduceToNat, Int.reduceNeg, Int.reduceAdd, Int.reduceSub, Int.reduceMul, Int.reduceMod, Int.reduceDiv, reduceCtorEq, Nat.reducePow, Int.reducePow, ac_digest_Sum, h1, pad_eq]
  refine loop_upto ((padL bs).length / 64) (fun k => [(8, V.sl 49168 (64 * k) ((padL bs).length - 64 * k)), (7, V.ref 45072 0 0)]) (fun k => [(49168, .live 1 (((padL bs).map byteT).map V.t) true false), (45072, .live 1 (((hN comp256 iv256 (padL bs) k).map u32T).map V.t) true true)]) ?_ (fun k hk => ?_)
  · refine Weak.rd id ?_ ?_ rfl
    all_goals simp (config := { maxSteps := 2000000 }) (disch := (first | omega | (simp only [lens, lenm]; omega))) only [go_sem, ↓reduceIte, Nat.reduceAdd, Nat.reduceEqDiff, Nat.reduceSub, Nat.reduceMul, Nat.reduceLT, Nat.reduceLeDiff, Nat.reduceBEq, Int.reduceEq, Int.reduceLT, Int.reduceLE, Int.reduceToNat, Int.reduceNeg, Int.reduceAdd, Int.reduceSub, Int.reduceMul, Int.reduceMod, Int.reduceDiv, reduceCtorEq, Nat.reducePow, Int.reducePow, id, hN, iv256, Nat.mul_zero, List.map_cons, List.map_nil]
  · have hl : (hN comp256 iv256 (padL bs) k).length = 8 := h256_length
    by_cases hlt : k < (padL bs).length / 64
    · simp (config := { maxSteps := 2000000 }) (disch := (first | omega | (simp only [lens, lenm]; omega))) only [go_sem, ↓reduceIte, Nat.reduceAdd, Nat.reduceEqDiff, Nat.reduceSub, Nat.reduceMul, Nat.reduceLT, Nat.reduceLeDiff, Nat.reduceBEq, Int.reduceEq, Int.reduceLT, Int.reduceLE, Int.reduceToNat, Int.reduceNeg, Int.reduceAdd, Int.reduceSub, Int.reduceMul, Int.reduceMod, Int.reduceDiv, reduceCtorEq, Nat.reducePow, Int.reducePow, ac_digest_Sum_L1, h4, comp_eq, hl]
      refine ⟨hlt, Weak.rd id ?_ ?_ rfl⟩
      all_goals simp (config := { maxSteps := 2000000 }) (disch := (first | omega | (simp only [lens, lenm]; omega))) only [go_sem, ↓reduceIte, Nat.reduceAdd, Nat.reduceEqDiff, Nat.reduceSub, Nat.reduceMul, Nat.reduceLT, Nat.reduceLeDiff, Nat.reduceBEq, Int.reduceEq, Int.reduceLT, Int.reduceLE, Int.reduceToNat, Int.reduceNeg, Int.reduceAdd, Int.reduceSub, Int.reduceMul, Int.reduceMod, Int.reduceDiv, reduceCtorEq, Nat.reducePow, Int.reducePow, id, hN]
      omega
    · have e : k = (padL bs).length / 64 := by omega
      subst e
      have ht : List.take 8 (hN comp256 iv256 (padL bs) ((padL bs).length / 64)) = hN comp256 iv256 (padL bs) ((padL bs).length / 64) := List.take_of_length_le (by omega)
      simp (config := { maxSteps := 2000000 }) (disch := (first | omega | (simp only [lens, lenm]; omega))) only [go_sem, ↓reduceIte, Nat.reduceAdd, Nat.reduceEqDiff, Nat.reduceSub, Nat.reduceMul, Nat.reduceLT, Nat.reduceLeDiff, Nat.reduceBEq, Int.reduceEq, Int.reduceLT, Int.reduceLE, Int.reduceToNat, Int.reduceNeg, Int.reduceAdd, Int.reduceSub, Int.reduceMul, Int.reduceMod, Int.reduceDiv, reduceCtorEq, Nat.reducePow, Int.reducePow, ac_digest_Sum_L1, h3, spread_eq, hl, ht, sum256, sumL]
end Go.Eng
end
section
set_option maxRecDepth 20000
set_option maxHeartbeats 4000000
namespace Go.Eng
def sched1 (bs : List UInt8) : Nat → List UInt32
  | 0 => List.replicate 80 0
  | t + 1 => let w := sched1 bs t
    w.set t (if t < 16 then wordOf bs t else rotr (w.getD (t - 3) 0 ^^^ w.getD (t - 8) 0 ^^^ w.getD (t - 14) 0 ^^^ w.getD (t - 16) 0) 31)
theorem sched1_length {bs : List UInt8} {t : Nat} : (sched1 bs t).length = 80 := by
  induction t with
  | zero => rfl
  | succ t ih => simp only [sched1, List.length_set, ih]
def f1 (t : Nat) (b c d : UInt32) : UInt32 := if t < 20 then (b &&& c) ^^^ (~~~b &&& d) else if t < 40 then b ^^^ c ^^^ d else if t < 60 then (b &&& c) ^^^ (b &&& d) ^^^ (c &&& d) else b ^^^ c ^^^ d
def k1 (t : Nat) : UInt32 := if t < 20 then 0x5a827999 else if t < 40 then 0x6ed9eba1 else if t < 60 then 0x8f1bbcdc else 0xca62c1d6
def rnd1 (t : Nat) (w : UInt32) (s : List UInt32) : List UInt32 :=
  [rotr (s.getD 0 0) 27 + f1 t (s.getD 1 0) (s.getD 2 0) (s.getD 3 0) + s.getD 4 0 + k1 t + w, s.getD 0 0, rotr (s.getD 1 0) 2, s.getD 2 0, s.getD 3 0]
def rounds1 (ws hs : List UInt32) : Nat → List UInt32
  | 0 => hs
  | t + 1 => rnd1 t (ws.getD t 0) (rounds1 ws hs t)
def comp1 (hs : List UInt32) (bs : List UInt8) : List UInt32 :=
  let s := rounds1 (sched1 bs 80) hs 80
  [hs.getD 0 0 + s.getD 0 0, hs.getD 1 0 + s.getD 1 0, hs.getD 2 0 + s.getD 2 0, hs.getD 3 0 + s.getD 3 0, hs.getD 4 0 + s.getD 4 0]
theorem w_digest_compress1 (tab : Tab) (gl : Gl) (n1 n2 : Nat) (h1 : tab.look n1 = some ct_word.fs) (h2 : tab.look n2 = some ct_rotl.fs) (bs : List UInt8) (x0 x1 x2 x3 x4 : UInt32) (hb : bs.length = 64) :
    (ac_digest_compress1 n1 n2).wp tab gl (zipF 0 [.ref 0 0 0, .t (.sl (bs.map byteT))]) (zipF 0 [.live 1 (([x0, x1, x2, x3, x4].map u32T).map V.t) true true]) (resW [] 1 (fun r o => r = .tup [] ∧ o = [.live 1 (((comp1 [x0, x1, x2, x3, x4] bs).map u32T).map V.t) true true])) := by
  simp (config := { maxSteps := 2000000 }) (disch := (first | omega | (simp only [lens, lenm]; omega))) only [go_sem, ↓reduceIte, Nat.reduceAdd, Nat.reduceEqDiff, Nat.reduceSub, Nat.reduceMul, Nat.reduceLT, Nat.reduceLeDiff, Nat.reduceBEq, Int.reduceEq, Int.reduceLT, Int.reduceLE, Int.reduceToNat, Int.reduceNeg, Int.reduceAdd, Int.reduceSub, Int.reduceMul, Int.reduceMod, Int.reduceDiv, reduceCtorEq, Nat.reducePow, Int.reducePow, ac_digest_compress1]
  refine loop_upto 80 (fun k => [(14, .t (.int .i64 k)), (4, .ref 4096 0 0), (0, .ref 0 0 0), (1, V.t (T.sl (List.map byteT bs)))]) (fun k => [(4096, .live 1 (((sched1 bs k).map u32T).map V.t) true true), (0, .live 1 [.t (u32T x0), .t (u32T x1), .t (u32T x2), .t (u32T x3), .t (u32T x4)] true true)]) ?_ (fun k hk => ?_)
  · refine Weak.rd id ?_ ?_ rfl
    all_goals simp (config := { maxSteps := 2000000 }) (disch := (first | omega | (simp only [lens, lenm]; omega))) only [go_sem, ↓reduceIte, Nat.reduceAdd, Nat.reduceEqDiff, Nat.reduceSub, Nat.reduceMul, Nat.reduceLT, Nat.reduceLeDiff, Nat.reduceBEq, Int.reduceEq, Int.reduceLT, Int.reduceLE, Int.reduceToNat, Int.reduceNeg, Int.reduceAdd, Int.reduceSub, Int.reduceMul, Int.reduceMod, Int.reduceDiv, reduceCtorEq, Nat.reducePow, Int.reducePow, id, sched1]
  · have hl : (sched1 bs k).length = 80 := sched1_length
    by_cases hlt : k < 80
    · by_cases h16 : k < 16
      · simp (config := { maxSteps := 2000000 }) (disch := (first | omega | (simp only [lens, lenm]; omega))) only [go_sem, ↓reduceIte, Nat.reduceAdd, Nat.reduceEqDiff, Nat.reduceSub, Nat.reduceMul, Nat.reduceLT, Nat.reduceLeDiff, Nat.reduceBEq, Int.reduceEq, Int.reduceLT, Int.reduceLE, Int.reduceToNat, Int.reduceNeg, Int.reduceAdd, Int.reduceSub, Int.reduceMul, Int.reduceMod, Int.reduceDiv, reduceCtorEq, Nat.reducePow, Int.reducePow, ac_digest_compress1_L0, h1, h2, word_eq, hl]
        refine ⟨hlt, Weak.rd id ?_ ?_ rfl⟩
        all_goals simp (config := { maxSteps := 2000000 }) (disch := (first | omega | (simp only [lens, lenm]; omega))) only [go_sem, ↓reduceIte, Nat.reduceAdd, Nat.reduceEqDiff, Nat.reduceSub, Nat.reduceMul, Nat.reduceLT, Nat.reduceLeDiff, Nat.reduceBEq, Int.reduceEq, Int.reduceLT, Int.reduceLE, Int.reduceToNat, Int.reduceNeg, Int.reduceAdd, Int.reduceSub, Int.reduceMul, Int.reduceMod, Int.reduceDiv, reduceCtorEq, Nat.reducePow, Int.reducePow, id, sched1, if_pos h16]
      · simp (config := { maxSteps := 2000000 }) (disch := (first | omega | (simp only [lens, lenm]; omega))) only [go_sem, ↓reduceIte, Nat.reduceAdd, Nat.reduceEqDiff, Nat.reduceSub, Nat.reduceMul, Nat.reduceLT, Nat.reduceLeDiff, Nat.reduceBEq, Int.reduceEq, Int.reduceLT, Int.reduceLE, Int.reduceToNat, Int.reduceNeg, Int.reduceAdd, Int.reduceSub, Int.reduceMul, Int.reduceMod, Int.reduceDiv, reduceCtorEq, Nat.reducePow, Int.reducePow, ac_digest_compress1_L0, h1, h2, rotl_eq, hl]
        repeat refine And.intro rfl ?_
        refine ⟨hlt, Weak.rd id ?_ ?_ rfl⟩
        all_goals simp (config := { maxSteps := 2000000 }) (disch := (first | omega | (simp only [lens, lenm]; omega))) only [go_sem, ↓reduceIte, Nat.reduceAdd, Nat.reduceEqDiff, Nat.reduceSub, Nat.reduceMul, Nat.reduceLT, Nat.reduceLeDiff, Nat.reduceBEq, Int.reduceEq, Int.reduceLT, Int.reduceLE, Int.reduceToNat, Int.reduceNeg, Int.reduceAdd, Int.reduceSub, Int.reduceMul, Int.reduceMod, Int.reduceDiv, reduceCtorEq, Nat.reducePow, Int.reducePow, id, sched1, if_neg h16]
    · have e : k = 80 := by omega
      subst e
      simp (config := { maxSteps := 2000000 }) (disch := (first | omega | (simp only [lens, lenm]; omega))) only [go_sem, ↓reduceIte, Nat.reduceAdd, Nat.reduceEqDiff, Nat.reduceSub, Nat.reduceMul, Nat.reduceLT, Nat.reduceLeDiff, Nat.reduceBEq, Int.reduceEq, Int.reduceLT, Int.reduceLE, Int.reduceToNat, Int.reduceNeg, Int.reduceAdd, Int.reduceSub, Int.reduceMul, Int.reduceMod, Int.reduceDiv, reduceCtorEq, Nat.reducePow, Int.reducePow, ac_digest_compress1_L0]
      repeat refine And.intro rfl ?_
      refine loop_upto 80 (fun k => [(67, .t (.int .i64 k)), (4, .ref 4096 0 0), (0, .ref 0 0 0), (6, .t (u32T ((rounds1 (sched1 bs 80) [x0, x1, x2, x3, x4] k).getD 0 0))), (7, .t (u32T ((rounds1 (sched1 bs 80) [x0, x1, x2, x3, x4] k).getD 1 0))), (8, .t (u32T ((rounds1 (sched1 bs 80) [x0, x1, x2, x3, x4] k).getD 2 0))), (9, .t (u32T ((rounds1 (sched1 bs 80) [x0, x1, x2, x3, x4] k).getD 3 0))), (10, .t (u32T ((rounds1 (sched1 bs 80) [x0, x1, x2, x3, x4] k).getD 4 0)))])
        (fun k => [(4096, .live 1 (((sched1 bs 80).map u32T).map V.t) true true), (0, .live 1 [.t (u32T x0), .t (u32T x1), .t (u32T x2), .t (u32T x3), .t (u32T x4)] true true)]) ?_ (fun k hk => ?_)
      · refine Weak.rd id ?_ ?_ rfl
        all_goals simp (config := { maxSteps := 2000000 }) (disch := (first | omega | (simp only [lens, lenm]; omega))) only [go_sem, ↓reduceIte, Nat.reduceAdd, Nat.reduceEqDiff, Nat.reduceSub, Nat.reduceMul, Nat.reduceLT, Nat.reduceLeDiff, Nat.reduceBEq, Int.reduceEq, Int.reduceLT, Int.reduceLE, Int.reduceToNat, Int.reduceNeg, Int.reduceAdd, Int.reduceSub, Int.reduceMul, Int.reduceMod, Int.reduceDiv, reduceCtorEq, Nat.reducePow, Int.reducePow, id, rounds1, List.getD_cons_zero, List.getD_cons_succ]
      · by_cases hlt : k < 80
        · by_cases h20 : k < 20
          · have e0 : k / 20 = 0 := by omega
            simp (config := { maxSteps := 2000000 }) (disch := (first | omega | (simp only [lens, lenm]; omega))) only [go_sem, ↓reduceIte, Nat.reduceAdd, Nat.reduceEqDiff, Nat.reduceSub, Nat.reduceMul, Nat.reduceLT, Nat.reduceLeDiff, Nat.reduceBEq, Int.reduceEq, Int.reduceLT, Int.reduceLE, Int.reduceToNat, Int.reduceNeg, Int.reduceAdd, Int.reduceSub, Int.reduceMul, Int.reduceMod, Int.reduceDiv, reduceCtorEq, Nat.reducePow, Int.reducePow, ac_digest_compress1_L1, h1, h2, rotl_eq, hl, e0]
            repeat refine And.intro rfl ?_
            refine ⟨hlt, Weak.rd id ?_ ?_ rfl⟩
            all_goals simp (config := { maxSteps := 2000000 }) (disch := (first | omega | (simp only [lens, lenm]; omega))) only [go_sem, ↓reduceIte, Nat.reduceAdd, Nat.reduceEqDiff, Nat.reduceSub, Nat.reduceMul, Nat.reduceLT, Nat.reduceLeDiff, Nat.reduceBEq, Int.reduceEq, Int.reduceLT, Int.reduceLE, Int.reduceToNat, Int.reduceNeg, Int.reduceAdd, Int.reduceSub, Int.reduceMul, Int.reduceMod, Int.reduceDiv, reduceCtorEq, Nat.reducePow, Int.reducePow, id, rounds1, rnd1, f1, k1, if_pos h20, List.getD_cons_zero, List.getD_cons_succ]
          · by_cases h40 : k < 40
            · have e0 : k / 20 = 1 := by omega
              simp (config := { maxSteps := 2000000 }) (disch := (first | omega | (simp only [lens, lenm]; omega))) only [go_sem, ↓reduceIte, Nat.reduceAdd, Nat.reduceEqDiff, Nat.reduceSub, Nat.reduceMul, Nat.reduceLT, Nat.reduceLeDiff, Nat.reduceBEq, Int.reduceEq, Int.reduceLT, Int.reduceLE, Int.reduceToNat, Int.reduceNeg, Int.reduceAdd, Int.reduceSub, Int.reduceMul, Int.reduceMod, Int.reduceDiv, reduceCtorEq, Nat.reducePow, Int.reducePow, ac_digest_compress1_L1, h1, h2, rotl_eq, hl, e0]
              repeat refine And.intro rfl ?_
              refine ⟨hlt, Weak.rd id ?_ ?_ rfl⟩
              all_goals simp (config := { maxSteps := 2000000 }) (disch := (first | omega | (simp only [lens, lenm]; omega))) only [go_sem, ↓reduceIte, Nat.reduceAdd, Nat.reduceEqDiff, Nat.reduceSub, Nat.reduceMul, Nat.reduceLT, Nat.reduceLeDiff, Nat.reduceBEq, Int.reduceEq, Int.reduceLT, Int.reduceLE, Int.reduceToNat, Int.reduceNeg, Int.reduceAdd, Int.reduceSub, Int.reduceMul, Int.reduceMod, Int.reduceDiv, reduceCtorEq, Nat.reducePow, Int.reducePow, id, rounds1, rnd1, f1, k1, if_neg h20, if_pos h40, List.getD_cons_zero, List.getD_cons_succ]
            · by_cases h60 : k < 60
              · have e0 : k / 20 = 2 := by omega
                simp (config := { maxSteps := 2000000 }) (disch := (first | omega | (simp only [lens, lenm]; omega))) only [go_sem, ↓reduceIte, Nat.reduceAdd, Nat.reduceEqDiff, Nat.reduceSub, Nat.reduceMul, Nat.reduceLT, Nat.reduceLeDiff, Nat.reduceBEq, Int.reduceEq, Int.reduceLT, Int.reduceLE, Int.reduceToNat, Int.reduceNeg, Int.reduceAdd, Int.reduceSub, Int.reduceMul, Int.reduceMod, Int.reduceDiv, reduceCtorEq, Nat.reducePow, Int.reducePow, ac_digest_compress1_L1, h1, h2, rotl_eq, hl, e0]
                repeat refine And.intro rfl ?_
                refine ⟨hlt, Weak.rd id ?_ ?_ rfl⟩
                all_goals simp (config := { maxSteps := 2000000 }) (disch := (first | omega | (simp only [lens, lenm]; omega))) only [go_sem, ↓reduceIte, Nat.reduceAdd, Nat.reduceEqDiff, Nat.reduceSub, Nat.reduceMul, Nat.reduceLT, Nat.reduceLeDiff, Nat.reduceBEq, Int.reduceEq, Int.reduceLT, Int.reduceLE, Int.reduceToNat, Int.reduceNeg, Int.reduceAdd, Int.reduceSub, Int.reduceMul, Int.reduceMod, Int.reduceDiv, reduceCtorEq, Nat.reducePow, Int.reducePow, id, rounds1, rnd1, f1, k1, if_neg h20, if_neg h40, if_pos h60, List.getD_cons_zero, List.getD_cons_succ]
              · have e0 : k / 20 = 3 := by omega
                simp (config := { maxSteps := 2000000 }) (disch := (first | omega | (simp only [lens, lenm]; omega))) only [go_sem, ↓reduceIte, Nat.reduceAdd, Nat.reduceEqDiff, Nat.reduceSub, Nat.reduceMul, Nat.reduceLT, Nat.reduceLeDiff, Nat.reduceBEq, Int.reduceEq, Int.reduceLT, Int.reduceLE, Int.reduceToNat, Int.reduceNeg, Int.reduceAdd, Int.reduceSub, Int.reduceMul, Int.reduceMod, Int.reduceDiv, reduceCtorEq, Nat.reducePow, Int.reducePow, ac_digest_compress1_L1, h1, h2, rotl_eq, hl, e0]
                repeat refine And.intro rfl ?_
                refine ⟨hlt, Weak.rd id ?_ ?_ rfl⟩
                all_goals simp (config := { maxSteps := 2000000 }) (disch := (first | omega | (simp only [lens, lenm]; omega))) only [go_sem, ↓reduceIte, Nat.reduceAdd, Nat.reduceEqDiff, Nat.reduceSub, Nat.reduceMul, Nat.reduceLT, Nat.reduceLeDiff, Nat.reduceBEq, Int.reduceEq, Int.reduceLT, Int.reduceLE, Int.reduceToNat, Int.reduceNeg, Int.reduceAdd, Int.reduceSub, Int.reduceMul, Int.reduceMod, Int.reduceDiv, reduceCtorEq, Nat.reducePow, Int.reducePow, id, rounds1, rnd1, f1, k1, if_neg h20, if_neg h40, if_neg h60, List.getD_cons_zero, List.getD_cons_succ]
        · have e : k = 80 := by omega
          subst e
          simp (config := { maxSteps := 2000000 }) (disch := (first | omega | (simp only [lens, lenm]; omega))) only [go_sem, ↓reduceIte, Nat.reduceAdd, Nat.reduceEqDiff, Nat.reduceSub, Nat.reduceMul, Nat.reduceLT, Nat.reduceLeDiff, Nat.reduceBEq, Int.reduceEq, Int.reduceLT, Int.reduceLE, Int.reduceToNat, Int.reduceNeg, Int.reduceAdd, Int.reduceSub, Int.reduceMul, Int.reduceMod, Int.reduceDiv, reduceCtorEq, Nat.reducePow, Int.reducePow, ac_digest_compress1_L1, comp1, List.getD_cons_zero, List.getD_cons_succ]
          repeat refine And.intro rfl ?_
          rfl
end Go.Eng
end
section
set_option maxRecDepth 20000
set_option maxHeartbeats 4000000
namespace Go.Eng
def iv1 : List UInt32 := [0x67452301, 0xefcdab89, 0x98badcfe, 0x10325476, 0xc3d2e1f0]
theorem h1_length {p : List UInt8} {k : Nat} : (hN comp1 iv1 p k).length = 5 := by
  cases k <;> rfl
def sum1 (bs : List UInt8) : List UInt8 := sumL comp1 iv1 bs
theorem w_digest_Sum_1 (tab : Tab) (gl : Gl) (n1 n2 n3 n4 : Nat) (h1 : tab.look n1 = some ct_pad.fs) (h3 : tab.look n3 = some ct_spread.fs) (h4 : tab.look n2 = some (ct_comp 5 comp1).fs) (bs : List UInt8) (hb : bs.length < 1000000000) :
    (ac_digest_Sum n1 n2 n3 n4).wp tab gl (zipF 0 [.t (.int .i64 0), .t (.sl (bs.map byteT))]) (zipF 0 []) (resF [] [(4, none)] 0 (fun r o => r = .sl 0 0 20 ∧ o = [.live 1 (((sum1 bs).map byteT).map V.t) true false])) := by
  have hp := padL_length bs
  have hm := padL_mod bs
  simp (config := { maxSteps := 2000000 }) (disch := (first | omega | (simp only [lens, lenm]; omega))) only [go_sem, ↓reduceIte, Nat.reduceAdd, Nat.reduceEqDiff, Nat.reduceSub, Nat.reduceMul, Nat.reduceLT, Nat.reduceLeDiff, Nat.reduceBEq, Int.reduceEq, Int.reduceLT, Int.reduceLE, Int.reduceToNat, Int.reduceNeg, Int.reduceAdd, Int.reduceSub, Int.reduceMul, Int.reduceMod, Int.reduceDiv, reduceCtorEq, Nat.reducePow, Int.reducePow, ac_digest_Sum, h1, pad_eq]
  refine loop_upto ((padL bs).length / 64) (fun k => [(6, V.sl 20496 (64 * k) ((padL bs).length - 64 * k)), (5, V.ref 16400 0 0)]) (fun k => [(20496, .live 1 (((padL bs).map byteT).map V.t) true false), (16400, .live 1 (((hN comp1 iv1 (padL bs) k).map u32T).map V.t) true true)]) ?_ (fun k hk => ?_)
  · refine Weak.rd id ?_ ?_ rfl
    all_goals simp (config := { maxSteps := 2000000 }) (disch := (first | omega | (simp only [lens, lenm]; omega))) only [go_sem, ↓reduceIte, Nat.reduceAdd, Nat.reduceEqDiff, Nat.reduceSub, Nat.reduceMul, Nat.reduceLT, Nat.reduceLeDiff, Nat.reduceBEq, Int.reduceEq, Int.reduceLT, Int.reduceLE, Int.reduceToNat, Int.reduceNeg, Int.reduceAdd, Int.reduceSub, Int.reduceMul, Int.reduceMod, Int.reduceDiv, reduceCtorEq, Nat.reducePow, Int.reducePow, id, hN, iv1, Nat.mul_zero, List.map_cons, List.map_nil]
  · have hl : (hN comp1 iv1 (padL bs) k).length = 5 := h1_length
    by_cases hlt : k < (padL bs).length / 64
    · simp (config := { maxSteps := 2000000 }) (disch := (first | omega | (simp only [lens, lenm]; omega))) only [go_sem, ↓reduceIte, Nat.reduceAdd, Nat.reduceEqDiff, Nat.reduceSub, Nat.reduceMul, Nat.reduceLT, Nat.reduceLeDiff, Nat.reduceBEq, Int.reduceEq, Int.reduceLT, Int.reduceLE, Int.reduceToNat, Int.reduceNeg, Int.reduceAdd, Int.reduceSub, Int.reduceMul, Int.reduceMod, Int.reduceDiv, reduceCtorEq, Nat.reducePow, Int.reducePow, ac_digest_Sum_L0, h4, comp_eq, hl]
      refine ⟨hlt, Weak.rd id ?_ ?_ rfl⟩
      all_goals simp (config := { maxSteps := 2000000 }) (disch := (first | omega | (simp only [lens, lenm]; omega))) only [go_sem, ↓reduceIte, Nat.reduceAdd, Nat.reduceEqDiff, Nat.reduceSub, Nat.reduceMul, Nat.reduceLT, Nat.reduceLeDiff, Nat.reduceBEq, Int.reduceEq, Int.reduceLT, Int.reduceLE, Int.reduceToNat, Int.reduceNeg, Int.reduceAdd, Int.reduceSub, Int.reduceMul, Int.reduceMod, Int.reduceDiv, reduceCtorEq, Nat.reducePow, Int.reducePow, id, hN]
      omega
    · have e : k = (padL bs).length / 64 := by omega
      subst e
      have ht : List.take 5 (hN comp1 iv1 (padL bs) ((padL bs).length / 64)) = hN comp1 iv1 (padL bs) ((padL bs).length / 64) := List.take_of_length_le (by omega)
      simp (config := { maxSteps := 2000000 }) (disch := (first | omega | (simp only [lens, lenm]; omega))) only [go_sem, ↓reduceIte, Nat.reduceAdd, Nat.reduceEqDiff, Nat.reduceSub, Nat.reduceMul, Nat.reduceLT, Nat.reduceLeDiff, Nat.reduceBEq, Int.reduceEq, Int.reduceLT, Int.reduceLE, Int.reduceToNat, Int.reduceNeg, Int.reduceAdd, Int.reduceSub, Int.reduceMul, Int.reduceMod, Int.reduceDiv, reduceCtorEq, Nat.reducePow, Int.reducePow, ac_digest_Sum_L0, h3, spread_eq, hl, ht, sum1, sumL]
theorem w_ref1_pad (tab : Tab) (gl : Gl) (bs : List UInt8) (hb : bs.length < 1000000000) : ac_ref1_pad.wp tab gl (zipF 0 [.t (.sl (bs.map byteT))]) (zipF 0 []) (resF [] [(2, none)] 0 (fun r o => r = .sl 0 0 (padL bs).length ∧ o = [.live 1 (((padL bs).map byteT).map V.t) true false])) := by
  have hz : padZ bs.length = (119 - bs.length % 64) % 64 := rfl
  simp (config := { maxSteps := 2000000 }) (disch := (first | omega | (simp only [lens, lenm]; omega))) only [go_sem, ↓reduceIte, Nat.reduceAdd, Nat.reduceEqDiff, Nat.reduceSub, Nat.reduceMul, Nat.reduceLT, Nat.reduceLeDiff, Nat.reduceBEq, Int.reduceEq, Int.reduceLT, Int.reduceLE, Int.reduceToNat, Int.reduceNeg, Int.reduceAdd, Int.reduceSub, Int.reduceMul, Int.reduceMod, Int.reduceDiv, reduceCtorEq, Nat.reducePow, Int.reducePow, ac_ref1_pad]
  refine loop_upto (padZ bs.length) (fun k => [(0, .t (.sl (bs.map byteT))), (3, .sl 8256 0 (bs.length + 1 + k))]) (fun k => [(8256, .live 1 (((bs ++ [128] ++ List.replicate k 0).map byteT).map V.t) true false)]) ?_ (fun k hk => ?_)
  · refine Weak.rd id ?_ ?_ rfl
    all_goals simp (config := { maxSteps := 2000000 }) (disch := (first | omega | (simp only [lens, lenm]; omega))) only [go_sem, ↓reduceIte, Nat.reduceAdd, Nat.reduceEqDiff, Nat.reduceSub, Nat.reduceMul, Nat.reduceLT, Nat.reduceLeDiff, Nat.reduceBEq, Int.reduceEq, Int.reduceLT, Int.reduceLE, Int.reduceToNat, Int.reduceNeg, Int.reduceAdd, Int.reduceSub, Int.reduceMul, Int.reduceMod, Int.reduceDiv, reduceCtorEq, Nat.reducePow, Int.reducePow, id]
  · by_cases hlt : k < padZ bs.length
    · simp (config := { maxSteps := 2000000 }) (disch := (first | omega | (simp only [lens, lenm]; omega))) only [go_sem, ↓reduceIte, Nat.reduceAdd, Nat.reduceEqDiff, Nat.reduceSub, Nat.reduceMul, Nat.reduceLT, Nat.reduceLeDiff, Nat.reduceBEq, Int.reduceEq, Int.reduceLT, Int.reduceLE, Int.reduceToNat, Int.reduceNeg, Int.reduceAdd, Int.reduceSub, Int.reduceMul, Int.reduceMod, Int.reduceDiv, reduceCtorEq, Nat.reducePow, Int.reducePow, ac_ref1_pad_L0]
      refine ⟨hlt, Weak.rd (fun _ => 16416) ?_ ?_ rfl⟩
      all_goals simp (config := { maxSteps := 2000000 }) (disch := (first | omega | (simp only [lens, lenm]; omega))) only [go_sem, ↓reduceIte, Nat.reduceAdd, Nat.reduceEqDiff, Nat.reduceSub, Nat.reduceMul, Nat.reduceLT, Nat.reduceLeDiff, Nat.reduceBEq, Int.reduceEq, Int.reduceLT, Int.reduceLE, Int.reduceToNat, Int.reduceNeg, Int.reduceAdd, Int.reduceSub, Int.reduceMul, Int.reduceMod, Int.reduceDiv, reduceCtorEq, Nat.reducePow, Int.reducePow, List.replicate_succ', List.append_assoc, Nat.add_assoc]
    · have e : k = padZ bs.length := by omega
      subst e
      simp (config := { maxSteps := 2000000 }) (disch := (first | omega | (simp only [lens, lenm]; omega))) only [go_sem, ↓reduceIte, Nat.reduceAdd, Nat.reduceEqDiff, Nat.reduceSub, Nat.reduceMul, Nat.reduceLT, Nat.reduceLeDiff, Nat.reduceBEq, Int.reduceEq, Int.reduceLT, Int.reduceLE, Int.reduceToNat, Int.reduceNeg, Int.reduceAdd, Int.reduceSub, Int.reduceMul, Int.reduceMod, Int.reduceDiv, reduceCtorEq, Nat.reducePow, Int.reducePow, ac_ref1_pad_L0]
      refine loop_upto 8 (fun k => [(3, .sl 8256 0 (bs.length + 1 + padZ bs.length + k)), (4, V.t (T.int IntKind.u64 (bs.length * 8 : Nat))), (5, .t (.int .i64 (7 - (k : Int))))]) (fun k => [(8256, .live 1 (((bs ++ [128] ++ List.replicate (padZ bs.length) 0 ++ beL (bs.length * 8) k).map byteT).map V.t) true false)]) ?_ (fun k hk => ?_)
      · refine Weak.rd id ?_ ?_ rfl
        all_goals simp (config := { maxSteps := 2000000 }) (disch := (first | omega | (simp only [lens, lenm]; omega))) only [go_sem, ↓reduceIte, Nat.reduceAdd, Nat.reduceEqDiff, Nat.reduceSub, Nat.reduceMul, Nat.reduceLT, Nat.reduceLeDiff, Nat.reduceBEq, Int.reduceEq, Int.reduceLT, Int.reduceLE, Int.reduceToNat, Int.reduceNeg, Int.reduceAdd, Int.reduceSub, Int.reduceMul, Int.reduceMod, Int.reduceDiv, reduceCtorEq, Nat.reducePow, Int.reducePow, id, beL_zero, List.append_nil]
      · by_cases hlt : k < 8
        · have e : 8 * (7 - k) = 56 - 8 * k := by omega
          simp (config := { maxSteps := 2000000 }) (disch := (first | omega | (simp only [lens, lenm]; omega))) only [go_sem, ↓reduceIte, Nat.reduceAdd, Nat.reduceEqDiff, Nat.reduceSub, Nat.reduceMul, Nat.reduceLT, Nat.reduceLeDiff, Nat.reduceBEq, Int.reduceEq, Int.reduceLT, Int.reduceLE, Int.reduceToNat, Int.reduceNeg, Int.reduceAdd, Int.reduceSub, Int.reduceMul, Int.reduceMod, Int.reduceDiv, reduceCtorEq, Nat.reducePow, Int.reducePow, ac_ref1_pad_L1, beL_length, e]
          refine ⟨hlt, Weak.rd (fun _ => 36992) ?_ ?_ rfl⟩
          all_goals simp (config := { maxSteps := 2000000 }) (disch := (first | omega | (simp only [lens, lenm]; omega))) only [go_sem, ↓reduceIte, Nat.reduceAdd, Nat.reduceEqDiff, Nat.reduceSub, Nat.reduceMul, Nat.reduceLT, Nat.reduceLeDiff, Nat.reduceBEq, Int.reduceEq, Int.reduceLT, Int.reduceLE, Int.reduceToNat, Int.reduceNeg, Int.reduceAdd, Int.reduceSub, Int.reduceMul, Int.reduceMod, Int.reduceDiv, reduceCtorEq, Nat.reducePow, Int.reducePow, beL_succ, List.append_assoc, Nat.add_assoc]
          omega
        · have e : k = 8 := by omega
          subst e
          simp (config := { maxSteps := 2000000 }) (disch := (first | omega | (simp only [lens, lenm]; omega))) only [go_sem, ↓reduceIte, Nat.reduceAdd, Nat.reduceEqDiff, Nat.reduceSub, Nat.reduceMul, Nat.reduceLT, Nat.reduceLeDiff, Nat.reduceBEq, Int.reduceEq, Int.reduceLT, Int.reduceLE, Int.reduceToNat, Int.reduceNeg, Int.reduceAdd, Int.reduceSub, Int.reduceMul, Int.reduceMod, Int.reduceDiv, reduceCtorEq, Nat.reducePow, Int.reducePow, ac_ref1_pad_L1, beL_length, padL]
theorem w_ref1_bytes (tab : Tab) (gl : Gl) (ws : List UInt32) (hb : ws.length < 1000000000) : ac_ref1_bytes.wp tab gl (zipF 0 [.t (.sl (ws.map u32T))]) (zipF 0 []) (resF [] [(2, none)] 0 (fun r o => r = .sl 0 0 (4 * ws.length) ∧ o = [.live 1 (((spreadL ws).map byteT).map V.t) true false])) := by
  simp (config := { maxSteps := 2000000 }) (disch := (first | omega | (simp only [lens, lenm]; omega))) only [go_sem, ↓reduceIte, Nat.reduceAdd, Nat.reduceEqDiff, Nat.reduceSub, Nat.reduceMul, Nat.reduceLT, Nat.reduceLeDiff, Nat.reduceBEq, Int.reduceEq, Int.reduceLT, Int.reduceLE, Int.reduceToNat, Int.reduceNeg, Int.reduceAdd, Int.reduceSub, Int.reduceMul, Int.reduceMod, Int.reduceDiv, reduceCtorEq, Nat.reducePow, Int.reducePow, ac_ref1_bytes]
  refine loop_upto ws.length (fun k => [(3, .sl 9000 0 (4 * k)), (0, .t (.sl (ws.map u32T))), (4, .t (.int .i64 k))]) (fun k => [(9000, .live 1 (((spreadL (ws.take k)).map byteT).map V.t) true false)]) ?_ (fun k hk => ?_)
  · show Weak _ _ _ ([(9000, .live 1 [] true false)] ++ [])
    refine Weak.cv0 id ?_ ?_ rfl rfl
    all_goals simp (config := { maxSteps := 2000000 }) (disch := (first | omega | (simp only [lens, lenm]; omega))) only [go_sem, ↓reduceIte, Nat.reduceAdd, Nat.reduceEqDiff, Nat.reduceSub, Nat.reduceMul, Nat.reduceLT, Nat.reduceLeDiff, Nat.reduceBEq, Int.reduceEq, Int.reduceLT, Int.reduceLE, Int.reduceToNat, Int.reduceNeg, Int.reduceAdd, Int.reduceSub, Int.reduceMul, Int.reduceMod, Int.reduceDiv, reduceCtorEq, Nat.reducePow, Int.reducePow, id, List.map_cons, List.map_nil, Nat.mul_zero]
  · have hl : (spreadL (ws.take k)).length = 4 * k := by rw [spreadL_length, List.length_take]; omega
    by_cases hlt : k < ws.length
    · simp (config := { maxSteps := 2000000 }) (disch := (first | omega | (simp only [lens, lenm]; omega))) only [go_sem, ↓reduceIte, Nat.reduceAdd, Nat.reduceEqDiff, Nat.reduceSub, Nat.reduceMul, Nat.reduceLT, Nat.reduceLeDiff, Nat.reduceBEq, Int.reduceEq, Int.reduceLT, Int.reduceLE, Int.reduceToNat, Int.reduceNeg, Int.reduceAdd, Int.reduceSub, Int.reduceMul, Int.reduceMod, Int.reduceDiv, reduceCtorEq, Nat.reducePow, Int.reducePow, ac_ref1_bytes_L0, hl]
      refine ⟨rfl, hlt, Weak.rd (fun _ => 24976) ?_ ?_ rfl⟩
      all_goals simp (config := { maxSteps := 2000000 }) (disch := (first | omega | (simp only [lens, lenm]; omega))) only [go_sem, ↓reduceIte, Nat.reduceAdd, Nat.reduceEqDiff, Nat.reduceSub, Nat.reduceMul, Nat.reduceLT, Nat.reduceLeDiff, Nat.reduceBEq, Int.reduceEq, Int.reduceLT, Int.reduceLE, Int.reduceToNat, Int.reduceNeg, Int.reduceAdd, Int.reduceSub, Int.reduceMul, Int.reduceMod, Int.reduceDiv, reduceCtorEq, Nat.reducePow, Int.reducePow, spreadL_take, spread1]
      · omega
      · simp only [List.append_assoc, List.cons_append, List.nil_append]; rfl
    · have e : k = ws.length := by omega
      subst e
      rw [List.take_length] at hl
      simp (config := { maxSteps := 2000000 }) (disch := (first | omega | (simp only [lens, lenm]; omega))) only [go_sem, ↓reduceIte, Nat.reduceAdd, Nat.reduceEqDiff, Nat.reduceSub, Nat.reduceMul, Nat.reduceLT, Nat.reduceLeDiff, Nat.reduceBEq, Int.reduceEq, Int.reduceLT, Int.reduceLE, Int.reduceToNat, Int.reduceNeg, Int.reduceAdd, Int.reduceSub, Int.reduceMul, Int.reduceMod, Int.reduceDiv, reduceCtorEq, Nat.reducePow, Int.reducePow, ac_ref1_bytes_L0, hl, List.take_length]
theorem w_ref1_constants (tab : Tab) (gl : Gl) : ac_ref1_constants.wp tab gl (zipF 0 []) (zipF 0 []) (resW [(0, some (64, true))] 0 (fun r o => r = .t (.agg (k256.map u32T)) ∧ o = [])) := by
  simp (config := { maxSteps := 2000000 }) (disch := (first | omega | (simp only [lens, lenm]; omega))) only [go_sem, ↓reduceIte, Nat.reduceAdd, Nat.reduceEqDiff, Nat.reduceSub, Nat.reduceMul, Nat.reduceLT, Nat.reduceLeDiff, Nat.reduceBEq, Int.reduceEq, Int.reduceLT, Int.reduceLE, Int.reduceToNat, Int.reduceNeg, Int.reduceAdd, Int.reduceSub, Int.reduceMul, Int.reduceMod, Int.reduceDiv, reduceCtorEq, Nat.reducePow, Int.reducePow, ac_ref1_constants, List.drop_replicate]
  rfl
end Go.Eng
end
section
set_option maxRecDepth 20000
set_option maxHeartbeats 8000000
namespace Go.Eng
def ct_const : Ct where
  α := Unit
  as _ := []
  ins _ := []
  pre _ := True
  r _ := .t (.agg (k256.map u32T))
  outs _ := []
  inj := fun _ _ _ _ => ⟨rfl, rfl⟩
theorem const_eq : ct_const.fs [] [] = some (.t (.agg (k256.map u32T)), []) := ct_const.eq () trivial
def ct_rotr : Ct where
  α := UInt32 × Nat
  as x := [.t (u32T x.1), .t (.int .u64 x.2)]
  ins _ := []
  pre x := 0 < x.2 ∧ x.2 < 32
  r x := .t (u32T (rotr x.1 x.2))
  outs _ := []
  inj := by
    rintro ⟨a, b⟩ ⟨c, d⟩ h _
    simp [u32T_eq, Int.natCast_inj] at h
    obtain ⟨rfl, rfl⟩ := h
    exact ⟨rfl, rfl⟩
theorem rotr_eq {x : UInt32} {n : Nat} (h : 0 < n ∧ n < 32) : ct_rotr.fs [.t (u32T x), .t (.int .u64 (no_index (@OfNat.ofNat Int n _)))] [] = some (.t (u32T (rotr x n)), []) := ct_rotr.eq (x, n) h
theorem w_ref1_Sum256 (tab : Tab) (gl : Gl) (n1 n2 n3 n4 n5 : Nat) (h1 : tab.look n1 = some ct_const.fs) (h2 : tab.look n2 = some ct_pad.fs) (h3 : tab.look n3 = some ct_word.fs) (h4 : tab.look n4 = some ct_rotr.fs) (h5 : tab.look n5 = some ct_spread.fs)
    (bs : List UInt8) (hb : bs.length < 1000000000) :
    (ac_ref1_Sum256 n1 n2 n3 n4 n5).wp tab gl (zipF 0 [.t (.sl (bs.map byteT))]) (zipF 0 []) (resF [] [(2, none)] 0 (fun r o => r = .sl 0 0 32 ∧ o = [.live 1 (((sum256 bs).map byteT).map V.t) true false])) := by
  have hp := padL_length bs
  have hm := padL_mod bs
  have hz : padZ bs.length < 64 := by unfold padZ; omega
  have hk2 : k256.length = 64 := rfl
  simp (config := { maxSteps := 2000000 }) (disch := (first | omega | (simp only [lens, lenm]; omega))) only [go_sem, ↓reduceIte, Nat.reduceAdd, Nat.reduceEqDiff, Nat.reduceSub, Nat.reduceMul, Nat.reduceLT, Nat.reduceLeDiff, Nat.reduceBEq, Int.reduceEq, Int.reduceLT, Int.reduceLE, Int.reduceToNat, Int.reduceNeg, Int.reduceAdd, Int.reduceSub, Int.reduceMul, Int.reduceMod, Int.reduceDiv, reduceCtorEq, Nat.reducePow, Int.reducePow, ac_ref1_Sum256, h1, const_eq, h2, pad_eq, hk2]
  refine loop_upto ((padL bs).length / 64) (fun k => [(3, .ref 8208 0 0), (4, .sl 12288 0 8), (5, .sl 16400 0 (padL bs).length), (6, .t (.int .i64 ((64 * k : Nat) : Int)))])
    (fun k => [(8208, .live 1 ((k256.map u32T).map V.t) true true), (12288, .live 1 (((hN comp256 iv256 (padL bs) k).map u32T).map V.t) true false), (16400, .live 1 (((padL bs).map byteT).map V.t) true false)]) ?_ (fun k hk => ?_)
  · refine Weak.rd id ?_ ?_ rfl
    all_goals simp (config := { maxSteps := 2000000 }) (disch := (first | omega | (simp only [lens, lenm]; omega))) only [go_sem, ↓reduceIte, Nat.reduceAdd, Nat.reduceEqDiff, Nat.reduceSub, Nat.reduceMul, Nat.reduceLT, Nat.reduceLeDiff, Nat.reduceBEq, Int.reduceEq, Int.reduceLT, Int.reduceLE, Int.reduceToNat, Int.reduceNeg, Int.reduceAdd, Int.reduceSub, Int.reduceMul, Int.reduceMod, Int.reduceDiv, reduceCtorEq, Nat.reducePow, Int.reducePow, id, hN, iv256, Nat.mul_zero, List.map_cons, List.map_nil]
  · have hl : (hN comp256 iv256 (padL bs) k).length = 8 := h256_length
    by_cases hlt : k < (padL bs).length / 64
    · generalize hH : hN comp256 iv256 (padL bs) k = H at hl ⊢
      generalize hB : List.take 64 (List.drop (64 * k) (padL bs)) = B
      have hBl : B.length = 64 := by rw [← hB]; simp only [List.length_take, List.length_drop]; omega
      simp (config := { maxSteps := 2000000 }) (disch := (first | omega | (simp only [lens, lenm]; omega))) only [go_sem, ↓reduceIte, Nat.reduceAdd, Nat.reduceEqDiff, Nat.reduceSub, Nat.reduceMul, Nat.reduceLT, Nat.reduceLeDiff, Nat.reduceBEq, Int.reduceEq, Int.reduceLT, Int.reduceLE, Int.reduceToNat, Int.reduceNeg, Int.reduceAdd, Int.reduceSub, Int.reduceMul, Int.reduceMod, Int.reduceDiv, reduceCtorEq, Nat.reducePow, Int.reducePow, ac_ref1_Sum256_L0]
      refine loop_upto 64 (fun t => [(8, .t (.int .i64 t)), (7, .ref 32768 0 0), (3, .ref 8208 0 0), (4, .sl 12288 0 8), (5, .sl 16400 0 (padL bs).length), (6, .t (.int .i64 ((64 * k : Nat) : Int)))])
        (fun t => [(32768, .live 1 (((sched B t).map u32T).map V.t) true true), (8208, .live 1 ((k256.map u32T).map V.t) true true), (12288, .live 1 ((H.map u32T).map V.t) true false), (16400, .live 1 (((padL bs).map byteT).map V.t) true false)]) ?_ (fun t ht => ?_)
      · refine Weak.rd id ?_ ?_ rfl
        all_goals simp (config := { maxSteps := 2000000 }) (disch := (first | omega | (simp only [lens, lenm]; omega))) only [go_sem, ↓reduceIte, Nat.reduceAdd, Nat.reduceEqDiff, Nat.reduceSub, Nat.reduceMul, Nat.reduceLT, Nat.reduceLeDiff, Nat.reduceBEq, Int.reduceEq, Int.reduceLT, Int.reduceLE, Int.reduceToNat, Int.reduceNeg, Int.reduceAdd, Int.reduceSub, Int.reduceMul, Int.reduceMod, Int.reduceDiv, reduceCtorEq, Nat.reducePow, Int.reducePow, id, sched]
      · have hs : (sched B t).length = 64 := sched_length
        by_cases hlt2 : t < 64
        · by_cases h16 : t < 16
          · simp (config := { maxSteps := 2000000 }) (disch := (first | omega | (simp only [lens, lenm]; omega))) only [go_sem, ↓reduceIte, Nat.reduceAdd, Nat.reduceEqDiff, Nat.reduceSub, Nat.reduceMul, Nat.reduceLT, Nat.reduceLeDiff, Nat.reduceBEq, Int.reduceEq, Int.reduceLT, Int.reduceLE, Int.reduceToNat, Int.reduceNeg, Int.reduceAdd, Int.reduceSub, Int.reduceMul, Int.reduceMod, Int.reduceDiv, reduceCtorEq, Nat.reducePow, Int.reducePow, ac_ref1_Sum256_L1, h3, word_eq, hs, hB]
            refine ⟨hlt2, Weak.rd id ?_ ?_ rfl⟩
            all_goals simp (config := { maxSteps := 2000000 }) (disch := (first | omega | (simp only [lens, lenm]; omega))) only [go_sem, ↓reduceIte, Nat.reduceAdd, Nat.reduceEqDiff, Nat.reduceSub, Nat.reduceMul, Nat.reduceLT, Nat.reduceLeDiff, Nat.reduceBEq, Int.reduceEq, Int.reduceLT, Int.reduceLE, Int.reduceToNat, Int.reduceNeg, Int.reduceAdd, Int.reduceSub, Int.reduceMul, Int.reduceMod, Int.reduceDiv, reduceCtorEq, Nat.reducePow, Int.reducePow, id, sched, if_pos h16]
          · simp (config := { maxSteps := 2000000 }) (disch := (first | omega | (simp only [lens, lenm]; omega))) only [go_sem, ↓reduceIte, Nat.reduceAdd, Nat.reduceEqDiff, Nat.reduceSub, Nat.reduceMul, Nat.reduceLT, Nat.reduceLeDiff, Nat.reduceBEq, Int.reduceEq, Int.reduceLT, Int.reduceLE, Int.reduceToNat, Int.reduceNeg, Int.reduceAdd, Int.reduceSub, Int.reduceMul, Int.reduceMod, Int.reduceDiv, reduceCtorEq, Nat.reducePow, Int.reducePow, ac_ref1_Sum256_L1, h4, rotr_eq, hs]
            repeat refine And.intro rfl ?_
            refine ⟨hlt2, Weak.rd id ?_ ?_ rfl⟩
            all_goals simp (config := { maxSteps := 2000000 }) (disch := (first | omega | (simp only [lens, lenm]; omega))) only [go_sem, ↓reduceIte, Nat.reduceAdd, Nat.reduceEqDiff, Nat.reduceSub, Nat.reduceMul, Nat.reduceLT, Nat.reduceLeDiff, Nat.reduceBEq, Int.reduceEq, Int.reduceLT, Int.reduceLE, Int.reduceToNat, Int.reduceNeg, Int.reduceAdd, Int.reduceSub, Int.reduceMul, Int.reduceMod, Int.reduceDiv, reduceCtorEq, Nat.reducePow, Int.reducePow, id, sched, if_neg h16]
            rfl
        · have e : t = 64 := by omega
          subst e
          have hT : List.take 8 H = H := List.take_of_length_le (by omega)
          simp (config := { maxSteps := 2000000 }) (disch := (first | omega | (simp only [lens, lenm]; omega))) only [go_sem, ↓reduceIte, Nat.reduceAdd, Nat.reduceEqDiff, Nat.reduceSub, Nat.reduceMul, Nat.reduceLT, Nat.reduceLeDiff, Nat.reduceBEq, Int.reduceEq, Int.reduceLT, Int.reduceLE, Int.reduceToNat, Int.reduceNeg, Int.reduceAdd, Int.reduceSub, Int.reduceMul, Int.reduceMod, Int.reduceDiv, reduceCtorEq, Nat.reducePow, Int.reducePow, ac_ref1_Sum256_L1, hl, hT]
          refine loop_upto 64 (fun t => [(12, .t (.int .i64 t)), (11, .sl 69664 0 8), (7, .ref 32768 0 0), (3, .ref 8208 0 0), (4, .sl 12288 0 8), (5, .sl 16400 0 (padL bs).length), (6, .t (.int .i64 ((64 * k : Nat) : Int)))])
            (fun t => [(69664, .live 1 (((rounds (sched B 64) H t).map u32T).map V.t) true false), (32768, .live 1 (((sched B 64).map u32T).map V.t) true true), (8208, .live 1 ((k256.map u32T).map V.t) true true), (12288, .live 1 ((H.map u32T).map V.t) true false), (16400, .live 1 (((padL bs).map byteT).map V.t) true false)]) ?_ (fun t ht => ?_)
          · refine Weak.rd id ?_ ?_ rfl
            all_goals simp (config := { maxSteps := 2000000 }) (disch := (first | omega | (simp only [lens, lenm]; omega))) only [go_sem, ↓reduceIte, Nat.reduceAdd, Nat.reduceEqDiff, Nat.reduceSub, Nat.reduceMul, Nat.reduceLT, Nat.reduceLeDiff, Nat.reduceBEq, Int.reduceEq, Int.reduceLT, Int.reduceLE, Int.reduceToNat, Int.reduceNeg, Int.reduceAdd, Int.reduceSub, Int.reduceMul, Int.reduceMod, Int.reduceDiv, reduceCtorEq, Nat.reducePow, Int.reducePow, id, rounds]
          · have hr : (rounds (sched B 64) H t).length = 8 := rounds_length hl
            by_cases hlt3 : t < 64
            · simp (config := { maxSteps := 2000000 }) (disch := (first | omega | (simp only [lens, lenm]; omega))) only [go_sem, ↓reduceIte, Nat.reduceAdd, Nat.reduceEqDiff, Nat.reduceSub, Nat.reduceMul, Nat.reduceLT, Nat.reduceLeDiff, Nat.reduceBEq, Int.reduceEq, Int.reduceLT, Int.reduceLE, Int.reduceToNat, Int.reduceNeg, Int.reduceAdd, Int.reduceSub, Int.reduceMul, Int.reduceMod, Int.reduceDiv, reduceCtorEq, Nat.reducePow, Int.reducePow, ac_ref1_Sum256_L2, h4, rotr_eq, hs, hr, hk2]
              repeat refine And.intro rfl ?_
              refine ⟨hlt3, Weak.rd (fun i => if i = 69664 then 98656 else i) ?_ ?_ rfl⟩
              all_goals simp (config := { maxSteps := 2000000 }) (disch := (first | omega | (simp only [lens, lenm]; omega))) only [go_sem, ↓reduceIte, Nat.reduceAdd, Nat.reduceEqDiff, Nat.reduceSub, Nat.reduceMul, Nat.reduceLT, Nat.reduceLeDiff, Nat.reduceBEq, Int.reduceEq, Int.reduceLT, Int.reduceLE, Int.reduceToNat, Int.reduceNeg, Int.reduceAdd, Int.reduceSub, Int.reduceMul, Int.reduceMod, Int.reduceDiv, reduceCtorEq, Nat.reducePow, Int.reducePow, rounds, rnd]
              trace_state
            · have e : t = 64 := by omega
              subst e
              simp (config := { maxSteps := 2000000 }) (disch := (first | omega | (simp only [lens, lenm]; omega))) only [go_sem, ↓reduceIte, Nat.reduceAdd, Nat.reduceEqDiff, Nat.reduceSub, Nat.reduceMul, Nat.reduceLT, Nat.reduceLeDiff, Nat.reduceBEq, Int.reduceEq, Int.reduceLT, Int.reduceLE, Int.reduceToNat, Int.reduceNeg, Int.reduceAdd, Int.reduceSub, Int.reduceMul, Int.reduceMod, Int.reduceDiv, reduceCtorEq, Nat.reducePow, Int.reducePow, ac_ref1_Sum256_L2]
              refine loop_upto 8 (fun t => [(17, .t (.int .i64 t)), (11, .sl 69664 0 8), (3, .ref 8208 0 0), (4, .sl 12288 0 8), (5, .sl 16400 0 (padL bs).length), (6, .t (.int .i64 ((64 * k : Nat) : Int)))])
                (fun t => [(69664, .live 1 (((rounds (sched B 64) H 64).map u32T).map V.t) true false), (8208, .live 1 ((k256.map u32T).map V.t) true true), (12288, .live 1 (((addW H (rounds (sched B 64) H 64) t).map u32T).map V.t) true false), (16400, .live 1 (((padL bs).map byteT).map V.t) true false)]) ?_ (fun t ht => ?_)
              · refine Weak.rd id ?_ ?_ rfl
                all_goals simp (config := { maxSteps := 2000000 }) (disch := (first | omega | (simp only [lens, lenm]; omega))) only [go_sem, ↓reduceIte, Nat.reduceAdd, Nat.reduceEqDiff, Nat.reduceSub, Nat.reduceMul, Nat.reduceLT, Nat.reduceLeDiff, Nat.reduceBEq, Int.reduceEq, Int.reduceLT, Int.reduceLE, Int.reduceToNat, Int.reduceNeg, Int.reduceAdd, Int.reduceSub, Int.reduceMul, Int.reduceMod, Int.reduceDiv, reduceCtorEq, Nat.reducePow, Int.reducePow, id, addW]
              · have ha : (addW H (rounds (sched B 64) H 64) t).length = 8 := by rw [addW_length, hl]
                by_cases hlt4 : t < 8
                · simp (config := { maxSteps := 2000000 }) (disch := (first | omega | (simp only [lens, lenm]; omega))) only [go_sem, ↓reduceIte, Nat.reduceAdd, Nat.reduceEqDiff, Nat.reduceSub, Nat.reduceMul, Nat.reduceLT, Nat.reduceLeDiff, Nat.reduceBEq, Int.reduceEq, Int.reduceLT, Int.reduceLE, Int.reduceToNat, Int.reduceNeg, Int.reduceAdd, Int.reduceSub, Int.reduceMul, Int.reduceMod, Int.reduceDiv, reduceCtorEq, Nat.reducePow, Int.reducePow, ac_ref1_Sum256_L3, hr, ha]
                  repeat refine And.intro rfl ?_
                  refine ⟨hlt4, Weak.rd id ?_ ?_ rfl⟩
                  all_goals simp (config := { maxSteps := 2000000 }) (disch := (first | omega | (simp only [lens, lenm]; omega))) only [go_sem, ↓reduceIte, Nat.reduceAdd, Nat.reduceEqDiff, Nat.reduceSub, Nat.reduceMul, Nat.reduceLT, Nat.reduceLeDiff, Nat.reduceBEq, Int.reduceEq, Int.reduceLT, Int.reduceLE, Int.reduceToNat, Int.reduceNeg, Int.reduceAdd, Int.reduceSub, Int.reduceMul, Int.reduceMod, Int.reduceDiv, reduceCtorEq, Nat.reducePow, Int.reducePow, id, addW]
                · have e : t = 8 := by omega
                  subst e
                  simp (config := { maxSteps := 2000000 }) (disch := (first | omega | (simp only [lens, lenm]; omega))) only [go_sem, ↓reduceIte, Nat.reduceAdd, Nat.reduceEqDiff, Nat.reduceSub, Nat.reduceMul, Nat.reduceLT, Nat.reduceLeDiff, Nat.reduceBEq, Int.reduceEq, Int.reduceLT, Int.reduceLE, Int.reduceToNat, Int.reduceNeg, Int.reduceAdd, Int.reduceSub, Int.reduceMul, Int.reduceMod, Int.reduceDiv, reduceCtorEq, Nat.reducePow, Int.reducePow, ac_ref1_Sum256_L3]
                  refine ⟨hlt, Weak.rd id ?_ ?_ rfl⟩
                  all_goals simp (config := { maxSteps := 2000000 }) (disch := (first | omega | (simp only [lens, lenm]; omega))) only [go_sem, ↓reduceIte, Nat.reduceAdd, Nat.reduceEqDiff, Nat.reduceSub, Nat.reduceMul, Nat.reduceLT, Nat.reduceLeDiff, Nat.reduceBEq, Int.reduceEq, Int.reduceLT, Int.reduceLE, Int.reduceToNat, Int.reduceNeg, Int.reduceAdd, Int.reduceSub, Int.reduceMul, Int.reduceMod, Int.reduceDiv, reduceCtorEq, Nat.reducePow, Int.reducePow, id, hN, hH, hB, comp256]
                  omega
    · have e : k = (padL bs).length / 64 := by omega
      subst e
      have e2 : 64 * ((padL bs).length / 64) = (padL bs).length := by omega
      have ht : List.take 8 (hN comp256 iv256 (padL bs) ((padL bs).length / 64)) = hN comp256 iv256 (padL bs) ((padL bs).length / 64) := List.take_of_length_le (by omega)
      simp (config := { maxSteps := 2000000 }) (disch := (first | omega | (simp only [lens, lenm]; omega))) only [go_sem, ↓reduceIte, Nat.reduceAdd, Nat.reduceEqDiff, Nat.reduceSub, Nat.reduceMul, Nat.reduceLT, Nat.reduceLeDiff, Nat.reduceBEq, Int.reduceEq, Int.reduceLT, Int.reduceLE, Int.reduceToNat, Int.reduceNeg, Int.reduceAdd, Int.reduceSub, Int.reduceMul, Int.reduceMod, Int.reduceDiv, reduceCtorEq, Nat.reducePow, Int.reducePow, ac_ref1_Sum256_L0, e2, h5, spread_eq, hl, ht, sum256, sumL]
end Go.Eng
end
section
set_option maxRecDepth 20000
set_option maxHeartbeats 8000000
namespace Go.Eng
def ct_rotl1 : Ct where
  α := UInt32 × Nat
  as x := [.t (u32T x.1), .t (.int .u64 x.2)]
  ins _ := []
  pre x := 0 < x.2 ∧ x.2 < 32
  r x := .t (u32T (rotr x.1 (32 - x.2)))
  outs _ := []
  inj := by
    rintro ⟨a, b⟩ ⟨c, d⟩ h _
    simp [u32T_eq, Int.natCast_inj] at h
    obtain ⟨rfl, rfl⟩ := h
    exact ⟨rfl, rfl⟩
theorem rotl1_eq {x : UInt32} {n : Nat} (h : 0 < n ∧ n < 32) : ct_rotl1.fs [.t (u32T x), .t (.int .u64 (no_index (@OfNat.ofNat Int n _)))] [] = some (.t (u32T (rotr x (32 - n))), []) := ct_rotl1.eq (x, n) h
theorem w_ref1_Sum1 (tab : Tab) (gl : Gl) (n2 n3 n4 n5 : Nat) (h2 : tab.look n2 = some ct_pad.fs) (h3 : tab.look n3 = some ct_word.fs) (h4 : tab.look n4 = some ct_rotl1.fs) (h5 : tab.look n5 = some ct_spread.fs)
    (bs : List UInt8) (hb : bs.length < 1000000000) :
    (ac_ref1_Sum1 n2 n3 n4 n5).wp tab gl (zipF 0 [.t (.sl (bs.map byteT))]) (zipF 0 []) (resF [] [(2, none)] 0 (fun r o => r = .sl 0 0 20 ∧ o = [.live 1 (((sum1 bs).map byteT).map V.t) true false])) := by
  have hp := padL_length bs
  have hm := padL_mod bs
  have hz : padZ bs.length < 64 := by unfold padZ; omega
  simp (config := { maxSteps := 2000000 }) (disch := (first | omega | (simp only [lens, lenm]; omega))) only [go_sem, ↓reduceIte, Nat.reduceAdd, Nat.reduceEqDiff, Nat.reduceSub, Nat.reduceMul, Nat.reduceLT, Nat.reduceLeDiff, Nat.reduceBEq, Int.reduceEq, Int.reduceLT, Int.reduceLE, Int.reduceToNat, Int.reduceNeg, Int.reduceAdd, Int.reduceSub, Int.reduceMul, Int.reduceMod, Int.reduceDiv, reduceCtorEq, Nat.reducePow, Int.reducePow, ac_ref1_Sum1, h2, pad_eq]
  refine loop_upto ((padL bs).length / 64) (fun k => [(3, .sl 8192 0 5), (4, .sl 12304 0 (padL bs).length), (5, .t (.int .i64 ((64 * k : Nat) : Int)))])
    (fun k => [(8192, .live 1 (((hN comp1 iv1 (padL bs) k).map u32T).map V.t) true false), (12304, .live 1 (((padL bs).map byteT).map V.t) true false)]) ?_ (fun k hk => ?_)
  · refine Weak.rd id ?_ ?_ rfl
    all_goals simp (config := { maxSteps := 2000000 }) (disch := (first | omega | (simp only [lens, lenm]; omega))) only [go_sem, ↓reduceIte, Nat.reduceAdd, Nat.reduceEqDiff, Nat.reduceSub, Nat.reduceMul, Nat.reduceLT, Nat.reduceLeDiff, Nat.reduceBEq, Int.reduceEq, Int.reduceLT, Int.reduceLE, Int.reduceToNat, Int.reduceNeg, Int.reduceAdd, Int.reduceSub, Int.reduceMul, Int.reduceMod, Int.reduceDiv, reduceCtorEq, Nat.reducePow, Int.reducePow, id, hN, iv1, Nat.mul_zero, List.map_cons, List.map_nil]
  · have hl : (hN comp1 iv1 (padL bs) k).length = 5 := h1_length
    by_cases hlt : k < (padL bs).length / 64
    · generalize hH : hN comp1 iv1 (padL bs) k = H at hl ⊢
      generalize hB : List.take 64 (List.drop (64 * k) (padL bs)) = B
      have hBl : B.length = 64 := by rw [← hB]; simp only [List.length_take, List.length_drop]; omega
      simp (config := { maxSteps := 2000000 }) (disch := (first | omega | (simp only [lens, lenm]; omega))) only [go_sem, ↓reduceIte, Nat.reduceAdd, Nat.reduceEqDiff, Nat.reduceSub, Nat.reduceMul, Nat.reduceLT, Nat.reduceLeDiff, Nat.reduceBEq, Int.reduceEq, Int.reduceLT, Int.reduceLE, Int.reduceToNat, Int.reduceNeg, Int.reduceAdd, Int.reduceSub, Int.reduceMul, Int.reduceMod, Int.reduceDiv, reduceCtorEq, Nat.reducePow, Int.reducePow, ac_ref1_Sum1_L0]
      refine loop_upto 80 (fun t => [(7, .t (.int .i64 t)), (6, .ref 28672 0 0), (3, .sl 8192 0 5), (4, .sl 12304 0 (padL bs).length), (5, .t (.int .i64 ((64 * k : Nat) : Int)))])
        (fun t => [(28672, .live 1 (((sched1 B t).map u32T).map V.t) true true), (8192, .live 1 ((H.map u32T).map V.t) true false), (12304, .live 1 (((padL bs).map byteT).map V.t) true false)]) ?_ (fun t ht => ?_)
      · refine Weak.rd id ?_ ?_ rfl
        all_goals simp (config := { maxSteps := 2000000 }) (disch := (first | omega | (simp only [lens, lenm]; omega))) only [go_sem, ↓reduceIte, Nat.reduceAdd, Nat.reduceEqDiff, Nat.reduceSub, Nat.reduceMul, Nat.reduceLT, Nat.reduceLeDiff, Nat.reduceBEq, Int.reduceEq, Int.reduceLT, Int.reduceLE, Int.reduceToNat, Int.reduceNeg, Int.reduceAdd, Int.reduceSub, Int.reduceMul, Int.reduceMod, Int.reduceDiv, reduceCtorEq, Nat.reducePow, Int.reducePow, id, sched1]
      · have hs : (sched1 B t).length = 80 := sched1_length
        by_cases hlt2 : t < 80
        · by_cases h16 : t < 16
          · simp (config := { maxSteps := 2000000 }) (disch := (first | omega | (simp only [lens, lenm]; omega))) only [go_sem, ↓reduceIte, Nat.reduceAdd, Nat.reduceEqDiff, Nat.reduceSub, Nat.reduceMul, Nat.reduceLT, Nat.reduceLeDiff, Nat.reduceBEq, Int.reduceEq, Int.reduceLT, Int.reduceLE, Int.reduceToNat, Int.reduceNeg, Int.reduceAdd, Int.reduceSub, Int.reduceMul, Int.reduceMod, Int.reduceDiv, reduceCtorEq, Nat.reducePow, Int.reducePow, ac_ref1_Sum1_L1, h3, word_eq, hs, hB]
            repeat refine And.intro rfl ?_
            refine ⟨hlt2, Weak.rd id ?_ ?_ rfl⟩
            all_goals simp (config := { maxSteps := 2000000 }) (disch := (first | omega | (simp only [lens, lenm]; omega))) only [go_sem, ↓reduceIte, Nat.reduceAdd, Nat.reduceEqDiff, Nat.reduceSub, Nat.reduceMul, Nat.reduceLT, Nat.reduceLeDiff, Nat.reduceBEq, Int.reduceEq, Int.reduceLT, Int.reduceLE, Int.reduceToNat, Int.reduceNeg, Int.reduceAdd, Int.reduceSub, Int.reduceMul, Int.reduceMod, Int.reduceDiv, reduceCtorEq, Nat.reducePow, Int.reducePow, id, sched1, if_pos h16]
          · simp (config := { maxSteps := 2000000 }) (disch := (first | omega | (simp only [lens, lenm]; omega))) only [go_sem, ↓reduceIte, Nat.reduceAdd, Nat.reduceEqDiff, Nat.reduceSub, Nat.reduceMul, Nat.reduceLT, Nat.reduceLeDiff, Nat.reduceBEq, Int.reduceEq, Int.reduceLT, Int.reduceLE, Int.reduceToNat, Int.reduceNeg, Int.reduceAdd, Int.reduceSub, Int.reduceMul, Int.reduceMod, Int.reduceDiv, reduceCtorEq, Nat.reducePow, Int.reducePow, ac_ref1_Sum1_L1, h4, rotl1_eq, hs]
            repeat refine And.intro rfl ?_
            refine ⟨hlt2, Weak.rd id ?_ ?_ rfl⟩
            all_goals simp (config := { maxSteps := 2000000 }) (disch := (first | omega | (simp only [lens, lenm]; omega))) only [go_sem, ↓reduceIte, Nat.reduceAdd, Nat.reduceEqDiff, Nat.reduceSub, Nat.reduceMul, Nat.reduceLT, Nat.reduceLeDiff, Nat.reduceBEq, Int.reduceEq, Int.reduceLT, Int.reduceLE, Int.reduceToNat, Int.reduceNeg, Int.reduceAdd, Int.reduceSub, Int.reduceMul, Int.reduceMod, Int.reduceDiv, reduceCtorEq, Nat.reducePow, Int.reducePow, id, sched1, if_neg h16]
        · have e : t = 80 := by omega
          subst e
          simp (config := { maxSteps := 2000000 }) (disch := (first | omega | (simp only [lens, lenm]; omega))) only [go_sem, ↓reduceIte, Nat.reduceAdd, Nat.reduceEqDiff, Nat.reduceSub, Nat.reduceMul, Nat.reduceLT, Nat.reduceLeDiff, Nat.reduceBEq, Int.reduceEq, Int.reduceLT, Int.reduceLE, Int.reduceToNat, Int.reduceNeg, Int.reduceAdd, Int.reduceSub, Int.reduceMul, Int.reduceMod, Int.reduceDiv, reduceCtorEq, Nat.reducePow, Int.reducePow, ac_ref1_Sum1_L1, hl]
          repeat refine And.intro rfl ?_
          refine loop_upto 80 (fun t => [(13, .t (.int .i64 t)), (6, .ref 28672 0 0), (3, .sl 8192 0 5), (4, .sl 12304 0 (padL bs).length), (5, .t (.int .i64 ((64 * k : Nat) : Int))),
              (8, .t (u32T ((rounds1 (sched1 B 80) H t).getD 0 0))), (9, .t (u32T ((rounds1 (sched1 B 80) H t).getD 1 0))), (10, .t (u32T ((rounds1 (sched1 B 80) H t).getD 2 0))), (11, .t (u32T ((rounds1 (sched1 B 80) H t).getD 3 0))), (12, .t (u32T ((rounds1 (sched1 B 80) H t).getD 4 0)))])
            (fun _ => [(28672, .live 1 (((sched1 B 80).map u32T).map V.t) true true), (8192, .live 1 ((H.map u32T).map V.t) true false), (12304, .live 1 (((padL bs).map byteT).map V.t) true false)]) ?_ (fun t ht => ?_)
          · refine Weak.rd id ?_ ?_ rfl
            all_goals simp (config := { maxSteps := 2000000 }) (disch := (first | omega | (simp only [lens, lenm]; omega))) only [go_sem, ↓reduceIte, Nat.reduceAdd, Nat.reduceEqDiff, Nat.reduceSub, Nat.reduceMul, Nat.reduceLT, Nat.reduceLeDiff, Nat.reduceBEq, Int.reduceEq, Int.reduceLT, Int.reduceLE, Int.reduceToNat, Int.reduceNeg, Int.reduceAdd, Int.reduceSub, Int.reduceMul, Int.reduceMod, Int.reduceDiv, reduceCtorEq, Nat.reducePow, Int.reducePow, id, rounds1]
          · by_cases hlt3 : t < 80
            · by_cases h20 : t < 20
              · simp (config := { maxSteps := 2000000 }) (disch := (first | omega | (simp only [lens, lenm]; omega))) only [go_sem, ↓reduceIte, Nat.reduceAdd, Nat.reduceEqDiff, Nat.reduceSub, Nat.reduceMul, Nat.reduceLT, Nat.reduceLeDiff, Nat.reduceBEq, Int.reduceEq, Int.reduceLT, Int.reduceLE, Int.reduceToNat, Int.reduceNeg, Int.reduceAdd, Int.reduceSub, Int.reduceMul, Int.reduceMod, Int.reduceDiv, reduceCtorEq, Nat.reducePow, Int.reducePow, ac_ref1_Sum1_L2, h4, rotl1_eq, hs]
                repeat refine And.intro rfl ?_
                refine ⟨hlt3, Weak.rd id ?_ ?_ rfl⟩
                all_goals simp (config := { maxSteps := 2000000 }) (disch := (first | omega | (simp only [lens, lenm]; omega))) only [go_sem, ↓reduceIte, Nat.reduceAdd, Nat.reduceEqDiff, Nat.reduceSub, Nat.reduceMul, Nat.reduceLT, Nat.reduceLeDiff, Nat.reduceBEq, Int.reduceEq, Int.reduceLT, Int.reduceLE, Int.reduceToNat, Int.reduceNeg, Int.reduceAdd, Int.reduceSub, Int.reduceMul, Int.reduceMod, Int.reduceDiv, reduceCtorEq, Nat.reducePow, Int.reducePow, id, rounds1, rnd1, f1, k1, if_pos h20, List.getD_cons_zero, List.getD_cons_succ]
              · by_cases h40 : t < 40
                · simp (config := { maxSteps := 2000000 }) (disch := (first | omega | (simp only [lens, lenm]; omega))) only [go_sem, ↓reduceIte, Nat.reduceAdd, Nat.reduceEqDiff, Nat.reduceSub, Nat.reduceMul, Nat.reduceLT, Nat.reduceLeDiff, Nat.reduceBEq, Int.reduceEq, Int.reduceLT, Int.reduceLE, Int.reduceToNat, Int.reduceNeg, Int.reduceAdd, Int.reduceSub, Int.reduceMul, Int.reduceMod, Int.reduceDiv, reduceCtorEq, Nat.reducePow, Int.reducePow, ac_ref1_Sum1_L2, h4, rotl1_eq, hs]
                  repeat refine And.intro rfl ?_
                  refine ⟨hlt3, Weak.rd id ?_ ?_ rfl⟩
                  all_goals simp (config := { maxSteps := 2000000 }) (disch := (first | omega | (simp only [lens, lenm]; omega))) only [go_sem, ↓reduceIte, Nat.reduceAdd, Nat.reduceEqDiff, Nat.reduceSub, Nat.reduceMul, Nat.reduceLT, Nat.reduceLeDiff, Nat.reduceBEq, Int.reduceEq, Int.reduceLT, Int.reduceLE, Int.reduceToNat, Int.reduceNeg, Int.reduceAdd, Int.reduceSub, Int.reduceMul, Int.reduceMod, Int.reduceDiv, reduceCtorEq, Nat.reducePow, Int.reducePow, id, rounds1, rnd1, f1, k1, if_neg h20, if_pos h40, List.getD_cons_zero, List.getD_cons_succ]
                · by_cases h60 : t < 60
                  · simp (config := { maxSteps := 2000000 }) (disch := (first | omega | (simp only [lens, lenm]; omega))) only [go_sem, ↓reduceIte, Nat.reduceAdd, Nat.reduceEqDiff, Nat.reduceSub, Nat.reduceMul, Nat.reduceLT, Nat.reduceLeDiff, Nat.reduceBEq, Int.reduceEq, Int.reduceLT, Int.reduceLE, Int.reduceToNat, Int.reduceNeg, Int.reduceAdd, Int.reduceSub, Int.reduceMul, Int.reduceMod, Int.reduceDiv, reduceCtorEq, Nat.reducePow, Int.reducePow, ac_ref1_Sum1_L2, h4, rotl1_eq, hs]
                    repeat refine And.intro rfl ?_
                    refine ⟨hlt3, Weak.rd id ?_ ?_ rfl⟩
                    all_goals simp (config := { maxSteps := 2000000 }) (disch := (first | omega | (simp only [lens, lenm]; omega))) only [go_sem, ↓reduceIte, Nat.reduceAdd, Nat.reduceEqDiff, Nat.reduceSub, Nat.reduceMul, Nat.reduceLT, Nat.reduceLeDiff, Nat.reduceBEq, Int.reduceEq, Int.reduceLT, Int.reduceLE, Int.reduceToNat, Int.reduceNeg, Int.reduceAdd, Int.reduceSub, Int.reduceMul, Int.reduceMod, Int.reduceDiv, reduceCtorEq, Nat.reducePow, Int.reducePow, id, rounds1, rnd1, f1, k1, if_neg h20, if_neg h40, if_pos h60, List.getD_cons_zero, List.getD_cons_succ]
                  · simp (config := { maxSteps := 2000000 }) (disch := (first | omega | (simp only [lens, lenm]; omega))) only [go_sem, ↓reduceIte, Nat.reduceAdd, Nat.reduceEqDiff, Nat.reduceSub, Nat.reduceMul, Nat.reduceLT, Nat.reduceLeDiff, Nat.reduceBEq, Int.reduceEq, Int.reduceLT, Int.reduceLE, Int.reduceToNat, Int.reduceNeg, Int.reduceAdd, Int.reduceSub, Int.reduceMul, Int.reduceMod, Int.reduceDiv, reduceCtorEq, Nat.reducePow, Int.reducePow, ac_ref1_Sum1_L2, h4, rotl1_eq, hs]
                    repeat refine And.intro rfl ?_
                    refine ⟨hlt3, Weak.rd id ?_ ?_ rfl⟩
                    all_goals simp (config := { maxSteps := 2000000 }) (disch := (first | omega | (simp only [lens, lenm]; omega))) only [go_sem, ↓reduceIte, Nat.reduceAdd, Nat.reduceEqDiff, Nat.reduceSub, Nat.reduceMul, Nat.reduceLT, Nat.reduceLeDiff, Nat.reduceBEq, Int.reduceEq, Int.reduceLT, Int.reduceLE, Int.reduceToNat, Int.reduceNeg, Int.reduceAdd, Int.reduceSub, Int.reduceMul, Int.reduceMod, Int.reduceDiv, reduceCtorEq, Nat.reducePow, Int.reducePow, id, rounds1, rnd1, f1, k1, if_neg h20, if_neg h40, if_neg h60, List.getD_cons_zero, List.getD_cons_succ]
            · have e : t = 80 := by omega
              subst e
              simp (config := { maxSteps := 2000000 }) (disch := (first | omega | (simp only [lens, lenm]; omega))) only [go_sem, ↓reduceIte, Nat.reduceAdd, Nat.reduceEqDiff, Nat.reduceSub, Nat.reduceMul, Nat.reduceLT, Nat.reduceLeDiff, Nat.reduceBEq, Int.reduceEq, Int.reduceLT, Int.reduceLE, Int.reduceToNat, Int.reduceNeg, Int.reduceAdd, Int.reduceSub, Int.reduceMul, Int.reduceMod, Int.reduceDiv, reduceCtorEq, Nat.reducePow, Int.reducePow, ac_ref1_Sum1_L2, hl]
              repeat refine And.intro rfl ?_
              refine ⟨hlt, Weak.rd (fun i => if i = 8192 then 110992 else i) ?_ ?_ rfl⟩
              all_goals simp (config := { maxSteps := 2000000 }) (disch := (first | omega | (simp only [lens, lenm]; omega))) only [go_sem, ↓reduceIte, Nat.reduceAdd, Nat.reduceEqDiff, Nat.reduceSub, Nat.reduceMul, Nat.reduceLT, Nat.reduceLeDiff, Nat.reduceBEq, Int.reduceEq, Int.reduceLT, Int.reduceLE, Int.reduceToNat, Int.reduceNeg, Int.reduceAdd, Int.reduceSub, Int.reduceMul, Int.reduceMod, Int.reduceDiv, reduceCtorEq, Nat.reducePow, Int.reducePow, hN, hH, hB, comp1]
              omega
    · have e : k = (padL bs).length / 64 := by omega
      subst e
      have e2 : 64 * ((padL bs).length / 64) = (padL bs).length := by omega
      have ht : List.take 5 (hN comp1 iv1 (padL bs) ((padL bs).length / 64)) = hN comp1 iv1 (padL bs) ((padL bs).length / 64) := List.take_of_length_le (by omega)
      simp (config := { maxSteps := 2000000 }) (disch := (first | omega | (simp only [lens, lenm]; omega))) only [go_sem, ↓reduceIte, Nat.reduceAdd, Nat.reduceEqDiff, Nat.reduceSub, Nat.reduceMul, Nat.reduceLT, Nat.reduceLeDiff, Nat.reduceBEq, Int.reduceEq, Int.reduceLT, Int.reduceLE, Int.reduceToNat, Int.reduceNeg, Int.reduceAdd, Int.reduceSub, Int.reduceMul, Int.reduceMod, Int.reduceDiv, reduceCtorEq, Nat.reducePow, Int.reducePow, ac_ref1_Sum1_L0, e2, h5, spread_eq, hl, ht, sum1, sumL]
end Go.Eng
end
section
set_option maxRecDepth 20000
set_option maxHeartbeats 8000000
namespace Go.Eng
def szA (a : Nat) : Nat := if a = 0 then 20 else if a = 1 then 32 else 0
def sumA (a : Nat) (bs : List UInt8) : List UInt8 := if a = 0 then sum1 bs else if a = 1 then sum256 bs else []
theorem sumL_length {comp : List UInt32 → List UInt8 → List UInt32} {iv : List UInt32} {bs : List UInt8} {n : Nat} (hc : ∀ h b, h.length = n → (comp h b).length = n) (hi : iv.length = n) : (sumL comp iv bs).length = 4 * n := by
  have : ∀ k p, (hN comp iv p k).length = n := by
    intro k p
    induction k with
    | zero => exact hi
    | succ k ih => exact hc _ _ ih
  rw [sumL, spreadL_length, this]
theorem sum256_length {bs : List UInt8} : (sum256 bs).length = 32 := sumL_length (n := 8) (fun h b e => by rw [comp256_length, e]) rfl
theorem sum1_length {bs : List UInt8} : (sum1 bs).length = 20 := sumL_length (n := 5) (fun h b _ => rfl) rfl
theorem w_ref1_Copy (tab : Tab) (gl : Gl) (bs : List UInt8) (hb : bs.length < 1000000000) : ac_ref1_Copy.wp tab gl (zipF 0 [.t (.sl (bs.map byteT))]) (zipF 0 []) (resF [] [(2, none)] 0 (fun r o => r = .sl 0 0 bs.length ∧ o = [.live 1 ((bs.map byteT).map V.t) true false])) := by
  simp (config := { maxSteps := 2000000 }) (disch := (first | omega | (simp only [lens, lenm]; omega))) only [go_sem, ↓reduceIte, Nat.reduceAdd, Nat.reduceEqDiff, Nat.reduceSub, Nat.reduceMul, Nat.reduceLT, Nat.reduceLeDiff, Nat.reduceBEq, Int.reduceEq, Int.reduceLT, Int.reduceLE, Int.reduceToNat, Int.reduceNeg, Int.reduceAdd, Int.reduceSub, Int.reduceMul, Int.reduceMod, Int.reduceDiv, reduceCtorEq, Nat.reducePow, Int.reducePow, ac_ref1_Copy]
def ct_sum (n : Nat) (f : List UInt8 → List UInt8) : Ct where
  α := List UInt8
  as x := [.t (.sl (x.map byteT))]
  ins _ := []
  pre x := x.length < 1000000000
  r _ := .sl 0 0 n
  outs x := [.live 1 (((f x).map byteT).map V.t) true false]
  inj := by
    intro a b h _
    simp [mapB_inj] at h
    subst h; exact ⟨rfl, rfl⟩
theorem sum_eq {n : Nat} {f : List UInt8 → List UInt8} {bs : List UInt8} (h : bs.length < 1000000000) : (ct_sum n f).fs [.t (.sl (bs.map byteT))] [] = some (.sl 0 0 n, [.live 1 (((f bs).map byteT).map V.t) true false]) := (ct_sum n f).eq bs h
theorem w_ref1_Sum (tab : Tab) (gl : Gl) (n1 n2 : Nat) (h1 : tab.look n1 = some (ct_sum 20 sum1).fs) (h2 : tab.look n2 = some (ct_sum 32 sum256).fs) (a : Nat) (ha : a < 2) (bs : List UInt8) (hb : bs.length < 1000000000) :
    (ac_ref1_Sum n1 n2).wp tab gl (zipF 0 [.t (.int .i64 a), .t (.sl (bs.map byteT))]) (zipF 0 []) (resF [] [(4, none)] 0 (fun r o => r = .sl 0 0 (szA a) ∧ o = [.live 1 (((sumA a bs).map byteT).map V.t) true false])) := by
  rcases (show a = 0 ∨ a = 1 by omega) with rfl | rfl
  · simp (config := { maxSteps := 2000000 }) (disch := (first | omega | (simp only [lens, lenm]; omega))) only [go_sem, ↓reduceIte, Nat.reduceAdd, Nat.reduceEqDiff, Nat.reduceSub, Nat.reduceMul, Nat.reduceLT, Nat.reduceLeDiff, Nat.reduceBEq, Int.reduceEq, Int.reduceLT, Int.reduceLE, Int.reduceToNat, Int.reduceNeg, Int.reduceAdd, Int.reduceSub, Int.reduceMul, Int.reduceMod, Int.reduceDiv, reduceCtorEq, Nat.reducePow, Int.reducePow, ac_ref1_Sum, h1, sum_eq, szA, sumA]
  · simp (config := { maxSteps := 2000000 }) (disch := (first | omega | (simp only [lens, lenm]; omega))) only [go_sem, ↓reduceIte, Nat.reduceAdd, Nat.reduceEqDiff, Nat.reduceSub, Nat.reduceMul, Nat.reduceLT, Nat.reduceLeDiff, Nat.reduceBEq, Int.reduceEq, Int.reduceLT, Int.reduceLE, Int.reduceToNat, Int.reduceNeg, Int.reduceAdd, Int.reduceSub, Int.reduceMul, Int.reduceMod, Int.reduceDiv, reduceCtorEq, Nat.reducePow, Int.reducePow, ac_ref1_Sum, h2, sum_eq, szA, sumA]
def be32 (n : Nat) : List UInt8 := [UInt8.ofNat (n / 2 ^ 24), UInt8.ofNat (n / 2 ^ 16), UInt8.ofNat (n / 2 ^ 8), UInt8.ofNat n]
def frameL (tag : Nat) (fs : List (List UInt8)) : List UInt8 := UInt8.ofNat tag :: fs.flatMap fun f => be32 f.length ++ f
theorem frameL_take {tag : Nat} {fs : List (List UInt8)} {k : Nat} (h : k < fs.length) : frameL tag (fs.take (k + 1)) = frameL tag (fs.take k) ++ be32 (fs.getD k []).length ++ fs.getD k [] := by
  rw [take_s (d := []) h]; simp [frameL]
theorem frameL_le {tag : Nat} {fs : List (List UInt8)} {k : Nat} : (frameL tag (fs.take k)).length ≤ (frameL tag fs).length := by
  have : frameL tag fs = frameL tag (fs.take k) ++ (fs.drop k).flatMap fun f => be32 f.length ++ f := by
    simp only [frameL, List.cons_append, ← List.flatMap_append, List.take_append_drop]
  rw [this, List.length_append]; omega
theorem frameL_ge {tag : Nat} {fs : List (List UInt8)} : 4 * fs.length + 1 ≤ (frameL tag fs).length := by
  simp only [frameL, List.length_cons]
  have : 4 * fs.length ≤ (fs.flatMap fun f => be32 f.length ++ f).length := by
    induction fs with
    | nil => simp
    | cons f r ih =>
      have h4 : ∀ n, (be32 n).length = 4 := fun _ => rfl
      simp only [List.flatMap_cons, List.length_append, List.length_cons, h4]; omega
  omega
theorem w_digest_Frame (tab : Tab) (gl : Gl) (tag : Nat) (ht : tag < 256) (fs : List (List UInt8)) (hb : (frameL tag fs).length < 1000000000) : ac_digest_Frame.wp tab gl (zipF 0 [.t (.int .i64 tag), .t (.sl (fs.map bsT))]) (zipF 0 []) (resF [] [(4, none)] 0 (fun r o => r = .sl 0 0 (frameL tag fs).length ∧ o = [.live 1 (((frameL tag fs).map byteT).map V.t) true false])) := by
  simp (config := { maxSteps := 2000000 }) (disch := (first | omega | (simp only [lens, lenm]; omega))) only [go_sem, ↓reduceIte, Nat.reduceAdd, Nat.reduceEqDiff, Nat.reduceSub, Nat.reduceMul, Nat.reduceLT, Nat.reduceLeDiff, Nat.reduceBEq, Int.reduceEq, Int.reduceLT, Int.reduceLE, Int.reduceToNat, Int.reduceNeg, Int.reduceAdd, Int.reduceSub, Int.reduceMul, Int.reduceMod, Int.reduceDiv, reduceCtorEq, Nat.reducePow, Int.reducePow, ac_digest_Frame]
  have hge := frameL_ge (tag := tag) (fs := fs)
  refine loop_upto fs.length (fun k => [(5, .sl 8224 0 (frameL tag (fs.take k)).length), (12, V.t (T.sl (List.map bsT fs))), (13, .t (.int .i64 fs.length)), (14, .t (.int .i64 k))]) (fun k => [(8224, .live 1 (((frameL tag (fs.take k)).map byteT).map V.t) true false)]) ?_ (fun k hk => ?_)
  · refine Weak.rd id ?_ ?_ rfl
    all_goals simp (config := { maxSteps := 2000000 }) (disch := (first | omega | (simp only [lens, lenm]; omega))) only [go_sem, ↓reduceIte, Nat.reduceAdd, Nat.reduceEqDiff, Nat.reduceSub, Nat.reduceMul, Nat.reduceLT, Nat.reduceLeDiff, Nat.reduceBEq, Int.reduceEq, Int.reduceLT, Int.reduceLE, Int.reduceToNat, Int.reduceNeg, Int.reduceAdd, Int.reduceSub, Int.reduceMul, Int.reduceMod, Int.reduceDiv, reduceCtorEq, Nat.reducePow, Int.reducePow, id, frameL, List.flatMap_nil, List.map_cons, List.map_nil]
  · have h0 := frameL_le (tag := tag) (fs := fs) (k := k)
    by_cases hlt : k < fs.length
    · have h1 := frameL_le (tag := tag) (fs := fs) (k := k + 1)
      rw [frameL_take hlt, List.length_append, List.length_append] at h1
      have h2 : (be32 (fs.getD k []).length).length = 4 := rfl
      simp (config := { maxSteps := 2000000 }) (disch := (first | omega | (simp only [lens, lenm]; omega))) only [go_sem, ↓reduceIte, Nat.reduceAdd, Nat.reduceEqDiff, Nat.reduceSub, Nat.reduceMul, Nat.reduceLT, Nat.reduceLeDiff, Nat.reduceBEq, Int.reduceEq, Int.reduceLT, Int.reduceLE, Int.reduceToNat, Int.reduceNeg, Int.reduceAdd, Int.reduceSub, Int.reduceMul, Int.reduceMod, Int.reduceDiv, reduceCtorEq, Nat.reducePow, Int.reducePow, ac_digest_Frame_L0]
      refine ⟨hlt, Weak.rd (fun _ => 32800) ?_ ?_ rfl⟩
      all_goals simp (config := { maxSteps := 2000000 }) (disch := (first | omega | (simp only [lens, lenm]; omega))) only [go_sem, ↓reduceIte, Nat.reduceAdd, Nat.reduceEqDiff, Nat.reduceSub, Nat.reduceMul, Nat.reduceLT, Nat.reduceLeDiff, Nat.reduceBEq, Int.reduceEq, Int.reduceLT, Int.reduceLE, Int.reduceToNat, Int.reduceNeg, Int.reduceAdd, Int.reduceSub, Int.reduceMul, Int.reduceMod, Int.reduceDiv, reduceCtorEq, Nat.reducePow, Int.reducePow, frameL_take, be32]
      simp only [List.append_assoc, List.cons_append, List.nil_append]
    · have e : k = fs.length := by omega
      subst e
      simp (config := { maxSteps := 2000000 }) (disch := (first | omega | (simp only [lens, lenm]; omega))) only [go_sem, ↓reduceIte, Nat.reduceAdd, Nat.reduceEqDiff, Nat.reduceSub, Nat.reduceMul, Nat.reduceLT, Nat.reduceLeDiff, Nat.reduceBEq, Int.reduceEq, Int.reduceLT, Int.reduceLE, Int.reduceToNat, Int.reduceNeg, Int.reduceAdd, Int.reduceSub, Int.reduceMul, Int.reduceMod, Int.reduceDiv, reduceCtorEq, Nat.reducePow, Int.reducePow, ac_digest_Frame_L0, List.take_length]
theorem w_ref1_Frame (tab : Tab) (gl : Gl) (tag : Nat) (ht : tag < 256) (fs : List (List UInt8)) (hb : (frameL tag fs).length < 1000000000) : ac_ref1_Frame.wp tab gl (zipF 0 [.t (.int .i64 tag), .t (.sl (fs.map bsT))]) (zipF 0 []) (resF [] [(4, none)] 0 (fun r o => r = .sl 0 0 (frameL tag fs).length ∧ o = [.live 1 (((frameL tag fs).map byteT).map V.t) true false])) := by
  simp (config := { maxSteps := 2000000 }) (disch := (first | omega | (simp only [lens, lenm]; omega))) only [go_sem, ↓reduceIte, Nat.reduceAdd, Nat.reduceEqDiff, Nat.reduceSub, Nat.reduceMul, Nat.reduceLT, Nat.reduceLeDiff, Nat.reduceBEq, Int.reduceEq, Int.reduceLT, Int.reduceLE, Int.reduceToNat, Int.reduceNeg, Int.reduceAdd, Int.reduceSub, Int.reduceMul, Int.reduceMod, Int.reduceDiv, reduceCtorEq, Nat.reducePow, Int.reducePow, ac_ref1_Frame]
  have hge := frameL_ge (tag := tag) (fs := fs)
  refine loop_upto fs.length (fun k => [(5, .sl 8224 0 (frameL tag (fs.take k)).length), (1, V.t (T.sl (List.map bsT fs))), (6, .t (.int .i64 k))]) (fun k => [(8224, .live 1 (((frameL tag (fs.take k)).map byteT).map V.t) true false)]) ?_ (fun k hk => ?_)
  · refine Weak.rd id ?_ ?_ rfl
    all_goals simp (config := { maxSteps := 2000000 }) (disch := (first | omega | (simp only [lens, lenm]; omega))) only [go_sem, ↓reduceIte, Nat.reduceAdd, Nat.reduceEqDiff, Nat.reduceSub, Nat.reduceMul, Nat.reduceLT, Nat.reduceLeDiff, Nat.reduceBEq, Int.reduceEq, Int.reduceLT, Int.reduceLE, Int.reduceToNat, Int.reduceNeg, Int.reduceAdd, Int.reduceSub, Int.reduceMul, Int.reduceMod, Int.reduceDiv, reduceCtorEq, Nat.reducePow, Int.reducePow, id, frameL, List.flatMap_nil, List.map_cons, List.map_nil]
  · have h0 := frameL_le (tag := tag) (fs := fs) (k := k)
    by_cases hlt : k < fs.length
    · have h1 := frameL_le (tag := tag) (fs := fs) (k := k + 1)
      rw [frameL_take hlt, List.length_append, List.length_append] at h1
      have h2 : (be32 (fs.getD k []).length).length = 4 := rfl
      simp (config := { maxSteps := 2000000 }) (disch := (first | omega | (simp only [lens, lenm]; omega))) only [go_sem, ↓reduceIte, Nat.reduceAdd, Nat.reduceEqDiff, Nat.reduceSub, Nat.reduceMul, Nat.reduceLT, Nat.reduceLeDiff, Nat.reduceBEq, Int.reduceEq, Int.reduceLT, Int.reduceLE, Int.reduceToNat, Int.reduceNeg, Int.reduceAdd, Int.reduceSub, Int.reduceMul, Int.reduceMod, Int.reduceDiv, reduceCtorEq, Nat.reducePow, Int.reducePow, ac_ref1_Frame_L0]
      refine ⟨hlt, Weak.rd (fun _ => 32848) ?_ ?_ rfl⟩
      all_goals simp (config := { maxSteps := 2000000 }) (disch := (first | omega | (simp only [lens, lenm]; omega))) only [go_sem, ↓reduceIte, Nat.reduceAdd, Nat.reduceEqDiff, Nat.reduceSub, Nat.reduceMul, Nat.reduceLT, Nat.reduceLeDiff, Nat.reduceBEq, Int.reduceEq, Int.reduceLT, Int.reduceLE, Int.reduceToNat, Int.reduceNeg, Int.reduceAdd, Int.reduceSub, Int.reduceMul, Int.reduceMod, Int.reduceDiv, reduceCtorEq, Nat.reducePow, Int.reducePow, frameL_take, be32]
      simp only [List.append_assoc, List.cons_append, List.nil_append]
    · have e : k = fs.length := by omega
      subst e
      simp (config := { maxSteps := 2000000 }) (disch := (first | omega | (simp only [lens, lenm]; omega))) only [go_sem, ↓reduceIte, Nat.reduceAdd, Nat.reduceEqDiff, Nat.reduceSub, Nat.reduceMul, Nat.reduceLT, Nat.reduceLeDiff, Nat.reduceBEq, Int.reduceEq, Int.reduceLT, Int.reduceLE, Int.reduceToNat, Int.reduceNeg, Int.reduceAdd, Int.reduceSub, Int.reduceMul, Int.reduceMod, Int.reduceDiv, reduceCtorEq, Nat.reducePow, Int.reducePow, ac_ref1_Frame_L0, List.take_length]
theorem w_ref1_Same (tab : Tab) (gl : Gl) (a b : List UInt8) (ha : a.length < 1000000000) (hb : b.length < 1000000000) : ac_ref1_Same.wp tab gl (zipF 0 [.t (.sl (a.map byteT)), .t (.sl (b.map byteT))]) (zipF 0 []) (resW [(4, none)] 0 (fun r o => r = .t (.bool (decide (a = b))) ∧ o = [])) := by
  by_cases hl : a.length = b.length
  · simp (config := { maxSteps := 2000000 }) (disch := (first | omega | (simp only [lens, lenm]; omega))) only [go_sem, ↓reduceIte, Nat.reduceAdd, Nat.reduceEqDiff, Nat.reduceSub, Nat.reduceMul, Nat.reduceLT, Nat.reduceLeDiff, Nat.reduceBEq, Int.reduceEq, Int.reduceLT, Int.reduceLE, Int.reduceToNat, Int.reduceNeg, Int.reduceAdd, Int.reduceSub, Int.reduceMul, Int.reduceMod, Int.reduceDiv, reduceCtorEq, Nat.reducePow, Int.reducePow, ac_ref1_Same]
    refine loop_uptoP a.length (fun i => a.take i = b.take i) (fun k => [(5, .t (.int .i64 k)), (0, .t (.sl (a.map byteT))), (1, .t (.sl (b.map byteT)))]) (fun _ => []) rfl ?_ (fun k hk hP => ?_)
    · refine Weak.rd id ?_ ?_ rfl
      all_goals simp (config := { maxSteps := 2000000 }) (disch := (first | omega | (simp only [lens, lenm]; omega))) only [go_sem, ↓reduceIte, Nat.reduceAdd, Nat.reduceEqDiff, Nat.reduceSub, Nat.reduceMul, Nat.reduceLT, Nat.reduceLeDiff, Nat.reduceBEq, Int.reduceEq, Int.reduceLT, Int.reduceLE, Int.reduceToNat, Int.reduceNeg, Int.reduceAdd, Int.reduceSub, Int.reduceMul, Int.reduceMod, Int.reduceDiv, reduceCtorEq, Nat.reducePow, Int.reducePow, id]
    · by_cases hlt : k < a.length
      · by_cases he : a.getD k 0 = b.getD k 0
        · simp (config := { maxSteps := 2000000 }) (disch := (first | omega | (simp only [lens, lenm]; omega))) only [go_sem, ↓reduceIte, Nat.reduceAdd, Nat.reduceEqDiff, Nat.reduceSub, Nat.reduceMul, Nat.reduceLT, Nat.reduceLeDiff, Nat.reduceBEq, Int.reduceEq, Int.reduceLT, Int.reduceLE, Int.reduceToNat, Int.reduceNeg, Int.reduceAdd, Int.reduceSub, Int.reduceMul, Int.reduceMod, Int.reduceDiv, reduceCtorEq, Nat.reducePow, Int.reducePow, ac_ref1_Same_L0, he]
          refine ⟨rfl, hlt, ?_, Weak.rd id ?_ ?_ rfl⟩
          · rw [take_s (d := 0) hlt, take_s (d := 0) (by omega), hP, he]
          all_goals simp (config := { maxSteps := 2000000 }) (disch := (first | omega | (simp only [lens, lenm]; omega))) only [go_sem, ↓reduceIte, Nat.reduceAdd, Nat.reduceEqDiff, Nat.reduceSub, Nat.reduceMul, Nat.reduceLT, Nat.reduceLeDiff, Nat.reduceBEq, Int.reduceEq, Int.reduceLT, Int.reduceLE, Int.reduceToNat, Int.reduceNeg, Int.reduceAdd, Int.reduceSub, Int.reduceMul, Int.reduceMod, Int.reduceDiv, reduceCtorEq, Nat.reducePow, Int.reducePow, id]
        · have hne : ¬ a = b := fun h => he (by rw [h])
          simp (config := { maxSteps := 2000000 }) (disch := (first | omega | (simp only [lens, lenm]; omega))) only [go_sem, ↓reduceIte, Nat.reduceAdd, Nat.reduceEqDiff, Nat.reduceSub, Nat.reduceMul, Nat.reduceLT, Nat.reduceLeDiff, Nat.reduceBEq, Int.reduceEq, Int.reduceLT, Int.reduceLE, Int.reduceToNat, Int.reduceNeg, Int.reduceAdd, Int.reduceSub, Int.reduceMul, Int.reduceMod, Int.reduceDiv, reduceCtorEq, Nat.reducePow, Int.reducePow, ac_ref1_Same_L0, he, hne]
          rfl
      · have e : k = a.length := by omega
        subst e
        rw [List.take_length, hl, List.take_length] at hP
        simp (config := { maxSteps := 2000000 }) (disch := (first | omega | (simp only [lens, lenm]; omega))) only [go_sem, ↓reduceIte, Nat.reduceAdd, Nat.reduceEqDiff, Nat.reduceSub, Nat.reduceMul, Nat.reduceLT, Nat.reduceLeDiff, Nat.reduceBEq, Int.reduceEq, Int.reduceLT, Int.reduceLE, Int.reduceToNat, Int.reduceNeg, Int.reduceAdd, Int.reduceSub, Int.reduceMul, Int.reduceMod, Int.reduceDiv, reduceCtorEq, Nat.reducePow, Int.reducePow, ac_ref1_Same_L0, hP]
  · have hne : ¬ a = b := fun h => hl (by rw [h])
    simp (config := { maxSteps := 2000000 }) (disch := (first | omega | (simp only [lens, lenm]; omega))) only [go_sem, ↓reduceIte, Nat.reduceAdd, Nat.reduceEqDiff, Nat.reduceSub, Nat.reduceMul, Nat.reduceLT, Nat.reduceLeDiff, Nat.reduceBEq, Int.reduceEq, Int.reduceLT, Int.reduceLE, Int.reduceToNat, Int.reduceNeg, Int.reduceAdd, Int.reduceSub, Int.reduceMul, Int.reduceMod, Int.reduceDiv, reduceCtorEq, Nat.reducePow, Int.reducePow, ac_ref1_Same, hne]
end Go.Eng
end
section
set_option maxRecDepth 20000
set_option maxHeartbeats 8000000
namespace Go.Eng
def ct_same : Ct where
  α := List UInt8 × List UInt8
  as x := [.t (.sl (x.1.map byteT)), .t (.sl (x.2.map byteT))]
  ins _ := []
  pre x := x.1.length < 1000000000 ∧ x.2.length < 1000000000
  r x := .t (.bool (decide (x.1 = x.2)))
  outs _ := []
  inj := by
    rintro ⟨a, b⟩ ⟨c, d⟩ h _
    simp [mapB_inj] at h
    obtain ⟨rfl, rfl⟩ := h
    exact ⟨rfl, rfl⟩
theorem same_eq {a b : List UInt8} (h : a.length < 1000000000 ∧ b.length < 1000000000) : ct_same.fs [.t (.sl (a.map byteT)), .t (.sl (b.map byteT))] [] = some (.t (.bool (decide (a = b))), []) := ct_same.eq (a, b) h
def modL (l : List (List UInt8)) : Prop := l.length < 1000000000 ∧ ∀ x ∈ l, x.length < 1000000000
theorem modL_get {l : List (List UInt8)} (h : modL l) (i : Nat) : (l.getD i []).length < 1000000000 := by
  by_cases hi : i < l.length
  · have : l.getD i [] = l[i] := by simp [List.getD, hi]
    rw [this]; exact h.2 _ (List.getElem_mem hi)
  · simp [List.getD, List.getElem?_eq_none (Nat.le_of_not_lt hi)]
def ct_frame : Ct where
  α := Nat × List (List UInt8)
  as x := [.t (.int .i64 x.1), .t (.sl (x.2.map bsT))]
  ins _ := []
  pre x := x.1 < 256 ∧ (frameL x.1 x.2).length < 1000000000
  r x := .sl 0 0 (frameL x.1 x.2).length
  outs x := [.live 1 (((frameL x.1 x.2).map byteT).map V.t) true false]
  inj := by
    rintro ⟨a, b⟩ ⟨c, d⟩ h _
    simp [mapBs_inj, Int.natCast_inj] at h
    obtain ⟨rfl, rfl⟩ := h
    exact ⟨rfl, rfl⟩
theorem frame_eq {t : Nat} {fs : List (List UInt8)} (h : t < 256 ∧ (frameL t fs).length < 1000000000) : ct_frame.fs [.t (.int .i64 t), .t (.sl (fs.map bsT))] [] = some (.sl 0 0 (frameL t fs).length, [.live 1 (((frameL t fs).map byteT).map V.t) true false]) := ct_frame.eq (t, fs) h
def hashL (t : Nat) (fs : List (List UInt8)) : List UInt8 := sum256 (frameL t fs)
def ct_sumA : Ct where
  α := Nat × List UInt8
  as x := [.t (.int .i64 x.1), .t (.sl (x.2.map byteT))]
  ins _ := []
  pre x := x.1 < 2 ∧ x.2.length < 1000000000
  r x := .sl 0 0 (szA x.1)
  outs x := [.live 1 (((sumA x.1 x.2).map byteT).map V.t) true false]
  inj := by
    rintro ⟨a, b⟩ ⟨c, d⟩ h _
    simp [mapB_inj, Int.natCast_inj] at h
    obtain ⟨rfl, rfl⟩ := h
    exact ⟨rfl, rfl⟩
theorem sumA_eq0 {bs : List UInt8} (h : bs.length < 1000000000) : ct_sumA.fs [.t (.int .i64 0), .t (.sl (bs.map byteT))] [] = some (.sl 0 0 20, [.live 1 (((sum1 bs).map byteT).map V.t) true false]) := ct_sumA.eq (0, bs) ⟨by simp, h⟩
theorem sumA_eq1 {bs : List UInt8} (h : bs.length < 1000000000) : ct_sumA.fs [.t (.int .i64 1), .t (.sl (bs.map byteT))] [] = some (.sl 0 0 32, [.live 1 (((sum256 bs).map byteT).map V.t) true false]) := ct_sumA.eq (1, bs) ⟨by simp, h⟩
theorem w_digest_Hash (tab : Tab) (gl : Gl) (n1 n2 : Nat) (h1 : tab.look n1 = some ct_frame.fs) (h2 : tab.look n2 = some ct_sumA.fs) (t : Nat) (fs : List (List UInt8)) (ht : t < 256) (hb : (frameL t fs).length < 1000000000) :
    (ac_digest_Hash n1 n2).wp tab gl (zipF 0 [.t (.int .i64 t), .t (.sl (fs.map bsT))]) (zipF 0 []) (resF [] [(4, none)] 0 (fun r o => r = .sl 0 0 32 ∧ o = [.live 1 (((hashL t fs).map byteT).map V.t) true false])) := by
  simp (config := { maxSteps := 2000000 }) (disch := (first | omega | (simp only [lens, lenm]; omega))) only [go_sem, ↓reduceIte, Nat.reduceAdd, Nat.reduceEqDiff, Nat.reduceSub, Nat.reduceMul, Nat.reduceLT, Nat.reduceLeDiff, Nat.reduceBEq, Int.reduceEq, Int.reduceLT, Int.reduceLE, Int.reduceToNat, Int.reduceNeg, Int.reduceAdd, Int.reduceSub, Int.reduceMul, Int.reduceMod, Int.reduceDiv, reduceCtorEq, Nat.reducePow, Int.reducePow, ac_digest_Hash, h1, h2, frame_eq, sumA_eq1, hashL]
theorem w_ref1_Hash (tab : Tab) (gl : Gl) (n1 n2 : Nat) (h1 : tab.look n1 = some ct_frame.fs) (h2 : tab.look n2 = some (ct_sum 32 sum256).fs) (t : Nat) (fs : List (List UInt8)) (ht : t < 256) (hb : (frameL t fs).length < 1000000000) :
    (ac_ref1_Hash n1 n2).wp tab gl (zipF 0 [.t (.int .i64 t), .t (.sl (fs.map bsT))]) (zipF 0 []) (resF [] [(4, none)] 0 (fun r o => r = .sl 0 0 32 ∧ o = [.live 1 (((hashL t fs).map byteT).map V.t) true false])) := by
  simp (config := { maxSteps := 2000000 }) (disch := (first | omega | (simp only [lens, lenm]; omega))) only [go_sem, ↓reduceIte, Nat.reduceAdd, Nat.reduceEqDiff, Nat.reduceSub, Nat.reduceMul, Nat.reduceLT, Nat.reduceLeDiff, Nat.reduceBEq, Int.reduceEq, Int.reduceLT, Int.reduceLE, Int.reduceToNat, Int.reduceNeg, Int.reduceAdd, Int.reduceSub, Int.reduceMul, Int.reduceMod, Int.reduceDiv, reduceCtorEq, Nat.reducePow, Int.reducePow, ac_ref1_Hash, h1, h2, frame_eq, sum_eq, hashL]
theorem w_digest_Sum (tab : Tab) (gl : Gl) (n1 n2 n3 n4 : Nat) (h1 : tab.look n1 = some ct_pad.fs) (h2 : tab.look n2 = some (ct_comp 5 comp1).fs) (h3 : tab.look n3 = some ct_spread.fs) (h4 : tab.look n4 = some (ct_comp 8 comp256).fs) (a : Nat) (ha : a < 2) (bs : List UInt8) (hb : bs.length < 1000000000) :
    (ac_digest_Sum n1 n2 n3 n4).wp tab gl (zipF 0 [.t (.int .i64 a), .t (.sl (bs.map byteT))]) (zipF 0 []) (resF [] [(4, none)] 0 (fun r o => r = .sl 0 0 (szA a) ∧ o = [.live 1 (((sumA a bs).map byteT).map V.t) true false])) := by
  rcases (show a = 0 ∨ a = 1 by omega) with rfl | rfl
  · exact w_digest_Sum_1 tab gl n1 n2 n3 n4 h1 h3 h2 bs hb
  · exact w_digest_Sum_256 tab gl n1 n2 n3 n4 h1 h3 h4 bs hb
end Go.Eng
end
section
namespace Go.Eng
def ac_wire_Uint_L0 : AC :=
 (.seq
 (.seq
 (.reg 24576 none [
 ⟨some 20, (.op .mov), [.tmp 8], none⟩,
 ⟨some 21, (.op (.bin .geq)), [.tmp 20, .cst (.t (.int .i64 0))], none⟩])
 (.cond (.tmp 21)
 .skip
 (.exit 0)))
 (.seq
 (.block 1
 (.reg 32768 none [
 ⟨some 24, (.op .mov), [.tmp 7], none⟩,
 ⟨some 25, (.op .mov), [.tmp 2], none⟩,
 ⟨some 26, (.op (.conv .u64)), [.tmp 25], none⟩,
 ⟨some 27, (.op .mov), [.tmp 8], none⟩,
 ⟨some 28, (.op (.bin .mul)), [.cst (.t (.int .i64 8)), .tmp 27], none⟩,
 ⟨some 29, (.op (.conv .u64)), [.tmp 28], none⟩,
 ⟨some 30, (.op (.bin .shr)), [.tmp 26, .tmp 29], none⟩,
 ⟨some 31, (.op (.conv .u8)), [.tmp 30], none⟩,
 ⟨some 32, (.op (.bslice 1 1 (.t (byteT 0)) [0])), [.tmp 31], none⟩,
 ⟨some 33, (.op (.append 1 1)), [.tmp 24, .tmp 32], none⟩,
 ⟨some 7, (.op .mov), [.tmp 33], none⟩]))
 (.reg 28672 none [
 ⟨some 22, (.op .mov), [.tmp 8], none⟩,
 ⟨some 23, (.op (.bin .sub)), [.tmp 22, .cst (.t (.int .i64 1))], none⟩,
 ⟨some 8, (.op .mov), [.tmp 23], none⟩])))
def ac_wire_Uint : AC :=
 (.seq
 (.reg 4096 none [
 ⟨some 6, (.op .mov), [.cst .nil], none⟩])
 (.seq
 (.reg 8192 none [
 ⟨some 9, (.op .mov), [.tmp 0], none⟩,
 ⟨some 10, (.op (.append 1 1)), [.cst .nil, .tmp 9], none⟩,
 ⟨some 7, (.op .mov), [.tmp 10], none⟩])
 (.seq
 (.seq
 (.reg 12288 none [
 ⟨some 11, (.op .mov), [.tmp 1], none⟩,
 ⟨some 12, (.op (.bin .lss)), [.tmp 11, .cst (.t (.int .i64 1))], none⟩,
 ⟨some 13, (.op .mov), [.tmp 12], none⟩,
 ⟨some 14, (.op .mov), [.tmp 1], some (13, false)⟩,
 ⟨some 15, (.op (.bin .gtr)), [.tmp 14, .cst (.t (.int .i64 8))], some (13, false)⟩,
 ⟨some 16, (.op .pick), [.tmp 13, .cst (.t (.bool true)), .tmp 15], none⟩])
 (.cond (.tmp 16)
 (.seq
 (.reg 16384 none [
 ⟨some 17, (.op .mov), [.tmp 7], none⟩,
 ⟨some 6, (.op .mov), [.tmp 17], none⟩])
 .ret)
 .skip))
 (.seq
 (.seq
 (.reg 20480 none [
 ⟨some 18, (.op .mov), [.tmp 1], none⟩,
 ⟨some 19, (.op (.bin .sub)), [.tmp 18, .cst (.t (.int .i64 1))], none⟩,
 ⟨some 8, (.op .mov), [.tmp 19], none⟩])
 (.block 0
 (.loop ac_wire_Uint_L0)))
 (.seq
 (.reg 36864 none [
 ⟨some 34, (.op .mov), [.tmp 7], none⟩,
 ⟨some 6, (.op .mov), [.tmp 34], none⟩])
 .ret)))))
def hints_wire_Uint : List (Nat × List Nat) := []
def ac_ref3_Uint_L0 : AC :=
 (.seq
 (.seq
 (.reg 24576 none [
 ⟨some 21, (.op .mov), [.tmp 8], none⟩,
 ⟨some 22, (.op (.bin .geq)), [.tmp 21, .cst (.t (.int .i64 0))], none⟩])
 (.cond (.tmp 22)
 .skip
 (.exit 0)))
 (.seq
 (.block 1
 (.reg 32768 none [
 ⟨some 25, (.op .mov), [.tmp 7], none⟩,
 ⟨some 26, (.op .mov), [.tmp 2], none⟩,
 ⟨some 27, (.op (.conv .u64)), [.tmp 26], none⟩,
 ⟨some 28, (.op .mov), [.tmp 8], none⟩,
 ⟨some 29, (.op (.conv .u64)), [.tmp 28], none⟩,
 ⟨some 30, (.op (.bin .mul)), [.cst (.t (.int .u64 8)), .tmp 29], none⟩,
 ⟨some 31, (.op (.bin .shr)), [.tmp 27, .tmp 30], none⟩,
 ⟨some 32, (.op (.conv .u8)), [.tmp 31], none⟩,
 ⟨some 33, (.op (.bslice 1 1 (.t (byteT 0)) [0])), [.tmp 32], none⟩,
 ⟨some 34, (.op (.append 1 1)), [.tmp 25, .tmp 33], none⟩,
 ⟨some 7, (.op .mov), [.tmp 34], none⟩]))
 (.reg 28672 none [
 ⟨some 23, (.op .mov), [.tmp 8], none⟩,
 ⟨some 24, (.op (.bin .sub)), [.tmp 23, .cst (.t (.int .i64 1))], none⟩,
 ⟨some 8, (.op .mov), [.tmp 24], none⟩])))
def ac_ref3_Uint : AC :=
 (.seq
 (.reg 4096 none [
 ⟨some 6, (.op .mov), [.cst .nil], none⟩])
 (.seq
 (.reg 8192 none [
 ⟨some 9, (.op (.bslice 1 0 (.t (byteT 0)) [])), [], none⟩,
 ⟨some 10, (.op .mov), [.tmp 0], none⟩,
 ⟨some 11, (.op (.append 1 1)), [.tmp 9, .tmp 10], none⟩,
 ⟨some 7, (.op .mov), [.tmp 11], none⟩])
 (.seq
 (.seq
 (.reg 12288 none [
 ⟨some 12, (.op .mov), [.tmp 1], none⟩,
 ⟨some 13, (.op (.bin .lss)), [.tmp 12, .cst (.t (.int .i64 1))], none⟩,
 ⟨some 14, (.op .mov), [.tmp 13], none⟩,
 ⟨some 15, (.op .mov), [.tmp 1], some (14, false)⟩,
 ⟨some 16, (.op (.bin .gtr)), [.tmp 15, .cst (.t (.int .i64 8))], some (14, false)⟩,
 ⟨some 17, (.op .pick), [.tmp 14, .cst (.t (.bool true)), .tmp 16], none⟩])
 (.cond (.tmp 17)
 (.seq
 (.reg 16384 none [
 ⟨some 18, (.op .mov), [.tmp 7], none⟩,
 ⟨some 6, (.op .mov), [.tmp 18], none⟩])
 .ret)
 .skip))
 (.seq
 (.seq
 (.reg 20480 none [
 ⟨some 19, (.op .mov), [.tmp 1], none⟩,
 ⟨some 20, (.op (.bin .sub)), [.tmp 19, .cst (.t (.int .i64 1))], none⟩,
 ⟨some 8, (.op .mov), [.tmp 20], none⟩])
 (.block 0
 (.loop ac_ref3_Uint_L0)))
 (.seq
 (.reg 36864 none [
 ⟨some 35, (.op .mov), [.tmp 7], none⟩,
 ⟨some 6, (.op .mov), [.tmp 35], none⟩])
 .ret)))))
def hints_ref3_Uint : List (Nat × List Nat) := []
def ac_bytes_Repeat_L0 : AC :=
 (.seq
 (.seq
 (.reg 77824 none [
 ⟨some 61, (.op .mov), [.tmp 10], none⟩,
 ⟨some 62, (.op .mov), [.tmp 7], none⟩,
 ⟨some 63, (.op (.bin .lss)), [.tmp 61, .tmp 62], none⟩])
 (.cond (.tmp 63)
 .skip
 (.exit 0)))
 (.block 1
 (.seq
 (.reg 81920 none [
 ⟨some 64, (.op .mov), [.tmp 10], none⟩,
 ⟨some 65, (.op .mov), [.tmp 8], none⟩,
 ⟨some 66, (.op .min), [.tmp 64, .tmp 65], none⟩,
 ⟨some 11, (.op .mov), [.tmp 66], none⟩])
 (.reg 86016 (some [0, 0, 0, 6, 0, 0, 48, 126, 255, 511]) [
 ⟨some 67, (.op .mov), [.tmp 10], none⟩,
 ⟨some 68, (.op .mov), [.tmp 9], none⟩,
 ⟨some 69, (.op .mov), [.tmp 10], none⟩,
 ⟨some 70, (.op (.slice 1 true false false)), [.tmp 68, .tmp 69], none⟩,
 ⟨some 71, (.op .mov), [.tmp 9], none⟩,
 ⟨some 72, (.op .mov), [.tmp 11], none⟩,
 ⟨some 73, (.op (.slice 1 false true false)), [.tmp 71, .tmp 72], none⟩,
 ⟨some 74, (.op (.copy 1)), [.tmp 70, .tmp 73], none⟩,
 ⟨some 75, (.op (.bin .add)), [.tmp 67, .tmp 74], none⟩,
 ⟨some 10, (.op .mov), [.tmp 75], none⟩]))))
def ac_bytes_Repeat (n_bits_Mul n_bytealg_MakeNoZero : Nat) : AC :=
 (.seq
 (.reg 4096 none [
 ⟨some 4, (.op .mov), [.cst .nil], none⟩])
 (.seq
 (.seq
 (.reg 8192 none [
 ⟨some 12, (.op .mov), [.tmp 1], none⟩,
 ⟨some 13, (.op (.bin .eql)), [.tmp 12, .cst (.t (.int .i64 0))], none⟩])
 (.cond (.tmp 13)
 (.seq
 (.reg 12288 none [
 ⟨some 14, (.op (.bslice 1 0 (.t (byteT 0)) [])), [], none⟩,
 ⟨some 4, (.op .mov), [.tmp 14], none⟩])
 .ret)
 .skip))
 (.seq
 (.seq
 (.reg 16384 none [
 ⟨some 15, (.op .mov), [.tmp 1], none⟩,
 ⟨some 16, (.op (.bin .lss)), [.tmp 15, .cst (.t (.int .i64 0))], none⟩])
 (.cond (.tmp 16)
 (.reg 20480 none [
 ⟨some 17, (.op .bad), [], none⟩,
 ⟨none, (.op .bad), [], none⟩])
 .skip))
 (.seq
 (.reg 24576 none [
 ⟨some 19, (.op .mov), [.tmp 0], none⟩,
 ⟨some 20, (.op .len), [.tmp 19], none⟩,
 ⟨some 21, (.op (.conv .u64)), [.tmp 20], none⟩,
 ⟨some 22, (.op .mov), [.tmp 1], none⟩,
 ⟨some 23, (.op (.conv .u64)), [.tmp 22], none⟩,
 ⟨some 24, (.call n_bits_Mul false), [.tmp 21, .tmp 23], none⟩,
 ⟨some 18, (.op .mov), [.tmp 24], none⟩,
 ⟨some 25, (.op (.extract 0)), [.tmp 18], none⟩,
 ⟨some 26, (.op (.extract 1)), [.tmp 18], none⟩,
 ⟨some 5, (.op .mov), [.tmp 25], none⟩,
 ⟨some 6, (.op .mov), [.tmp 26], none⟩])
 (.seq
 (.seq
 (.reg 28672 none [
 ⟨some 27, (.op .mov), [.tmp 5], none⟩,
 ⟨some 28, (.op (.bin .gtr)), [.tmp 27, .cst (.t (.int .u64 0))], none⟩,
 ⟨some 29, (.op .mov), [.tmp 28], none⟩,
 ⟨some 30, (.op .mov), [.tmp 6], some (29, false)⟩,
 ⟨some 31, (.op (.bin .gtr)), [.tmp 30, .cst (.t (.int .u64 9223372036854775807))], some (29, false)⟩,
 ⟨some 32, (.op .pick), [.tmp 29, .cst (.t (.bool true)), .tmp 31], none⟩])
 (.cond (.tmp 32)
 (.reg 32768 none [
 ⟨some 33, (.op .bad), [], none⟩,
 ⟨none, (.op .bad), [], none⟩])
 .skip))
 (.seq
 (.reg 36864 none [
 ⟨some 34, (.op .mov), [.tmp 6], none⟩,
 ⟨some 35, (.op (.conv .i64)), [.tmp 34], none⟩,
 ⟨some 7, (.op .mov), [.tmp 35], none⟩])
 (.seq
 (.seq
 (.reg 40960 none [
 ⟨some 36, (.op .mov), [.tmp 0], none⟩,
 ⟨some 37, (.op .len), [.tmp 36], none⟩,
 ⟨some 38, (.op (.bin .eql)), [.tmp 37, .cst (.t (.int .i64 0))], none⟩])
 (.cond (.tmp 38)
 (.seq
 (.reg 45056 none [
 ⟨some 39, (.op (.bslice 1 0 (.t (byteT 0)) [])), [], none⟩,
 ⟨some 4, (.op .mov), [.tmp 39], none⟩])
 .ret)
 .skip))
 (.seq
 (.reg 49152 none [
 ⟨some 40, (.op .mov), [.tmp 7], none⟩,
 ⟨some 8, (.op .mov), [.tmp 40], none⟩])
 (.seq
 (.seq
 (.reg 53248 none [
 ⟨some 41, (.op .mov), [.tmp 8], none⟩,
 ⟨some 42, (.op (.bin .gtr)), [.tmp 41, .cst (.t (.int .i64 8192))], none⟩])
 (.cond (.tmp 42)
 (.seq
 (.reg 57344 none [
 ⟨some 43, (.op .mov), [.tmp 0], none⟩,
 ⟨some 44, (.op .len), [.tmp 43], none⟩,
 ⟨some 45, (.op (.bin .quo)), [.cst (.t (.int .i64 8192)), .tmp 44], none⟩,
 ⟨some 46, (.op .mov), [.tmp 0], none⟩,
 ⟨some 47, (.op .len), [.tmp 46], none⟩,
 ⟨some 48, (.op (.bin .mul)), [.tmp 45, .tmp 47], none⟩,
 ⟨some 8, (.op .mov), [.tmp 48], none⟩])
 (.seq
 (.reg 61440 none [
 ⟨some 49, (.op .mov), [.tmp 8], none⟩,
 ⟨some 50, (.op (.bin .eql)), [.tmp 49, .cst (.t (.int .i64 0))], none⟩])
 (.cond (.tmp 50)
 (.reg 65536 none [
 ⟨some 51, (.op .mov), [.tmp 0], none⟩,
 ⟨some 52, (.op .len), [.tmp 51], none⟩,
 ⟨some 8, (.op .mov), [.tmp 52], none⟩])
 .skip)))
 .skip))
 (.seq
 (.reg 69632 none [
 ⟨some 53, (.op .mov), [.tmp 7], none⟩,
 ⟨some 54, (.call n_bytealg_MakeNoZero false), [.tmp 53], none⟩,
 ⟨some 55, (.op .mov), [.tmp 7], none⟩,
 ⟨some 56, (.op .mov), [.tmp 7], none⟩,
 ⟨some 57, (.op (.slice 1 false true true)), [.tmp 54, .tmp 55, .tmp 56], none⟩,
 ⟨some 9, (.op .mov), [.tmp 57], none⟩])
 (.seq
 (.reg 73728 none [
 ⟨some 58, (.op .mov), [.tmp 9], none⟩,
 ⟨some 59, (.op .mov), [.tmp 0], none⟩,
 ⟨some 60, (.op (.copy 1)), [.tmp 58, .tmp 59], none⟩,
 ⟨some 10, (.op .mov), [.tmp 60], none⟩])
 (.seq
 (.block 0
 (.loop ac_bytes_Repeat_L0))
 (.seq
 (.reg 90112 none [
 ⟨some 76, (.op .mov), [.tmp 9], none⟩,
 ⟨some 4, (.op .mov), [.tmp 76], none⟩])
 .ret)))))))))))))
def hints_bytes_Repeat : List (Nat × List Nat) := []
def ac_bits_Mul (n_bits_Mul32 n_bits_Mul64 : Nat) : AC :=
 (.seq
 (.reg 4096 none [
 ⟨some 4, (.op .mov), [.cst (.t (.int .u64 0))], none⟩,
 ⟨some 5, (.op .mov), [.cst (.t (.int .u64 0))], none⟩])
 (.seq
 (.cond (.cst (.t (.bool false)))
 (.seq
 (.reg 8192 none [
 ⟨some 11, (.op .mov), [.tmp 0], none⟩,
 ⟨some 12, (.op (.conv .u32)), [.tmp 11], none⟩,
 ⟨some 13, (.op .mov), [.tmp 1], none⟩,
 ⟨some 14, (.op (.conv .u32)), [.tmp 13], none⟩,
 ⟨some 15, (.call n_bits_Mul32 false), [.tmp 12, .tmp 14], none⟩,
 ⟨some 10, (.op .mov), [.tmp 15], none⟩,
 ⟨some 16, (.op (.extract 0)), [.tmp 10], none⟩,
 ⟨some 17, (.op (.extract 1)), [.tmp 10], none⟩,
 ⟨some 6, (.op .mov), [.tmp 16], none⟩,
 ⟨some 7, (.op .mov), [.tmp 17], none⟩])
 (.seq
 (.reg 12288 none [
 ⟨some 18, (.op .mov), [.tmp 6], none⟩,
 ⟨some 19, (.op (.conv .u64)), [.tmp 18], none⟩,
 ⟨some 20, (.op .mov), [.tmp 7], none⟩,
 ⟨some 21, (.op (.conv .u64)), [.tmp 20], none⟩,
 ⟨some 4, (.op .mov), [.tmp 19], none⟩,
 ⟨some 5, (.op .mov), [.tmp 21], none⟩])
 .ret))
 .skip)
 (.seq
 (.reg 16384 none [
 ⟨some 23, (.op .mov), [.tmp 0], none⟩,
 ⟨some 24, (.op .mov), [.tmp 1], none⟩,
 ⟨some 25, (.call n_bits_Mul64 false), [.tmp 23, .tmp 24], none⟩,
 ⟨some 22, (.op .mov), [.tmp 25], none⟩,
 ⟨some 26, (.op (.extract 0)), [.tmp 22], none⟩,
 ⟨some 27, (.op (.extract 1)), [.tmp 22], none⟩,
 ⟨some 8, (.op .mov), [.tmp 26], none⟩,
 ⟨some 9, (.op .mov), [.tmp 27], none⟩])
 (.seq
 (.reg 20480 none [
 ⟨some 28, (.op .mov), [.tmp 8], none⟩,
 ⟨some 29, (.op .mov), [.tmp 9], none⟩,
 ⟨some 4, (.op .mov), [.tmp 28], none⟩,
 ⟨some 5, (.op .mov), [.tmp 29], none⟩])
 .ret))))
def hints_bits_Mul : List (Nat × List Nat) := []
def ac_bits_Mul64 : AC :=
 (.seq
 (.reg 4096 none [
 ⟨some 4, (.op .mov), [.cst (.t (.int .u64 0))], none⟩,
 ⟨some 5, (.op .mov), [.cst (.t (.int .u64 0))], none⟩])
 (.seq
 (.reg 8192 none [
 ⟨some 14, (.op .mov), [.tmp 0], none⟩,
 ⟨some 15, (.op (.bin .and)), [.tmp 14, .cst (.t (.int .u64 4294967295))], none⟩,
 ⟨some 6, (.op .mov), [.tmp 15], none⟩])
 (.seq
 (.reg 12288 none [
 ⟨some 16, (.op .mov), [.tmp 0], none⟩,
 ⟨some 17, (.op (.bin .shr)), [.tmp 16, .cst (.t (.int .u64 32))], none⟩,
 ⟨some 7, (.op .mov), [.tmp 17], none⟩])
 (.seq
 (.reg 16384 none [
 ⟨some 18, (.op .mov), [.tmp 1], none⟩,
 ⟨some 19, (.op (.bin .and)), [.tmp 18, .cst (.t (.int .u64 4294967295))], none⟩,
 ⟨some 8, (.op .mov), [.tmp 19], none⟩])
 (.seq
 (.reg 20480 none [
 ⟨some 20, (.op .mov), [.tmp 1], none⟩,
 ⟨some 21, (.op (.bin .shr)), [.tmp 20, .cst (.t (.int .u64 32))], none⟩,
 ⟨some 9, (.op .mov), [.tmp 21], none⟩])
 (.seq
 (.reg 24576 none [
 ⟨some 22, (.op .mov), [.tmp 6], none⟩,
 ⟨some 23, (.op .mov), [.tmp 8], none⟩,
 ⟨some 24, (.op (.bin .mul)), [.tmp 22, .tmp 23], none⟩,
 ⟨some 10, (.op .mov), [.tmp 24], none⟩])
 (.seq
 (.reg 28672 none [
 ⟨some 25, (.op .mov), [.tmp 7], none⟩,
 ⟨some 26, (.op .mov), [.tmp 8], none⟩,
 ⟨some 27, (.op (.bin .mul)), [.tmp 25, .tmp 26], none⟩,
 ⟨some 28, (.op .mov), [.tmp 10], none⟩,
 ⟨some 29, (.op (.bin .shr)), [.tmp 28, .cst (.t (.int .u64 32))], none⟩,
 ⟨some 30, (.op (.bin .add)), [.tmp 27, .tmp 29], none⟩,
 ⟨some 11, (.op .mov), [.tmp 30], none⟩])
 (.seq
 (.reg 32768 none [
 ⟨some 31, (.op .mov), [.tmp 11], none⟩,
 ⟨some 32, (.op (.bin .and)), [.tmp 31, .cst (.t (.int .u64 4294967295))], none⟩,
 ⟨some 12, (.op .mov), [.tmp 32], none⟩])
 (.seq
 (.reg 36864 none [
 ⟨some 33, (.op .mov), [.tmp 11], none⟩,
 ⟨some 34, (.op (.bin .shr)), [.tmp 33, .cst (.t (.int .u64 32))], none⟩,
 ⟨some 13, (.op .mov), [.tmp 34], none⟩])
 (.seq
 (.reg 40960 none [
 ⟨some 35, (.op .mov), [.tmp 12], none⟩,
 ⟨some 36, (.op .mov), [.tmp 6], none⟩,
 ⟨some 37, (.op .mov), [.tmp 9], none⟩,
 ⟨some 38, (.op (.bin .mul)), [.tmp 36, .tmp 37], none⟩,
 ⟨some 39, (.op (.bin .add)), [.tmp 35, .tmp 38], none⟩,
 ⟨some 12, (.op .mov), [.tmp 39], none⟩])
 (.seq
 (.reg 45056 none [
 ⟨some 40, (.op .mov), [.tmp 7], none⟩,
 ⟨some 41, (.op .mov), [.tmp 9], none⟩,
 ⟨some 42, (.op (.bin .mul)), [.tmp 40, .tmp 41], none⟩,
 ⟨some 43, (.op .mov), [.tmp 13], none⟩,
 ⟨some 44, (.op (.bin .add)), [.tmp 42, .tmp 43], none⟩,
 ⟨some 45, (.op .mov), [.tmp 12], none⟩,
 ⟨some 46, (.op (.bin .shr)), [.tmp 45, .cst (.t (.int .u64 32))], none⟩,
 ⟨some 47, (.op (.bin .add)), [.tmp 44, .tmp 46], none⟩,
 ⟨some 4, (.op .mov), [.tmp 47], none⟩])
 (.seq
 (.reg 49152 none [
 ⟨some 48, (.op .mov), [.tmp 0], none⟩,
 ⟨some 49, (.op .mov), [.tmp 1], none⟩,
 ⟨some 50, (.op (.bin .mul)), [.tmp 48, .tmp 49], none⟩,
 ⟨some 5, (.op .mov), [.tmp 50], none⟩])
 .ret))))))))))))
def hints_bits_Mul64 : List (Nat × List Nat) := []
end Go.Eng
end
section
set_option maxRecDepth 20000
set_option maxHeartbeats 8000000
namespace Go.Eng
def m64 (n : Int) : Nat := (n % 18446744073709551616).toNat
def beI (size : Nat) (n : Int) (k : Nat) : List UInt8 := (List.range k).map fun i => UInt8.ofNat (m64 n / 2 ^ (8 * (size - 1 - i)))
theorem beI_zero {size : Nat} {n : Int} : beI size n 0 = [] := rfl
theorem beI_length {size : Nat} {n : Int} {k : Nat} : (beI size n k).length = k := by simp [beI]
theorem beI_succ {size : Nat} {n : Int} {k : Nat} : beI size n (k + 1) = beI size n k ++ [UInt8.ofNat (m64 n / 2 ^ (8 * (size - 1 - k)))] := by simp [beI, List.range_succ]
theorem m64_wrap {n : Int} : IntKind.u64.wrap n = (m64 n : Int) := by rw [wrap_u64, m64]; omega
theorem w_wire_Uint (tab : Tab) (gl : Gl) (b : List UInt8) (size : Nat) (n : Int) (hb : b.length < 1000000000) (hs : 1 ≤ size ∧ size ≤ 8) : ac_wire_Uint.wp tab gl (zipF 0 [.t (.sl (b.map byteT)), .t (.int .i64 size), .t (.int .i64 n)]) (zipF 0 []) (resF [] [(6, none)] 0 (fun r o => r = .sl 0 0 (b.length + size) ∧ o = [.live 1 (((b ++ beI size n size).map byteT).map V.t) true false])) := by
  have hw := m64_wrap (n := n)
  simp (config := { maxSteps := 2000000 }) (disch := (first | omega | (simp only [lens, lenm]; omega))) only [go_sem, ↓reduceIte, Nat.reduceAdd, Nat.reduceEqDiff, Nat.reduceSub, Nat.reduceMul, Nat.reduceLT, Nat.reduceLeDiff, Nat.reduceBEq, Int.reduceEq, Int.reduceLT, Int.reduceLE, Int.reduceToNat, Int.reduceNeg, Int.reduceAdd, Int.reduceSub, Int.reduceMul, Int.reduceMod, Int.reduceDiv, reduceCtorEq, Nat.reducePow, Int.reducePow, ac_wire_Uint]
  refine loop_upto size (fun k => [(2, .t (.int .i64 n)), (7, .sl 8208 0 (b.length + k)), (8, .t (.int .i64 ((size : Int) - 1 - k)))]) (fun k => [(8208, .live 1 (((b ++ beI size n k).map byteT).map V.t) true false)]) ?_ (fun k hk => ?_)
  · refine Weak.rd id ?_ ?_ rfl
    all_goals simp (config := { maxSteps := 2000000 }) (disch := (first | omega | (simp only [lens, lenm]; omega))) only [go_sem, ↓reduceIte, Nat.reduceAdd, Nat.reduceEqDiff, Nat.reduceSub, Nat.reduceMul, Nat.reduceLT, Nat.reduceLeDiff, Nat.reduceBEq, Int.reduceEq, Int.reduceLT, Int.reduceLE, Int.reduceToNat, Int.reduceNeg, Int.reduceAdd, Int.reduceSub, Int.reduceMul, Int.reduceMod, Int.reduceDiv, reduceCtorEq, Nat.reducePow, Int.reducePow, id, beI_zero, List.append_nil]
    all_goals omega
  · have hl : (beI size n k).length = k := beI_length
    by_cases hlt : k < size
    · simp (config := { maxSteps := 2000000 }) (disch := (first | omega | (simp only [lens, lenm]; omega))) only [go_sem, ↓reduceIte, Nat.reduceAdd, Nat.reduceEqDiff, Nat.reduceSub, Nat.reduceMul, Nat.reduceLT, Nat.reduceLeDiff, Nat.reduceBEq, Int.reduceEq, Int.reduceLT, Int.reduceLE, Int.reduceToNat, Int.reduceNeg, Int.reduceAdd, Int.reduceSub, Int.reduceMul, Int.reduceMod, Int.reduceDiv, reduceCtorEq, Nat.reducePow, Int.reducePow, ac_wire_Uint_L0, hl, hw]
      refine ⟨hlt, Weak.rd (fun _ => 32912) ?_ ?_ rfl⟩
      all_goals simp (config := { maxSteps := 2000000 }) (disch := (first | omega | (simp only [lens, lenm]; omega))) only [go_sem, ↓reduceIte, Nat.reduceAdd, Nat.reduceEqDiff, Nat.reduceSub, Nat.reduceMul, Nat.reduceLT, Nat.reduceLeDiff, Nat.reduceBEq, Int.reduceEq, Int.reduceLT, Int.reduceLE, Int.reduceToNat, Int.reduceNeg, Int.reduceAdd, Int.reduceSub, Int.reduceMul, Int.reduceMod, Int.reduceDiv, reduceCtorEq, Nat.reducePow, Int.reducePow, beI_succ, List.append_assoc, Nat.add_assoc]
      all_goals first | omega | rfl
    · have e : k = size := by omega
      subst e
      simp (config := { maxSteps := 2000000 }) (disch := (first | omega | (simp only [lens, lenm]; omega))) only [go_sem, ↓reduceIte, Nat.reduceAdd, Nat.reduceEqDiff, Nat.reduceSub, Nat.reduceMul, Nat.reduceLT, Nat.reduceLeDiff, Nat.reduceBEq, Int.reduceEq, Int.reduceLT, Int.reduceLE, Int.reduceToNat, Int.reduceNeg, Int.reduceAdd, Int.reduceSub, Int.reduceMul, Int.reduceMod, Int.reduceDiv, reduceCtorEq, Nat.reducePow, Int.reducePow, ac_wire_Uint_L0, hl]
theorem w_ref3_Uint (tab : Tab) (gl : Gl) (b : List UInt8) (size : Nat) (n : Int) (hb : b.length < 1000000000) (hs : 1 ≤ size ∧ size ≤ 8) : ac_ref3_Uint.wp tab gl (zipF 0 [.t (.sl (b.map byteT)), .t (.int .i64 size), .t (.int .i64 n)]) (zipF 0 []) (resF [] [(6, none)] 0 (fun r o => r = .sl 0 0 (b.length + size) ∧ o = [.live 1 (((b ++ beI size n size).map byteT).map V.t) true false])) := by
  have hw := m64_wrap (n := n)
  simp (config := { maxSteps := 2000000 }) (disch := (first | omega | (simp only [lens, lenm]; omega))) only [go_sem, ↓reduceIte, Nat.reduceAdd, Nat.reduceEqDiff, Nat.reduceSub, Nat.reduceMul, Nat.reduceLT, Nat.reduceLeDiff, Nat.reduceBEq, Int.reduceEq, Int.reduceLT, Int.reduceLE, Int.reduceToNat, Int.reduceNeg, Int.reduceAdd, Int.reduceSub, Int.reduceMul, Int.reduceMod, Int.reduceDiv, reduceCtorEq, Nat.reducePow, Int.reducePow, ac_ref3_Uint]
  refine loop_upto size (fun k => [(2, .t (.int .i64 n)), (7, .sl 8224 0 (b.length + k)), (8, .t (.int .i64 ((size : Int) - 1 - k)))]) (fun k => [(8224, .live 1 (((b ++ beI size n k).map byteT).map V.t) true false)]) ?_ (fun k hk => ?_)
  · refine Weak.rd id ?_ ?_ rfl
    all_goals simp (config := { maxSteps := 2000000 }) (disch := (first | omega | (simp only [lens, lenm]; omega))) only [go_sem, ↓reduceIte, Nat.reduceAdd, Nat.reduceEqDiff, Nat.reduceSub, Nat.reduceMul, Nat.reduceLT, Nat.reduceLeDiff, Nat.reduceBEq, Int.reduceEq, Int.reduceLT, Int.reduceLE, Int.reduceToNat, Int.reduceNeg, Int.reduceAdd, Int.reduceSub, Int.reduceMul, Int.reduceMod, Int.reduceDiv, reduceCtorEq, Nat.reducePow, Int.reducePow, id, beI_zero, List.append_nil]
    all_goals omega
  · have hl : (beI size n k).length = k := beI_length
    by_cases hlt : k < size
    · simp (config := { maxSteps := 2000000 }) (disch := (first | omega | (simp only [lens, lenm]; omega))) only [go_sem, ↓reduceIte, Nat.reduceAdd, Nat.reduceEqDiff, Nat.reduceSub, Nat.reduceMul, Nat.reduceLT, Nat.reduceLeDiff, Nat.reduceBEq, Int.reduceEq, Int.reduceLT, Int.reduceLE, Int.reduceToNat, Int.reduceNeg, Int.reduceAdd, Int.reduceSub, Int.reduceMul, Int.reduceMod, Int.reduceDiv, reduceCtorEq, Nat.reducePow, Int.reducePow, ac_ref3_Uint_L0, hl, hw]
      refine ⟨hlt, Weak.rd (fun _ => 32912) ?_ ?_ rfl⟩
      all_goals simp (config := { maxSteps := 2000000 }) (disch := (first | omega | (simp only [lens, lenm]; omega))) only [go_sem, ↓reduceIte, Nat.reduceAdd, Nat.reduceEqDiff, Nat.reduceSub, Nat.reduceMul, Nat.reduceLT, Nat.reduceLeDiff, Nat.reduceBEq, Int.reduceEq, Int.reduceLT, Int.reduceLE, Int.reduceToNat, Int.reduceNeg, Int.reduceAdd, Int.reduceSub, Int.reduceMul, Int.reduceMod, Int.reduceDiv, reduceCtorEq, Nat.reducePow, Int.reducePow, beI_succ, List.append_assoc, Nat.add_assoc]
      all_goals first | omega | rfl
    · have e : k = size := by omega
      subst e
      simp (config := { maxSteps := 2000000 }) (disch := (first | omega | (simp only [lens, lenm]; omega))) only [go_sem, ↓reduceIte, Nat.reduceAdd, Nat.reduceEqDiff, Nat.reduceSub, Nat.reduceMul, Nat.reduceLT, Nat.reduceLeDiff, Nat.reduceBEq, Int.reduceEq, Int.reduceLT, Int.reduceLE, Int.reduceToNat, Int.reduceNeg, Int.reduceAdd, Int.reduceSub, Int.reduceMul, Int.reduceMod, Int.reduceDiv, reduceCtorEq, Nat.reducePow, Int.reducePow, ac_ref3_Uint_L0, hl]
end Go.Eng
end
