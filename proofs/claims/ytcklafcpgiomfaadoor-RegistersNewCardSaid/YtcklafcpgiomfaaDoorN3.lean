/- My own text: an abstract machine, its walks over the functions reached, and their tie to the program. -/
import Derived.Test.YtcklafcpgiomfaaDoorN2
set_option linter.unusedSimpArgs false
set_option linter.unusedVariables false
section
namespace Go.Eng
def ac_digest_Size : AC :=
 (.seq
 (.reg 4096 none [
 ⟨some 2, (.op .mov), [.cst (.t (.int .i64 0))], none⟩])
 (.seq
 (.seq
 (.reg 8192 none [
 ⟨some 3, (.op .mov), [.tmp 0], none⟩])
 (.block 0
 (.seq
 (.reg 12288 none [
 ⟨some 5, (.op (.bin .eql)), [.tmp 3, .cst (.t (.int .i64 0))], none⟩,
 ⟨some 4, (.op .mov), [.tmp 5], none⟩])
 (.cond (.tmp 4)
 (.seq
 (.reg 16384 none [
 ⟨some 2, (.op .mov), [.cst (.t (.int .i64 20))], none⟩])
 .ret)
 (.seq
 (.reg 20480 none [
 ⟨some 7, (.op (.bin .eql)), [.tmp 3, .cst (.t (.int .i64 1))], none⟩,
 ⟨some 6, (.op .mov), [.tmp 7], none⟩])
 (.cond (.tmp 6)
 (.seq
 (.reg 24576 none [
 ⟨some 2, (.op .mov), [.cst (.t (.int .i64 32))], none⟩])
 .ret)
 .skip))))))
 (.seq
 (.reg 28672 none [
 ⟨some 2, (.op .mov), [.cst (.t (.int .i64 0))], none⟩])
 .ret)))
def hints_digest_Size : List (Nat × List Nat) := []
def ac_digest_pad_L0 : AC :=
 (.seq
 (.seq
 (.reg 12288 none [
 ⟨some 14, (.op .mov), [.tmp 3], none⟩,
 ⟨some 15, (.op .len), [.tmp 14], none⟩,
 ⟨some 16, (.op (.bin .rem)), [.tmp 15, .cst (.t (.int .i64 64))], none⟩,
 ⟨some 17, (.op (.bin .neq)), [.tmp 16, .cst (.t (.int .i64 56))], none⟩])
 (.cond (.tmp 17)
 .skip
 (.exit 0)))
 (.block 1
 (.reg 16384 none [
 ⟨some 18, (.op .mov), [.tmp 3], none⟩,
 ⟨some 19, (.op (.bslice 1 1 (.t (byteT 0)) [0])), [.cst (.t (byteT 0))], none⟩,
 ⟨some 20, (.op (.append 1 1)), [.tmp 18, .tmp 19], none⟩,
 ⟨some 3, (.op .mov), [.tmp 20], none⟩])))
def ac_digest_pad_L1 : AC :=
 (.seq
 (.seq
 (.reg 28672 none [
 ⟨some 25, (.op .mov), [.tmp 5], none⟩,
 ⟨some 26, (.op (.bin .geq)), [.tmp 25, .cst (.t (.int .i64 0))], none⟩])
 (.cond (.tmp 26)
 .skip
 (.exit 2)))
 (.seq
 (.block 3
 (.reg 36864 none [
 ⟨some 29, (.op .mov), [.tmp 3], none⟩,
 ⟨some 30, (.op .mov), [.tmp 4], none⟩,
 ⟨some 31, (.op .mov), [.tmp 5], none⟩,
 ⟨some 32, (.op (.conv .u64)), [.tmp 31], none⟩,
 ⟨some 33, (.op (.bin .shr)), [.tmp 30, .tmp 32], none⟩,
 ⟨some 34, (.op (.conv .u8)), [.tmp 33], none⟩,
 ⟨some 35, (.op (.bslice 1 1 (.t (byteT 0)) [0])), [.tmp 34], none⟩,
 ⟨some 36, (.op (.append 1 1)), [.tmp 29, .tmp 35], none⟩,
 ⟨some 3, (.op .mov), [.tmp 36], none⟩]))
 (.reg 32768 none [
 ⟨some 27, (.op .mov), [.tmp 5], none⟩,
 ⟨some 28, (.op (.bin .sub)), [.tmp 27, .cst (.t (.int .i64 8))], none⟩,
 ⟨some 5, (.op .mov), [.tmp 28], none⟩])))
def ac_digest_pad : AC :=
 (.seq
 (.reg 4096 none [
 ⟨some 2, (.op .mov), [.cst .nil], none⟩])
 (.seq
 (.reg 8192 none [
 ⟨some 6, (.op .mov), [.tmp 0], none⟩,
 ⟨some 7, (.op .len), [.tmp 6], none⟩,
 ⟨some 8, (.op (.bin .add)), [.tmp 7, .cst (.t (.int .i64 72))], none⟩,
 ⟨some 9, (.op (.mkslice 1 1 (.t (byteT 0)))), [.cst (.t (.int .i64 0)), .tmp 8], none⟩,
 ⟨some 10, (.op .mov), [.tmp 0], none⟩,
 ⟨some 11, (.op (.append 1 1)), [.tmp 9, .tmp 10], none⟩,
 ⟨some 12, (.op (.bslice 1 1 (.t (byteT 0)) [0])), [.cst (.t (byteT 128))], none⟩,
 ⟨some 13, (.op (.append 1 1)), [.tmp 11, .tmp 12], none⟩,
 ⟨some 3, (.op .mov), [.tmp 13], none⟩])
 (.seq
 (.block 0
 (.loop ac_digest_pad_L0))
 (.seq
 (.reg 20480 none [
 ⟨some 21, (.op .mov), [.tmp 0], none⟩,
 ⟨some 22, (.op .len), [.tmp 21], none⟩,
 ⟨some 23, (.op (.conv .u64)), [.tmp 22], none⟩,
 ⟨some 24, (.op (.bin .mul)), [.tmp 23, .cst (.t (.int .u64 8))], none⟩,
 ⟨some 4, (.op .mov), [.tmp 24], none⟩])
 (.seq
 (.seq
 (.reg 24576 none [
 ⟨some 5, (.op .mov), [.cst (.t (.int .i64 56))], none⟩])
 (.block 2
 (.loop ac_digest_pad_L1)))
 (.seq
 (.reg 40960 none [
 ⟨some 37, (.op .mov), [.tmp 3], none⟩,
 ⟨some 2, (.op .mov), [.tmp 37], none⟩])
 .ret))))))
def hints_digest_pad : List (Nat × List Nat) := []
def ac_digest_word : AC :=
 (.seq
 (.reg 4096 none [
 ⟨some 4, (.op .mov), [.cst (.t (u32T 0))], none⟩])
 (.seq
 (.reg 8192 (some [0, 0, 2, 7, 15, 31, 63, 0, 0, 256, 768, 1920, 3968, 8064, 16256, 32767, 0, 0, 131072, 393216, 983040, 2031616, 4128768, 8323072, 16777215, 0, 0, 67108864, 201326592, 503316480, 1040187392, 2113929216, 4294967295, 8589934591]) [
 ⟨some 5, (.op .mov), [.tmp 0], none⟩,
 ⟨some 6, (.op .mov), [.tmp 1], none⟩,
 ⟨some 7, (.op (.bin .mul)), [.cst (.t (.int .i64 4)), .tmp 6], none⟩,
 ⟨some 8, (.op (.iaddr 1)), [.tmp 5, .tmp 7], none⟩,
 ⟨some 9, (.op (.load 1 false)), [.tmp 8], none⟩,
 ⟨some 10, (.op (.conv .u32)), [.tmp 9], none⟩,
 ⟨some 11, (.op (.bin .shl)), [.tmp 10, .cst (.t (.int .u64 24))], none⟩,
 ⟨some 12, (.op .mov), [.tmp 0], none⟩,
 ⟨some 13, (.op .mov), [.tmp 1], none⟩,
 ⟨some 14, (.op (.bin .mul)), [.cst (.t (.int .i64 4)), .tmp 13], none⟩,
 ⟨some 15, (.op (.bin .add)), [.tmp 14, .cst (.t (.int .i64 1))], none⟩,
 ⟨some 16, (.op (.iaddr 1)), [.tmp 12, .tmp 15], none⟩,
 ⟨some 17, (.op (.load 1 false)), [.tmp 16], none⟩,
 ⟨some 18, (.op (.conv .u32)), [.tmp 17], none⟩,
 ⟨some 19, (.op (.bin .shl)), [.tmp 18, .cst (.t (.int .u64 16))], none⟩,
 ⟨some 20, (.op (.bin .or)), [.tmp 11, .tmp 19], none⟩,
 ⟨some 21, (.op .mov), [.tmp 0], none⟩,
 ⟨some 22, (.op .mov), [.tmp 1], none⟩,
 ⟨some 23, (.op (.bin .mul)), [.cst (.t (.int .i64 4)), .tmp 22], none⟩,
 ⟨some 24, (.op (.bin .add)), [.tmp 23, .cst (.t (.int .i64 2))], none⟩,
 ⟨some 25, (.op (.iaddr 1)), [.tmp 21, .tmp 24], none⟩,
 ⟨some 26, (.op (.load 1 false)), [.tmp 25], none⟩,
 ⟨some 27, (.op (.conv .u32)), [.tmp 26], none⟩,
 ⟨some 28, (.op (.bin .shl)), [.tmp 27, .cst (.t (.int .u64 8))], none⟩,
 ⟨some 29, (.op (.bin .or)), [.tmp 20, .tmp 28], none⟩,
 ⟨some 30, (.op .mov), [.tmp 0], none⟩,
 ⟨some 31, (.op .mov), [.tmp 1], none⟩,
 ⟨some 32, (.op (.bin .mul)), [.cst (.t (.int .i64 4)), .tmp 31], none⟩,
 ⟨some 33, (.op (.bin .add)), [.tmp 32, .cst (.t (.int .i64 3))], none⟩,
 ⟨some 34, (.op (.iaddr 1)), [.tmp 30, .tmp 33], none⟩,
 ⟨some 35, (.op (.load 1 false)), [.tmp 34], none⟩,
 ⟨some 36, (.op (.conv .u32)), [.tmp 35], none⟩,
 ⟨some 37, (.op (.bin .or)), [.tmp 29, .tmp 36], none⟩,
 ⟨some 4, (.op .mov), [.tmp 37], none⟩])
 .ret))
def hints_digest_word : List (Nat × List Nat) := []
def ac_digest_spread_L0 : AC :=
 (.seq
 (.reg 16384 none [
 ⟨some 13, (.op (.bin .lss)), [.tmp 12, .tmp 11], none⟩])
 (.seq
 (.cond (.tmp 13)
 .skip
 (.exit 0))
 (.seq
 (.block 1
 (.seq
 (.reg 20480 none [
 ⟨some 14, (.op (.iaddr 1)), [.tmp 10, .tmp 12], none⟩,
 ⟨some 15, (.op (.load 1 false)), [.tmp 14], none⟩,
 ⟨some 5, (.op .mov), [.tmp 15], none⟩])
 (.reg 24576 none [
 ⟨some 16, (.op .mov), [.tmp 3], none⟩,
 ⟨some 17, (.op .mov), [.tmp 5], none⟩,
 ⟨some 18, (.op (.bin .shr)), [.tmp 17, .cst (.t (.int .u64 24))], none⟩,
 ⟨some 19, (.op (.conv .u8)), [.tmp 18], none⟩,
 ⟨some 20, (.op .mov), [.tmp 5], none⟩,
 ⟨some 21, (.op (.bin .shr)), [.tmp 20, .cst (.t (.int .u64 16))], none⟩,
 ⟨some 22, (.op (.conv .u8)), [.tmp 21], none⟩,
 ⟨some 23, (.op .mov), [.tmp 5], none⟩,
 ⟨some 24, (.op (.bin .shr)), [.tmp 23, .cst (.t (.int .u64 8))], none⟩,
 ⟨some 25, (.op (.conv .u8)), [.tmp 24], none⟩,
 ⟨some 26, (.op .mov), [.tmp 5], none⟩,
 ⟨some 27, (.op (.conv .u8)), [.tmp 26], none⟩,
 ⟨some 28, (.op (.bslice 1 4 (.t (byteT 0)) [0, 1, 2, 3])), [.tmp 19, .tmp 22, .tmp 25, .tmp 27], none⟩,
 ⟨some 29, (.op (.append 1 1)), [.tmp 16, .tmp 28], none⟩,
 ⟨some 3, (.op .mov), [.tmp 29], none⟩])))
 (.reg 28672 none [
 ⟨some 30, (.op (.bin .add)), [.tmp 12, .cst (.t (.int .i64 1))], none⟩,
 ⟨some 12, (.op .mov), [.tmp 30], none⟩]))))
def ac_digest_spread : AC :=
 (.seq
 (.reg 4096 none [
 ⟨some 2, (.op .mov), [.cst .nil], none⟩])
 (.seq
 (.reg 8192 none [
 ⟨some 6, (.op .mov), [.tmp 0], none⟩,
 ⟨some 7, (.op .len), [.tmp 6], none⟩,
 ⟨some 8, (.op (.bin .mul)), [.cst (.t (.int .i64 4)), .tmp 7], none⟩,
 ⟨some 9, (.op (.mkslice 1 1 (.t (byteT 0)))), [.cst (.t (.int .i64 0)), .tmp 8], none⟩,
 ⟨some 3, (.op .mov), [.tmp 9], none⟩])
 (.seq
 (.seq
 (.reg 12288 none [
 ⟨some 10, (.op .mov), [.tmp 0], none⟩,
 ⟨some 11, (.op .len), [.tmp 10], none⟩,
 ⟨some 12, (.op .mov), [.cst (.t (.int .i64 0))], none⟩])
 (.block 0
 (.loop ac_digest_spread_L0)))
 (.seq
 (.reg 32768 none [
 ⟨some 31, (.op .mov), [.tmp 3], none⟩,
 ⟨some 2, (.op .mov), [.tmp 31], none⟩])
 .ret))))
def hints_digest_spread : List (Nat × List Nat) := []
def ac_digest_compress256_L0 (n_digest_word n_bits_RotateLeft32 : Nat) : AC :=
 (.seq
 (.reg 12288 none [
 ⟨some 18, (.op (.bin .lss)), [.tmp 17, .cst (.t (.int .i64 64))], none⟩])
 (.seq
 (.cond (.tmp 18)
 .skip
 (.exit 0))
 (.seq
 (.block 1
 (.seq
 (.reg 16384 none [
 ⟨some 19, (.op .mov), [.tmp 17], none⟩,
 ⟨some 5, (.op .mov), [.tmp 19], none⟩])
 (.seq
 (.seq
 (.reg 20480 none [
 ⟨some 20, (.op .mov), [.tmp 5], none⟩,
 ⟨some 21, (.op (.bin .lss)), [.tmp 20, .cst (.t (.int .i64 16))], none⟩])
 (.cond (.tmp 21)
 (.seq
 (.reg 24576 none [
 ⟨some 22, (.op .mov), [.tmp 5], none⟩,
 ⟨some 23, (.op .mov), [.tmp 1], none⟩,
 ⟨some 24, (.op .mov), [.tmp 5], none⟩,
 ⟨some 25, (.call n_digest_word false), [.tmp 23, .tmp 24], none⟩,
 ⟨some 26, (.op (.aaddr 64 1)), [.tmp 4, .tmp 22], none⟩,
 ⟨none, (.op (.store 1)), [.tmp 26, .tmp 25], none⟩])
 (.exit 1))
 .skip))
 (.seq
 (.reg 28672 (some [0, 1, 3, 7, 0, 16, 48, 112, 15, 511]) [
 ⟨some 27, (.op .mov), [.tmp 5], none⟩,
 ⟨some 28, (.op (.bin .sub)), [.tmp 27, .cst (.t (.int .i64 15))], none⟩,
 ⟨some 29, (.op (.aaddr 64 1)), [.tmp 4, .tmp 28], none⟩,
 ⟨some 30, (.op (.load 1 false)), [.tmp 29], none⟩,
 ⟨some 31, (.op .mov), [.tmp 5], none⟩,
 ⟨some 32, (.op (.bin .sub)), [.tmp 31, .cst (.t (.int .i64 2))], none⟩,
 ⟨some 33, (.op (.aaddr 64 1)), [.tmp 4, .tmp 32], none⟩,
 ⟨some 34, (.op (.load 1 false)), [.tmp 33], none⟩,
 ⟨some 6, (.op .mov), [.tmp 30], none⟩,
 ⟨some 7, (.op .mov), [.tmp 34], none⟩])
 (.seq
 (.reg 32768 none [
 ⟨some 35, (.op .mov), [.tmp 6], none⟩,
 ⟨some 36, (.call n_bits_RotateLeft32 false), [.tmp 35, .cst (.t (.int .i64 (-7)))], none⟩,
 ⟨some 37, (.op .mov), [.tmp 6], none⟩,
 ⟨some 38, (.call n_bits_RotateLeft32 false), [.tmp 37, .cst (.t (.int .i64 (-18)))], none⟩,
 ⟨some 39, (.op (.bin .xor)), [.tmp 36, .tmp 38], none⟩,
 ⟨some 40, (.op .mov), [.tmp 6], none⟩,
 ⟨some 41, (.op (.bin .shr)), [.tmp 40, .cst (.t (.int .u64 3))], none⟩,
 ⟨some 42, (.op (.bin .xor)), [.tmp 39, .tmp 41], none⟩,
 ⟨some 8, (.op .mov), [.tmp 42], none⟩])
 (.seq
 (.reg 36864 none [
 ⟨some 43, (.op .mov), [.tmp 7], none⟩,
 ⟨some 44, (.call n_bits_RotateLeft32 false), [.tmp 43, .cst (.t (.int .i64 (-17)))], none⟩,
 ⟨some 45, (.op .mov), [.tmp 7], none⟩,
 ⟨some 46, (.call n_bits_RotateLeft32 false), [.tmp 45, .cst (.t (.int .i64 (-19)))], none⟩,
 ⟨some 47, (.op (.bin .xor)), [.tmp 44, .tmp 46], none⟩,
 ⟨some 48, (.op .mov), [.tmp 7], none⟩,
 ⟨some 49, (.op (.bin .shr)), [.tmp 48, .cst (.t (.int .u64 10))], none⟩,
 ⟨some 50, (.op (.bin .xor)), [.tmp 47, .tmp 49], none⟩,
 ⟨some 9, (.op .mov), [.tmp 50], none⟩])
 (.reg 40960 (some [0, 0, 0, 4, 12, 28, 62, 0, 254, 0, 512, 1536, 3584, 8190, 16383, 32767]) [
 ⟨some 51, (.op .mov), [.tmp 5], none⟩,
 ⟨some 52, (.op .mov), [.tmp 9], none⟩,
 ⟨some 53, (.op .mov), [.tmp 5], none⟩,
 ⟨some 54, (.op (.bin .sub)), [.tmp 53, .cst (.t (.int .i64 7))], none⟩,
 ⟨some 55, (.op (.aaddr 64 1)), [.tmp 4, .tmp 54], none⟩,
 ⟨some 56, (.op (.load 1 false)), [.tmp 55], none⟩,
 ⟨some 57, (.op (.bin .add)), [.tmp 52, .tmp 56], none⟩,
 ⟨some 58, (.op .mov), [.tmp 8], none⟩,
 ⟨some 59, (.op (.bin .add)), [.tmp 57, .tmp 58], none⟩,
 ⟨some 60, (.op .mov), [.tmp 5], none⟩,
 ⟨some 61, (.op (.bin .sub)), [.tmp 60, .cst (.t (.int .i64 16))], none⟩,
 ⟨some 62, (.op (.aaddr 64 1)), [.tmp 4, .tmp 61], none⟩,
 ⟨some 63, (.op (.load 1 false)), [.tmp 62], none⟩,
 ⟨some 64, (.op (.bin .add)), [.tmp 59, .tmp 63], none⟩,
 ⟨some 65, (.op (.aaddr 64 1)), [.tmp 4, .tmp 51], none⟩,
 ⟨none, (.op (.store 1)), [.tmp 65, .tmp 64], none⟩])))))))
 (.reg 45056 none [
 ⟨some 66, (.op (.bin .add)), [.tmp 17, .cst (.t (.int .i64 1))], none⟩,
 ⟨some 17, (.op .mov), [.tmp 66], none⟩]))))
def ac_digest_compress256_L1 (n_bits_RotateLeft32 g_digest_round256 : Nat) : AC :=
 (.seq
 (.reg 57344 none [
 ⟨some 71, (.op (.bin .lss)), [.tmp 70, .cst (.t (.int .i64 64))], none⟩])
 (.seq
 (.cond (.tmp 71)
 .skip
 (.exit 2))
 (.seq
 (.block 3
 (.seq
 (.reg 61440 none [
 ⟨some 72, (.op .mov), [.tmp 70], none⟩,
 ⟨some 11, (.op .mov), [.tmp 72], none⟩])
 (.seq
 (.reg 65536 (some [0, 1, 0, 4, 3, 31]) [
 ⟨some 73, (.op (.aaddr 8 1)), [.tmp 10, .cst (.t (.int .i64 0))], none⟩,
 ⟨some 74, (.op (.load 1 false)), [.tmp 73], none⟩,
 ⟨some 75, (.op (.aaddr 8 1)), [.tmp 10, .cst (.t (.int .i64 4))], none⟩,
 ⟨some 76, (.op (.load 1 false)), [.tmp 75], none⟩,
 ⟨some 12, (.op .mov), [.tmp 74], none⟩,
 ⟨some 13, (.op .mov), [.tmp 76], none⟩])
 (.seq
 (.reg 69632 (some [0, 1, 0, 4, 0, 28, 60, 0, 188, 508, 1023, 0, 0, 4096, 14336, 0, 32768, 0, 131072, 491520, 1046528, 2097151, 0, 4194304, 12582912, 33554431, 0, 67108864, 201326592, 536870911, 1073741823]) [
 ⟨some 77, (.op (.aaddr 8 1)), [.tmp 10, .cst (.t (.int .i64 7))], none⟩,
 ⟨some 78, (.op (.load 1 false)), [.tmp 77], none⟩,
 ⟨some 79, (.op .mov), [.tmp 13], none⟩,
 ⟨some 80, (.call n_bits_RotateLeft32 false), [.tmp 79, .cst (.t (.int .i64 (-6)))], none⟩,
 ⟨some 81, (.op .mov), [.tmp 13], none⟩,
 ⟨some 82, (.call n_bits_RotateLeft32 false), [.tmp 81, .cst (.t (.int .i64 (-11)))], none⟩,
 ⟨some 83, (.op (.bin .xor)), [.tmp 80, .tmp 82], none⟩,
 ⟨some 84, (.op .mov), [.tmp 13], none⟩,
 ⟨some 85, (.call n_bits_RotateLeft32 false), [.tmp 84, .cst (.t (.int .i64 (-25)))], none⟩,
 ⟨some 86, (.op (.bin .xor)), [.tmp 83, .tmp 85], none⟩,
 ⟨some 87, (.op (.bin .add)), [.tmp 78, .tmp 86], none⟩,
 ⟨some 88, (.op .mov), [.tmp 13], none⟩,
 ⟨some 89, (.op (.aaddr 8 1)), [.tmp 10, .cst (.t (.int .i64 5))], none⟩,
 ⟨some 90, (.op (.load 1 false)), [.tmp 89], none⟩,
 ⟨some 91, (.op (.bin .and)), [.tmp 88, .tmp 90], none⟩,
 ⟨some 92, (.op .mov), [.tmp 13], none⟩,
 ⟨some 93, (.op (.un .xor)), [.tmp 92], none⟩,
 ⟨some 94, (.op (.aaddr 8 1)), [.tmp 10, .cst (.t (.int .i64 6))], none⟩,
 ⟨some 95, (.op (.load 1 false)), [.tmp 94], none⟩,
 ⟨some 96, (.op (.bin .and)), [.tmp 93, .tmp 95], none⟩,
 ⟨some 97, (.op (.bin .xor)), [.tmp 91, .tmp 96], none⟩,
 ⟨some 98, (.op (.bin .add)), [.tmp 87, .tmp 97], none⟩,
 ⟨some 99, (.op .mov), [.tmp 11], none⟩,
 ⟨some 100, (.op (.aaddr 64 1)), [.glob g_digest_round256, .tmp 99], none⟩,
 ⟨some 101, (.op (.load 1 false)), [.tmp 100], none⟩,
 ⟨some 102, (.op (.bin .add)), [.tmp 98, .tmp 101], none⟩,
 ⟨some 103, (.op .mov), [.tmp 11], none⟩,
 ⟨some 104, (.op (.aaddr 64 1)), [.tmp 4, .tmp 103], none⟩,
 ⟨some 105, (.op (.load 1 false)), [.tmp 104], none⟩,
 ⟨some 106, (.op (.bin .add)), [.tmp 102, .tmp 105], none⟩,
 ⟨some 14, (.op .mov), [.tmp 106], none⟩])
 (.seq
 (.reg 73728 (some [0, 1, 0, 7, 15, 0, 47, 127, 0, 0, 512, 1792, 0, 0, 8192, 28672, 65280, 0, 131072, 0, 524288, 1966080, 4194048, 8388607, 16777215]) [
 ⟨some 107, (.op .mov), [.tmp 12], none⟩,
 ⟨some 108, (.call n_bits_RotateLeft32 false), [.tmp 107, .cst (.t (.int .i64 (-2)))], none⟩,
 ⟨some 109, (.op .mov), [.tmp 12], none⟩,
 ⟨some 110, (.call n_bits_RotateLeft32 false), [.tmp 109, .cst (.t (.int .i64 (-13)))], none⟩,
 ⟨some 111, (.op (.bin .xor)), [.tmp 108, .tmp 110], none⟩,
 ⟨some 112, (.op .mov), [.tmp 12], none⟩,
 ⟨some 113, (.call n_bits_RotateLeft32 false), [.tmp 112, .cst (.t (.int .i64 (-22)))], none⟩,
 ⟨some 114, (.op (.bin .xor)), [.tmp 111, .tmp 113], none⟩,
 ⟨some 115, (.op .mov), [.tmp 12], none⟩,
 ⟨some 116, (.op (.aaddr 8 1)), [.tmp 10, .cst (.t (.int .i64 1))], none⟩,
 ⟨some 117, (.op (.load 1 false)), [.tmp 116], none⟩,
 ⟨some 118, (.op (.bin .and)), [.tmp 115, .tmp 117], none⟩,
 ⟨some 119, (.op .mov), [.tmp 12], none⟩,
 ⟨some 120, (.op (.aaddr 8 1)), [.tmp 10, .cst (.t (.int .i64 2))], none⟩,
 ⟨some 121, (.op (.load 1 false)), [.tmp 120], none⟩,
 ⟨some 122, (.op (.bin .and)), [.tmp 119, .tmp 121], none⟩,
 ⟨some 123, (.op (.bin .xor)), [.tmp 118, .tmp 122], none⟩,
 ⟨some 124, (.op (.aaddr 8 1)), [.tmp 10, .cst (.t (.int .i64 1))], none⟩,
 ⟨some 125, (.op (.load 1 false)), [.tmp 124], none⟩,
 ⟨some 126, (.op (.aaddr 8 1)), [.tmp 10, .cst (.t (.int .i64 2))], none⟩,
 ⟨some 127, (.op (.load 1 false)), [.tmp 126], none⟩,
 ⟨some 128, (.op (.bin .and)), [.tmp 125, .tmp 127], none⟩,
 ⟨some 129, (.op (.bin .xor)), [.tmp 123, .tmp 128], none⟩,
 ⟨some 130, (.op (.bin .add)), [.tmp 114, .tmp 129], none⟩,
 ⟨some 15, (.op .mov), [.tmp 130], none⟩])
 (.reg 77824 none [
 ⟨some 131, (.op .mov), [.tmp 14], none⟩,
 ⟨some 132, (.op .mov), [.tmp 15], none⟩,
 ⟨some 133, (.op (.bin .add)), [.tmp 131, .tmp 132], none⟩,
 ⟨some 134, (.op (.aaddr 8 1)), [.tmp 10, .cst (.t (.int .i64 0))], none⟩,
 ⟨some 135, (.op (.load 1 false)), [.tmp 134], none⟩,
 ⟨some 136, (.op (.aaddr 8 1)), [.tmp 10, .cst (.t (.int .i64 1))], none⟩,
 ⟨some 137, (.op (.load 1 false)), [.tmp 136], none⟩,
 ⟨some 138, (.op (.aaddr 8 1)), [.tmp 10, .cst (.t (.int .i64 2))], none⟩,
 ⟨some 139, (.op (.load 1 false)), [.tmp 138], none⟩,
 ⟨some 140, (.op (.aaddr 8 1)), [.tmp 10, .cst (.t (.int .i64 3))], none⟩,
 ⟨some 141, (.op (.load 1 false)), [.tmp 140], none⟩,
 ⟨some 142, (.op .mov), [.tmp 14], none⟩,
 ⟨some 143, (.op (.bin .add)), [.tmp 141, .tmp 142], none⟩,
 ⟨some 144, (.op (.aaddr 8 1)), [.tmp 10, .cst (.t (.int .i64 4))], none⟩,
 ⟨some 145, (.op (.load 1 false)), [.tmp 144], none⟩,
 ⟨some 146, (.op (.aaddr 8 1)), [.tmp 10, .cst (.t (.int .i64 5))], none⟩,
 ⟨some 147, (.op (.load 1 false)), [.tmp 146], none⟩,
 ⟨some 148, (.op (.aaddr 8 1)), [.tmp 10, .cst (.t (.int .i64 6))], none⟩,
 ⟨some 149, (.op (.load 1 false)), [.tmp 148], none⟩,
 ⟨some 150, (.op (.build [(.t (u32T 0)), (.t (u32T 0)), (.t (u32T 0)), (.t (u32T 0)), (.t (u32T 0)), (.t (u32T 0)), (.t (u32T 0)), (.t (u32T 0))] [(0, 1), (1, 1), (2, 1), (3, 1), (4, 1), (5, 1), (6, 1), (7, 1)])), [.tmp 133, .tmp 135, .tmp 137, .tmp 139, .tmp 143, .tmp 145, .tmp 147, .tmp 149], none⟩,
 ⟨none, (.op (.store 8)), [.tmp 10, .tmp 150], none⟩]))))))
 (.reg 81920 none [
 ⟨some 151, (.op (.bin .add)), [.tmp 70, .cst (.t (.int .i64 1))], none⟩,
 ⟨some 70, (.op .mov), [.tmp 151], none⟩]))))
def ac_digest_compress256_L2 : AC :=
 (.seq
 (.reg 90112 none [
 ⟨some 153, (.op (.bin .lss)), [.tmp 152, .cst (.t (.int .i64 8))], none⟩])
 (.seq
 (.cond (.tmp 153)
 .skip
 (.exit 4))
 (.seq
 (.block 5
 (.seq
 (.reg 94208 none [
 ⟨some 154, (.op .mov), [.tmp 152], none⟩,
 ⟨some 16, (.op .mov), [.tmp 154], none⟩])
 (.reg 98304 (some [0, 0, 1, 7, 15, 0, 32, 96, 255, 1, 1023, 2047]) [
 ⟨some 155, (.op .mov), [.tmp 0], none⟩,
 ⟨some 156, (.op .mov), [.tmp 16], none⟩,
 ⟨some 157, (.op .nilchk), [.tmp 155], none⟩,
 ⟨some 158, (.op (.aaddr 8 1)), [.tmp 157, .tmp 156], none⟩,
 ⟨some 159, (.op (.load 1 false)), [.tmp 158], none⟩,
 ⟨some 160, (.op .mov), [.tmp 16], none⟩,
 ⟨some 161, (.op (.aaddr 8 1)), [.tmp 10, .tmp 160], none⟩,
 ⟨some 162, (.op (.load 1 false)), [.tmp 161], none⟩,
 ⟨some 163, (.op (.bin .add)), [.tmp 159, .tmp 162], none⟩,
 ⟨some 164, (.op .nilchk), [.tmp 155], none⟩,
 ⟨some 165, (.op (.aaddr 8 1)), [.tmp 164, .tmp 156], none⟩,
 ⟨none, (.op (.store 1)), [.tmp 165, .tmp 163], none⟩])))
 (.reg 102400 none [
 ⟨some 166, (.op (.bin .add)), [.tmp 152, .cst (.t (.int .i64 1))], none⟩,
 ⟨some 152, (.op .mov), [.tmp 166], none⟩]))))
def ac_digest_compress256 (n_digest_word n_bits_RotateLeft32 g_digest_round256 : Nat) : AC :=
 (.seq
 (.reg 4096 none [
 ⟨some 4, (.op (.new 1 (List.replicate 64 (.t (u32T 0))))), [], none⟩])
 (.seq
 (.seq
 (.reg 8192 none [
 ⟨some 17, (.op .mov), [.cst (.t (.int .i64 0))], none⟩])
 (.block 0
 (.loop (ac_digest_compress256_L0 n_digest_word n_bits_RotateLeft32))))
 (.seq
 (.reg 49152 none [
 ⟨some 67, (.op .mov), [.tmp 0], none⟩,
 ⟨some 68, (.op .nilchk), [.tmp 67], none⟩,
 ⟨some 69, (.op (.load 8 true)), [.tmp 68], none⟩,
 ⟨some 10, (.op (.new 1 [(.t (u32T 0)), (.t (u32T 0)), (.t (u32T 0)), (.t (u32T 0)), (.t (u32T 0)), (.t (u32T 0)), (.t (u32T 0)), (.t (u32T 0))])), [], none⟩,
 ⟨none, (.op (.store 8)), [.tmp 10, .tmp 69], none⟩])
 (.seq
 (.seq
 (.reg 53248 none [
 ⟨some 70, (.op .mov), [.cst (.t (.int .i64 0))], none⟩])
 (.block 2
 (.loop (ac_digest_compress256_L1 n_bits_RotateLeft32 g_digest_round256))))
 (.seq
 (.reg 86016 none [
 ⟨some 152, (.op .mov), [.cst (.t (.int .i64 0))], none⟩])
 (.block 4
 (.loop ac_digest_compress256_L2)))))))
def hints_digest_compress256 : List (Nat × List Nat) := []
def ac_digest_compress1_L0 (n_digest_word n_bits_RotateLeft32 : Nat) : AC :=
 (.seq
 (.reg 12288 none [
 ⟨some 15, (.op (.bin .lss)), [.tmp 14, .cst (.t (.int .i64 80))], none⟩])
 (.seq
 (.cond (.tmp 15)
 .skip
 (.exit 0))
 (.seq
 (.block 1
 (.seq
 (.reg 16384 none [
 ⟨some 16, (.op .mov), [.tmp 14], none⟩,
 ⟨some 5, (.op .mov), [.tmp 16], none⟩])
 (.seq
 (.reg 20480 none [
 ⟨some 17, (.op .mov), [.tmp 5], none⟩,
 ⟨some 18, (.op (.bin .lss)), [.tmp 17, .cst (.t (.int .i64 16))], none⟩])
 (.cond (.tmp 18)
 (.reg 24576 none [
 ⟨some 19, (.op .mov), [.tmp 5], none⟩,
 ⟨some 20, (.op .mov), [.tmp 1], none⟩,
 ⟨some 21, (.op .mov), [.tmp 5], none⟩,
 ⟨some 22, (.call n_digest_word false), [.tmp 20, .tmp 21], none⟩,
 ⟨some 23, (.op (.aaddr 80 1)), [.tmp 4, .tmp 19], none⟩,
 ⟨none, (.op (.store 1)), [.tmp 23, .tmp 22], none⟩])
 (.reg 28672 (some [0, 0, 2, 6, 14, 0, 32, 96, 224, 510, 0, 1024, 3072, 7168, 16382, 0, 32768, 98304, 229376, 524286, 1048574, 2097151, 4194303]) [
 ⟨some 24, (.op .mov), [.tmp 5], none⟩,
 ⟨some 25, (.op .mov), [.tmp 5], none⟩,
 ⟨some 26, (.op (.bin .sub)), [.tmp 25, .cst (.t (.int .i64 3))], none⟩,
 ⟨some 27, (.op (.aaddr 80 1)), [.tmp 4, .tmp 26], none⟩,
 ⟨some 28, (.op (.load 1 false)), [.tmp 27], none⟩,
 ⟨some 29, (.op .mov), [.tmp 5], none⟩,
 ⟨some 30, (.op (.bin .sub)), [.tmp 29, .cst (.t (.int .i64 8))], none⟩,
 ⟨some 31, (.op (.aaddr 80 1)), [.tmp 4, .tmp 30], none⟩,
 ⟨some 32, (.op (.load 1 false)), [.tmp 31], none⟩,
 ⟨some 33, (.op (.bin .xor)), [.tmp 28, .tmp 32], none⟩,
 ⟨some 34, (.op .mov), [.tmp 5], none⟩,
 ⟨some 35, (.op (.bin .sub)), [.tmp 34, .cst (.t (.int .i64 14))], none⟩,
 ⟨some 36, (.op (.aaddr 80 1)), [.tmp 4, .tmp 35], none⟩,
 ⟨some 37, (.op (.load 1 false)), [.tmp 36], none⟩,
 ⟨some 38, (.op (.bin .xor)), [.tmp 33, .tmp 37], none⟩,
 ⟨some 39, (.op .mov), [.tmp 5], none⟩,
 ⟨some 40, (.op (.bin .sub)), [.tmp 39, .cst (.t (.int .i64 16))], none⟩,
 ⟨some 41, (.op (.aaddr 80 1)), [.tmp 4, .tmp 40], none⟩,
 ⟨some 42, (.op (.load 1 false)), [.tmp 41], none⟩,
 ⟨some 43, (.op (.bin .xor)), [.tmp 38, .tmp 42], none⟩,
 ⟨some 44, (.call n_bits_RotateLeft32 false), [.tmp 43, .cst (.t (.int .i64 1))], none⟩,
 ⟨some 45, (.op (.aaddr 80 1)), [.tmp 4, .tmp 24], none⟩,
 ⟨none, (.op (.store 1)), [.tmp 45, .tmp 44], none⟩])))))
 (.reg 32768 none [
 ⟨some 46, (.op (.bin .add)), [.tmp 14, .cst (.t (.int .i64 1))], none⟩,
 ⟨some 14, (.op .mov), [.tmp 46], none⟩]))))
def ac_digest_compress1_L1 (n_bits_RotateLeft32 : Nat) : AC :=
 (.seq
 (.reg 45056 none [
 ⟨some 68, (.op (.bin .lss)), [.tmp 67, .cst (.t (.int .i64 80))], none⟩])
 (.seq
 (.cond (.tmp 68)
 .skip
 (.exit 2))
 (.seq
 (.block 3
 (.seq
 (.reg 49152 none [
 ⟨some 69, (.op .mov), [.tmp 67], none⟩,
 ⟨some 11, (.op .mov), [.tmp 69], none⟩])
 (.seq
 (.reg 53248 none [
 ⟨some 12, (.op .mov), [.cst (.t (u32T 0))], none⟩,
 ⟨some 13, (.op .mov), [.cst (.t (u32T 0))], none⟩])
 (.seq
 (.seq
 (.reg 57344 none [
 ⟨some 70, (.op .mov), [.tmp 11], none⟩,
 ⟨some 71, (.op (.bin .quo)), [.tmp 70, .cst (.t (.int .i64 20))], none⟩])
 (.block 4
 (.seq
 (.reg 65536 none [
 ⟨some 78, (.op (.bin .eql)), [.tmp 71, .cst (.t (.int .i64 0))], none⟩,
 ⟨some 77, (.op .mov), [.tmp 78], none⟩])
 (.cond (.tmp 77)
 (.reg 69632 none [
 ⟨some 79, (.op .mov), [.tmp 7], none⟩,
 ⟨some 80, (.op .mov), [.tmp 8], none⟩,
 ⟨some 81, (.op (.bin .and)), [.tmp 79, .tmp 80], none⟩,
 ⟨some 82, (.op .mov), [.tmp 7], none⟩,
 ⟨some 83, (.op (.un .xor)), [.tmp 82], none⟩,
 ⟨some 84, (.op .mov), [.tmp 9], none⟩,
 ⟨some 85, (.op (.bin .and)), [.tmp 83, .tmp 84], none⟩,
 ⟨some 86, (.op (.bin .xor)), [.tmp 81, .tmp 85], none⟩,
 ⟨some 12, (.op .mov), [.tmp 86], none⟩,
 ⟨some 13, (.op .mov), [.cst (.t (u32T 1518500249))], none⟩])
 (.seq
 (.reg 73728 none [
 ⟨some 88, (.op (.bin .eql)), [.tmp 71, .cst (.t (.int .i64 1))], none⟩,
 ⟨some 87, (.op .mov), [.tmp 88], none⟩])
 (.cond (.tmp 87)
 (.reg 77824 none [
 ⟨some 89, (.op .mov), [.tmp 7], none⟩,
 ⟨some 90, (.op .mov), [.tmp 8], none⟩,
 ⟨some 91, (.op (.bin .xor)), [.tmp 89, .tmp 90], none⟩,
 ⟨some 92, (.op .mov), [.tmp 9], none⟩,
 ⟨some 93, (.op (.bin .xor)), [.tmp 91, .tmp 92], none⟩,
 ⟨some 12, (.op .mov), [.tmp 93], none⟩,
 ⟨some 13, (.op .mov), [.cst (.t (u32T 1859775393))], none⟩])
 (.seq
 (.reg 81920 none [
 ⟨some 95, (.op (.bin .eql)), [.tmp 71, .cst (.t (.int .i64 2))], none⟩,
 ⟨some 94, (.op .mov), [.tmp 95], none⟩])
 (.cond (.tmp 94)
 (.reg 86016 none [
 ⟨some 96, (.op .mov), [.tmp 7], none⟩,
 ⟨some 97, (.op .mov), [.tmp 8], none⟩,
 ⟨some 98, (.op (.bin .and)), [.tmp 96, .tmp 97], none⟩,
 ⟨some 99, (.op .mov), [.tmp 7], none⟩,
 ⟨some 100, (.op .mov), [.tmp 9], none⟩,
 ⟨some 101, (.op (.bin .and)), [.tmp 99, .tmp 100], none⟩,
 ⟨some 102, (.op (.bin .xor)), [.tmp 98, .tmp 101], none⟩,
 ⟨some 103, (.op .mov), [.tmp 8], none⟩,
 ⟨some 104, (.op .mov), [.tmp 9], none⟩,
 ⟨some 105, (.op (.bin .and)), [.tmp 103, .tmp 104], none⟩,
 ⟨some 106, (.op (.bin .xor)), [.tmp 102, .tmp 105], none⟩,
 ⟨some 12, (.op .mov), [.tmp 106], none⟩,
 ⟨some 13, (.op .mov), [.cst (.t (u32T 2400959708))], none⟩])
 (.reg 61440 none [
 ⟨some 72, (.op .mov), [.tmp 7], none⟩,
 ⟨some 73, (.op .mov), [.tmp 8], none⟩,
 ⟨some 74, (.op (.bin .xor)), [.tmp 72, .tmp 73], none⟩,
 ⟨some 75, (.op .mov), [.tmp 9], none⟩,
 ⟨some 76, (.op (.bin .xor)), [.tmp 74, .tmp 75], none⟩,
 ⟨some 12, (.op .mov), [.tmp 76], none⟩,
 ⟨some 13, (.op .mov), [.cst (.t (u32T 3395469782))], none⟩])))))))))
 (.reg 90112 (some [0, 1, 0, 7, 0, 31, 0, 127, 0, 256, 768, 2047, 0, 0, 8195, 0, 0, 131071, 262143, 524287, 1048575, 2097151]) [
 ⟨some 107, (.op .mov), [.tmp 6], none⟩,
 ⟨some 108, (.call n_bits_RotateLeft32 false), [.tmp 107, .cst (.t (.int .i64 5))], none⟩,
 ⟨some 109, (.op .mov), [.tmp 12], none⟩,
 ⟨some 110, (.op (.bin .add)), [.tmp 108, .tmp 109], none⟩,
 ⟨some 111, (.op .mov), [.tmp 10], none⟩,
 ⟨some 112, (.op (.bin .add)), [.tmp 110, .tmp 111], none⟩,
 ⟨some 113, (.op .mov), [.tmp 13], none⟩,
 ⟨some 114, (.op (.bin .add)), [.tmp 112, .tmp 113], none⟩,
 ⟨some 115, (.op .mov), [.tmp 11], none⟩,
 ⟨some 116, (.op (.aaddr 80 1)), [.tmp 4, .tmp 115], none⟩,
 ⟨some 117, (.op (.load 1 false)), [.tmp 116], none⟩,
 ⟨some 118, (.op (.bin .add)), [.tmp 114, .tmp 117], none⟩,
 ⟨some 119, (.op .mov), [.tmp 6], none⟩,
 ⟨some 120, (.op .mov), [.tmp 7], none⟩,
 ⟨some 121, (.call n_bits_RotateLeft32 false), [.tmp 120, .cst (.t (.int .i64 30))], none⟩,
 ⟨some 122, (.op .mov), [.tmp 8], none⟩,
 ⟨some 123, (.op .mov), [.tmp 9], none⟩,
 ⟨some 6, (.op .mov), [.tmp 118], none⟩,
 ⟨some 7, (.op .mov), [.tmp 119], none⟩,
 ⟨some 8, (.op .mov), [.tmp 121], none⟩,
 ⟨some 9, (.op .mov), [.tmp 122], none⟩,
 ⟨some 10, (.op .mov), [.tmp 123], none⟩])))))
 (.reg 94208 none [
 ⟨some 124, (.op (.bin .add)), [.tmp 67, .cst (.t (.int .i64 1))], none⟩,
 ⟨some 67, (.op .mov), [.tmp 124], none⟩]))))
def ac_digest_compress1 (n_digest_word n_bits_RotateLeft32 : Nat) : AC :=
 (.seq
 (.reg 4096 none [
 ⟨some 4, (.op (.new 1 (List.replicate 80 (.t (u32T 0))))), [], none⟩])
 (.seq
 (.seq
 (.reg 8192 none [
 ⟨some 14, (.op .mov), [.cst (.t (.int .i64 0))], none⟩])
 (.block 0
 (.loop (ac_digest_compress1_L0 n_digest_word n_bits_RotateLeft32))))
 (.seq
 (.reg 36864 (some [0, 1, 3, 7, 0, 16, 48, 112, 0, 256, 768, 1792, 0, 4096, 12288, 28672, 0, 65536, 196608, 458752, 15, 1048831, 3149823, 7405567, 16777215]) [
 ⟨some 47, (.op .mov), [.tmp 0], none⟩,
 ⟨some 48, (.op .nilchk), [.tmp 47], none⟩,
 ⟨some 49, (.op (.aaddr 5 1)), [.tmp 48, .cst (.t (.int .i64 0))], none⟩,
 ⟨some 50, (.op (.load 1 false)), [.tmp 49], none⟩,
 ⟨some 51, (.op .mov), [.tmp 0], none⟩,
 ⟨some 52, (.op .nilchk), [.tmp 51], none⟩,
 ⟨some 53, (.op (.aaddr 5 1)), [.tmp 52, .cst (.t (.int .i64 1))], none⟩,
 ⟨some 54, (.op (.load 1 false)), [.tmp 53], none⟩,
 ⟨some 55, (.op .mov), [.tmp 0], none⟩,
 ⟨some 56, (.op .nilchk), [.tmp 55], none⟩,
 ⟨some 57, (.op (.aaddr 5 1)), [.tmp 56, .cst (.t (.int .i64 2))], none⟩,
 ⟨some 58, (.op (.load 1 false)), [.tmp 57], none⟩,
 ⟨some 59, (.op .mov), [.tmp 0], none⟩,
 ⟨some 60, (.op .nilchk), [.tmp 59], none⟩,
 ⟨some 61, (.op (.aaddr 5 1)), [.tmp 60, .cst (.t (.int .i64 3))], none⟩,
 ⟨some 62, (.op (.load 1 false)), [.tmp 61], none⟩,
 ⟨some 63, (.op .mov), [.tmp 0], none⟩,
 ⟨some 64, (.op .nilchk), [.tmp 63], none⟩,
 ⟨some 65, (.op (.aaddr 5 1)), [.tmp 64, .cst (.t (.int .i64 4))], none⟩,
 ⟨some 66, (.op (.load 1 false)), [.tmp 65], none⟩,
 ⟨some 6, (.op .mov), [.tmp 50], none⟩,
 ⟨some 7, (.op .mov), [.tmp 54], none⟩,
 ⟨some 8, (.op .mov), [.tmp 58], none⟩,
 ⟨some 9, (.op .mov), [.tmp 62], none⟩,
 ⟨some 10, (.op .mov), [.tmp 66], none⟩])
 (.seq
 (.seq
 (.reg 40960 none [
 ⟨some 67, (.op .mov), [.cst (.t (.int .i64 0))], none⟩])
 (.block 2
 (.loop (ac_digest_compress1_L1 n_bits_RotateLeft32))))
 (.seq
 (.reg 98304 (some [0, 1, 3, 7, 0, 31, 1, 127, 255]) [
 ⟨some 125, (.op .mov), [.tmp 0], none⟩,
 ⟨some 126, (.op .nilchk), [.tmp 125], none⟩,
 ⟨some 127, (.op (.aaddr 5 1)), [.tmp 126, .cst (.t (.int .i64 0))], none⟩,
 ⟨some 128, (.op (.load 1 false)), [.tmp 127], none⟩,
 ⟨some 129, (.op .mov), [.tmp 6], none⟩,
 ⟨some 130, (.op (.bin .add)), [.tmp 128, .tmp 129], none⟩,
 ⟨some 131, (.op .nilchk), [.tmp 125], none⟩,
 ⟨some 132, (.op (.aaddr 5 1)), [.tmp 131, .cst (.t (.int .i64 0))], none⟩,
 ⟨none, (.op (.store 1)), [.tmp 132, .tmp 130], none⟩])
 (.seq
 (.reg 102400 (some [0, 1, 3, 7, 0, 31, 1, 127, 255]) [
 ⟨some 133, (.op .mov), [.tmp 0], none⟩,
 ⟨some 134, (.op .nilchk), [.tmp 133], none⟩,
 ⟨some 135, (.op (.aaddr 5 1)), [.tmp 134, .cst (.t (.int .i64 1))], none⟩,
 ⟨some 136, (.op (.load 1 false)), [.tmp 135], none⟩,
 ⟨some 137, (.op .mov), [.tmp 7], none⟩,
 ⟨some 138, (.op (.bin .add)), [.tmp 136, .tmp 137], none⟩,
 ⟨some 139, (.op .nilchk), [.tmp 133], none⟩,
 ⟨some 140, (.op (.aaddr 5 1)), [.tmp 139, .cst (.t (.int .i64 1))], none⟩,
 ⟨none, (.op (.store 1)), [.tmp 140, .tmp 138], none⟩])
 (.seq
 (.reg 106496 (some [0, 1, 3, 7, 0, 31, 1, 127, 255]) [
 ⟨some 141, (.op .mov), [.tmp 0], none⟩,
 ⟨some 142, (.op .nilchk), [.tmp 141], none⟩,
 ⟨some 143, (.op (.aaddr 5 1)), [.tmp 142, .cst (.t (.int .i64 2))], none⟩,
 ⟨some 144, (.op (.load 1 false)), [.tmp 143], none⟩,
 ⟨some 145, (.op .mov), [.tmp 8], none⟩,
 ⟨some 146, (.op (.bin .add)), [.tmp 144, .tmp 145], none⟩,
 ⟨some 147, (.op .nilchk), [.tmp 141], none⟩,
 ⟨some 148, (.op (.aaddr 5 1)), [.tmp 147, .cst (.t (.int .i64 2))], none⟩,
 ⟨none, (.op (.store 1)), [.tmp 148, .tmp 146], none⟩])
 (.seq
 (.reg 110592 (some [0, 1, 3, 7, 0, 31, 1, 127, 255]) [
 ⟨some 149, (.op .mov), [.tmp 0], none⟩,
 ⟨some 150, (.op .nilchk), [.tmp 149], none⟩,
 ⟨some 151, (.op (.aaddr 5 1)), [.tmp 150, .cst (.t (.int .i64 3))], none⟩,
 ⟨some 152, (.op (.load 1 false)), [.tmp 151], none⟩,
 ⟨some 153, (.op .mov), [.tmp 9], none⟩,
 ⟨some 154, (.op (.bin .add)), [.tmp 152, .tmp 153], none⟩,
 ⟨some 155, (.op .nilchk), [.tmp 149], none⟩,
 ⟨some 156, (.op (.aaddr 5 1)), [.tmp 155, .cst (.t (.int .i64 3))], none⟩,
 ⟨none, (.op (.store 1)), [.tmp 156, .tmp 154], none⟩])
 (.reg 114688 (some [0, 1, 3, 7, 0, 31, 1, 127, 255]) [
 ⟨some 157, (.op .mov), [.tmp 0], none⟩,
 ⟨some 158, (.op .nilchk), [.tmp 157], none⟩,
 ⟨some 159, (.op (.aaddr 5 1)), [.tmp 158, .cst (.t (.int .i64 4))], none⟩,
 ⟨some 160, (.op (.load 1 false)), [.tmp 159], none⟩,
 ⟨some 161, (.op .mov), [.tmp 10], none⟩,
 ⟨some 162, (.op (.bin .add)), [.tmp 160, .tmp 161], none⟩,
 ⟨some 163, (.op .nilchk), [.tmp 157], none⟩,
 ⟨some 164, (.op (.aaddr 5 1)), [.tmp 163, .cst (.t (.int .i64 4))], none⟩,
 ⟨none, (.op (.store 1)), [.tmp 164, .tmp 162], none⟩])))))))))
def hints_digest_compress1 : List (Nat × List Nat) := []
def ac_digest_Sum_L0 (n_digest_compress1 : Nat) : AC :=
 (.seq
 (.seq
 (.reg 24576 none [
 ⟨some 15, (.op .mov), [.tmp 6], none⟩,
 ⟨some 16, (.op .len), [.tmp 15], none⟩,
 ⟨some 17, (.op (.bin .gtr)), [.tmp 16, .cst (.t (.int .i64 0))], none⟩])
 (.cond (.tmp 17)
 .skip
 (.exit 1)))
 (.seq
 (.block 2
 (.reg 32768 none [
 ⟨some 20, (.op .mov), [.tmp 6], none⟩,
 ⟨some 21, (.op (.slice 1 false true false)), [.tmp 20, .cst (.t (.int .i64 64))], none⟩,
 ⟨some 22, (.call n_digest_compress1 false), [.tmp 5, .tmp 21], none⟩]))
 (.reg 28672 none [
 ⟨some 18, (.op .mov), [.tmp 6], none⟩,
 ⟨some 19, (.op (.slice 1 true false false)), [.tmp 18, .cst (.t (.int .i64 64))], none⟩,
 ⟨some 6, (.op .mov), [.tmp 19], none⟩])))
def ac_digest_Sum_L1 (n_digest_compress256 : Nat) : AC :=
 (.seq
 (.seq
 (.reg 53248 none [
 ⟨some 30, (.op .mov), [.tmp 8], none⟩,
 ⟨some 31, (.op .len), [.tmp 30], none⟩,
 ⟨some 32, (.op (.bin .gtr)), [.tmp 31, .cst (.t (.int .i64 0))], none⟩])
 (.cond (.tmp 32)
 .skip
 (.exit 3)))
 (.seq
 (.block 4
 (.reg 61440 none [
 ⟨some 35, (.op .mov), [.tmp 8], none⟩,
 ⟨some 36, (.op (.slice 1 false true false)), [.tmp 35, .cst (.t (.int .i64 64))], none⟩,
 ⟨some 37, (.call n_digest_compress256 false), [.tmp 7, .tmp 36], none⟩]))
 (.reg 57344 none [
 ⟨some 33, (.op .mov), [.tmp 8], none⟩,
 ⟨some 34, (.op (.slice 1 true false false)), [.tmp 33, .cst (.t (.int .i64 64))], none⟩,
 ⟨some 8, (.op .mov), [.tmp 34], none⟩])))
def ac_digest_Sum (n_digest_pad n_digest_compress1 n_digest_spread n_digest_compress256 : Nat) : AC :=
 (.seq
 (.reg 4096 none [
 ⟨some 4, (.op .mov), [.cst .nil], none⟩])
 (.seq
 (.seq
 (.reg 8192 none [
 ⟨some 9, (.op .mov), [.tmp 0], none⟩])
 (.block 0
 (.seq
 (.reg 12288 none [
 ⟨some 11, (.op (.bin .eql)), [.tmp 9, .cst (.t (.int .i64 0))], none⟩,
 ⟨some 10, (.op .mov), [.tmp 11], none⟩])
 (.cond (.tmp 10)
 (.seq
 (.reg 16384 none [
 ⟨some 12, (.op (.build [(.t (u32T 0)), (.t (u32T 0)), (.t (u32T 0)), (.t (u32T 0)), (.t (u32T 0))] [(0, 1), (1, 1), (2, 1), (3, 1), (4, 1)])), [.cst (.t (u32T 1732584193)), .cst (.t (u32T 4023233417)), .cst (.t (u32T 2562383102)), .cst (.t (u32T 271733878)), .cst (.t (u32T 3285377520))], none⟩,
 ⟨some 5, (.op (.new 1 [(.t (u32T 0)), (.t (u32T 0)), (.t (u32T 0)), (.t (u32T 0)), (.t (u32T 0))])), [], none⟩,
 ⟨none, (.op (.store 5)), [.tmp 5, .tmp 12], none⟩])
 (.seq
 (.seq
 (.reg 20480 none [
 ⟨some 13, (.op .mov), [.tmp 1], none⟩,
 ⟨some 14, (.call n_digest_pad false), [.tmp 13], none⟩,
 ⟨some 6, (.op .mov), [.tmp 14], none⟩])
 (.block 1
 (.loop (ac_digest_Sum_L0 n_digest_compress1))))
 (.seq
 (.reg 36864 none [
 ⟨some 23, (.op (.aslice 5 1 false false false)), [.tmp 5], none⟩,
 ⟨some 24, (.call n_digest_spread false), [.tmp 23], none⟩,
 ⟨some 4, (.op .mov), [.tmp 24], none⟩])
 .ret)))
 (.seq
 (.reg 40960 none [
 ⟨some 26, (.op (.bin .eql)), [.tmp 9, .cst (.t (.int .i64 1))], none⟩,
 ⟨some 25, (.op .mov), [.tmp 26], none⟩])
 (.cond (.tmp 25)
 (.seq
 (.reg 45056 none [
 ⟨some 27, (.op (.build [(.t (u32T 0)), (.t (u32T 0)), (.t (u32T 0)), (.t (u32T 0)), (.t (u32T 0)), (.t (u32T 0)), (.t (u32T 0)), (.t (u32T 0))] [(0, 1), (1, 1), (2, 1), (3, 1), (4, 1), (5, 1), (6, 1), (7, 1)])), [.cst (.t (u32T 1779033703)), .cst (.t (u32T 3144134277)), .cst (.t (u32T 1013904242)), .cst (.t (u32T 2773480762)), .cst (.t (u32T 1359893119)), .cst (.t (u32T 2600822924)), .cst (.t (u32T 528734635)), .cst (.t (u32T 1541459225))], none⟩,
 ⟨some 7, (.op (.new 1 [(.t (u32T 0)), (.t (u32T 0)), (.t (u32T 0)), (.t (u32T 0)), (.t (u32T 0)), (.t (u32T 0)), (.t (u32T 0)), (.t (u32T 0))])), [], none⟩,
 ⟨none, (.op (.store 8)), [.tmp 7, .tmp 27], none⟩])
 (.seq
 (.seq
 (.reg 49152 none [
 ⟨some 28, (.op .mov), [.tmp 1], none⟩,
 ⟨some 29, (.call n_digest_pad false), [.tmp 28], none⟩,
 ⟨some 8, (.op .mov), [.tmp 29], none⟩])
 (.block 3
 (.loop (ac_digest_Sum_L1 n_digest_compress256))))
 (.seq
 (.reg 65536 none [
 ⟨some 38, (.op (.aslice 8 1 false false false)), [.tmp 7], none⟩,
 ⟨some 39, (.call n_digest_spread false), [.tmp 38], none⟩,
 ⟨some 4, (.op .mov), [.tmp 39], none⟩])
 .ret)))
 .skip))))))
 (.seq
 (.reg 69632 none [
 ⟨some 4, (.op .mov), [.cst .nil], none⟩])
 .ret)))
def hints_digest_Sum : List (Nat × List Nat) := []
def ac_bits_RotateLeft32 : AC :=
 (.seq
 (.reg 4096 none [
 ⟨some 4, (.op .mov), [.cst (.t (u32T 0))], none⟩])
 (.seq
 (.reg 8192 none [
 ⟨some 6, (.op .mov), [.tmp 1], none⟩,
 ⟨some 7, (.op (.conv .u64)), [.tmp 6], none⟩,
 ⟨some 8, (.op (.bin .and)), [.tmp 7, .cst (.t (.int .u64 31))], none⟩,
 ⟨some 5, (.op .mov), [.tmp 8], none⟩])
 (.seq
 (.reg 12288 none [
 ⟨some 9, (.op .mov), [.tmp 0], none⟩,
 ⟨some 10, (.op .mov), [.tmp 5], none⟩,
 ⟨some 11, (.op (.bin .shl)), [.tmp 9, .tmp 10], none⟩,
 ⟨some 12, (.op .mov), [.tmp 0], none⟩,
 ⟨some 13, (.op .mov), [.tmp 5], none⟩,
 ⟨some 14, (.op (.bin .sub)), [.cst (.t (.int .u64 32)), .tmp 13], none⟩,
 ⟨some 15, (.op (.bin .shr)), [.tmp 12, .tmp 14], none⟩,
 ⟨some 16, (.op (.bin .or)), [.tmp 11, .tmp 15], none⟩,
 ⟨some 4, (.op .mov), [.tmp 16], none⟩])
 .ret)))
def hints_bits_RotateLeft32 : List (Nat × List Nat) := []
def ac_ref1_Size : AC :=
 (.seq
 (.reg 4096 none [
 ⟨some 2, (.op .mov), [.cst (.t (.int .i64 0))], none⟩])
 (.seq
 (.seq
 (.reg 8192 none [
 ⟨some 3, (.op .mov), [.tmp 0], none⟩])
 (.block 0
 (.seq
 (.reg 12288 none [
 ⟨some 5, (.op (.bin .eql)), [.tmp 3, .cst (.t (.int .i64 0))], none⟩,
 ⟨some 4, (.op .mov), [.tmp 5], none⟩])
 (.cond (.tmp 4)
 (.seq
 (.reg 16384 none [
 ⟨some 2, (.op .mov), [.cst (.t (.int .i64 20))], none⟩])
 .ret)
 (.seq
 (.reg 20480 none [
 ⟨some 7, (.op (.bin .eql)), [.tmp 3, .cst (.t (.int .i64 1))], none⟩,
 ⟨some 6, (.op .mov), [.tmp 7], none⟩])
 (.cond (.tmp 6)
 (.seq
 (.reg 24576 none [
 ⟨some 2, (.op .mov), [.cst (.t (.int .i64 32))], none⟩])
 .ret)
 .skip))))))
 (.seq
 (.reg 28672 none [
 ⟨some 2, (.op .mov), [.cst (.t (.int .i64 0))], none⟩])
 .ret)))
def hints_ref1_Size : List (Nat × List Nat) := []
def ac_ref1_Same_L0 : AC :=
 (.seq
 (.seq
 (.reg 20480 none [
 ⟨some 11, (.op .mov), [.tmp 5], none⟩,
 ⟨some 12, (.op .mov), [.tmp 0], none⟩,
 ⟨some 13, (.op .len), [.tmp 12], none⟩,
 ⟨some 14, (.op (.bin .lss)), [.tmp 11, .tmp 13], none⟩])
 (.cond (.tmp 14)
 .skip
 (.exit 0)))
 (.seq
 (.block 1
 (.seq
 (.reg 28672 (some [0, 0, 3, 7, 0, 0, 48, 112, 255]) [
 ⟨some 17, (.op .mov), [.tmp 0], none⟩,
 ⟨some 18, (.op .mov), [.tmp 5], none⟩,
 ⟨some 19, (.op (.iaddr 1)), [.tmp 17, .tmp 18], none⟩,
 ⟨some 20, (.op (.load 1 false)), [.tmp 19], none⟩,
 ⟨some 21, (.op .mov), [.tmp 1], none⟩,
 ⟨some 22, (.op .mov), [.tmp 5], none⟩,
 ⟨some 23, (.op (.iaddr 1)), [.tmp 21, .tmp 22], none⟩,
 ⟨some 24, (.op (.load 1 false)), [.tmp 23], none⟩,
 ⟨some 25, (.op (.bin .neq)), [.tmp 20, .tmp 24], none⟩])
 (.cond (.tmp 25)
 (.seq
 (.reg 32768 none [
 ⟨some 4, (.op .mov), [.cst (.t (.bool false))], none⟩])
 .ret)
 .skip)))
 (.reg 24576 none [
 ⟨some 15, (.op .mov), [.tmp 5], none⟩,
 ⟨some 16, (.op (.bin .add)), [.tmp 15, .cst (.t (.int .i64 1))], none⟩,
 ⟨some 5, (.op .mov), [.tmp 16], none⟩])))
def ac_ref1_Same : AC :=
 (.seq
 (.reg 4096 none [
 ⟨some 4, (.op .mov), [.cst (.t (.bool false))], none⟩])
 (.seq
 (.seq
 (.reg 8192 none [
 ⟨some 6, (.op .mov), [.tmp 0], none⟩,
 ⟨some 7, (.op .len), [.tmp 6], none⟩,
 ⟨some 8, (.op .mov), [.tmp 1], none⟩,
 ⟨some 9, (.op .len), [.tmp 8], none⟩,
 ⟨some 10, (.op (.bin .neq)), [.tmp 7, .tmp 9], none⟩])
 (.cond (.tmp 10)
 (.seq
 (.reg 12288 none [
 ⟨some 4, (.op .mov), [.cst (.t (.bool false))], none⟩])
 .ret)
 .skip))
 (.seq
 (.seq
 (.reg 16384 none [
 ⟨some 5, (.op .mov), [.cst (.t (.int .i64 0))], none⟩])
 (.block 0
 (.loop ac_ref1_Same_L0)))
 (.seq
 (.reg 36864 none [
 ⟨some 4, (.op .mov), [.cst (.t (.bool true))], none⟩])
 .ret))))
def hints_ref1_Same : List (Nat × List Nat) := []
def ac_ref1_Lists_L0 (n_ref1_Same : Nat) : AC :=
 (.seq
 (.seq
 (.reg 20480 none [
 ⟨some 11, (.op .mov), [.tmp 5], none⟩,
 ⟨some 12, (.op .mov), [.tmp 0], none⟩,
 ⟨some 13, (.op .len), [.tmp 12], none⟩,
 ⟨some 14, (.op (.bin .lss)), [.tmp 11, .tmp 13], none⟩])
 (.cond (.tmp 14)
 .skip
 (.exit 0)))
 (.seq
 (.block 1
 (.seq
 (.reg 28672 (some [0, 0, 3, 7, 0, 0, 48, 112, 255, 511]) [
 ⟨some 17, (.op .mov), [.tmp 0], none⟩,
 ⟨some 18, (.op .mov), [.tmp 5], none⟩,
 ⟨some 19, (.op (.iaddr 1)), [.tmp 17, .tmp 18], none⟩,
 ⟨some 20, (.op (.load 1 false)), [.tmp 19], none⟩,
 ⟨some 21, (.op .mov), [.tmp 1], none⟩,
 ⟨some 22, (.op .mov), [.tmp 5], none⟩,
 ⟨some 23, (.op (.iaddr 1)), [.tmp 21, .tmp 22], none⟩,
 ⟨some 24, (.op (.load 1 false)), [.tmp 23], none⟩,
 ⟨some 25, (.call n_ref1_Same false), [.tmp 20, .tmp 24], none⟩,
 ⟨some 26, (.op (.un .not)), [.tmp 25], none⟩])
 (.cond (.tmp 26)
 (.seq
 (.reg 32768 none [
 ⟨some 4, (.op .mov), [.cst (.t (.bool false))], none⟩])
 .ret)
 .skip)))
 (.reg 24576 none [
 ⟨some 15, (.op .mov), [.tmp 5], none⟩,
 ⟨some 16, (.op (.bin .add)), [.tmp 15, .cst (.t (.int .i64 1))], none⟩,
 ⟨some 5, (.op .mov), [.tmp 16], none⟩])))
def ac_ref1_Lists (n_ref1_Same : Nat) : AC :=
 (.seq
 (.reg 4096 none [
 ⟨some 4, (.op .mov), [.cst (.t (.bool false))], none⟩])
 (.seq
 (.seq
 (.reg 8192 none [
 ⟨some 6, (.op .mov), [.tmp 0], none⟩,
 ⟨some 7, (.op .len), [.tmp 6], none⟩,
 ⟨some 8, (.op .mov), [.tmp 1], none⟩,
 ⟨some 9, (.op .len), [.tmp 8], none⟩,
 ⟨some 10, (.op (.bin .neq)), [.tmp 7, .tmp 9], none⟩])
 (.cond (.tmp 10)
 (.seq
 (.reg 12288 none [
 ⟨some 4, (.op .mov), [.cst (.t (.bool false))], none⟩])
 .ret)
 .skip))
 (.seq
 (.seq
 (.reg 16384 none [
 ⟨some 5, (.op .mov), [.cst (.t (.int .i64 0))], none⟩])
 (.block 0
 (.loop (ac_ref1_Lists_L0 n_ref1_Same))))
 (.seq
 (.reg 36864 none [
 ⟨some 4, (.op .mov), [.cst (.t (.bool true))], none⟩])
 .ret))))
def hints_ref1_Lists : List (Nat × List Nat) := []
end Go.Eng
end
section
set_option maxRecDepth 20000
namespace Go.Eng
def padZ (n : Nat) : Nat := (119 - n % 64) % 64
def beL (n : Nat) (k : Nat) : List UInt8 := (List.range k).map fun i => UInt8.ofNat (n / 2 ^ (56 - 8 * i))
def padL (bs : List UInt8) : List UInt8 := bs ++ [128] ++ List.replicate (padZ bs.length) 0 ++ beL (bs.length * 8) 8
theorem beL_zero {n : Nat} : beL n 0 = [] := rfl
theorem beL_length {n k : Nat} : (beL n k).length = k := by simp [beL]
theorem beL_succ {n k : Nat} : beL n (k + 1) = beL n k ++ [UInt8.ofNat (n / 2 ^ (56 - 8 * k))] := by simp [beL, List.range_succ]
theorem w_digest_pad (tab : Tab) (gl : Gl) (bs : List UInt8) (hb : bs.length < 1000000000) : ac_digest_pad.wp tab gl (zipF 0 [.t (.sl (bs.map byteT))]) (zipF 0 []) (resF [] [(2, none)] 0 (fun r o => r = .sl 0 0 (padL bs).length ∧ o = [.live 1 (((padL bs).map byteT).map V.t) true false])) := by
  have hz : padZ bs.length = (119 - bs.length % 64) % 64 := rfl
  simp (config := { maxSteps := 2000000 }) (disch := (first | omega | (simp only [lens, lenm]; omega))) only [go_sem, ↓reduceIte, Nat.reduceAdd, Nat.reduceEqDiff, Nat.reduceSub, Nat.reduceMul, Nat.reduceLT, Nat.reduceLeDiff, Nat.reduceBEq, Int.reduceEq, Int.reduceLT, Int.reduceLE, Int.reduceToNat, Int.reduceNeg, Int.reduceAdd, Int.reduceSub, Int.reduceMul, Int.reduceMod, Int.reduceDiv, reduceCtorEq, Nat.reducePow, Int.reducePow, ac_digest_pad]
  refine loop_upto (padZ bs.length) (fun k => [(0, .t (.sl (bs.map byteT))), (3, .sl 8304 0 (bs.length + 1 + k))]) (fun k => [(8304, .live 1 (((bs ++ [128] ++ List.replicate k 0).map byteT).map V.t) true false)]) ?_ (fun k hk => ?_)
  · refine Weak.rd id ?_ ?_ rfl
    all_goals simp (config := { maxSteps := 2000000 }) (disch := (first | omega | (simp only [lens, lenm]; omega))) only [go_sem, ↓reduceIte, Nat.reduceAdd, Nat.reduceEqDiff, Nat.reduceSub, Nat.reduceMul, Nat.reduceLT, Nat.reduceLeDiff, Nat.reduceBEq, Int.reduceEq, Int.reduceLT, Int.reduceLE, Int.reduceToNat, Int.reduceNeg, Int.reduceAdd, Int.reduceSub, Int.reduceMul, Int.reduceMod, Int.reduceDiv, reduceCtorEq, Nat.reducePow, Int.reducePow, id]
  · by_cases hlt : k < padZ bs.length
    · simp (config := { maxSteps := 2000000 }) (disch := (first | omega | (simp only [lens, lenm]; omega))) only [go_sem, ↓reduceIte, Nat.reduceAdd, Nat.reduceEqDiff, Nat.reduceSub, Nat.reduceMul, Nat.reduceLT, Nat.reduceLeDiff, Nat.reduceBEq, Int.reduceEq, Int.reduceLT, Int.reduceLE, Int.reduceToNat, Int.reduceNeg, Int.reduceAdd, Int.reduceSub, Int.reduceMul, Int.reduceMod, Int.reduceDiv, reduceCtorEq, Nat.reducePow, Int.reducePow, ac_digest_pad_L0]
      refine ⟨hlt, Weak.rd (fun _ => 16416) ?_ ?_ rfl⟩
      all_goals simp (config := { maxSteps := 2000000 }) (disch := (first | omega | (simp only [lens, lenm]; omega))) only [go_sem, ↓reduceIte, Nat.reduceAdd, Nat.reduceEqDiff, Nat.reduceSub, Nat.reduceMul, Nat.reduceLT, Nat.reduceLeDiff, Nat.reduceBEq, Int.reduceEq, Int.reduceLT, Int.reduceLE, Int.reduceToNat, Int.reduceNeg, Int.reduceAdd, Int.reduceSub, Int.reduceMul, Int.reduceMod, Int.reduceDiv, reduceCtorEq, Nat.reducePow, Int.reducePow, List.replicate_succ', List.append_assoc, Nat.add_assoc]
    · have e : k = padZ bs.length := by omega
      subst e
      simp (config := { maxSteps := 2000000 }) (disch := (first | omega | (simp only [lens, lenm]; omega))) only [go_sem, ↓reduceIte, Nat.reduceAdd, Nat.reduceEqDiff, Nat.reduceSub, Nat.reduceMul, Nat.reduceLT, Nat.reduceLeDiff, Nat.reduceBEq, Int.reduceEq, Int.reduceLT, Int.reduceLE, Int.reduceToNat, Int.reduceNeg, Int.reduceAdd, Int.reduceSub, Int.reduceMul, Int.reduceMod, Int.reduceDiv, reduceCtorEq, Nat.reducePow, Int.reducePow, ac_digest_pad_L0]
      refine loop_upto 8 (fun k => [(3, .sl 8304 0 (bs.length + 1 + padZ bs.length + k)), (4, V.t (T.int IntKind.u64 (bs.length * 8 : Nat))), (5, .t (.int .i64 (56 - ((8 * k : Nat) : Int))))]) (fun k => [(8304, .live 1 (((bs ++ [128] ++ List.replicate (padZ bs.length) 0 ++ beL (bs.length * 8) k).map byteT).map V.t) true false)]) ?_ (fun k hk => ?_)
      · refine Weak.rd id ?_ ?_ rfl
        all_goals simp (config := { maxSteps := 2000000 }) (disch := (first | omega | (simp only [lens, lenm]; omega))) only [go_sem, ↓reduceIte, Nat.reduceAdd, Nat.reduceEqDiff, Nat.reduceSub, Nat.reduceMul, Nat.reduceLT, Nat.reduceLeDiff, Nat.reduceBEq, Int.reduceEq, Int.reduceLT, Int.reduceLE, Int.reduceToNat, Int.reduceNeg, Int.reduceAdd, Int.reduceSub, Int.reduceMul, Int.reduceMod, Int.reduceDiv, reduceCtorEq, Nat.reducePow, Int.reducePow, id, beL_zero, List.append_nil]
      · by_cases hlt : k < 8
        · simp (config := { maxSteps := 2000000 }) (disch := (first | omega | (simp only [lens, lenm]; omega))) only [go_sem, ↓reduceIte, Nat.reduceAdd, Nat.reduceEqDiff, Nat.reduceSub, Nat.reduceMul, Nat.reduceLT, Nat.reduceLeDiff, Nat.reduceBEq, Int.reduceEq, Int.reduceLT, Int.reduceLE, Int.reduceToNat, Int.reduceNeg, Int.reduceAdd, Int.reduceSub, Int.reduceMul, Int.reduceMod, Int.reduceDiv, reduceCtorEq, Nat.reducePow, Int.reducePow, ac_digest_pad_L1, beL_length]
          refine ⟨hlt, Weak.rd (fun _ => 36976) ?_ ?_ rfl⟩
          all_goals simp (config := { maxSteps := 2000000 }) (disch := (first | omega | (simp only [lens, lenm]; omega))) only [go_sem, ↓reduceIte, Nat.reduceAdd, Nat.reduceEqDiff, Nat.reduceSub, Nat.reduceMul, Nat.reduceLT, Nat.reduceLeDiff, Nat.reduceBEq, Int.reduceEq, Int.reduceLT, Int.reduceLE, Int.reduceToNat, Int.reduceNeg, Int.reduceAdd, Int.reduceSub, Int.reduceMul, Int.reduceMod, Int.reduceDiv, reduceCtorEq, Nat.reducePow, Int.reducePow, beL_succ, List.append_assoc, Nat.add_assoc]
          omega
        · have e : k = 8 := by omega
          subst e
          simp (config := { maxSteps := 2000000 }) (disch := (first | omega | (simp only [lens, lenm]; omega))) only [go_sem, ↓reduceIte, Nat.reduceAdd, Nat.reduceEqDiff, Nat.reduceSub, Nat.reduceMul, Nat.reduceLT, Nat.reduceLeDiff, Nat.reduceBEq, Int.reduceEq, Int.reduceLT, Int.reduceLE, Int.reduceToNat, Int.reduceNeg, Int.reduceAdd, Int.reduceSub, Int.reduceMul, Int.reduceMod, Int.reduceDiv, reduceCtorEq, Nat.reducePow, Int.reducePow, ac_digest_pad_L1, beL_length, padL]
theorem w_digest_Size (tab : Tab) (gl : Gl) (a : Int) : ac_digest_Size.wp tab gl (zipF 0 [.t (.int .i64 a)]) (zipF 0 []) (resW [(2, none)] 0 (fun r o => r = .t (.int .i64 (if a = 0 then 20 else if a = 1 then 32 else 0)) ∧ o = [])) := by
  by_cases h0 : a = 0
  · subst h0; simp (config := { maxSteps := 2000000 }) (disch := (first | omega | (simp only [lens, lenm]; omega))) only [go_sem, ↓reduceIte, Nat.reduceAdd, Nat.reduceEqDiff, Nat.reduceSub, Nat.reduceMul, Nat.reduceLT, Nat.reduceLeDiff, Nat.reduceBEq, Int.reduceEq, Int.reduceLT, Int.reduceLE, Int.reduceToNat, Int.reduceNeg, Int.reduceAdd, Int.reduceSub, Int.reduceMul, Int.reduceMod, Int.reduceDiv, reduceCtorEq, Nat.reducePow, Int.reducePow, ac_digest_Size]
  · by_cases h1 : a = 1
    · subst h1; simp (config := { maxSteps := 2000000 }) (disch := (first | omega | (simp only [lens, lenm]; omega))) only [go_sem, ↓reduceIte, Nat.reduceAdd, Nat.reduceEqDiff, Nat.reduceSub, Nat.reduceMul, Nat.reduceLT, Nat.reduceLeDiff, Nat.reduceBEq, Int.reduceEq, Int.reduceLT, Int.reduceLE, Int.reduceToNat, Int.reduceNeg, Int.reduceAdd, Int.reduceSub, Int.reduceMul, Int.reduceMod, Int.reduceDiv, reduceCtorEq, Nat.reducePow, Int.reducePow, ac_digest_Size]
    · simp (config := { maxSteps := 2000000 }) (disch := (first | omega | (simp only [lens, lenm]; omega))) only [go_sem, ↓reduceIte, Nat.reduceAdd, Nat.reduceEqDiff, Nat.reduceSub, Nat.reduceMul, Nat.reduceLT, Nat.reduceLeDiff, Nat.reduceBEq, Int.reduceEq, Int.reduceLT, Int.reduceLE, Int.reduceToNat, Int.reduceNeg, Int.reduceAdd, Int.reduceSub, Int.reduceMul, Int.reduceMod, Int.reduceDiv, reduceCtorEq, Nat.reducePow, Int.reducePow, ac_digest_Size, h0, h1]
theorem w_ref1_Size (tab : Tab) (gl : Gl) (a : Int) : ac_ref1_Size.wp tab gl (zipF 0 [.t (.int .i64 a)]) (zipF 0 []) (resW [(2, none)] 0 (fun r o => r = .t (.int .i64 (if a = 0 then 20 else if a = 1 then 32 else 0)) ∧ o = [])) := by
  by_cases h0 : a = 0
  · subst h0; simp (config := { maxSteps := 2000000 }) (disch := (first | omega | (simp only [lens, lenm]; omega))) only [go_sem, ↓reduceIte, Nat.reduceAdd, Nat.reduceEqDiff, Nat.reduceSub, Nat.reduceMul, Nat.reduceLT, Nat.reduceLeDiff, Nat.reduceBEq, Int.reduceEq, Int.reduceLT, Int.reduceLE, Int.reduceToNat, Int.reduceNeg, Int.reduceAdd, Int.reduceSub, Int.reduceMul, Int.reduceMod, Int.reduceDiv, reduceCtorEq, Nat.reducePow, Int.reducePow, ac_ref1_Size]
  · by_cases h1 : a = 1
    · subst h1; simp (config := { maxSteps := 2000000 }) (disch := (first | omega | (simp only [lens, lenm]; omega))) only [go_sem, ↓reduceIte, Nat.reduceAdd, Nat.reduceEqDiff, Nat.reduceSub, Nat.reduceMul, Nat.reduceLT, Nat.reduceLeDiff, Nat.reduceBEq, Int.reduceEq, Int.reduceLT, Int.reduceLE, Int.reduceToNat, Int.reduceNeg, Int.reduceAdd, Int.reduceSub, Int.reduceMul, Int.reduceMod, Int.reduceDiv, reduceCtorEq, Nat.reducePow, Int.reducePow, ac_ref1_Size]
    · simp (config := { maxSteps := 2000000 }) (disch := (first | omega | (simp only [lens, lenm]; omega))) only [go_sem, ↓reduceIte, Nat.reduceAdd, Nat.reduceEqDiff, Nat.reduceSub, Nat.reduceMul, Nat.reduceLT, Nat.reduceLeDiff, Nat.reduceBEq, Int.reduceEq, Int.reduceLT, Int.reduceLE, Int.reduceToNat, Int.reduceNeg, Int.reduceAdd, Int.reduceSub, Int.reduceMul, Int.reduceMod, Int.reduceDiv, reduceCtorEq, Nat.reducePow, Int.reducePow, ac_ref1_Size, h0, h1]
def wordOf (bs : List UInt8) (i : Nat) : UInt32 := (bs.getD (4 * i) 0).toUInt32 <<< 24 ||| (bs.getD (4 * i + 1) 0).toUInt32 <<< 16 ||| (bs.getD (4 * i + 2) 0).toUInt32 <<< 8 ||| (bs.getD (4 * i + 3) 0).toUInt32
theorem w_digest_word (tab : Tab) (gl : Gl) (bs : List UInt8) (i : Nat) (hi : 4 * i + 3 < bs.length) (hb : bs.length < 1000000000) : ac_digest_word.wp tab gl (zipF 0 [.t (.sl (bs.map byteT)), .t (.int .i64 i)]) (zipF 0 []) (resW [(4, none)] 0 (fun r o => r = .t (u32T (wordOf bs i)) ∧ o = [])) := by
  simp (config := { maxSteps := 2000000 }) (disch := (first | omega | (simp only [lens, lenm]; omega))) only [go_sem, ↓reduceIte, Nat.reduceAdd, Nat.reduceEqDiff, Nat.reduceSub, Nat.reduceMul, Nat.reduceLT, Nat.reduceLeDiff, Nat.reduceBEq, Int.reduceEq, Int.reduceLT, Int.reduceLE, Int.reduceToNat, Int.reduceNeg, Int.reduceAdd, Int.reduceSub, Int.reduceMul, Int.reduceMod, Int.reduceDiv, reduceCtorEq, Nat.reducePow, Int.reducePow, ac_digest_word]
  exact ⟨rfl, rfl⟩
def rotr (x : UInt32) (n : Nat) : UInt32 := x >>> UInt32.ofNat n ||| x <<< UInt32.ofNat (32 - n)
theorem w_bits_RotateLeft32 (tab : Tab) (gl : Gl) (x : UInt32) (n : Int) (h : -32 < n ∧ n < 32 ∧ n ≠ 0) : ac_bits_RotateLeft32.wp tab gl (zipF 0 [.t (u32T x), .t (.int .i64 n)]) (zipF 0 []) (resW [(4, none)] 0 (fun r o => r = .t (u32T (rotr x ((32 - n) % 32).toNat)) ∧ o = [])) := by
  have e : IntKind.u64.wrap n % 32 = ((32 - (32 - n).toNat % 32 : Nat) : Int) := by rw [wrap_u64]; omega
  have e2 : ((32 - n) % 32).toNat = (32 - n).toNat % 32 := by omega
  have e3 : 32 - (32 - (32 - n).toNat % 32) = (32 - n).toNat % 32 := by omega
  simp (config := { maxSteps := 2000000 }) (disch := (first | omega | (simp only [lens, lenm]; omega))) only [go_sem, ↓reduceIte, Nat.reduceAdd, Nat.reduceEqDiff, Nat.reduceSub, Nat.reduceMul, Nat.reduceLT, Nat.reduceLeDiff, Nat.reduceBEq, Int.reduceEq, Int.reduceLT, Int.reduceLE, Int.reduceToNat, Int.reduceNeg, Int.reduceAdd, Int.reduceSub, Int.reduceMul, Int.reduceMod, Int.reduceDiv, reduceCtorEq, Nat.reducePow, Int.reducePow, ac_bits_RotateLeft32, e, e2, e3]
  rw [rotr, UInt32.or_comm]
def spread1 (w : UInt32) : List UInt8 := [(w >>> 24).toUInt8, (w >>> 16).toUInt8, (w >>> 8).toUInt8, w.toUInt8]
def spreadL (ws : List UInt32) : List UInt8 := ws.flatMap spread1
theorem spreadL_length (ws : List UInt32) : (spreadL ws).length = 4 * ws.length := by
  induction ws with
  | nil => rfl
  | cons w r ih => simp only [spreadL, List.flatMap_cons, List.length_append] at *; rw [ih]; simp [spread1]; omega
theorem spreadL_take {ws : List UInt32} {k : Nat} (h : k < ws.length) : spreadL (ws.take (k + 1)) = spreadL (ws.take k) ++ spread1 (ws.getD k 0) := by
  rw [take_s (d := 0) h]; simp [spreadL]
theorem w_digest_spread (tab : Tab) (gl : Gl) (ws : List UInt32) (hb : ws.length < 1000000000) : ac_digest_spread.wp tab gl (zipF 0 [.t (.sl (ws.map u32T))]) (zipF 0 []) (resF [] [(2, none)] 0 (fun r o => r = .sl 0 0 (4 * ws.length) ∧ o = [.live 1 (((spreadL ws).map byteT).map V.t) true false])) := by
  simp (config := { maxSteps := 2000000 }) (disch := (first | omega | (simp only [lens, lenm]; omega))) only [go_sem, ↓reduceIte, Nat.reduceAdd, Nat.reduceEqDiff, Nat.reduceSub, Nat.reduceMul, Nat.reduceLT, Nat.reduceLeDiff, Nat.reduceBEq, Int.reduceEq, Int.reduceLT, Int.reduceLE, Int.reduceToNat, Int.reduceNeg, Int.reduceAdd, Int.reduceSub, Int.reduceMul, Int.reduceMod, Int.reduceDiv, reduceCtorEq, Nat.reducePow, Int.reducePow, ac_digest_spread]
  refine loop_upto ws.length (fun k => [(3, .sl 8240 0 (4 * k)), (10, .t (.sl (ws.map u32T))), (11, .t (.int .i64 ws.length)), (12, .t (.int .i64 k))]) (fun k => [(8240, .live 1 (((spreadL (ws.take k)).map byteT).map V.t) true false)]) ?_ (fun k hk => ?_)
  · refine Weak.rd id ?_ ?_ rfl
    all_goals simp (config := { maxSteps := 2000000 }) (disch := (first | omega | (simp only [lens, lenm]; omega))) only [go_sem, ↓reduceIte, Nat.reduceAdd, Nat.reduceEqDiff, Nat.reduceSub, Nat.reduceMul, Nat.reduceLT, Nat.reduceLeDiff, Nat.reduceBEq, Int.reduceEq, Int.reduceLT, Int.reduceLE, Int.reduceToNat, Int.reduceNeg, Int.reduceAdd, Int.reduceSub, Int.reduceMul, Int.reduceMod, Int.reduceDiv, reduceCtorEq, Nat.reducePow, Int.reducePow, id, spreadL, List.flatMap_nil, List.map_nil]
  · have hl : (spreadL (ws.take k)).length = 4 * k := by rw [spreadL_length, List.length_take]; omega
    by_cases hlt : k < ws.length
    · simp (config := { maxSteps := 2000000 }) (disch := (first | omega | (simp only [lens, lenm]; omega))) only [go_sem, ↓reduceIte, Nat.reduceAdd, Nat.reduceEqDiff, Nat.reduceSub, Nat.reduceMul, Nat.reduceLT, Nat.reduceLeDiff, Nat.reduceBEq, Int.reduceEq, Int.reduceLT, Int.reduceLE, Int.reduceToNat, Int.reduceNeg, Int.reduceAdd, Int.reduceSub, Int.reduceMul, Int.reduceMod, Int.reduceDiv, reduceCtorEq, Nat.reducePow, Int.reducePow, ac_digest_spread_L0, hl]
      refine ⟨hlt, Weak.rd (fun _ => 24784) ?_ ?_ rfl⟩
      all_goals simp (config := { maxSteps := 2000000 }) (disch := (first | omega | (simp only [lens, lenm]; omega))) only [go_sem, ↓reduceIte, Nat.reduceAdd, Nat.reduceEqDiff, Nat.reduceSub, Nat.reduceMul, Nat.reduceLT, Nat.reduceLeDiff, Nat.reduceBEq, Int.reduceEq, Int.reduceLT, Int.reduceLE, Int.reduceToNat, Int.reduceNeg, Int.reduceAdd, Int.reduceSub, Int.reduceMul, Int.reduceMod, Int.reduceDiv, reduceCtorEq, Nat.reducePow, Int.reducePow, spreadL_take, spread1]
      · omega
      · simp only [List.append_assoc, List.cons_append, List.nil_append]; rfl
    · have e : k = ws.length := by omega
      subst e
      rw [List.take_length] at hl
      simp (config := { maxSteps := 2000000 }) (disch := (first | omega | (simp only [lens, lenm]; omega))) only [go_sem, ↓reduceIte, Nat.reduceAdd, Nat.reduceEqDiff, Nat.reduceSub, Nat.reduceMul, Nat.reduceLT, Nat.reduceLeDiff, Nat.reduceBEq, Int.reduceEq, Int.reduceLT, Int.reduceLE, Int.reduceToNat, Int.reduceNeg, Int.reduceAdd, Int.reduceSub, Int.reduceMul, Int.reduceMod, Int.reduceDiv, reduceCtorEq, Nat.reducePow, Int.reducePow, ac_digest_spread_L0, hl, List.take_length]
end Go.Eng
end
section
set_option maxRecDepth 20000
set_option maxHeartbeats 4000000
namespace Go.Eng
def sig0 (x : UInt32) : UInt32 := rotr x 7 ^^^ rotr x 18 ^^^ x >>> 3
def sig1 (x : UInt32) : UInt32 := rotr x 17 ^^^ rotr x 19 ^^^ x >>> 10
def sched (bs : List UInt8) : Nat → List UInt32
  | 0 => List.replicate 64 0
  | t + 1 => let w := sched bs t
    w.set t (if t < 16 then wordOf bs t else sig1 (w.getD (t - 2) 0) + w.getD (t - 7) 0 + sig0 (w.getD (t - 15) 0) + w.getD (t - 16) 0)
theorem sched_length {bs : List UInt8} {t : Nat} : (sched bs t).length = 64 := by
  induction t with
  | zero => rfl
  | succ t ih => simp only [sched, List.length_set, ih]
def ct_word : Ct where
  α := List UInt8 × Nat
  as x := [.t (.sl (x.1.map byteT)), .t (.int .i64 x.2)]
  ins _ := []
  pre x := 4 * x.2 + 3 < x.1.length ∧ x.1.length < 1000000000
  r x := .t (u32T (wordOf x.1 x.2))
  outs _ := []
  inj := by
    rintro ⟨a, b⟩ ⟨c, d⟩ h _
    simp [mapB_inj, Int.natCast_inj] at h
    obtain ⟨rfl, rfl⟩ := h
    exact ⟨rfl, rfl⟩
theorem word_eq {bs : List UInt8} {i : Nat} (h : 4 * i + 3 < bs.length ∧ bs.length < 1000000000) : ct_word.fs [.t (.sl (bs.map byteT)), .t (.int .i64 i)] [] = some (.t (u32T (wordOf bs i)), []) := ct_word.eq (bs, i) h
def ct_rotl : Ct where
  α := UInt32 × Int
  as x := [.t (u32T x.1), .t (.int .i64 x.2)]
  ins _ := []
  pre x := -32 < x.2 ∧ x.2 < 32 ∧ x.2 ≠ 0
  r x := .t (u32T (rotr x.1 ((32 - x.2) % 32).toNat))
  outs _ := []
  inj := by
    rintro ⟨a, b⟩ ⟨c, d⟩ h _
    simp [u32T_eq] at h
    obtain ⟨rfl, rfl⟩ := h
    exact ⟨rfl, rfl⟩
theorem rotl_eq {x : UInt32} {i : Int} (h : -32 < i ∧ i < 32 ∧ i ≠ 0) : ct_rotl.fs [.t (u32T x), .t (.int .i64 i)] [] = some (.t (u32T (rotr x ((32 - i) % 32).toNat)), []) := ct_rotl.eq (x, i) h
def k256 : List UInt32 := [0x428a2f98, 0x71374491, 0xb5c0fbcf, 0xe9b5dba5, 0x3956c25b, 0x59f111f1, 0x923f82a4, 0xab1c5ed5, 0xd807aa98, 0x12835b01, 0x243185be, 0x550c7dc3, 0x72be5d74, 0x80deb1fe, 0x9bdc06a7, 0xc19bf174, 0xe49b69c1, 0xefbe4786, 0x0fc19dc6, 0x240ca1cc, 0x2de92c6f, 0x4a7484aa, 0x5cb0a9dc, 0x76f988da, 0x983e5152, 0xa831c66d, 0xb00327c8, 0xbf597fc7, 0xc6e00bf3, 0xd5a79147, 0x06ca6351, 0x14292967, 0x27b70a85, 0x2e1b2138, 0x4d2c6dfc, 0x53380d13, 0x650a7354, 0x766a0abb, 0x81c2c92e, 0x92722c85, 0xa2bfe8a1, 0xa81a664b, 0xc24b8b70, 0xc76c51a3, 0xd192e819, 0xd6990624, 0xf40e3585, 0x106aa070, 0x19a4c116, 0x1e376c08, 0x2748774c, 0x34b0bcb5, 0x391c0cb3, 0x4ed8aa4a, 0x5b9cca4f, 0x682e6ff3, 0x748f82ee, 0x78a5636f, 0x84c87814, 0x8cc70208, 0x90befffa, 0xa4506ceb, 0xbef9a3f7, 0xc67178f2]
def rnd (k w : UInt32) (s : List UInt32) : List UInt32 :=
  let a := s.getD 0 0
  let e := s.getD 4 0
  let t1 := s.getD 7 0 + (rotr e 6 ^^^ rotr e 11 ^^^ rotr e 25) + ((e &&& s.getD 5 0) ^^^ (~~~e &&& s.getD 6 0)) + k + w
  let t2 := (rotr a 2 ^^^ rotr a 13 ^^^ rotr a 22) + ((a &&& s.getD 1 0) ^^^ (a &&& s.getD 2 0) ^^^ (s.getD 1 0 &&& s.getD 2 0))
  [t1 + t2, s.getD 0 0, s.getD 1 0, s.getD 2 0, s.getD 3 0 + t1, s.getD 4 0, s.getD 5 0, s.getD 6 0]
def rounds (ws hs : List UInt32) : Nat → List UInt32
  | 0 => hs
  | t + 1 => rnd (k256.getD t 0) (ws.getD t 0) (rounds ws hs t)
theorem rounds_length {ws hs : List UInt32} {t : Nat} (h : hs.length = 8) : (rounds ws hs t).length = 8 := by
  cases t with
  | zero => exact h
  | succ t => rfl
def addW (hs s : List UInt32) : Nat → List UInt32
  | 0 => hs
  | i + 1 => (addW hs s i).set i ((addW hs s i).getD i 0 + s.getD i 0)
theorem addW_length {hs s : List UInt32} {i : Nat} : (addW hs s i).length = hs.length := by
  induction i with
  | zero => rfl
  | succ i ih => simp only [addW, List.length_set, ih]
def comp256 (hs : List UInt32) (bs : List UInt8) : List UInt32 := addW hs (rounds (sched bs 64) hs 64) 8
theorem w_digest_compress256 (tab : Tab) (gl : Gl) (n1 n2 g : Nat) (h1 : tab.look n1 = some ct_word.fs) (h2 : tab.look n2 = some ct_rotl.fs) (hg : gl g = some (k256.map u32T)) (bs : List UInt8) (hs : List UInt32) (hb : bs.length = 64) (hh : hs.length = 8) :
    (ac_digest_compress256 n1 n2 g).wp tab gl (zipF 0 [.ref 0 0 0, .t (.sl (bs.map byteT))]) (zipF 0 [.live 1 ((hs.map u32T).map V.t) true true]) (resW [] 1 (fun r o => r = .tup [] ∧ o = [.live 1 (((comp256 hs bs).map u32T).map V.t) true true])) := by
  have ht : hs.take 8 = hs := List.take_of_length_le (by omega)
  simp (config := { maxSteps := 2000000 }) (disch := (first | omega | (simp only [lens, lenm]; omega))) only [go_sem, ↓reduceIte, Nat.reduceAdd, Nat.reduceEqDiff, Nat.reduceSub, Nat.reduceMul, Nat.reduceLT, Nat.reduceLeDiff, Nat.reduceBEq, Int.reduceEq, Int.reduceLT, Int.reduceLE, Int.reduceToNat, Int.reduceNeg, Int.reduceAdd, Int.reduceSub, Int.reduceMul, Int.reduceMod, Int.reduceDiv, reduceCtorEq, Nat.reducePow, Int.reducePow, ac_digest_compress256]
  refine loop_upto 64 (fun k => [(17, .t (.int .i64 k)), (4, .ref 4096 0 0), (0, .ref 0 0 0), (1, V.t (T.sl (List.map byteT bs)))]) (fun k => [(4096, .live 1 (((sched bs k).map u32T).map V.t) true true), (0, .live 1 ((hs.map u32T).map V.t) true true)]) ?_ (fun k hk => ?_)
  · refine Weak.rd id ?_ ?_ rfl
    all_goals simp (config := { maxSteps := 2000000 }) (disch := (first | omega | (simp only [lens, lenm]; omega))) only [go_sem, ↓reduceIte, Nat.reduceAdd, Nat.reduceEqDiff, Nat.reduceSub, Nat.reduceMul, Nat.reduceLT, Nat.reduceLeDiff, Nat.reduceBEq, Int.reduceEq, Int.reduceLT, Int.reduceLE, Int.reduceToNat, Int.reduceNeg, Int.reduceAdd, Int.reduceSub, Int.reduceMul, Int.reduceMod, Int.reduceDiv, reduceCtorEq, Nat.reducePow, Int.reducePow, id, sched]
  · have hl : (sched bs k).length = 64 := sched_length
    by_cases hlt : k < 64
    · by_cases h16 : k < 16
      · simp (config := { maxSteps := 2000000 }) (disch := (first | omega | (simp only [lens, lenm]; omega))) only [go_sem, ↓reduceIte, Nat.reduceAdd, Nat.reduceEqDiff, Nat.reduceSub, Nat.reduceMul, Nat.reduceLT, Nat.reduceLeDiff, Nat.reduceBEq, Int.reduceEq, Int.reduceLT, Int.reduceLE, Int.reduceToNat, Int.reduceNeg, Int.reduceAdd, Int.reduceSub, Int.reduceMul, Int.reduceMod, Int.reduceDiv, reduceCtorEq, Nat.reducePow, Int.reducePow, ac_digest_compress256_L0, h1, h2, word_eq, hl]
        refine ⟨hlt, Weak.rd id ?_ ?_ rfl⟩
        all_goals simp (config := { maxSteps := 2000000 }) (disch := (first | omega | (simp only [lens, lenm]; omega))) only [go_sem, ↓reduceIte, Nat.reduceAdd, Nat.reduceEqDiff, Nat.reduceSub, Nat.reduceMul, Nat.reduceLT, Nat.reduceLeDiff, Nat.reduceBEq, Int.reduceEq, Int.reduceLT, Int.reduceLE, Int.reduceToNat, Int.reduceNeg, Int.reduceAdd, Int.reduceSub, Int.reduceMul, Int.reduceMod, Int.reduceDiv, reduceCtorEq, Nat.reducePow, Int.reducePow, id, sched, if_pos h16]
      · simp (config := { maxSteps := 2000000 }) (disch := (first | omega | (simp only [lens, lenm]; omega))) only [go_sem, ↓reduceIte, Nat.reduceAdd, Nat.reduceEqDiff, Nat.reduceSub, Nat.reduceMul, Nat.reduceLT, Nat.reduceLeDiff, Nat.reduceBEq, Int.reduceEq, Int.reduceLT, Int.reduceLE, Int.reduceToNat, Int.reduceNeg, Int.reduceAdd, Int.reduceSub, Int.reduceMul, Int.reduceMod, Int.reduceDiv, reduceCtorEq, Nat.reducePow, Int.reducePow, ac_digest_compress256_L0, h1, h2, rotl_eq, hl]
        refine ⟨rfl, rfl, hlt, Weak.rd id ?_ ?_ rfl⟩
        all_goals simp (config := { maxSteps := 2000000 }) (disch := (first | omega | (simp only [lens, lenm]; omega))) only [go_sem, ↓reduceIte, Nat.reduceAdd, Nat.reduceEqDiff, Nat.reduceSub, Nat.reduceMul, Nat.reduceLT, Nat.reduceLeDiff, Nat.reduceBEq, Int.reduceEq, Int.reduceLT, Int.reduceLE, Int.reduceToNat, Int.reduceNeg, Int.reduceAdd, Int.reduceSub, Int.reduceMul, Int.reduceMod, Int.reduceDiv, reduceCtorEq, Nat.reducePow, Int.reducePow, id, sched, if_neg h16]
        rfl
    · have e : k = 64 := by omega
      subst e
      simp (config := { maxSteps := 2000000 }) (disch := (first | omega | (simp only [lens, lenm]; omega))) only [go_sem, ↓reduceIte, Nat.reduceAdd, Nat.reduceEqDiff, Nat.reduceSub, Nat.reduceMul, Nat.reduceLT, Nat.reduceLeDiff, Nat.reduceBEq, Int.reduceEq, Int.reduceLT, Int.reduceLE, Int.reduceToNat, Int.reduceNeg, Int.reduceAdd, Int.reduceSub, Int.reduceMul, Int.reduceMod, Int.reduceDiv, reduceCtorEq, Nat.reducePow, Int.reducePow, ac_digest_compress256_L0, ht, hh]
      refine loop_upto 64 (fun k => [(70, .t (.int .i64 k)), (4, .ref 4096 0 0), (0, .ref 0 0 0), (10, .ref 49200 0 0)]) (fun k => [(49200, .live 1 (((rounds (sched bs 64) hs k).map u32T).map V.t) true true), (4096, .live 1 (((sched bs 64).map u32T).map V.t) true true), (0, .live 1 ((hs.map u32T).map V.t) true true)]) ?_ (fun k hk => ?_)
      · refine Weak.rd id ?_ ?_ rfl
        all_goals simp (config := { maxSteps := 2000000 }) (disch := (first | omega | (simp only [lens, lenm]; omega))) only [go_sem, ↓reduceIte, Nat.reduceAdd, Nat.reduceEqDiff, Nat.reduceSub, Nat.reduceMul, Nat.reduceLT, Nat.reduceLeDiff, Nat.reduceBEq, Int.reduceEq, Int.reduceLT, Int.reduceLE, Int.reduceToNat, Int.reduceNeg, Int.reduceAdd, Int.reduceSub, Int.reduceMul, Int.reduceMod, Int.reduceDiv, reduceCtorEq, Nat.reducePow, Int.reducePow, id, rounds]
      · have hl2 : (rounds (sched bs 64) hs k).length = 8 := rounds_length hh
        by_cases hlt : k < 64
        · have hk2 : k256.length = 64 := rfl
          simp (config := { maxSteps := 2000000 }) (disch := (first | omega | (simp only [lens, lenm]; omega))) only [go_sem, ↓reduceIte, Nat.reduceAdd, Nat.reduceEqDiff, Nat.reduceSub, Nat.reduceMul, Nat.reduceLT, Nat.reduceLeDiff, Nat.reduceBEq, Int.reduceEq, Int.reduceLT, Int.reduceLE, Int.reduceToNat, Int.reduceNeg, Int.reduceAdd, Int.reduceSub, Int.reduceMul, Int.reduceMod, Int.reduceDiv, reduceCtorEq, Nat.reducePow, Int.reducePow, ac_digest_compress256_L1, h1, h2, rotl_eq, hl, hl2, hg, hk2]
          repeat refine And.intro rfl ?_
          refine ⟨hlt, Weak.rd id ?_ ?_ rfl⟩
          all_goals simp (config := { maxSteps := 2000000 }) (disch := (first | omega | (simp only [lens, lenm]; omega))) only [go_sem, ↓reduceIte, Nat.reduceAdd, Nat.reduceEqDiff, Nat.reduceSub, Nat.reduceMul, Nat.reduceLT, Nat.reduceLeDiff, Nat.reduceBEq, Int.reduceEq, Int.reduceLT, Int.reduceLE, Int.reduceToNat, Int.reduceNeg, Int.reduceAdd, Int.reduceSub, Int.reduceMul, Int.reduceMod, Int.reduceDiv, reduceCtorEq, Nat.reducePow, Int.reducePow, id, rounds, rnd, List.drop_eq_nil_of_le (show (rounds (sched bs 64) hs k).length ≤ 8 by omega)]
        · have e : k = 64 := by omega
          subst e
          simp (config := { maxSteps := 2000000 }) (disch := (first | omega | (simp only [lens, lenm]; omega))) only [go_sem, ↓reduceIte, Nat.reduceAdd, Nat.reduceEqDiff, Nat.reduceSub, Nat.reduceMul, Nat.reduceLT, Nat.reduceLeDiff, Nat.reduceBEq, Int.reduceEq, Int.reduceLT, Int.reduceLE, Int.reduceToNat, Int.reduceNeg, Int.reduceAdd, Int.reduceSub, Int.reduceMul, Int.reduceMod, Int.reduceDiv, reduceCtorEq, Nat.reducePow, Int.reducePow, ac_digest_compress256_L1]
          refine loop_upto 8 (fun k => [(152, .t (.int .i64 k)), (0, .ref 0 0 0), (10, .ref 49200 0 0)]) (fun k => [(49200, .live 1 (((rounds (sched bs 64) hs 64).map u32T).map V.t) true true), (0, .live 1 (((addW hs (rounds (sched bs 64) hs 64) k).map u32T).map V.t) true true)]) ?_ (fun k hk => ?_)
          · refine Weak.rd id ?_ ?_ rfl
            all_goals simp (config := { maxSteps := 2000000 }) (disch := (first | omega | (simp only [lens, lenm]; omega))) only [go_sem, ↓reduceIte, Nat.reduceAdd, Nat.reduceEqDiff, Nat.reduceSub, Nat.reduceMul, Nat.reduceLT, Nat.reduceLeDiff, Nat.reduceBEq, Int.reduceEq, Int.reduceLT, Int.reduceLE, Int.reduceToNat, Int.reduceNeg, Int.reduceAdd, Int.reduceSub, Int.reduceMul, Int.reduceMod, Int.reduceDiv, reduceCtorEq, Nat.reducePow, Int.reducePow, id, addW]
          · have hl3 : (addW hs (rounds (sched bs 64) hs 64) k).length = 8 := by rw [addW_length, hh]
            by_cases hlt : k < 8
            · simp (config := { maxSteps := 2000000 }) (disch := (first | omega | (simp only [lens, lenm]; omega))) only [go_sem, ↓reduceIte, Nat.reduceAdd, Nat.reduceEqDiff, Nat.reduceSub, Nat.reduceMul, Nat.reduceLT, Nat.reduceLeDiff, Nat.reduceBEq, Int.reduceEq, Int.reduceLT, Int.reduceLE, Int.reduceToNat, Int.reduceNeg, Int.reduceAdd, Int.reduceSub, Int.reduceMul, Int.reduceMod, Int.reduceDiv, reduceCtorEq, Nat.reducePow, Int.reducePow, ac_digest_compress256_L2, hl2, hl3]
              refine ⟨rfl, hlt, Weak.rd id ?_ ?_ rfl⟩
              all_goals simp (config := { maxSteps := 2000000 }) (disch := (first | omega | (simp only [lens, lenm]; omega))) only [go_sem, ↓reduceIte, Nat.reduceAdd, Nat.reduceEqDiff, Nat.reduceSub, Nat.reduceMul, Nat.reduceLT, Nat.reduceLeDiff, Nat.reduceBEq, Int.reduceEq, Int.reduceLT, Int.reduceLE, Int.reduceToNat, Int.reduceNeg, Int.reduceAdd, Int.reduceSub, Int.reduceMul, Int.reduceMod, Int.reduceDiv, reduceCtorEq, Nat.reducePow, Int.reducePow, id, addW]
            · have e : k = 8 := by omega
              subst e
              simp (config := { maxSteps := 2000000 }) (disch := (first | omega | (simp only [lens, lenm]; omega))) only [go_sem, ↓reduceIte, Nat.reduceAdd, Nat.reduceEqDiff, Nat.reduceSub, Nat.reduceMul, Nat.reduceLT, Nat.reduceLeDiff, Nat.reduceBEq, Int.reduceEq, Int.reduceLT, Int.reduceLE, Int.reduceToNat, Int.reduceNeg, Int.reduceAdd, Int.reduceSub, Int.reduceMul, Int.reduceMod, Int.reduceDiv, reduceCtorEq, Nat.reducePow, Int.reducePow, ac_digest_compress256_L2, comp256]
end Go.Eng
end
section
set_option maxRecDepth 20000
set_option maxHeartbeats 4000000
namespace Go.Eng
theorem padL_length (bs : List UInt8) : (padL bs).length = bs.length + 1 + padZ bs.length + 8 := by
  simp only [padL, List.length_append, List.length_replicate, beL_length, List.length_cons, List.length_nil]
theorem padL_mod (bs : List UInt8) : (padL bs).length % 64 = 0 := by
  rw [padL_length, padZ]; omega
def hN (comp : List UInt32 → List UInt8 → List UInt32) (iv : List UInt32) (p : List UInt8) : Nat → List UInt32
  | 0 => iv
  | k + 1 => comp (hN comp iv p k) ((p.drop (64 * k)).take 64)
def sumL (comp : List UInt32 → List UInt8 → List UInt32) (iv : List UInt32) (bs : List UInt8) : List UInt8 := spreadL (hN comp iv (padL bs) ((padL bs).length / 64))
def iv256 : List UInt32 := [0x6a09e667, 0xbb67ae85, 0x3c6ef372, 0xa54ff53a, 0x510e527f, 0x9b05688c, 0x1f83d9ab, 0x5be0cd19]
def sum256 (bs : List UInt8) : List UInt8 := sumL comp256 iv256 bs
theorem hN_length {comp : List UInt32 → List UInt8 → List UInt32} {iv : List UInt32} {p : List UInt8} {n : Nat} (hc : ∀ h b, (comp h b).length = h.length) (hi : iv.length = n) {k : Nat} : (hN comp iv p k).length = n := by
  induction k with
  | zero => exact hi
  | succ k ih => rw [hN, hc, ih]
theorem comp256_length (h : List UInt32) (b : List UInt8) : (comp256 h b).length = h.length := addW_length
theorem h256_length {p : List UInt8} {k : Nat} : (hN comp256 iv256 p k).length = 8 := hN_length comp256_length rfl
def ct_pad : Ct where
  α := List UInt8
  as x := [.t (.sl (x.map byteT))]
  ins _ := []
  pre x := x.length < 1000000000
  r x := .sl 0 0 (padL x).length
  outs x := [.live 1 (((padL x).map byteT).map V.t) true false]
  inj := by
    intro a b h _
    simp [mapB_inj] at h
    subst h; exact ⟨rfl, rfl⟩
theorem pad_eq {bs : List UInt8} (h : bs.length < 1000000000) : ct_pad.fs [.t (.sl (bs.map byteT))] [] = some (.sl 0 0 (padL bs).length, [.live 1 (((padL bs).map byteT).map V.t) true false]) := ct_pad.eq bs h
def ct_spread : Ct where
  α := List UInt32
  as x := [.t (.sl (x.map u32T))]
  ins _ := []
  pre x := x.length < 1000000000
  r x := .sl 0 0 (4 * x.length)
  outs x := [.live 1 (((spreadL x).map byteT).map V.t) true false]
  inj := by
    intro a b h _
    simp [mapW_inj] at h
    subst h; exact ⟨rfl, rfl⟩
theorem spread_eq {ws : List UInt32} (h : ws.length < 1000000000) : ct_spread.fs [.t (.sl (ws.map u32T))] [] = some (.sl 0 0 (4 * ws.length), [.live 1 (((spreadL ws).map byteT).map V.t) true false]) := ct_spread.eq ws h
def ct_comp (n : Nat) (comp : List UInt32 → List UInt8 → List UInt32) : Ct where
  α := List UInt32 × List UInt8
  as x := [.ref 0 0 0, .t (.sl (x.2.map byteT))]
  ins x := [.live 1 ((x.1.map u32T).map V.t) true true]
  pre x := x.2.length = 64 ∧ x.1.length = n
  r _ := .tup []
  outs x := [.live 1 (((comp x.1 x.2).map u32T).map V.t) true true]
  inj := by
    rintro ⟨a, b⟩ ⟨c, d⟩ h1 h2
    simp [mapB_inj] at h1
    simp only [Ob.live.injEq, mapV_inj, mapW_inj, List.cons.injEq] at h2
    obtain ⟨⟨_, rfl, _, _⟩, _⟩ := h2
    subst h1; exact ⟨rfl, rfl⟩
theorem comp_eq {n : Nat} {comp : List UInt32 → List UInt8 → List UInt32} {hs : List UInt32} {bs : List UInt8} (h : bs.length = 64 ∧ hs.length = n) : (ct_comp n comp).fs [.ref 0 0 0, .t (.sl (bs.map byteT))] [.live 1 ((hs.map u32T).map V.t) true true] =
    some (.tup [], [.live 1 (((comp hs bs).map u32T).map V.t) true true]) := (ct_comp n comp).eq (hs, bs) h
theorem w_digest_Sum_256 (tab : Tab) (gl : Gl) (n1 n2 n3 n4 : Nat) (h1 : tab.look n1 = some ct_pad.fs) (h3 : tab.look n3 = some ct_spread.fs) (h4 : tab.look n4 = some (ct_comp 8 comp256).fs) (bs : List UInt8) (hb : bs.length < 1000000000) :
    (ac_digest_Sum n1 n2 n3 n4).wp tab gl (zipF 0 [.t (.int .i64 1), .t (.sl (bs.map byteT))]) (zipF 0 []) (resF [] [(4, none)] 0 (fun r o => r = .sl 0 0 32 ∧ o = [.live 1 (((sum256 bs).map byteT).map V.t) true false])) := by
  have hp := padL_length bs
  have hm := padL_mod bs
  simp (config := { maxSteps := 2000000 }) (disch := (first | omega | (simp only [lens, lenm]; omega))) only [go_sem, ↓reduceIte, Nat.reduceAdd, Nat.reduceEqDiff, Nat.reduceSub, Nat.reduceMul, Nat.reduceLT, Nat.reduceLeDiff, Nat.reduceBEq, Int.reduceEq, Int.reduceLT, Int.reduceLE, Int.reduceToNat, Int.reduceNeg, Int.reduceAdd, Int.reduceSub, Int.reduceMul, Int.reduceMod, Int.reduceDiv, reduceCtorEq, Nat.reducePow, Int.reducePow, ac_digest_Sum, h1, pad_eq]
  refine loop_upto ((padL bs).length / 64) (fun k => [(8, V.sl 49168 (64 * k) ((padL bs).length - 64 * k)), (7, V.ref 45072 0 0)]) (fun k => [(49168, .live 1 (((padL bs).map byteT).map V.t) true false), (45072, .live 1 (((hN comp256 iv256 (padL bs) k).map u32T).map V.t) true true)]) ?_ (fun k hk => ?_)
  · refine Weak.rd id ?_ ?_ rfl
    all_goals simp (config := { maxSteps := 2000000 }) (disch := (first | omega | (simp only [lens, lenm]; omega))) only [go_sem, ↓reduceIte, Nat.reduceAdd, Nat.reduceEqDiff, Nat.reduceSub, Nat.reduceMul, Nat.reduceLT, Nat.reduceLeDiff, Nat.reduceBEq, Int.reduceEq, Int.reduceLT, Int.reduceLE, Int.reduceToNat, Int.reduceNeg, Int.reduceAdd, Int.reduceSub, Int.reduceMul, Int.reduceMod, Int.reduceDiv, reduceCtorEq, Nat.reducePow, Int.reducePow, id, hN, iv256, Nat.mul_zero, List.map_cons, List.map_nil]
  · have hl : (hN comp256 iv256 (padL bs) k).length = 8 := h256_length
    by_cases hlt : k < (padL bs).length / 64
    · simp (config := { maxSteps := 2000000 }) (disch := (first | omega | (simp only [lens, lenm]; omega))) only [go_sem, ↓reduceIte, Nat.reduceAdd, Nat.reduceEqDiff, Nat.reduceSub, Nat.reduceMul, Nat.reduceLT, Nat.reduceLeDiff, Nat.reduceBEq, Int.reduceEq, Int.reduceLT, Int.reduceLE, Int.reduceToNat, Int.reduceNeg, Int.reduceAdd, Int.reduceSub, Int.reduceMul, Int.reduceMod, Int.reduceDiv, reduceCtorEq, Nat.reducePow, Int.reducePow, ac_digest_Sum_L1, h4, comp_eq, hl]
      refine ⟨hlt, Weak.rd id ?_ ?_ rfl⟩
      all_goals simp (config := { maxSteps := 2000000 }) (disch := (first | omega | (simp only [lens, lenm]; omega))) only [go_sem, ↓reduceIte, Nat.reduceAdd, Nat.reduceEqDiff, Nat.reduceSub, Nat.reduceMul, Nat.reduceLT, Nat.reduceLeDiff, Nat.reduceBEq, Int.reduceEq, Int.reduceLT, Int.reduceLE, Int.reduceToNat, Int.reduceNeg, Int.reduceAdd, Int.reduceSub, Int.reduceMul, Int.reduceMod, Int.reduceDiv, reduceCtorEq, Nat.reducePow, Int.reducePow, id, hN]
      omega
    · have e : k = (padL bs).length / 64 := by omega
      subst e
      have ht : List.take 8 (hN comp256 iv256 (padL bs) ((padL bs).length / 64)) = hN comp256 iv256 (padL bs) ((padL bs).length / 64) := List.take_of_length_le (by omega)
      simp (config := { maxSteps := 2000000 }) (disch := (first | omega | (simp only [lens, lenm]; omega))) only [go_sem, ↓reduceIte, Nat.reduceAdd, Nat.reduceEqDiff, Nat.reduceSub, Nat.reduceMul, Nat.reduceLT, Nat.reduceLeDiff, Nat.reduceBEq, Int.reduceEq, Int.reduceLT, Int.reduceLE, Int.reduceToNat, Int.reduceNeg, Int.reduceAdd, Int.reduceSub, Int.reduceMul, Int.reduceMod, Int.reduceDiv, reduceCtorEq, Nat.reducePow, Int.reducePow, ac_digest_Sum_L1, h3, spread_eq, hl, ht, sum256, sumL]
end Go.Eng
end
section
set_option maxRecDepth 20000
set_option maxHeartbeats 4000000
namespace Go.Eng
def sched1 (bs : List UInt8) : Nat → List UInt32
  | 0 => List.replicate 80 0
  | t + 1 => let w := sched1 bs t
    w.set t (if t < 16 then wordOf bs t else rotr (w.getD (t - 3) 0 ^^^ w.getD (t - 8) 0 ^^^ w.getD (t - 14) 0 ^^^ w.getD (t - 16) 0) 31)
theorem sched1_length {bs : List UInt8} {t : Nat} : (sched1 bs t).length = 80 := by
  induction t with
  | zero => rfl
  | succ t ih => simp only [sched1, List.length_set, ih]
def f1 (t : Nat) (b c d : UInt32) : UInt32 := if t < 20 then (b &&& c) ^^^ (~~~b &&& d) else if t < 40 then b ^^^ c ^^^ d else if t < 60 then (b &&& c) ^^^ (b &&& d) ^^^ (c &&& d) else b ^^^ c ^^^ d
def k1 (t : Nat) : UInt32 := if t < 20 then 0x5a827999 else if t < 40 then 0x6ed9eba1 else if t < 60 then 0x8f1bbcdc else 0xca62c1d6
def rnd1 (t : Nat) (w : UInt32) (s : List UInt32) : List UInt32 :=
  [rotr (s.getD 0 0) 27 + f1 t (s.getD 1 0) (s.getD 2 0) (s.getD 3 0) + s.getD 4 0 + k1 t + w, s.getD 0 0, rotr (s.getD 1 0) 2, s.getD 2 0, s.getD 3 0]
def rounds1 (ws hs : List UInt32) : Nat → List UInt32
  | 0 => hs
  | t + 1 => rnd1 t (ws.getD t 0) (rounds1 ws hs t)
def comp1 (hs : List UInt32) (bs : List UInt8) : List UInt32 :=
  let s := rounds1 (sched1 bs 80) hs 80
  [hs.getD 0 0 + s.getD 0 0, hs.getD 1 0 + s.getD 1 0, hs.getD 2 0 + s.getD 2 0, hs.getD 3 0 + s.getD 3 0, hs.getD 4 0 + s.getD 4 0]
theorem w_digest_compress1 (tab : Tab) (gl : Gl) (n1 n2 : Nat) (h1 : tab.look n1 = some ct_word.fs) (h2 : tab.look n2 = some ct_rotl.fs) (bs : List UInt8) (x0 x1 x2 x3 x4 : UInt32) (hb : bs.length = 64) :
    (ac_digest_compress1 n1 n2).wp tab gl (zipF 0 [.ref 0 0 0, .t (.sl (bs.map byteT))]) (zipF 0 [.live 1 (([x0, x1, x2, x3, x4].map u32T).map V.t) true true]) (resW [] 1 (fun r o => r = .tup [] ∧ o = [.live 1 (((comp1 [x0, x1, x2, x3, x4] bs).map u32T).map V.t) true true])) := by
  simp (config := { maxSteps := 2000000 }) (disch := (first | omega | (simp only [lens, lenm]; omega))) only [go_sem, ↓reduceIte, Nat.reduceAdd, Nat.reduceEqDiff, Nat.reduceSub, Nat.reduceMul, Nat.reduceLT, Nat.reduceLeDiff, Nat.reduceBEq, Int.reduceEq, Int.reduceLT, Int.reduceLE, Int.reduceToNat, Int.reduceNeg, Int.reduceAdd, Int.reduceSub, Int.reduceMul, Int.reduceMod, Int.reduceDiv, reduceCtorEq, Nat.reducePow, Int.reducePow, ac_digest_compress1]
  refine loop_upto 80 (fun k => [(14, .t (.int .i64 k)), (4, .ref 4096 0 0), (0, .ref 0 0 0), (1, V.t (T.sl (List.map byteT bs)))]) (fun k => [(4096, .live 1 (((sched1 bs k).map u32T).map V.t) true true), (0, .live 1 [.t (u32T x0), .t (u32T x1), .t (u32T x2), .t (u32T x3), .t (u32T x4)] true true)]) ?_ (fun k hk => ?_)
  · refine Weak.rd id ?_ ?_ rfl
    all_goals simp (config := { maxSteps := 2000000 }) (disch := (first | omega | (simp only [lens, lenm]; omega))) only [go_sem, ↓reduceIte, Nat.reduceAdd, Nat.reduceEqDiff, Nat.reduceSub, Nat.reduceMul, Nat.reduceLT, Nat.reduceLeDiff, Nat.reduceBEq, Int.reduceEq, Int.reduceLT, Int.reduceLE, Int.reduceToNat, Int.reduceNeg, Int.reduceAdd, Int.reduceSub, Int.reduceMul, Int.reduceMod, Int.reduceDiv, reduceCtorEq, Nat.reducePow, Int.reducePow, id, sched1]
  · have hl : (sched1 bs k).length = 80 := sched1_length
    by_cases hlt : k < 80
    · by_cases h16 : k < 16
      · simp (config := { maxSteps := 2000000 }) (disch := (first | omega | (simp only [lens, lenm]; omega))) only [go_sem, ↓reduceIte, Nat.reduceAdd, Nat.reduceEqDiff, Nat.reduceSub, Nat.reduceMul, Nat.reduceLT, Nat.reduceLeDiff, Nat.reduceBEq, Int.reduceEq, Int.reduceLT, Int.reduceLE, Int.reduceToNat, Int.reduceNeg, Int.reduceAdd, Int.reduceSub, Int.reduceMul, Int.reduceMod, Int.reduceDiv, reduceCtorEq, Nat.reducePow, Int.reducePow, ac_digest_compress1_L0, h1, h2, word_eq, hl]
        refine ⟨hlt, Weak.rd id ?_ ?_ rfl⟩
        all_goals simp (config := { maxSteps := 2000000 }) (disch := (first | omega | (simp only [lens, lenm]; omega))) only [go_sem, ↓reduceIte, Nat.reduceAdd, Nat.reduceEqDiff, Nat.reduceSub, Nat.reduceMul, Nat.reduceLT, Nat.reduceLeDiff, Nat.reduceBEq, Int.reduceEq, Int.reduceLT, Int.reduceLE, Int.reduceToNat, Int.reduceNeg, Int.reduceAdd, Int.reduceSub, Int.reduceMul, Int.reduceMod, Int.reduceDiv, reduceCtorEq, Nat.reducePow, Int.reducePow, id, sched1, if_pos h16]
      · simp (config := { maxSteps := 2000000 }) (disch := (first | omega | (simp only [lens, lenm]; omega))) only [go_sem, ↓reduceIte, Nat.reduceAdd, Nat.reduceEqDiff, Nat.reduceSub, Nat.reduceMul, Nat.reduceLT, Nat.reduceLeDiff, Nat.reduceBEq, Int.reduceEq, Int.reduceLT, Int.reduceLE, Int.reduceToNat, Int.reduceNeg, Int.reduceAdd, Int.reduceSub, Int.reduceMul, Int.reduceMod, Int.reduceDiv, reduceCtorEq, Nat.reducePow, Int.reducePow, ac_digest_compress1_L0, h1, h2, rotl_eq, hl]
        repeat refine And.intro rfl ?_
        refine ⟨hlt, Weak.rd id ?_ ?_ rfl⟩
        all_goals simp (config := { maxSteps := 2000000 }) (disch := (first | omega | (simp only [lens, lenm]; omega))) only [go_sem, ↓reduceIte, Nat.reduceAdd, Nat.reduceEqDiff, Nat.reduceSub, Nat.reduceMul, Nat.reduceLT, Nat.reduceLeDiff, Nat.reduceBEq, Int.reduceEq, Int.reduceLT, Int.reduceLE, Int.reduceToNat, Int.reduceNeg, Int.reduceAdd, Int.reduceSub, Int.reduceMul, Int.reduceMod, Int.reduceDiv, reduceCtorEq, Nat.reducePow, Int.reducePow, id, sched1, if_neg h16]
    · have e : k = 80 := by omega
      subst e
      simp (config := { maxSteps := 2000000 }) (disch := (first | omega | (simp only [lens, lenm]; omega))) only [go_sem, ↓reduceIte, Nat.reduceAdd, Nat.reduceEqDiff, Nat.reduceSub, Nat.reduceMul, Nat.reduceLT, Nat.reduceLeDiff, Nat.reduceBEq, Int.reduceEq, Int.reduceLT, Int.reduceLE, Int.reduceToNat, Int.reduceNeg, Int.reduceAdd, Int.reduceSub, Int.reduceMul, Int.reduceMod, Int.reduceDiv, reduceCtorEq, Nat.reducePow, Int.reducePow, ac_digest_compress1_L0]
      repeat refine And.intro rfl ?_
      refine loop_upto 80 (fun k => [(67, .t (.int .i64 k)), (4, .ref 4096 0 0), (0, .ref 0 0 0), (6, .t (u32T ((rounds1 (sched1 bs 80) [x0, x1, x2, x3, x4] k).getD 0 0))), (7, .t (u32T ((rounds1 (sched1 bs 80) [x0, x1, x2, x3, x4] k).getD 1 0))), (8, .t (u32T ((rounds1 (sched1 bs 80) [x0, x1, x2, x3, x4] k).getD 2 0))), (9, .t (u32T ((rounds1 (sched1 bs 80) [x0, x1, x2, x3, x4] k).getD 3 0))), (10, .t (u32T ((rounds1 (sched1 bs 80) [x0, x1, x2, x3, x4] k).getD 4 0)))])
        (fun k => [(4096, .live 1 (((sched1 bs 80).map u32T).map V.t) true true), (0, .live 1 [.t (u32T x0), .t (u32T x1), .t (u32T x2), .t (u32T x3), .t (u32T x4)] true true)]) ?_ (fun k hk => ?_)
      · refine Weak.rd id ?_ ?_ rfl
        all_goals simp (config := { maxSteps := 2000000 }) (disch := (first | omega | (simp only [lens, lenm]; omega))) only [go_sem, ↓reduceIte, Nat.reduceAdd, Nat.reduceEqDiff, Nat.reduceSub, Nat.reduceMul, Nat.reduceLT, Nat.reduceLeDiff, Nat.reduceBEq, Int.reduceEq, Int.reduceLT, Int.reduceLE, Int.reduceToNat, Int.reduceNeg, Int.reduceAdd, Int.reduceSub, Int.reduceMul, Int.reduceMod, Int.reduceDiv, reduceCtorEq, Nat.reducePow, Int.reducePow, id, rounds1, List.getD_cons_zero, List.getD_cons_succ]
      · by_cases hlt : k < 80
        · by_cases h20 : k < 20
          · have e0 : k / 20 = 0 := by omega
            simp (config := { maxSteps := 2000000 }) (disch := (first | omega | (simp only [lens, lenm]; omega))) only [go_sem, ↓reduceIte, Nat.reduceAdd, Nat.reduceEqDiff, Nat.reduceSub, Nat.reduceMul, Nat.reduceLT, Nat.reduceLeDiff, Nat.reduceBEq, Int.reduceEq, Int.reduceLT, Int.reduceLE, Int.reduceToNat, Int.reduceNeg, Int.reduceAdd, Int.reduceSub, Int.reduceMul, Int.reduceMod, Int.reduceDiv, reduceCtorEq, Nat.reducePow, Int.reducePow, ac_digest_compress1_L1, h1, h2, rotl_eq, hl, e0]
            repeat refine And.intro rfl ?_
            refine ⟨hlt, Weak.rd id ?_ ?_ rfl⟩
            all_goals simp (config := { maxSteps := 2000000 }) (disch := (first | omega | (simp only [lens, lenm]; omega))) only [go_sem, ↓reduceIte, Nat.reduceAdd, Nat.reduceEqDiff, Nat.reduceSub, Nat.reduceMul, Nat.reduceLT, Nat.reduceLeDiff, Nat.reduceBEq, Int.reduceEq, Int.reduceLT, Int.reduceLE, Int.reduceToNat, Int.reduceNeg, Int.reduceAdd, Int.reduceSub, Int.reduceMul, Int.reduceMod, Int.reduceDiv, reduceCtorEq, Nat.reducePow, Int.reducePow, id, rounds1, rnd1, f1, k1, if_pos h20, List.getD_cons_zero, List.getD_cons_succ]
          · by_cases h40 : k < 40
            · have e0 : k / 20 = 1 := by omega
              simp (config := { maxSteps := 2000000 }) (disch := (first | omega | (simp only [lens, lenm]; omega))) only [go_sem, ↓reduceIte, Nat.reduceAdd, Nat.reduceEqDiff, Nat.reduceSub, Nat.reduceMul, Nat.reduceLT, Nat.reduceLeDiff, Nat.reduceBEq, Int.reduceEq, Int.reduceLT, Int.reduceLE, Int.reduceToNat, Int.reduceNeg, Int.reduceAdd, Int.reduceSub, Int.reduceMul, Int.reduceMod, Int.reduceDiv, reduceCtorEq, Nat.reducePow, Int.reducePow, ac_digest_compress1_L1, h1, h2, rotl_eq, hl, e0]
              repeat refine And.intro rfl ?_
              refine ⟨hlt, Weak.rd id ?_ ?_ rfl⟩
              all_goals simp (config := { maxSteps := 2000000 }) (disch := (first | omega | (simp only [lens, lenm]; omega))) only [go_sem, ↓reduceIte, Nat.reduceAdd, Nat.reduceEqDiff, Nat.reduceSub, Nat.reduceMul, Nat.reduceLT, Nat.reduceLeDiff, Nat.reduceBEq, Int.reduceEq, Int.reduceLT, Int.reduceLE, Int.reduceToNat, Int.reduceNeg, Int.reduceAdd, Int.reduceSub, Int.reduceMul, Int.reduceMod, Int.reduceDiv, reduceCtorEq, Nat.reducePow, Int.reducePow, id, rounds1, rnd1, f1, k1, if_neg h20, if_pos h40, List.getD_cons_zero, List.getD_cons_succ]
            · by_cases h60 : k < 60
              · have e0 : k / 20 = 2 := by omega
                simp (config := { maxSteps := 2000000 }) (disch := (first | omega | (simp only [lens, lenm]; omega))) only [go_sem, ↓reduceIte, Nat.reduceAdd, Nat.reduceEqDiff, Nat.reduceSub, Nat.reduceMul, Nat.reduceLT, Nat.reduceLeDiff, Nat.reduceBEq, Int.reduceEq, Int.reduceLT, Int.reduceLE, Int.reduceToNat, Int.reduceNeg, Int.reduceAdd, Int.reduceSub, Int.reduceMul, Int.reduceMod, Int.reduceDiv, reduceCtorEq, Nat.reducePow, Int.reducePow, ac_digest_compress1_L1, h1, h2, rotl_eq, hl, e0]
                repeat refine And.intro rfl ?_
                refine ⟨hlt, Weak.rd id ?_ ?_ rfl⟩
                all_goals simp (config := { maxSteps := 2000000 }) (disch := (first | omega | (simp only [lens, lenm]; omega))) only [go_sem, ↓reduceIte, Nat.reduceAdd, Nat.reduceEqDiff, Nat.reduceSub, Nat.reduceMul, Nat.reduceLT, Nat.reduceLeDiff, Nat.reduceBEq, Int.reduceEq, Int.reduceLT, Int.reduceLE, Int.reduceToNat, Int.reduceNeg, Int.reduceAdd, Int.reduceSub, Int.reduceMul, Int.reduceMod, Int.reduceDiv, reduceCtorEq, Nat.reducePow, Int.reducePow, id, rounds1, rnd1, f1, k1, if_neg h20, if_neg h40, if_pos h60, List.getD_cons_zero, List.getD_cons_succ]
              · have e0 : k / 20 = 3 := by omega
                simp (config := { maxSteps := 2000000 }) (disch := (first | omega | (simp only [lens, lenm]; omega))) only [go_sem, ↓reduceIte, Nat.reduceAdd, Nat.reduceEqDiff, Nat.reduceSub, Nat.reduceMul, Nat.reduceLT, Nat.reduceLeDiff, Nat.reduceBEq, Int.reduceEq, Int.reduceLT, Int.reduceLE, Int.reduceToNat, Int.reduceNeg, Int.reduceAdd, Int.reduceSub, Int.reduceMul, Int.reduceMod, Int.reduceDiv, reduceCtorEq, Nat.reducePow, Int.reducePow, ac_digest_compress1_L1, h1, h2, rotl_eq, hl, e0]
                repeat refine And.intro rfl ?_
                refine ⟨hlt, Weak.rd id ?_ ?_ rfl⟩
                all_goals simp (config := { maxSteps := 2000000 }) (disch := (first | omega | (simp only [lens, lenm]; omega))) only [go_sem, ↓reduceIte, Nat.reduceAdd, Nat.reduceEqDiff, Nat.reduceSub, Nat.reduceMul, Nat.reduceLT, Nat.reduceLeDiff, Nat.reduceBEq, Int.reduceEq, Int.reduceLT, Int.reduceLE, Int.reduceToNat, Int.reduceNeg, Int.reduceAdd, Int.reduceSub, Int.reduceMul, Int.reduceMod, Int.reduceDiv, reduceCtorEq, Nat.reducePow, Int.reducePow, id, rounds1, rnd1, f1, k1, if_neg h20, if_neg h40, if_neg h60, List.getD_cons_zero, List.getD_cons_succ]
        · have e : k = 80 := by omega
          subst e
          simp (config := { maxSteps := 2000000 }) (disch := (first | omega | (simp only [lens, lenm]; omega))) only [go_sem, ↓reduceIte, Nat.reduceAdd, Nat.reduceEqDiff, Nat.reduceSub, Nat.reduceMul, Nat.reduceLT, Nat.reduceLeDiff, Nat.reduceBEq, Int.reduceEq, Int.reduceLT, Int.reduceLE, Int.reduceToNat, Int.reduceNeg, Int.reduceAdd, Int.reduceSub, Int.reduceMul, Int.reduceMod, Int.reduceDiv, reduceCtorEq, Nat.reducePow, Int.reducePow, ac_digest_compress1_L1, comp1, List.getD_cons_zero, List.getD_cons_succ]
          repeat refine And.intro rfl ?_
          rfl
end Go.Eng
end
section
set_option maxRecDepth 20000
set_option maxHeartbeats 4000000
namespace Go.Eng
def iv1 : List UInt32 := [0x67452301, 0xefcdab89, 0x98badcfe, 0x10325476, 0xc3d2e1f0]
theorem h1_length {p : List UInt8} {k : Nat} : (hN comp1 iv1 p k).length = 5 := by
  cases k <;> rfl
def sum1 (bs : List UInt8) : List UInt8 := sumL comp1 iv1 bs
theorem w_digest_Sum_1 (tab : Tab) (gl : Gl) (n1 n2 n3 n4 : Nat) (h1 : tab.look n1 = some ct_pad.fs) (h3 : tab.look n3 = some ct_spread.fs) (h4 : tab.look n2 = some (ct_comp 5 comp1).fs) (bs : List UInt8) (hb : bs.length < 1000000000) :
    (ac_digest_Sum n1 n2 n3 n4).wp tab gl (zipF 0 [.t (.int .i64 0), .t (.sl (bs.map byteT))]) (zipF 0 []) (resF [] [(4, none)] 0 (fun r o => r = .sl 0 0 20 ∧ o = [.live 1 (((sum1 bs).map byteT).map V.t) true false])) := by
  have hp := padL_length bs
  have hm := padL_mod bs
  simp (config := { maxSteps := 2000000 }) (disch := (first | omega | (simp only [lens, lenm]; omega))) only [go_sem, ↓reduceIte, Nat.reduceAdd, Nat.reduceEqDiff, Nat.reduceSub, Nat.reduceMul, Nat.reduceLT, Nat.reduceLeDiff, Nat.reduceBEq, Int.reduceEq, Int.reduceLT, Int.reduceLE, Int.reduceToNat, Int.reduceNeg, Int.reduceAdd, Int.reduceSub, Int.reduceMul, Int.reduceMod, Int.reduceDiv, reduceCtorEq, Nat.reducePow, Int.reducePow, ac_digest_Sum, h1, pad_eq]
  refine loop_upto ((padL bs).length / 64) (fun k => [(6, V.sl 20496 (64 * k) ((padL bs).length - 64 * k)), (5, V.ref 16400 0 0)]) (fun k => [(20496, .live 1 (((padL bs).map byteT).map V.t) true false), (16400, .live 1 (((hN comp1 iv1 (padL bs) k).map u32T).map V.t) true true)]) ?_ (fun k hk => ?_)
  · refine Weak.rd id ?_ ?_ rfl
    all_goals simp (config := { maxSteps := 2000000 }) (disch := (first | omega | (simp only [lens, lenm]; omega))) only [go_sem, ↓reduceIte, Nat.reduceAdd, Nat.reduceEqDiff, Nat.reduceSub, Nat.reduceMul, Nat.reduceLT, Nat.reduceLeDiff, Nat.reduceBEq, Int.reduceEq, Int.reduceLT, Int.reduceLE, Int.reduceToNat, Int.reduceNeg, Int.reduceAdd, Int.reduceSub, Int.reduceMul, Int.reduceMod, Int.reduceDiv, reduceCtorEq, Nat.reducePow, Int.reducePow, id, hN, iv1, Nat.mul_zero, List.map_cons, List.map_nil]
  · have hl : (hN comp1 iv1 (padL bs) k).length = 5 := h1_length
    by_cases hlt : k < (padL bs).length / 64
    · simp (config := { maxSteps := 2000000 }) (disch := (first | omega | (simp only [lens, lenm]; omega))) only [go_sem, ↓reduceIte, Nat.reduceAdd, Nat.reduceEqDiff, Nat.reduceSub, Nat.reduceMul, Nat.reduceLT, Nat.reduceLeDiff, Nat.reduceBEq, Int.reduceEq, Int.reduceLT, Int.reduceLE, Int.reduceToNat, Int.reduceNeg, Int.reduceAdd, Int.reduceSub, Int.reduceMul, Int.reduceMod, Int.reduceDiv, reduceCtorEq, Nat.reducePow, Int.reducePow, ac_digest_Sum_L0, h4, comp_eq, hl]
      refine ⟨hlt, Weak.rd id ?_ ?_ rfl⟩
      all_goals simp (config := { maxSteps := 2000000 }) (disch := (first | omega | (simp only [lens, lenm]; omega))) only [go_sem, ↓reduceIte, Nat.reduceAdd, Nat.reduceEqDiff, Nat.reduceSub, Nat.reduceMul, Nat.reduceLT, Nat.reduceLeDiff, Nat.reduceBEq, Int.reduceEq, Int.reduceLT, Int.reduceLE, Int.reduceToNat, Int.reduceNeg, Int.reduceAdd, Int.reduceSub, Int.reduceMul, Int.reduceMod, Int.reduceDiv, reduceCtorEq, Nat.reducePow, Int.reducePow, id, hN]
      omega
    · have e : k = (padL bs).length / 64 := by omega
      subst e
      have ht : List.take 5 (hN comp1 iv1 (padL bs) ((padL bs).length / 64)) = hN comp1 iv1 (padL bs) ((padL bs).length / 64) := List.take_of_length_le (by omega)
      simp (config := { maxSteps := 2000000 }) (disch := (first | omega | (simp only [lens, lenm]; omega))) only [go_sem, ↓reduceIte, Nat.reduceAdd, Nat.reduceEqDiff, Nat.reduceSub, Nat.reduceMul, Nat.reduceLT, Nat.reduceLeDiff, Nat.reduceBEq, Int.reduceEq, Int.reduceLT, Int.reduceLE, Int.reduceToNat, Int.reduceNeg, Int.reduceAdd, Int.reduceSub, Int.reduceMul, Int.reduceMod, Int.reduceDiv, reduceCtorEq, Nat.reducePow, Int.reducePow, ac_digest_Sum_L0, h3, spread_eq, hl, ht, sum1, sumL]
end Go.Eng
end
section
set_option maxRecDepth 20000
set_option maxHeartbeats 8000000
namespace Go.Eng
def szA (a : Nat) : Nat := if a = 0 then 20 else if a = 1 then 32 else 0
def sumA (a : Nat) (bs : List UInt8) : List UInt8 := if a = 0 then sum1 bs else if a = 1 then sum256 bs else []
theorem sumL_length {comp : List UInt32 → List UInt8 → List UInt32} {iv : List UInt32} {bs : List UInt8} {n : Nat} (hc : ∀ h b, h.length = n → (comp h b).length = n) (hi : iv.length = n) : (sumL comp iv bs).length = 4 * n := by
  have : ∀ k p, (hN comp iv p k).length = n := by
    intro k p
    induction k with
    | zero => exact hi
    | succ k ih => exact hc _ _ ih
  rw [sumL, spreadL_length, this]
theorem sum256_length {bs : List UInt8} : (sum256 bs).length = 32 := sumL_length (n := 8) (fun h b e => by rw [comp256_length, e]) rfl
theorem sum1_length {bs : List UInt8} : (sum1 bs).length = 20 := sumL_length (n := 5) (fun h b _ => rfl) rfl
theorem w_ref1_Same (tab : Tab) (gl : Gl) (a b : List UInt8) (ha : a.length < 1000000000) (hb : b.length < 1000000000) : ac_ref1_Same.wp tab gl (zipF 0 [.t (.sl (a.map byteT)), .t (.sl (b.map byteT))]) (zipF 0 []) (resW [(4, none)] 0 (fun r o => r = .t (.bool (decide (a = b))) ∧ o = [])) := by
  by_cases hl : a.length = b.length
  · simp (config := { maxSteps := 2000000 }) (disch := (first | omega | (simp only [lens, lenm]; omega))) only [go_sem, ↓reduceIte, Nat.reduceAdd, Nat.reduceEqDiff, Nat.reduceSub, Nat.reduceMul, Nat.reduceLT, Nat.reduceLeDiff, Nat.reduceBEq, Int.reduceEq, Int.reduceLT, Int.reduceLE, Int.reduceToNat, Int.reduceNeg, Int.reduceAdd, Int.reduceSub, Int.reduceMul, Int.reduceMod, Int.reduceDiv, reduceCtorEq, Nat.reducePow, Int.reducePow, ac_ref1_Same]
    refine loop_uptoP a.length (fun i => a.take i = b.take i) (fun k => [(5, .t (.int .i64 k)), (0, .t (.sl (a.map byteT))), (1, .t (.sl (b.map byteT)))]) (fun _ => []) rfl ?_ (fun k hk hP => ?_)
    · refine Weak.rd id ?_ ?_ rfl
      all_goals simp (config := { maxSteps := 2000000 }) (disch := (first | omega | (simp only [lens, lenm]; omega))) only [go_sem, ↓reduceIte, Nat.reduceAdd, Nat.reduceEqDiff, Nat.reduceSub, Nat.reduceMul, Nat.reduceLT, Nat.reduceLeDiff, Nat.reduceBEq, Int.reduceEq, Int.reduceLT, Int.reduceLE, Int.reduceToNat, Int.reduceNeg, Int.reduceAdd, Int.reduceSub, Int.reduceMul, Int.reduceMod, Int.reduceDiv, reduceCtorEq, Nat.reducePow, Int.reducePow, id]
    · by_cases hlt : k < a.length
      · by_cases he : a.getD k 0 = b.getD k 0
        · simp (config := { maxSteps := 2000000 }) (disch := (first | omega | (simp only [lens, lenm]; omega))) only [go_sem, ↓reduceIte, Nat.reduceAdd, Nat.reduceEqDiff, Nat.reduceSub, Nat.reduceMul, Nat.reduceLT, Nat.reduceLeDiff, Nat.reduceBEq, Int.reduceEq, Int.reduceLT, Int.reduceLE, Int.reduceToNat, Int.reduceNeg, Int.reduceAdd, Int.reduceSub, Int.reduceMul, Int.reduceMod, Int.reduceDiv, reduceCtorEq, Nat.reducePow, Int.reducePow, ac_ref1_Same_L0, he]
          refine ⟨rfl, hlt, ?_, Weak.rd id ?_ ?_ rfl⟩
          · rw [take_s (d := 0) hlt, take_s (d := 0) (by omega), hP, he]
          all_goals simp (config := { maxSteps := 2000000 }) (disch := (first | omega | (simp only [lens, lenm]; omega))) only [go_sem, ↓reduceIte, Nat.reduceAdd, Nat.reduceEqDiff, Nat.reduceSub, Nat.reduceMul, Nat.reduceLT, Nat.reduceLeDiff, Nat.reduceBEq, Int.reduceEq, Int.reduceLT, Int.reduceLE, Int.reduceToNat, Int.reduceNeg, Int.reduceAdd, Int.reduceSub, Int.reduceMul, Int.reduceMod, Int.reduceDiv, reduceCtorEq, Nat.reducePow, Int.reducePow, id]
        · have hne : ¬ a = b := fun h => he (by rw [h])
          simp (config := { maxSteps := 2000000 }) (disch := (first | omega | (simp only [lens, lenm]; omega))) only [go_sem, ↓reduceIte, Nat.reduceAdd, Nat.reduceEqDiff, Nat.reduceSub, Nat.reduceMul, Nat.reduceLT, Nat.reduceLeDiff, Nat.reduceBEq, Int.reduceEq, Int.reduceLT, Int.reduceLE, Int.reduceToNat, Int.reduceNeg, Int.reduceAdd, Int.reduceSub, Int.reduceMul, Int.reduceMod, Int.reduceDiv, reduceCtorEq, Nat.reducePow, Int.reducePow, ac_ref1_Same_L0, he, hne]
          rfl
      · have e : k = a.length := by omega
        subst e
        rw [List.take_length, hl, List.take_length] at hP
        simp (config := { maxSteps := 2000000 }) (disch := (first | omega | (simp only [lens, lenm]; omega))) only [go_sem, ↓reduceIte, Nat.reduceAdd, Nat.reduceEqDiff, Nat.reduceSub, Nat.reduceMul, Nat.reduceLT, Nat.reduceLeDiff, Nat.reduceBEq, Int.reduceEq, Int.reduceLT, Int.reduceLE, Int.reduceToNat, Int.reduceNeg, Int.reduceAdd, Int.reduceSub, Int.reduceMul, Int.reduceMod, Int.reduceDiv, reduceCtorEq, Nat.reducePow, Int.reducePow, ac_ref1_Same_L0, hP]
  · have hne : ¬ a = b := fun h => hl (by rw [h])
    simp (config := { maxSteps := 2000000 }) (disch := (first | omega | (simp only [lens, lenm]; omega))) only [go_sem, ↓reduceIte, Nat.reduceAdd, Nat.reduceEqDiff, Nat.reduceSub, Nat.reduceMul, Nat.reduceLT, Nat.reduceLeDiff, Nat.reduceBEq, Int.reduceEq, Int.reduceLT, Int.reduceLE, Int.reduceToNat, Int.reduceNeg, Int.reduceAdd, Int.reduceSub, Int.reduceMul, Int.reduceMod, Int.reduceDiv, reduceCtorEq, Nat.reducePow, Int.reducePow, ac_ref1_Same, hne]
end Go.Eng
end
section
set_option maxRecDepth 20000
set_option maxHeartbeats 8000000
namespace Go.Eng
def ct_same : Ct where
  α := List UInt8 × List UInt8
  as x := [.t (.sl (x.1.map byteT)), .t (.sl (x.2.map byteT))]
  ins _ := []
  pre x := x.1.length < 1000000000 ∧ x.2.length < 1000000000
  r x := .t (.bool (decide (x.1 = x.2)))
  outs _ := []
  inj := by
    rintro ⟨a, b⟩ ⟨c, d⟩ h _
    simp [mapB_inj] at h
    obtain ⟨rfl, rfl⟩ := h
    exact ⟨rfl, rfl⟩
theorem same_eq {a b : List UInt8} (h : a.length < 1000000000 ∧ b.length < 1000000000) : ct_same.fs [.t (.sl (a.map byteT)), .t (.sl (b.map byteT))] [] = some (.t (.bool (decide (a = b))), []) := ct_same.eq (a, b) h
def modL (l : List (List UInt8)) : Prop := l.length < 1000000000 ∧ ∀ x ∈ l, x.length < 1000000000
theorem modL_get {l : List (List UInt8)} (h : modL l) (i : Nat) : (l.getD i []).length < 1000000000 := by
  by_cases hi : i < l.length
  · have : l.getD i [] = l[i] := by simp [List.getD, hi]
    rw [this]; exact h.2 _ (List.getElem_mem hi)
  · simp [List.getD, List.getElem?_eq_none (Nat.le_of_not_lt hi)]
theorem w_ref1_Lists (tab : Tab) (gl : Gl) (n1 : Nat) (h1 : tab.look n1 = some ct_same.fs) (a b : List (List UInt8)) (ha : modL a) (hb : modL b) : (ac_ref1_Lists n1).wp tab gl (zipF 0 [.t (.sl (a.map bsT)), .t (.sl (b.map bsT))]) (zipF 0 []) (resW [(4, none)] 0 (fun r o => r = .t (.bool (decide (a = b))) ∧ o = [])) := by
  have hal := ha.1
  have hbl := hb.1
  by_cases hl : a.length = b.length
  · simp (config := { maxSteps := 2000000 }) (disch := (first | omega | (simp only [lens, lenm]; omega))) only [go_sem, ↓reduceIte, Nat.reduceAdd, Nat.reduceEqDiff, Nat.reduceSub, Nat.reduceMul, Nat.reduceLT, Nat.reduceLeDiff, Nat.reduceBEq, Int.reduceEq, Int.reduceLT, Int.reduceLE, Int.reduceToNat, Int.reduceNeg, Int.reduceAdd, Int.reduceSub, Int.reduceMul, Int.reduceMod, Int.reduceDiv, reduceCtorEq, Nat.reducePow, Int.reducePow, ac_ref1_Lists]
    refine loop_uptoP a.length (fun i => a.take i = b.take i) (fun k => [(5, .t (.int .i64 k)), (0, .t (.sl (a.map bsT))), (1, .t (.sl (b.map bsT)))]) (fun _ => []) rfl ?_ (fun k hk hP => ?_)
    · refine Weak.rd id ?_ ?_ rfl
      all_goals simp (config := { maxSteps := 2000000 }) (disch := (first | omega | (simp only [lens, lenm]; omega))) only [go_sem, ↓reduceIte, Nat.reduceAdd, Nat.reduceEqDiff, Nat.reduceSub, Nat.reduceMul, Nat.reduceLT, Nat.reduceLeDiff, Nat.reduceBEq, Int.reduceEq, Int.reduceLT, Int.reduceLE, Int.reduceToNat, Int.reduceNeg, Int.reduceAdd, Int.reduceSub, Int.reduceMul, Int.reduceMod, Int.reduceDiv, reduceCtorEq, Nat.reducePow, Int.reducePow, id]
    · have m1 := modL_get ha k
      have m2 := modL_get hb k
      by_cases hlt : k < a.length
      · by_cases he : a.getD k [] = b.getD k []
        · simp (config := { maxSteps := 2000000 }) (disch := (first | omega | (simp only [lens, lenm]; omega))) only [go_sem, ↓reduceIte, Nat.reduceAdd, Nat.reduceEqDiff, Nat.reduceSub, Nat.reduceMul, Nat.reduceLT, Nat.reduceLeDiff, Nat.reduceBEq, Int.reduceEq, Int.reduceLT, Int.reduceLE, Int.reduceToNat, Int.reduceNeg, Int.reduceAdd, Int.reduceSub, Int.reduceMul, Int.reduceMod, Int.reduceDiv, reduceCtorEq, Nat.reducePow, Int.reducePow, ac_ref1_Lists_L0, h1, same_eq, he]
          refine ⟨rfl, hlt, ?_, Weak.rd id ?_ ?_ rfl⟩
          · rw [take_s (d := []) hlt, take_s (d := []) (by omega), hP, he]
          all_goals simp (config := { maxSteps := 2000000 }) (disch := (first | omega | (simp only [lens, lenm]; omega))) only [go_sem, ↓reduceIte, Nat.reduceAdd, Nat.reduceEqDiff, Nat.reduceSub, Nat.reduceMul, Nat.reduceLT, Nat.reduceLeDiff, Nat.reduceBEq, Int.reduceEq, Int.reduceLT, Int.reduceLE, Int.reduceToNat, Int.reduceNeg, Int.reduceAdd, Int.reduceSub, Int.reduceMul, Int.reduceMod, Int.reduceDiv, reduceCtorEq, Nat.reducePow, Int.reducePow, id]
        · have hne : ¬ a = b := fun h => he (by rw [h])
          simp (config := { maxSteps := 2000000 }) (disch := (first | omega | (simp only [lens, lenm]; omega))) only [go_sem, ↓reduceIte, Nat.reduceAdd, Nat.reduceEqDiff, Nat.reduceSub, Nat.reduceMul, Nat.reduceLT, Nat.reduceLeDiff, Nat.reduceBEq, Int.reduceEq, Int.reduceLT, Int.reduceLE, Int.reduceToNat, Int.reduceNeg, Int.reduceAdd, Int.reduceSub, Int.reduceMul, Int.reduceMod, Int.reduceDiv, reduceCtorEq, Nat.reducePow, Int.reducePow, ac_ref1_Lists_L0, h1, same_eq, he, hne]
          rfl
      · have e : k = a.length := by omega
        subst e
        rw [List.take_length, hl, List.take_length] at hP
        simp (config := { maxSteps := 2000000 }) (disch := (first | omega | (simp only [lens, lenm]; omega))) only [go_sem, ↓reduceIte, Nat.reduceAdd, Nat.reduceEqDiff, Nat.reduceSub, Nat.reduceMul, Nat.reduceLT, Nat.reduceLeDiff, Nat.reduceBEq, Int.reduceEq, Int.reduceLT, Int.reduceLE, Int.reduceToNat, Int.reduceNeg, Int.reduceAdd, Int.reduceSub, Int.reduceMul, Int.reduceMod, Int.reduceDiv, reduceCtorEq, Nat.reducePow, Int.reducePow, ac_ref1_Lists_L0, hP]
  · have hne : ¬ a = b := fun h => hl (by rw [h])
    simp (config := { maxSteps := 2000000 }) (disch := (first | omega | (simp only [lens, lenm]; omega))) only [go_sem, ↓reduceIte, Nat.reduceAdd, Nat.reduceEqDiff, Nat.reduceSub, Nat.reduceMul, Nat.reduceLT, Nat.reduceLeDiff, Nat.reduceBEq, Int.reduceEq, Int.reduceLT, Int.reduceLE, Int.reduceToNat, Int.reduceNeg, Int.reduceAdd, Int.reduceSub, Int.reduceMul, Int.reduceMod, Int.reduceDiv, reduceCtorEq, Nat.reducePow, Int.reducePow, ac_ref1_Lists, hne]
def ct_sumA : Ct where
  α := Nat × List UInt8
  as x := [.t (.int .i64 x.1), .t (.sl (x.2.map byteT))]
  ins _ := []
  pre x := x.1 < 2 ∧ x.2.length < 1000000000
  r x := .sl 0 0 (szA x.1)
  outs x := [.live 1 (((sumA x.1 x.2).map byteT).map V.t) true false]
  inj := by
    rintro ⟨a, b⟩ ⟨c, d⟩ h _
    simp [mapB_inj, Int.natCast_inj] at h
    obtain ⟨rfl, rfl⟩ := h
    exact ⟨rfl, rfl⟩
theorem sumA_eq0 {bs : List UInt8} (h : bs.length < 1000000000) : ct_sumA.fs [.t (.int .i64 0), .t (.sl (bs.map byteT))] [] = some (.sl 0 0 20, [.live 1 (((sum1 bs).map byteT).map V.t) true false]) := ct_sumA.eq (0, bs) ⟨by simp, h⟩
theorem sumA_eq1 {bs : List UInt8} (h : bs.length < 1000000000) : ct_sumA.fs [.t (.int .i64 1), .t (.sl (bs.map byteT))] [] = some (.sl 0 0 32, [.live 1 (((sum256 bs).map byteT).map V.t) true false]) := ct_sumA.eq (1, bs) ⟨by simp, h⟩
theorem w_digest_Sum (tab : Tab) (gl : Gl) (n1 n2 n3 n4 : Nat) (h1 : tab.look n1 = some ct_pad.fs) (h2 : tab.look n2 = some (ct_comp 5 comp1).fs) (h3 : tab.look n3 = some ct_spread.fs) (h4 : tab.look n4 = some (ct_comp 8 comp256).fs) (a : Nat) (ha : a < 2) (bs : List UInt8) (hb : bs.length < 1000000000) :
    (ac_digest_Sum n1 n2 n3 n4).wp tab gl (zipF 0 [.t (.int .i64 a), .t (.sl (bs.map byteT))]) (zipF 0 []) (resF [] [(4, none)] 0 (fun r o => r = .sl 0 0 (szA a) ∧ o = [.live 1 (((sumA a bs).map byteT).map V.t) true false])) := by
  rcases (show a = 0 ∨ a = 1 by omega) with rfl | rfl
  · exact w_digest_Sum_1 tab gl n1 n2 n3 n4 h1 h3 h2 bs hb
  · exact w_digest_Sum_256 tab gl n1 n2 n3 n4 h1 h3 h4 bs hb
end Go.Eng
end
section
namespace Go.Eng
def ac_bytes_Repeat_L0 : AC :=
 (.seq
 (.seq
 (.reg 77824 none [
 ⟨some 61, (.op .mov), [.tmp 10], none⟩,
 ⟨some 62, (.op .mov), [.tmp 7], none⟩,
 ⟨some 63, (.op (.bin .lss)), [.tmp 61, .tmp 62], none⟩])
 (.cond (.tmp 63)
 .skip
 (.exit 0)))
 (.block 1
 (.seq
 (.reg 81920 none [
 ⟨some 64, (.op .mov), [.tmp 10], none⟩,
 ⟨some 65, (.op .mov), [.tmp 8], none⟩,
 ⟨some 66, (.op .min), [.tmp 64, .tmp 65], none⟩,
 ⟨some 11, (.op .mov), [.tmp 66], none⟩])
 (.reg 86016 (some [0, 0, 0, 6, 0, 0, 48, 126, 255, 511]) [
 ⟨some 67, (.op .mov), [.tmp 10], none⟩,
 ⟨some 68, (.op .mov), [.tmp 9], none⟩,
 ⟨some 69, (.op .mov), [.tmp 10], none⟩,
 ⟨some 70, (.op (.slice 1 true false false)), [.tmp 68, .tmp 69], none⟩,
 ⟨some 71, (.op .mov), [.tmp 9], none⟩,
 ⟨some 72, (.op .mov), [.tmp 11], none⟩,
 ⟨some 73, (.op (.slice 1 false true false)), [.tmp 71, .tmp 72], none⟩,
 ⟨some 74, (.op (.copy 1)), [.tmp 70, .tmp 73], none⟩,
 ⟨some 75, (.op (.bin .add)), [.tmp 67, .tmp 74], none⟩,
 ⟨some 10, (.op .mov), [.tmp 75], none⟩]))))
def ac_bytes_Repeat (n_bits_Mul n_bytealg_MakeNoZero : Nat) : AC :=
 (.seq
 (.reg 4096 none [
 ⟨some 4, (.op .mov), [.cst .nil], none⟩])
 (.seq
 (.seq
 (.reg 8192 none [
 ⟨some 12, (.op .mov), [.tmp 1], none⟩,
 ⟨some 13, (.op (.bin .eql)), [.tmp 12, .cst (.t (.int .i64 0))], none⟩])
 (.cond (.tmp 13)
 (.seq
 (.reg 12288 none [
 ⟨some 14, (.op (.bslice 1 0 (.t (byteT 0)) [])), [], none⟩,
 ⟨some 4, (.op .mov), [.tmp 14], none⟩])
 .ret)
 .skip))
 (.seq
 (.seq
 (.reg 16384 none [
 ⟨some 15, (.op .mov), [.tmp 1], none⟩,
 ⟨some 16, (.op (.bin .lss)), [.tmp 15, .cst (.t (.int .i64 0))], none⟩])
 (.cond (.tmp 16)
 (.reg 20480 none [
 ⟨some 17, (.op .bad), [], none⟩,
 ⟨none, (.op .bad), [], none⟩])
 .skip))
 (.seq
 (.reg 24576 none [
 ⟨some 19, (.op .mov), [.tmp 0], none⟩,
 ⟨some 20, (.op .len), [.tmp 19], none⟩,
 ⟨some 21, (.op (.conv .u64)), [.tmp 20], none⟩,
 ⟨some 22, (.op .mov), [.tmp 1], none⟩,
 ⟨some 23, (.op (.conv .u64)), [.tmp 22], none⟩,
 ⟨some 24, (.call n_bits_Mul false), [.tmp 21, .tmp 23], none⟩,
 ⟨some 18, (.op .mov), [.tmp 24], none⟩,
 ⟨some 25, (.op (.extract 0)), [.tmp 18], none⟩,
 ⟨some 26, (.op (.extract 1)), [.tmp 18], none⟩,
 ⟨some 5, (.op .mov), [.tmp 25], none⟩,
 ⟨some 6, (.op .mov), [.tmp 26], none⟩])
 (.seq
 (.seq
 (.reg 28672 none [
 ⟨some 27, (.op .mov), [.tmp 5], none⟩,
 ⟨some 28, (.op (.bin .gtr)), [.tmp 27, .cst (.t (.int .u64 0))], none⟩,
 ⟨some 29, (.op .mov), [.tmp 28], none⟩,
 ⟨some 30, (.op .mov), [.tmp 6], some (29, false)⟩,
 ⟨some 31, (.op (.bin .gtr)), [.tmp 30, .cst (.t (.int .u64 9223372036854775807))], some (29, false)⟩,
 ⟨some 32, (.op .pick), [.tmp 29, .cst (.t (.bool true)), .tmp 31], none⟩])
 (.cond (.tmp 32)
 (.reg 32768 none [
 ⟨some 33, (.op .bad), [], none⟩,
 ⟨none, (.op .bad), [], none⟩])
 .skip))
 (.seq
 (.reg 36864 none [
 ⟨some 34, (.op .mov), [.tmp 6], none⟩,
 ⟨some 35, (.op (.conv .i64)), [.tmp 34], none⟩,
 ⟨some 7, (.op .mov), [.tmp 35], none⟩])
 (.seq
 (.seq
 (.reg 40960 none [
 ⟨some 36, (.op .mov), [.tmp 0], none⟩,
 ⟨some 37, (.op .len), [.tmp 36], none⟩,
 ⟨some 38, (.op (.bin .eql)), [.tmp 37, .cst (.t (.int .i64 0))], none⟩])
 (.cond (.tmp 38)
 (.seq
 (.reg 45056 none [
 ⟨some 39, (.op (.bslice 1 0 (.t (byteT 0)) [])), [], none⟩,
 ⟨some 4, (.op .mov), [.tmp 39], none⟩])
 .ret)
 .skip))
 (.seq
 (.reg 49152 none [
 ⟨some 40, (.op .mov), [.tmp 7], none⟩,
 ⟨some 8, (.op .mov), [.tmp 40], none⟩])
 (.seq
 (.seq
 (.reg 53248 none [
 ⟨some 41, (.op .mov), [.tmp 8], none⟩,
 ⟨some 42, (.op (.bin .gtr)), [.tmp 41, .cst (.t (.int .i64 8192))], none⟩])
 (.cond (.tmp 42)
 (.seq
 (.reg 57344 none [
 ⟨some 43, (.op .mov), [.tmp 0], none⟩,
 ⟨some 44, (.op .len), [.tmp 43], none⟩,
 ⟨some 45, (.op (.bin .quo)), [.cst (.t (.int .i64 8192)), .tmp 44], none⟩,
 ⟨some 46, (.op .mov), [.tmp 0], none⟩,
 ⟨some 47, (.op .len), [.tmp 46], none⟩,
 ⟨some 48, (.op (.bin .mul)), [.tmp 45, .tmp 47], none⟩,
 ⟨some 8, (.op .mov), [.tmp 48], none⟩])
 (.seq
 (.reg 61440 none [
 ⟨some 49, (.op .mov), [.tmp 8], none⟩,
 ⟨some 50, (.op (.bin .eql)), [.tmp 49, .cst (.t (.int .i64 0))], none⟩])
 (.cond (.tmp 50)
 (.reg 65536 none [
 ⟨some 51, (.op .mov), [.tmp 0], none⟩,
 ⟨some 52, (.op .len), [.tmp 51], none⟩,
 ⟨some 8, (.op .mov), [.tmp 52], none⟩])
 .skip)))
 .skip))
 (.seq
 (.reg 69632 none [
 ⟨some 53, (.op .mov), [.tmp 7], none⟩,
 ⟨some 54, (.call n_bytealg_MakeNoZero false), [.tmp 53], none⟩,
 ⟨some 55, (.op .mov), [.tmp 7], none⟩,
 ⟨some 56, (.op .mov), [.tmp 7], none⟩,
 ⟨some 57, (.op (.slice 1 false true true)), [.tmp 54, .tmp 55, .tmp 56], none⟩,
 ⟨some 9, (.op .mov), [.tmp 57], none⟩])
 (.seq
 (.reg 73728 none [
 ⟨some 58, (.op .mov), [.tmp 9], none⟩,
 ⟨some 59, (.op .mov), [.tmp 0], none⟩,
 ⟨some 60, (.op (.copy 1)), [.tmp 58, .tmp 59], none⟩,
 ⟨some 10, (.op .mov), [.tmp 60], none⟩])
 (.seq
 (.block 0
 (.loop ac_bytes_Repeat_L0))
 (.seq
 (.reg 90112 none [
 ⟨some 76, (.op .mov), [.tmp 9], none⟩,
 ⟨some 4, (.op .mov), [.tmp 76], none⟩])
 .ret)))))))))))))
def hints_bytes_Repeat : List (Nat × List Nat) := []
def ac_bits_Mul (n_bits_Mul32 n_bits_Mul64 : Nat) : AC :=
 (.seq
 (.reg 4096 none [
 ⟨some 4, (.op .mov), [.cst (.t (.int .u64 0))], none⟩,
 ⟨some 5, (.op .mov), [.cst (.t (.int .u64 0))], none⟩])
 (.seq
 (.cond (.cst (.t (.bool false)))
 (.seq
 (.reg 8192 none [
 ⟨some 11, (.op .mov), [.tmp 0], none⟩,
 ⟨some 12, (.op (.conv .u32)), [.tmp 11], none⟩,
 ⟨some 13, (.op .mov), [.tmp 1], none⟩,
 ⟨some 14, (.op (.conv .u32)), [.tmp 13], none⟩,
 ⟨some 15, (.call n_bits_Mul32 false), [.tmp 12, .tmp 14], none⟩,
 ⟨some 10, (.op .mov), [.tmp 15], none⟩,
 ⟨some 16, (.op (.extract 0)), [.tmp 10], none⟩,
 ⟨some 17, (.op (.extract 1)), [.tmp 10], none⟩,
 ⟨some 6, (.op .mov), [.tmp 16], none⟩,
 ⟨some 7, (.op .mov), [.tmp 17], none⟩])
 (.seq
 (.reg 12288 none [
 ⟨some 18, (.op .mov), [.tmp 6], none⟩,
 ⟨some 19, (.op (.conv .u64)), [.tmp 18], none⟩,
 ⟨some 20, (.op .mov), [.tmp 7], none⟩,
 ⟨some 21, (.op (.conv .u64)), [.tmp 20], none⟩,
 ⟨some 4, (.op .mov), [.tmp 19], none⟩,
 ⟨some 5, (.op .mov), [.tmp 21], none⟩])
 .ret))
 .skip)
 (.seq
 (.reg 16384 none [
 ⟨some 23, (.op .mov), [.tmp 0], none⟩,
 ⟨some 24, (.op .mov), [.tmp 1], none⟩,
 ⟨some 25, (.call n_bits_Mul64 false), [.tmp 23, .tmp 24], none⟩,
 ⟨some 22, (.op .mov), [.tmp 25], none⟩,
 ⟨some 26, (.op (.extract 0)), [.tmp 22], none⟩,
 ⟨some 27, (.op (.extract 1)), [.tmp 22], none⟩,
 ⟨some 8, (.op .mov), [.tmp 26], none⟩,
 ⟨some 9, (.op .mov), [.tmp 27], none⟩])
 (.seq
 (.reg 20480 none [
 ⟨some 28, (.op .mov), [.tmp 8], none⟩,
 ⟨some 29, (.op .mov), [.tmp 9], none⟩,
 ⟨some 4, (.op .mov), [.tmp 28], none⟩,
 ⟨some 5, (.op .mov), [.tmp 29], none⟩])
 .ret))))
def hints_bits_Mul : List (Nat × List Nat) := []
def ac_bits_Mul64 : AC :=
 (.seq
 (.reg 4096 none [
 ⟨some 4, (.op .mov), [.cst (.t (.int .u64 0))], none⟩,
 ⟨some 5, (.op .mov), [.cst (.t (.int .u64 0))], none⟩])
 (.seq
 (.reg 8192 none [
 ⟨some 14, (.op .mov), [.tmp 0], none⟩,
 ⟨some 15, (.op (.bin .and)), [.tmp 14, .cst (.t (.int .u64 4294967295))], none⟩,
 ⟨some 6, (.op .mov), [.tmp 15], none⟩])
 (.seq
 (.reg 12288 none [
 ⟨some 16, (.op .mov), [.tmp 0], none⟩,
 ⟨some 17, (.op (.bin .shr)), [.tmp 16, .cst (.t (.int .u64 32))], none⟩,
 ⟨some 7, (.op .mov), [.tmp 17], none⟩])
 (.seq
 (.reg 16384 none [
 ⟨some 18, (.op .mov), [.tmp 1], none⟩,
 ⟨some 19, (.op (.bin .and)), [.tmp 18, .cst (.t (.int .u64 4294967295))], none⟩,
 ⟨some 8, (.op .mov), [.tmp 19], none⟩])
 (.seq
 (.reg 20480 none [
 ⟨some 20, (.op .mov), [.tmp 1], none⟩,
 ⟨some 21, (.op (.bin .shr)), [.tmp 20, .cst (.t (.int .u64 32))], none⟩,
 ⟨some 9, (.op .mov), [.tmp 21], none⟩])
 (.seq
 (.reg 24576 none [
 ⟨some 22, (.op .mov), [.tmp 6], none⟩,
 ⟨some 23, (.op .mov), [.tmp 8], none⟩,
 ⟨some 24, (.op (.bin .mul)), [.tmp 22, .tmp 23], none⟩,
 ⟨some 10, (.op .mov), [.tmp 24], none⟩])
 (.seq
 (.reg 28672 none [
 ⟨some 25, (.op .mov), [.tmp 7], none⟩,
 ⟨some 26, (.op .mov), [.tmp 8], none⟩,
 ⟨some 27, (.op (.bin .mul)), [.tmp 25, .tmp 26], none⟩,
 ⟨some 28, (.op .mov), [.tmp 10], none⟩,
 ⟨some 29, (.op (.bin .shr)), [.tmp 28, .cst (.t (.int .u64 32))], none⟩,
 ⟨some 30, (.op (.bin .add)), [.tmp 27, .tmp 29], none⟩,
 ⟨some 11, (.op .mov), [.tmp 30], none⟩])
 (.seq
 (.reg 32768 none [
 ⟨some 31, (.op .mov), [.tmp 11], none⟩,
 ⟨some 32, (.op (.bin .and)), [.tmp 31, .cst (.t (.int .u64 4294967295))], none⟩,
 ⟨some 12, (.op .mov), [.tmp 32], none⟩])
 (.seq
 (.reg 36864 none [
 ⟨some 33, (.op .mov), [.tmp 11], none⟩,
 ⟨some 34, (.op (.bin .shr)), [.tmp 33, .cst (.t (.int .u64 32))], none⟩,
 ⟨some 13, (.op .mov), [.tmp 34], none⟩])
 (.seq
 (.reg 40960 none [
 ⟨some 35, (.op .mov), [.tmp 12], none⟩,
 ⟨some 36, (.op .mov), [.tmp 6], none⟩,
 ⟨some 37, (.op .mov), [.tmp 9], none⟩,
 ⟨some 38, (.op (.bin .mul)), [.tmp 36, .tmp 37], none⟩,
 ⟨some 39, (.op (.bin .add)), [.tmp 35, .tmp 38], none⟩,
 ⟨some 12, (.op .mov), [.tmp 39], none⟩])
 (.seq
 (.reg 45056 none [
 ⟨some 40, (.op .mov), [.tmp 7], none⟩,
 ⟨some 41, (.op .mov), [.tmp 9], none⟩,
 ⟨some 42, (.op (.bin .mul)), [.tmp 40, .tmp 41], none⟩,
 ⟨some 43, (.op .mov), [.tmp 13], none⟩,
 ⟨some 44, (.op (.bin .add)), [.tmp 42, .tmp 43], none⟩,
 ⟨some 45, (.op .mov), [.tmp 12], none⟩,
 ⟨some 46, (.op (.bin .shr)), [.tmp 45, .cst (.t (.int .u64 32))], none⟩,
 ⟨some 47, (.op (.bin .add)), [.tmp 44, .tmp 46], none⟩,
 ⟨some 4, (.op .mov), [.tmp 47], none⟩])
 (.seq
 (.reg 49152 none [
 ⟨some 48, (.op .mov), [.tmp 0], none⟩,
 ⟨some 49, (.op .mov), [.tmp 1], none⟩,
 ⟨some 50, (.op (.bin .mul)), [.tmp 48, .tmp 49], none⟩,
 ⟨some 5, (.op .mov), [.tmp 50], none⟩])
 .ret))))))))))))
def hints_bits_Mul64 : List (Nat × List Nat) := []
end Go.Eng
end
section
namespace Go.Eng
def ac_registers_active_L0 : AC :=
 (.seq
 (.reg 16384 none [
 ⟨some 9, (.op (.bin .lss)), [.tmp 8, .tmp 7], none⟩])
 (.seq
 (.cond (.tmp 9)
 .skip
 (.exit 0))
 (.seq
 (.block 1
 (.seq
 (.reg 20480 none [
 ⟨some 10, (.op .mov), [.tmp 8], none⟩,
 ⟨some 4, (.op .mov), [.tmp 10], none⟩])
 (.seq
 (.reg 24576 none [
 ⟨some 11, (.op .mov), [.tmp 4], none⟩,
 ⟨some 12, (.op (.bin .lss)), [.tmp 11, .cst (.t (.int .i64 2))], none⟩,
 ⟨some 13, (.op .mov), [.tmp 12], none⟩,
 ⟨some 14, (.op (.faddr 0)), [.tmp 1], some (13, true)⟩,
 ⟨some 15, (.op (.load 1 false)), [.tmp 14], some (13, true)⟩,
 ⟨some 16, (.op .mov), [.tmp 4], some (13, true)⟩,
 ⟨some 17, (.op (.iaddr 1)), [.tmp 15, .tmp 16], some (13, true)⟩,
 ⟨some 18, (.op (.load 1 false)), [.tmp 17], some (13, true)⟩,
 ⟨some 19, (.op .len), [.tmp 18], some (13, true)⟩,
 ⟨some 20, (.op (.bin .eql)), [.tmp 19, .cst (.t (.int .i64 16))], some (13, true)⟩,
 ⟨some 21, (.op .pick), [.tmp 13, .tmp 20, .cst (.t (.bool false))], none⟩])
 (.cond (.tmp 21)
 (.reg 28672 none [
 ⟨some 22, (.op .mov), [.tmp 3], none⟩,
 ⟨some 23, (.op .mov), [.tmp 4], none⟩,
 ⟨some 24, (.op (.conv .u64)), [.tmp 23], none⟩,
 ⟨some 25, (.op (.bin .shl)), [.cst (.t (.int .i64 1)), .tmp 24], none⟩,
 ⟨some 26, (.op (.bin .or)), [.tmp 22, .tmp 25], none⟩,
 ⟨some 3, (.op .mov), [.tmp 26], none⟩])
 .skip))))
 (.reg 32768 none [
 ⟨some 27, (.op (.bin .add)), [.tmp 8, .cst (.t (.int .i64 1))], none⟩,
 ⟨some 8, (.op .mov), [.tmp 27], none⟩]))))
def ac_registers_active : AC :=
 (.seq
 (.reg 4096 none [
 ⟨some 1, (.op .box), [.tmp 0], none⟩,
 ⟨some 2, (.op .mov), [.cst (.t (.int .i64 0))], none⟩])
 (.seq
 (.reg 8192 none [
 ⟨some 3, (.op .mov), [.cst (.t (.int .i64 0))], none⟩])
 (.seq
 (.seq
 (.reg 12288 none [
 ⟨some 5, (.op (.faddr 0)), [.tmp 1], none⟩,
 ⟨some 6, (.op (.load 1 false)), [.tmp 5], none⟩,
 ⟨some 7, (.op .len), [.tmp 6], none⟩,
 ⟨some 8, (.op .mov), [.cst (.t (.int .i64 0))], none⟩])
 (.block 0
 (.loop ac_registers_active_L0)))
 (.seq
 (.reg 36864 none [
 ⟨some 28, (.op .mov), [.tmp 3], none⟩,
 ⟨some 2, (.op .mov), [.tmp 28], none⟩])
 .ret))))
def hints_registers_active : List (Nat × List Nat) := []
def ac_registers_on (n_registers_active : Nat) : AC :=
 (.seq
 (.reg 4096 none [
 ⟨some 2, (.op .box), [.tmp 0], none⟩,
 ⟨some 4, (.op .mov), [.cst (.t (.bool false))], none⟩])
 (.seq
 (.reg 8192 none [
 ⟨some 5, (.op (.load 2 true)), [.tmp 2], none⟩,
 ⟨some 6, (.call n_registers_active false), [.tmp 5], none⟩,
 ⟨some 7, (.op .mov), [.tmp 1], none⟩,
 ⟨some 8, (.op (.conv .u64)), [.tmp 7], none⟩,
 ⟨some 9, (.op (.bin .shr)), [.tmp 6, .tmp 8], none⟩,
 ⟨some 10, (.op (.bin .and)), [.tmp 9, .cst (.t (.int .i64 1))], none⟩,
 ⟨some 11, (.op (.bin .eql)), [.tmp 10, .cst (.t (.int .i64 1))], none⟩,
 ⟨some 4, (.op .mov), [.tmp 11], none⟩])
 .ret))
def hints_registers_on : List (Nat × List Nat) := []
def ac_registers_twin_L1 : AC :=
 (.seq
 (.reg 32768 none [
 ⟨some 22, (.op (.bin .lss)), [.tmp 21, .tmp 20], none⟩])
 (.seq
 (.cond (.tmp 22)
 .skip
 (.exit 2))
 (.seq
 (.block 3
 (.seq
 (.reg 36864 none [
 ⟨some 23, (.op (.iaddr 1)), [.tmp 19, .tmp 21], none⟩,
 ⟨some 24, (.op (.load 1 false)), [.tmp 23], none⟩,
 ⟨some 8, (.op .mov), [.tmp 24], none⟩])
 (.reg 40960 none [
 ⟨some 25, (.op .mov), [.tmp 6], none⟩,
 ⟨some 26, (.op .mov), [.tmp 8], none⟩,
 ⟨some 27, (.op (.append 1 1)), [.cst .nil, .tmp 26], none⟩,
 ⟨some 28, (.op (.bslice 1 1 .nil [0])), [.tmp 27], none⟩,
 ⟨some 29, (.op (.append 1 24)), [.tmp 25, .tmp 28], none⟩,
 ⟨some 6, (.op .mov), [.tmp 29], none⟩])))
 (.reg 45056 none [
 ⟨some 30, (.op (.bin .add)), [.tmp 21, .cst (.t (.int .i64 1))], none⟩,
 ⟨some 21, (.op .mov), [.tmp 30], none⟩]))))
def ac_registers_twin_L0 : AC :=
 (.seq
 (.reg 16384 none [
 ⟨some 16, (.op (.bin .lss)), [.tmp 15, .tmp 14], none⟩])
 (.seq
 (.cond (.tmp 16)
 .skip
 (.exit 0))
 (.seq
 (.block 1
 (.seq
 (.reg 20480 none [
 ⟨some 17, (.op (.iaddr 1)), [.tmp 13, .tmp 15], none⟩,
 ⟨some 18, (.op (.load 1 false)), [.tmp 17], none⟩,
 ⟨some 5, (.op .mov), [.tmp 18], none⟩])
 (.seq
 (.reg 24576 none [
 ⟨some 6, (.op .mov), [.cst .nil], none⟩])
 (.seq
 (.seq
 (.reg 28672 none [
 ⟨some 19, (.op .mov), [.tmp 5], none⟩,
 ⟨some 20, (.op .len), [.tmp 19], none⟩,
 ⟨some 21, (.op .mov), [.cst (.t (.int .i64 0))], none⟩])
 (.block 2
 (.loop ac_registers_twin_L1)))
 (.reg 49152 none [
 ⟨some 31, (.op (.faddr 0)), [.tmp 3], none⟩,
 ⟨some 32, (.op (.load 1 false)), [.tmp 31], none⟩,
 ⟨some 33, (.op .mov), [.tmp 6], none⟩,
 ⟨some 34, (.op (.bslice 1 1 .nil [0])), [.tmp 33], none⟩,
 ⟨some 35, (.op (.append 1 24)), [.tmp 32, .tmp 34], none⟩,
 ⟨some 36, (.op (.faddr 0)), [.tmp 3], none⟩,
 ⟨none, (.op (.store 1)), [.tmp 36, .tmp 35], none⟩])))))
 (.reg 53248 none [
 ⟨some 37, (.op (.bin .add)), [.tmp 15, .cst (.t (.int .i64 1))], none⟩,
 ⟨some 15, (.op .mov), [.tmp 37], none⟩]))))
def ac_registers_twin : AC :=
 (.seq
 (.reg 4096 none [
 ⟨some 1, (.op .box), [.tmp 0], none⟩,
 ⟨some 2, (.op (.new 2 [(.agg [.nil, (.t (.int .i64 0))])])), [], none⟩])
 (.seq
 (.reg 8192 none [
 ⟨some 9, (.op (.faddr 1)), [.tmp 1], none⟩,
 ⟨some 10, (.op (.load 1 false)), [.tmp 9], none⟩,
 ⟨some 11, (.op (.build [.nil, (.t (.int .i64 0))] [(1, 1)])), [.tmp 10], none⟩,
 ⟨some 3, (.op (.new 2 [(.agg [.nil, (.t (.int .i64 0))])])), [], none⟩,
 ⟨none, (.op (.store 2)), [.tmp 3, .tmp 11], none⟩])
 (.seq
 (.seq
 (.reg 12288 none [
 ⟨some 12, (.op (.faddr 0)), [.tmp 1], none⟩,
 ⟨some 13, (.op (.load 1 false)), [.tmp 12], none⟩,
 ⟨some 14, (.op .len), [.tmp 13], none⟩,
 ⟨some 15, (.op .mov), [.cst (.t (.int .i64 0))], none⟩])
 (.block 0
 (.loop ac_registers_twin_L0)))
 (.seq
 (.reg 57344 none [
 ⟨some 38, (.op (.load 2 true)), [.tmp 3], none⟩,
 ⟨none, (.op (.store 2)), [.tmp 2, .tmp 38], none⟩])
 .ret))))
def hints_registers_twin : List (Nat × List Nat) := []
def ac_registers_fill (n_bytes_Repeat : Nat) : AC :=
 (.seq
 (.reg 4096 none [
 ⟨some 4, (.op .mov), [.cst .nil], none⟩])
 (.seq
 (.reg 8192 none [
 ⟨some 5, (.op .mov), [.tmp 1], none⟩,
 ⟨some 6, (.op (.bslice 1 1 (.t (byteT 0)) [0])), [.tmp 5], none⟩,
 ⟨some 7, (.op .mov), [.tmp 0], none⟩,
 ⟨some 8, (.call n_bytes_Repeat false), [.tmp 6, .tmp 7], none⟩,
 ⟨some 4, (.op .mov), [.tmp 8], none⟩])
 .ret))
def hints_registers_fill : List (Nat × List Nat) := []
def ac_registers_index : AC :=
 (.seq
 (.reg 4096 none [
 ⟨some 2, (.op .mov), [.cst (.t (.bool false))], none⟩])
 (.seq
 (.reg 8192 none [
 ⟨some 3, (.op .mov), [.tmp 0], none⟩,
 ⟨some 4, (.op (.bin .geq)), [.tmp 3, .cst (.t (.int .i64 0))], none⟩,
 ⟨some 5, (.op .mov), [.tmp 4], none⟩,
 ⟨some 6, (.op .mov), [.tmp 0], some (5, true)⟩,
 ⟨some 7, (.op (.bin .lss)), [.tmp 6, .cst (.t (.int .i64 16))], some (5, true)⟩,
 ⟨some 8, (.op .pick), [.tmp 5, .tmp 7, .cst (.t (.bool false))], none⟩,
 ⟨some 2, (.op .mov), [.tmp 8], none⟩])
 .ret))
def hints_registers_index : List (Nat × List Nat) := []
def ac_registers_New_L1 (n_digest_Size n_registers_fill : Nat) : AC :=
 (.seq
 (.seq
 (.reg 40960 none [
 ⟨some 15, (.op .mov), [.tmp 6], none⟩,
 ⟨some 16, (.op (.bin .lss)), [.tmp 15, .cst (.t (.int .i64 16))], none⟩,
 ⟨some 17, (.op .mov), [.tmp 16], none⟩,
 ⟨some 18, (.op .mov), [.tmp 0], some (17, true)⟩,
 ⟨some 19, (.op .mov), [.tmp 4], some (17, true)⟩,
 ⟨some 20, (.op (.conv .u64)), [.tmp 19], some (17, true)⟩,
 ⟨some 21, (.op (.bin .shr)), [.tmp 18, .tmp 20], some (17, true)⟩,
 ⟨some 22, (.op (.bin .and)), [.tmp 21, .cst (.t (.int .i64 1))], some (17, true)⟩,
 ⟨some 23, (.op (.bin .eql)), [.tmp 22, .cst (.t (.int .i64 1))], some (17, true)⟩,
 ⟨some 24, (.op .pick), [.tmp 17, .tmp 23, .cst (.t (.bool false))], none⟩])
 (.cond (.tmp 24)
 .skip
 (.exit 2)))
 (.seq
 (.block 3
 (.seq
 (.reg 49152 none [
 ⟨some 7, (.op .mov), [.cst (.t (byteT 0))], none⟩])
 (.seq
 (.seq
 (.reg 53248 none [
 ⟨some 27, (.op .mov), [.tmp 6], none⟩,
 ⟨some 28, (.op (.bin .geq)), [.tmp 27, .cst (.t (.int .i64 12))], none⟩])
 (.cond (.tmp 28)
 (.reg 57344 none [
 ⟨some 7, (.op .mov), [.cst (.t (byteT 255))], none⟩])
 .skip))
 (.reg 61440 none [
 ⟨some 29, (.op .mov), [.tmp 5], none⟩,
 ⟨some 30, (.op .mov), [.tmp 4], none⟩,
 ⟨some 31, (.call n_digest_Size false), [.tmp 30], none⟩,
 ⟨some 32, (.op .mov), [.tmp 7], none⟩,
 ⟨some 33, (.call n_registers_fill false), [.tmp 31, .tmp 32], none⟩,
 ⟨some 34, (.op (.bslice 1 1 .nil [0])), [.tmp 33], none⟩,
 ⟨some 35, (.op (.append 1 24)), [.tmp 29, .tmp 34], none⟩,
 ⟨some 5, (.op .mov), [.tmp 35], none⟩]))))
 (.reg 45056 none [
 ⟨some 25, (.op .mov), [.tmp 6], none⟩,
 ⟨some 26, (.op (.bin .add)), [.tmp 25, .cst (.t (.int .i64 1))], none⟩,
 ⟨some 6, (.op .mov), [.tmp 26], none⟩])))
def ac_registers_New_L0 (n_digest_Size n_registers_fill : Nat) : AC :=
 (.seq
 (.reg 24576 none [
 ⟨some 13, (.op (.bin .lss)), [.tmp 12, .cst (.t (.int .i64 2))], none⟩])
 (.seq
 (.cond (.tmp 13)
 .skip
 (.exit 0))
 (.seq
 (.block 1
 (.seq
 (.reg 28672 none [
 ⟨some 14, (.op .mov), [.tmp 12], none⟩,
 ⟨some 4, (.op .mov), [.tmp 14], none⟩])
 (.seq
 (.reg 32768 none [
 ⟨some 5, (.op .mov), [.cst .nil], none⟩])
 (.seq
 (.seq
 (.reg 36864 none [
 ⟨some 6, (.op .mov), [.cst (.t (.int .i64 0))], none⟩])
 (.block 2
 (.loop (ac_registers_New_L1 n_digest_Size n_registers_fill))))
 (.reg 65536 none [
 ⟨some 36, (.op (.faddr 0)), [.tmp 3], none⟩,
 ⟨some 37, (.op (.load 1 false)), [.tmp 36], none⟩,
 ⟨some 38, (.op .mov), [.tmp 5], none⟩,
 ⟨some 39, (.op (.bslice 1 1 .nil [0])), [.tmp 38], none⟩,
 ⟨some 40, (.op (.append 1 24)), [.tmp 37, .tmp 39], none⟩,
 ⟨some 41, (.op (.faddr 0)), [.tmp 3], none⟩,
 ⟨none, (.op (.store 1)), [.tmp 41, .tmp 40], none⟩])))))
 (.reg 69632 none [
 ⟨some 42, (.op (.bin .add)), [.tmp 12, .cst (.t (.int .i64 1))], none⟩,
 ⟨some 12, (.op .mov), [.tmp 42], none⟩]))))
def ac_registers_New (n_digest_Size n_registers_fill : Nat) : AC :=
 (.seq
 (.reg 4096 none [
 ⟨some 2, (.op (.new 2 [(.agg [.nil, (.t (.int .i64 0))])])), [], none⟩])
 (.seq
 (.seq
 (.reg 8192 none [
 ⟨some 8, (.op .mov), [.tmp 0], none⟩,
 ⟨some 9, (.op (.bin .and)), [.tmp 8, .cst (.t (.int .i64 3))], none⟩,
 ⟨some 10, (.op (.bin .eql)), [.tmp 9, .cst (.t (.int .i64 0))], none⟩])
 (.cond (.tmp 10)
 (.seq
 (.reg 12288 none [
 ⟨some 11, (.op (.build [.nil, (.t (.int .i64 0))] [])), [], none⟩,
 ⟨none, (.op (.store 2)), [.tmp 2, .tmp 11], none⟩])
 .ret)
 .skip))
 (.seq
 (.reg 16384 none [
 ⟨some 3, (.op (.new 2 [(.agg [.nil, (.t (.int .i64 0))])])), [], none⟩])
 (.seq
 (.seq
 (.reg 20480 none [
 ⟨some 12, (.op .mov), [.cst (.t (.int .i64 0))], none⟩])
 (.block 0
 (.loop (ac_registers_New_L0 n_digest_Size n_registers_fill))))
 (.seq
 (.reg 73728 none [
 ⟨some 43, (.op (.load 2 true)), [.tmp 3], none⟩,
 ⟨none, (.op (.store 2)), [.tmp 2, .tmp 43], none⟩])
 .ret)))))
def hints_registers_New : List (Nat × List Nat) := []
def ac_registers_Value (n_registers_index n_registers_on : Nat) : AC :=
 (.seq
 (.reg 4096 none [
 ⟨some 3, (.op .box), [.tmp 0], none⟩,
 ⟨some 6, (.op .mov), [.cst .nil], none⟩,
 ⟨some 7, (.op .mov), [.cst (.t (.int .i64 0))], none⟩])
 (.seq
 (.seq
 (.reg 8192 none [
 ⟨some 8, (.op .mov), [.tmp 1], none⟩,
 ⟨some 9, (.op (.bin .lss)), [.tmp 8, .cst (.t (.int .i64 0))], none⟩,
 ⟨some 10, (.op .mov), [.tmp 9], none⟩,
 ⟨some 11, (.op .mov), [.tmp 1], some (10, false)⟩,
 ⟨some 12, (.op (.bin .geq)), [.tmp 11, .cst (.t (.int .i64 2))], some (10, false)⟩,
 ⟨some 13, (.op .pick), [.tmp 10, .cst (.t (.bool true)), .tmp 12], none⟩,
 ⟨some 14, (.op .mov), [.tmp 13], none⟩,
 ⟨some 15, (.op .mov), [.tmp 2], some (14, false)⟩,
 ⟨some 16, (.call n_registers_index false), [.tmp 15], some (14, false)⟩,
 ⟨some 17, (.op (.un .not)), [.tmp 16], some (14, false)⟩,
 ⟨some 18, (.op .pick), [.tmp 14, .cst (.t (.bool true)), .tmp 17], none⟩])
 (.cond (.tmp 18)
 (.seq
 (.reg 12288 none [
 ⟨some 6, (.op .mov), [.cst .nil], none⟩,
 ⟨some 7, (.op .mov), [.cst (.t (.int .i64 1))], none⟩])
 .ret)
 .skip))
 (.seq
 (.seq
 (.reg 16384 none [
 ⟨some 19, (.op (.load 2 true)), [.tmp 3], none⟩,
 ⟨some 20, (.op .mov), [.tmp 1], none⟩,
 ⟨some 21, (.call n_registers_on false), [.tmp 19, .tmp 20], none⟩,
 ⟨some 22, (.op (.un .not)), [.tmp 21], none⟩])
 (.cond (.tmp 22)
 (.seq
 (.reg 20480 none [
 ⟨some 6, (.op .mov), [.cst .nil], none⟩,
 ⟨some 7, (.op .mov), [.cst (.t (.int .i64 27))], none⟩])
 .ret)
 .skip))
 (.seq
 (.reg 24576 none [
 ⟨some 23, (.op (.faddr 0)), [.tmp 3], none⟩,
 ⟨some 24, (.op (.load 1 false)), [.tmp 23], none⟩,
 ⟨some 25, (.op .mov), [.tmp 1], none⟩,
 ⟨some 26, (.op (.iaddr 1)), [.tmp 24, .tmp 25], none⟩,
 ⟨some 27, (.op (.load 1 false)), [.tmp 26], none⟩,
 ⟨some 28, (.op .mov), [.tmp 2], none⟩,
 ⟨some 29, (.op (.iaddr 1)), [.tmp 27, .tmp 28], none⟩,
 ⟨some 30, (.op (.load 1 false)), [.tmp 29], none⟩,
 ⟨some 31, (.op (.append 1 1)), [.cst .nil, .tmp 30], none⟩,
 ⟨some 6, (.op .mov), [.tmp 31], none⟩,
 ⟨some 7, (.op .mov), [.cst (.t (.int .i64 0))], none⟩])
 .ret))))
def hints_registers_Value : List (Nat × List Nat) := []
def ac_registers_least : AC :=
 (.seq
 (.reg 4096 none [
 ⟨some 4, (.op .mov), [.cst (.t (.int .i64 0))], none⟩])
 (.seq
 (.block 0
 (.seq
 (.reg 8192 none [
 ⟨some 6, (.op .mov), [.tmp 1], none⟩,
 ⟨some 7, (.op .mov), [.tmp 6], none⟩,
 ⟨some 8, (.op .mov), [.tmp 0], some (7, true)⟩,
 ⟨some 9, (.op (.bin .lss)), [.tmp 8, .cst (.t (.int .i64 12))], some (7, true)⟩,
 ⟨some 10, (.op .pick), [.tmp 7, .tmp 9, .cst (.t (.bool false))], none⟩,
 ⟨some 5, (.op .mov), [.tmp 10], none⟩])
 (.cond (.tmp 5)
 (.seq
 (.reg 12288 none [
 ⟨some 4, (.op .mov), [.cst (.t (.int .i64 5))], none⟩])
 .ret)
 (.seq
 (.reg 16384 none [
 ⟨some 12, (.op .mov), [.tmp 0], none⟩,
 ⟨some 13, (.op (.bin .eql)), [.tmp 12, .cst (.t (.int .i64 14))], none⟩,
 ⟨some 11, (.op .mov), [.tmp 13], none⟩])
 (.cond (.tmp 11)
 (.seq
 (.seq
 (.reg 20480 none [
 ⟨some 14, (.op .mov), [.tmp 1], none⟩])
 (.cond (.tmp 14)
 (.seq
 (.reg 24576 none [
 ⟨some 4, (.op .mov), [.cst (.t (.int .i64 3))], none⟩])
 .ret)
 .skip))
 (.seq
 (.reg 28672 none [
 ⟨some 4, (.op .mov), [.cst (.t (.int .i64 2))], none⟩])
 .ret))
 (.seq
 (.reg 32768 none [
 ⟨some 16, (.op .mov), [.tmp 0], none⟩,
 ⟨some 17, (.op (.bin .eql)), [.tmp 16, .cst (.t (.int .i64 15))], none⟩,
 ⟨some 15, (.op .mov), [.tmp 17], none⟩])
 (.cond (.tmp 15)
 (.seq
 (.seq
 (.reg 36864 none [
 ⟨some 18, (.op .mov), [.tmp 1], none⟩])
 (.cond (.tmp 18)
 (.seq
 (.reg 40960 none [
 ⟨some 4, (.op .mov), [.cst (.t (.int .i64 4))], none⟩])
 .ret)
 .skip))
 (.seq
 (.reg 45056 none [
 ⟨some 4, (.op .mov), [.cst (.t (.int .i64 3))], none⟩])
 .ret))
 .skip)))))))
 (.seq
 (.reg 49152 none [
 ⟨some 4, (.op .mov), [.cst (.t (.int .i64 0))], none⟩])
 .ret)))
def hints_registers_least : List (Nat × List Nat) := []
def ac_registers_Extend_L0 (n_registers_on : Nat) : AC :=
 (.seq
 (.reg 28672 none [
 ⟨some 41, (.op (.bin .lss)), [.tmp 40, .tmp 39], none⟩])
 (.seq
 (.cond (.tmp 41)
 .skip
 (.exit 0))
 (.seq
 (.block 1
 (.seq
 (.reg 32768 none [
 ⟨some 42, (.op .mov), [.tmp 40], none⟩,
 ⟨some 43, (.op (.iaddr 1)), [.tmp 38, .tmp 40], none⟩,
 ⟨some 44, (.op (.load 1 false)), [.tmp 43], none⟩,
 ⟨some 10, (.op .mov), [.tmp 42], none⟩,
 ⟨some 11, (.op .mov), [.tmp 44], none⟩])
 (.seq
 (.reg 36864 none [
 ⟨some 45, (.op (.load 2 true)), [.tmp 4], none⟩,
 ⟨some 46, (.op .mov), [.tmp 10], none⟩,
 ⟨some 47, (.call n_registers_on false), [.tmp 45, .tmp 46], none⟩,
 ⟨some 48, (.op (.un .not)), [.tmp 47], none⟩,
 ⟨some 49, (.op .mov), [.tmp 48], none⟩,
 ⟨some 50, (.op .mov), [.tmp 11], some (49, true)⟩,
 ⟨some 51, (.op .len), [.tmp 50], some (49, true)⟩,
 ⟨some 52, (.op (.bin .gtr)), [.tmp 51, .cst (.t (.int .i64 0))], some (49, true)⟩,
 ⟨some 53, (.op .pick), [.tmp 49, .tmp 52, .cst (.t (.bool false))], none⟩])
 (.cond (.tmp 53)
 (.seq
 (.reg 40960 none [
 ⟨some 54, (.op (.build [.nil, (.t (.int .i64 0))] [])), [], none⟩,
 ⟨none, (.op (.store 2)), [.tmp 8, .tmp 54], none⟩,
 ⟨some 9, (.op .mov), [.cst (.t (.int .i64 27))], none⟩])
 .ret)
 .skip))))
 (.reg 45056 none [
 ⟨some 55, (.op (.bin .add)), [.tmp 40, .cst (.t (.int .i64 1))], none⟩,
 ⟨some 40, (.op .mov), [.tmp 55], none⟩]))))
def ac_registers_Extend_L1 (n_registers_on n_digest_Size : Nat) : AC :=
 (.seq
 (.reg 53248 none [
 ⟨some 59, (.op (.bin .lss)), [.tmp 58, .tmp 57], none⟩])
 (.seq
 (.cond (.tmp 59)
 .skip
 (.exit 2))
 (.seq
 (.block 3
 (.seq
 (.reg 57344 none [
 ⟨some 60, (.op .mov), [.tmp 58], none⟩,
 ⟨some 61, (.op (.iaddr 1)), [.tmp 56, .tmp 58], none⟩,
 ⟨some 62, (.op (.load 1 false)), [.tmp 61], none⟩,
 ⟨some 12, (.op .mov), [.tmp 60], none⟩,
 ⟨some 13, (.op .mov), [.tmp 62], none⟩])
 (.seq
 (.reg 61440 none [
 ⟨some 63, (.op (.load 2 true)), [.tmp 4], none⟩,
 ⟨some 64, (.op .mov), [.tmp 12], none⟩,
 ⟨some 65, (.call n_registers_on false), [.tmp 63, .tmp 64], none⟩,
 ⟨some 66, (.op .mov), [.tmp 65], none⟩,
 ⟨some 67, (.op .mov), [.tmp 13], some (66, true)⟩,
 ⟨some 68, (.op .len), [.tmp 67], some (66, true)⟩,
 ⟨some 69, (.op .mov), [.tmp 12], some (66, true)⟩,
 ⟨some 70, (.call n_digest_Size false), [.tmp 69], some (66, true)⟩,
 ⟨some 71, (.op (.bin .neq)), [.tmp 68, .tmp 70], some (66, true)⟩,
 ⟨some 72, (.op .pick), [.tmp 66, .tmp 71, .cst (.t (.bool false))], none⟩])
 (.cond (.tmp 72)
 (.seq
 (.reg 65536 none [
 ⟨some 73, (.op (.build [.nil, (.t (.int .i64 0))] [])), [], none⟩,
 ⟨none, (.op (.store 2)), [.tmp 8, .tmp 73], none⟩,
 ⟨some 9, (.op .mov), [.cst (.t (.int .i64 24))], none⟩])
 .ret)
 .skip))))
 (.reg 69632 none [
 ⟨some 74, (.op (.bin .add)), [.tmp 58, .cst (.t (.int .i64 1))], none⟩,
 ⟨some 58, (.op .mov), [.tmp 74], none⟩]))))
def ac_registers_Extend_L2 (n_registers_on n_digest_Sum : Nat) : AC :=
 (.seq
 (.reg 81920 none [
 ⟨some 81, (.op (.bin .lss)), [.tmp 80, .tmp 79], none⟩])
 (.seq
 (.cond (.tmp 81)
 .skip
 (.exit 4))
 (.seq
 (.block 5
 (.seq
 (.reg 86016 none [
 ⟨some 82, (.op .mov), [.tmp 80], none⟩,
 ⟨some 15, (.op .mov), [.tmp 82], none⟩])
 (.seq
 (.reg 90112 none [
 ⟨some 83, (.op (.load 2 true)), [.tmp 4], none⟩,
 ⟨some 84, (.op .mov), [.tmp 15], none⟩,
 ⟨some 85, (.call n_registers_on false), [.tmp 83, .tmp 84], none⟩])
 (.cond (.tmp 85)
 (.reg 94208 (some [0, 1, 0, 7, 15, 0, 0, 0, 128, 0, 896, 1920, 0, 8064, 16256, 32640, 0, 0, 196608, 458752, 1048448, 2097088, 4194303, 8388607]) [
 ⟨some 86, (.op (.faddr 0)), [.tmp 14], none⟩,
 ⟨some 87, (.op (.load 1 false)), [.tmp 86], none⟩,
 ⟨some 88, (.op .mov), [.tmp 15], none⟩,
 ⟨some 89, (.op (.iaddr 1)), [.tmp 87, .tmp 88], none⟩,
 ⟨some 90, (.op (.load 1 false)), [.tmp 89], none⟩,
 ⟨some 91, (.op .mov), [.tmp 2], none⟩,
 ⟨some 92, (.op .mov), [.tmp 15], none⟩,
 ⟨some 93, (.op (.faddr 0)), [.tmp 4], none⟩,
 ⟨some 94, (.op (.load 1 false)), [.tmp 93], none⟩,
 ⟨some 95, (.op .mov), [.tmp 15], none⟩,
 ⟨some 96, (.op (.iaddr 1)), [.tmp 94, .tmp 95], none⟩,
 ⟨some 97, (.op (.load 1 false)), [.tmp 96], none⟩,
 ⟨some 98, (.op .mov), [.tmp 2], none⟩,
 ⟨some 99, (.op (.iaddr 1)), [.tmp 97, .tmp 98], none⟩,
 ⟨some 100, (.op (.load 1 false)), [.tmp 99], none⟩,
 ⟨some 101, (.op (.append 1 1)), [.cst .nil, .tmp 100], none⟩,
 ⟨some 102, (.op .mov), [.tmp 3], none⟩,
 ⟨some 103, (.op .mov), [.tmp 15], none⟩,
 ⟨some 104, (.op (.iaddr 1)), [.tmp 102, .tmp 103], none⟩,
 ⟨some 105, (.op (.load 1 false)), [.tmp 104], none⟩,
 ⟨some 106, (.op (.append 1 1)), [.tmp 101, .tmp 105], none⟩,
 ⟨some 107, (.call n_digest_Sum false), [.tmp 92, .tmp 106], none⟩,
 ⟨some 108, (.op (.iaddr 1)), [.tmp 90, .tmp 91], none⟩,
 ⟨none, (.op (.store 1)), [.tmp 108, .tmp 107], none⟩])
 .skip))))
 (.reg 98304 none [
 ⟨some 109, (.op (.bin .add)), [.tmp 80, .cst (.t (.int .i64 1))], none⟩,
 ⟨some 80, (.op .mov), [.tmp 109], none⟩]))))
def ac_registers_Extend (n_registers_index n_registers_least n_registers_on n_digest_Size n_registers_twin n_digest_Sum : Nat) : AC :=
 (.seq
 (.reg 4096 none [
 ⟨some 4, (.op .box), [.tmp 0], none⟩,
 ⟨some 8, (.op (.new 2 [(.agg [.nil, (.t (.int .i64 0))])])), [], none⟩,
 ⟨some 9, (.op .mov), [.cst (.t (.int .i64 0))], none⟩])
 (.seq
 (.seq
 (.reg 8192 none [
 ⟨some 16, (.op .mov), [.tmp 1], none⟩,
 ⟨some 17, (.op (.bin .lss)), [.tmp 16, .cst (.t (.int .i64 0))], none⟩,
 ⟨some 18, (.op .mov), [.tmp 17], none⟩,
 ⟨some 19, (.op .mov), [.tmp 1], some (18, false)⟩,
 ⟨some 20, (.op (.bin .gtr)), [.tmp 19, .cst (.t (.int .i64 4))], some (18, false)⟩,
 ⟨some 21, (.op .pick), [.tmp 18, .cst (.t (.bool true)), .tmp 20], none⟩,
 ⟨some 22, (.op .mov), [.tmp 21], none⟩,
 ⟨some 23, (.op .mov), [.tmp 2], some (22, false)⟩,
 ⟨some 24, (.call n_registers_index false), [.tmp 23], some (22, false)⟩,
 ⟨some 25, (.op (.un .not)), [.tmp 24], some (22, false)⟩,
 ⟨some 26, (.op .pick), [.tmp 22, .cst (.t (.bool true)), .tmp 25], none⟩,
 ⟨some 27, (.op .mov), [.tmp 26], none⟩,
 ⟨some 28, (.op .mov), [.tmp 3], some (27, false)⟩,
 ⟨some 29, (.op .len), [.tmp 28], some (27, false)⟩,
 ⟨some 30, (.op (.bin .neq)), [.tmp 29, .cst (.t (.int .i64 2))], some (27, false)⟩,
 ⟨some 31, (.op .pick), [.tmp 27, .cst (.t (.bool true)), .tmp 30], none⟩])
 (.cond (.tmp 31)
 (.seq
 (.reg 12288 none [
 ⟨some 32, (.op (.build [.nil, (.t (.int .i64 0))] [])), [], none⟩,
 ⟨none, (.op (.store 2)), [.tmp 8, .tmp 32], none⟩,
 ⟨some 9, (.op .mov), [.cst (.t (.int .i64 1))], none⟩])
 .ret)
 .skip))
 (.seq
 (.seq
 (.reg 16384 none [
 ⟨some 33, (.op .mov), [.tmp 1], none⟩,
 ⟨some 34, (.op .mov), [.tmp 2], none⟩,
 ⟨some 35, (.call n_registers_least false), [.tmp 34, .cst (.t (.bool false))], none⟩,
 ⟨some 36, (.op (.bin .lss)), [.tmp 33, .tmp 35], none⟩])
 (.cond (.tmp 36)
 (.seq
 (.reg 20480 none [
 ⟨some 37, (.op (.build [.nil, (.t (.int .i64 0))] [])), [], none⟩,
 ⟨none, (.op (.store 2)), [.tmp 8, .tmp 37], none⟩,
 ⟨some 9, (.op .mov), [.cst (.t (.int .i64 13))], none⟩])
 .ret)
 .skip))
 (.seq
 (.seq
 (.reg 24576 none [
 ⟨some 38, (.op .mov), [.tmp 3], none⟩,
 ⟨some 39, (.op .len), [.tmp 38], none⟩,
 ⟨some 40, (.op .mov), [.cst (.t (.int .i64 0))], none⟩])
 (.block 0
 (.loop (ac_registers_Extend_L0 n_registers_on))))
 (.seq
 (.seq
 (.reg 49152 none [
 ⟨some 56, (.op .mov), [.tmp 3], none⟩,
 ⟨some 57, (.op .len), [.tmp 56], none⟩,
 ⟨some 58, (.op .mov), [.cst (.t (.int .i64 0))], none⟩])
 (.block 2
 (.loop (ac_registers_Extend_L1 n_registers_on n_digest_Size))))
 (.seq
 (.reg 73728 none [
 ⟨some 75, (.op (.load 2 true)), [.tmp 4], none⟩,
 ⟨some 76, (.call n_registers_twin true), [.tmp 75], none⟩,
 ⟨some 14, (.op (.new 2 [(.agg [.nil, (.t (.int .i64 0))])])), [], none⟩,
 ⟨none, (.op (.store 2)), [.tmp 14, .tmp 76], none⟩])
 (.seq
 (.seq
 (.reg 77824 none [
 ⟨some 77, (.op (.faddr 0)), [.tmp 14], none⟩,
 ⟨some 78, (.op (.load 1 false)), [.tmp 77], none⟩,
 ⟨some 79, (.op .len), [.tmp 78], none⟩,
 ⟨some 80, (.op .mov), [.cst (.t (.int .i64 0))], none⟩])
 (.block 4
 (.loop (ac_registers_Extend_L2 n_registers_on n_digest_Sum))))
 (.seq
 (.reg 102400 none [
 ⟨some 110, (.op (.faddr 1)), [.tmp 14], none⟩,
 ⟨some 111, (.op (.load 1 false)), [.tmp 110], none⟩,
 ⟨some 112, (.op (.bin .add)), [.tmp 111, .cst (.t (.int .i64 1))], none⟩,
 ⟨some 113, (.op (.faddr 1)), [.tmp 14], none⟩,
 ⟨none, (.op (.store 1)), [.tmp 113, .tmp 112], none⟩])
 (.seq
 (.reg 106496 none [
 ⟨some 114, (.op (.load 2 true)), [.tmp 14], none⟩,
 ⟨none, (.op (.store 2)), [.tmp 8, .tmp 114], none⟩,
 ⟨some 9, (.op .mov), [.cst (.t (.int .i64 0))], none⟩])
 .ret)))))))))
def hints_registers_Extend : List (Nat × List Nat) := [(17, [1])]
def ac_registers_Event_L0 (n_registers_on n_digest_Sum : Nat) : AC :=
 (.seq
 (.reg 24576 none [
 ⟨some 20, (.op (.bin .lss)), [.tmp 19, .tmp 18], none⟩])
 (.seq
 (.cond (.tmp 20)
 .skip
 (.exit 0))
 (.seq
 (.block 1
 (.seq
 (.reg 28672 none [
 ⟨some 21, (.op .mov), [.tmp 19], none⟩,
 ⟨some 11, (.op .mov), [.tmp 21], none⟩])
 (.seq
 (.reg 32768 none [
 ⟨some 22, (.op (.load 2 true)), [.tmp 4], none⟩,
 ⟨some 23, (.op .mov), [.tmp 11], none⟩,
 ⟨some 24, (.call n_registers_on false), [.tmp 22, .tmp 23], none⟩])
 (.cond (.tmp 24)
 (.reg 36864 none [
 ⟨some 25, (.op .mov), [.tmp 10], none⟩,
 ⟨some 26, (.op .mov), [.tmp 11], none⟩,
 ⟨some 27, (.op .mov), [.tmp 11], none⟩,
 ⟨some 28, (.op .mov), [.tmp 3], none⟩,
 ⟨some 29, (.call n_digest_Sum false), [.tmp 27, .tmp 28], none⟩,
 ⟨some 30, (.op (.iaddr 1)), [.tmp 25, .tmp 26], none⟩,
 ⟨none, (.op (.store 1)), [.tmp 30, .tmp 29], none⟩])
 .skip))))
 (.reg 40960 none [
 ⟨some 31, (.op (.bin .add)), [.tmp 19, .cst (.t (.int .i64 1))], none⟩,
 ⟨some 19, (.op .mov), [.tmp 31], none⟩]))))
def ac_registers_Event (n_registers_on n_digest_Sum n_registers_Extend : Nat) : AC :=
 (.seq
 (.reg 4096 none [
 ⟨some 4, (.op .box), [.tmp 0], none⟩,
 ⟨some 8, (.op (.new 2 [(.agg [.nil, (.t (.int .i64 0))])])), [], none⟩,
 ⟨some 9, (.op .mov), [.cst (.t (.int .i64 0))], none⟩])
 (.seq
 (.seq
 (.reg 8192 none [
 ⟨some 12, (.op .mov), [.tmp 3], none⟩,
 ⟨some 13, (.op .len), [.tmp 12], none⟩,
 ⟨some 14, (.op (.bin .gtr)), [.tmp 13, .cst (.t (.int .i64 128))], none⟩])
 (.cond (.tmp 14)
 (.seq
 (.reg 12288 none [
 ⟨some 15, (.op (.build [.nil, (.t (.int .i64 0))] [])), [], none⟩,
 ⟨none, (.op (.store 2)), [.tmp 8, .tmp 15], none⟩,
 ⟨some 9, (.op .mov), [.cst (.t (.int .i64 4))], none⟩])
 .ret)
 .skip))
 (.seq
 (.reg 16384 none [
 ⟨some 16, (.op (.mkslice 1 24 .nil)), [.cst (.t (.int .i64 2)), .cst (.t (.int .i64 2))], none⟩,
 ⟨some 10, (.op .mov), [.tmp 16], none⟩])
 (.seq
 (.seq
 (.reg 20480 none [
 ⟨some 17, (.op .mov), [.tmp 10], none⟩,
 ⟨some 18, (.op .len), [.tmp 17], none⟩,
 ⟨some 19, (.op .mov), [.cst (.t (.int .i64 0))], none⟩])
 (.block 0
 (.loop (ac_registers_Event_L0 n_registers_on n_digest_Sum))))
 (.seq
 (.reg 45056 none [
 ⟨some 32, (.op (.load 2 true)), [.tmp 4], none⟩,
 ⟨some 33, (.op .mov), [.tmp 1], none⟩,
 ⟨some 34, (.op .mov), [.tmp 2], none⟩,
 ⟨some 35, (.op .mov), [.tmp 10], none⟩,
 ⟨some 36, (.call n_registers_Extend true), [.tmp 32, .tmp 33, .tmp 34, .tmp 35], none⟩,
 ⟨some 37, (.op (.extract 0)), [.tmp 36], none⟩,
 ⟨some 38, (.op (.extract 1)), [.tmp 36], none⟩,
 ⟨none, (.op (.store 2)), [.tmp 8, .tmp 37], none⟩,
 ⟨some 9, (.op .mov), [.tmp 38], none⟩])
 .ret)))))
def hints_registers_Event : List (Nat × List Nat) := [(10, [4])]
def ac_ref8_fill_L0 : AC :=
 (.seq
 (.seq
 (.reg 16384 none [
 ⟨some 9, (.op .mov), [.tmp 6], none⟩,
 ⟨some 10, (.op .mov), [.tmp 0], none⟩,
 ⟨some 11, (.op (.bin .lss)), [.tmp 9, .tmp 10], none⟩])
 (.cond (.tmp 11)
 .skip
 (.exit 0)))
 (.seq
 (.block 1
 (.reg 24576 none [
 ⟨some 14, (.op .mov), [.tmp 5], none⟩,
 ⟨some 15, (.op .mov), [.tmp 6], none⟩,
 ⟨some 16, (.op .mov), [.tmp 1], none⟩,
 ⟨some 17, (.op (.iaddr 1)), [.tmp 14, .tmp 15], none⟩,
 ⟨none, (.op (.store 1)), [.tmp 17, .tmp 16], none⟩]))
 (.reg 20480 none [
 ⟨some 12, (.op .mov), [.tmp 6], none⟩,
 ⟨some 13, (.op (.bin .add)), [.tmp 12, .cst (.t (.int .i64 1))], none⟩,
 ⟨some 6, (.op .mov), [.tmp 13], none⟩])))
def ac_ref8_fill : AC :=
 (.seq
 (.reg 4096 none [
 ⟨some 4, (.op .mov), [.cst .nil], none⟩])
 (.seq
 (.reg 8192 none [
 ⟨some 7, (.op .mov), [.tmp 0], none⟩,
 ⟨some 8, (.op (.mkslice 1 1 (.t (byteT 0)))), [.tmp 7, .tmp 7], none⟩,
 ⟨some 5, (.op .mov), [.tmp 8], none⟩])
 (.seq
 (.seq
 (.reg 12288 none [
 ⟨some 6, (.op .mov), [.cst (.t (.int .i64 0))], none⟩])
 (.block 0
 (.loop ac_ref8_fill_L0)))
 (.seq
 (.reg 28672 none [
 ⟨some 18, (.op .mov), [.tmp 5], none⟩,
 ⟨some 4, (.op .mov), [.tmp 18], none⟩])
 .ret))))
def hints_ref8_fill : List (Nat × List Nat) := []
def ac_ref8_initial (n_ref1_Size n_ref8_fill : Nat) : AC :=
 (.seq
 (.reg 4096 none [
 ⟨some 4, (.op .mov), [.cst .nil], none⟩])
 (.seq
 (.seq
 (.reg 8192 none [
 ⟨some 5, (.op .mov), [.tmp 1], none⟩,
 ⟨some 6, (.op (.bin .geq)), [.tmp 5, .cst (.t (.int .i64 12))], none⟩])
 (.cond (.tmp 6)
 (.seq
 (.reg 12288 none [
 ⟨some 7, (.op .mov), [.tmp 0], none⟩,
 ⟨some 8, (.call n_ref1_Size false), [.tmp 7], none⟩,
 ⟨some 9, (.call n_ref8_fill false), [.tmp 8, .cst (.t (byteT 255))], none⟩,
 ⟨some 4, (.op .mov), [.tmp 9], none⟩])
 .ret)
 .skip))
 (.seq
 (.reg 16384 none [
 ⟨some 10, (.op .mov), [.tmp 0], none⟩,
 ⟨some 11, (.call n_ref1_Size false), [.tmp 10], none⟩,
 ⟨some 12, (.call n_ref8_fill false), [.tmp 11, .cst (.t (byteT 0))], none⟩,
 ⟨some 4, (.op .mov), [.tmp 12], none⟩])
 .ret)))
def hints_ref8_initial : List (Nat × List Nat) := []
def ac_ref8_New_L1 (n_ref8_initial : Nat) : AC :=
 (.seq
 (.seq
 (.reg 40960 none [
 ⟨some 16, (.op .mov), [.tmp 6], none⟩,
 ⟨some 17, (.op (.bin .lss)), [.tmp 16, .cst (.t (.int .i64 16))], none⟩,
 ⟨some 18, (.op .mov), [.tmp 17], none⟩,
 ⟨some 19, (.op .mov), [.tmp 0], some (18, true)⟩,
 ⟨some 20, (.op .mov), [.tmp 4], some (18, true)⟩,
 ⟨some 21, (.op (.conv .u64)), [.tmp 20], some (18, true)⟩,
 ⟨some 22, (.op (.bin .shr)), [.tmp 19, .tmp 21], some (18, true)⟩,
 ⟨some 23, (.op (.bin .and)), [.tmp 22, .cst (.t (.int .i64 1))], some (18, true)⟩,
 ⟨some 24, (.op (.bin .eql)), [.tmp 23, .cst (.t (.int .i64 1))], some (18, true)⟩,
 ⟨some 25, (.op .pick), [.tmp 18, .tmp 24, .cst (.t (.bool false))], none⟩])
 (.cond (.tmp 25)
 .skip
 (.exit 2)))
 (.seq
 (.block 3
 (.reg 49152 none [
 ⟨some 28, (.op .mov), [.tmp 5], none⟩,
 ⟨some 29, (.op .mov), [.tmp 4], none⟩,
 ⟨some 30, (.op .mov), [.tmp 6], none⟩,
 ⟨some 31, (.call n_ref8_initial false), [.tmp 29, .tmp 30], none⟩,
 ⟨some 32, (.op (.bslice 1 1 .nil [0])), [.tmp 31], none⟩,
 ⟨some 33, (.op (.append 1 24)), [.tmp 28, .tmp 32], none⟩,
 ⟨some 5, (.op .mov), [.tmp 33], none⟩]))
 (.reg 45056 none [
 ⟨some 26, (.op .mov), [.tmp 6], none⟩,
 ⟨some 27, (.op (.bin .add)), [.tmp 26, .cst (.t (.int .i64 1))], none⟩,
 ⟨some 6, (.op .mov), [.tmp 27], none⟩])))
def ac_ref8_New_L0 (n_ref8_initial : Nat) : AC :=
 (.seq
 (.seq
 (.reg 24576 none [
 ⟨some 12, (.op .mov), [.tmp 4], none⟩,
 ⟨some 13, (.op (.bin .lss)), [.tmp 12, .cst (.t (.int .i64 2))], none⟩])
 (.cond (.tmp 13)
 .skip
 (.exit 0)))
 (.seq
 (.block 1
 (.seq
 (.reg 32768 none [
 ⟨some 5, (.op .mov), [.cst .nil], none⟩])
 (.seq
 (.seq
 (.reg 36864 none [
 ⟨some 6, (.op .mov), [.cst (.t (.int .i64 0))], none⟩])
 (.block 2
 (.loop (ac_ref8_New_L1 n_ref8_initial))))
 (.reg 53248 none [
 ⟨some 34, (.op (.faddr 0)), [.tmp 3], none⟩,
 ⟨some 35, (.op (.load 1 false)), [.tmp 34], none⟩,
 ⟨some 36, (.op .mov), [.tmp 5], none⟩,
 ⟨some 37, (.op (.bslice 1 1 .nil [0])), [.tmp 36], none⟩,
 ⟨some 38, (.op (.append 1 24)), [.tmp 35, .tmp 37], none⟩,
 ⟨some 39, (.op (.faddr 0)), [.tmp 3], none⟩,
 ⟨none, (.op (.store 1)), [.tmp 39, .tmp 38], none⟩]))))
 (.reg 28672 none [
 ⟨some 14, (.op .mov), [.tmp 4], none⟩,
 ⟨some 15, (.op (.bin .add)), [.tmp 14, .cst (.t (.int .i64 1))], none⟩,
 ⟨some 4, (.op .mov), [.tmp 15], none⟩])))
def ac_ref8_New (n_ref8_initial : Nat) : AC :=
 (.seq
 (.reg 4096 none [
 ⟨some 2, (.op (.new 2 [(.agg [.nil, (.t (.int .i64 0))])])), [], none⟩])
 (.seq
 (.reg 8192 none [
 ⟨some 7, (.op (.build [.nil, (.t (.int .i64 0))] [])), [], none⟩,
 ⟨some 3, (.op (.new 2 [(.agg [.nil, (.t (.int .i64 0))])])), [], none⟩,
 ⟨none, (.op (.store 2)), [.tmp 3, .tmp 7], none⟩])
 (.seq
 (.seq
 (.reg 12288 none [
 ⟨some 8, (.op .mov), [.tmp 0], none⟩,
 ⟨some 9, (.op (.bin .and)), [.tmp 8, .cst (.t (.int .i64 3))], none⟩,
 ⟨some 10, (.op (.bin .eql)), [.tmp 9, .cst (.t (.int .i64 0))], none⟩])
 (.cond (.tmp 10)
 (.seq
 (.reg 16384 none [
 ⟨some 11, (.op (.load 2 true)), [.tmp 3], none⟩,
 ⟨none, (.op (.store 2)), [.tmp 2, .tmp 11], none⟩])
 .ret)
 .skip))
 (.seq
 (.seq
 (.reg 20480 none [
 ⟨some 4, (.op .mov), [.cst (.t (.int .i64 0))], none⟩])
 (.block 0
 (.loop (ac_ref8_New_L0 n_ref8_initial))))
 (.seq
 (.reg 57344 none [
 ⟨some 40, (.op (.load 2 true)), [.tmp 3], none⟩,
 ⟨none, (.op (.store 2)), [.tmp 2, .tmp 40], none⟩])
 .ret)))))
def hints_ref8_New : List (Nat × List Nat) := []
def ac_ref8_Active : AC :=
 (.seq
 (.reg 4096 none [
 ⟨some 2, (.op .box), [.tmp 0], none⟩,
 ⟨some 4, (.op .mov), [.cst (.t (.bool false))], none⟩])
 (.seq
 (.reg 8192 none [
 ⟨some 5, (.op .mov), [.tmp 1], none⟩,
 ⟨some 6, (.op (.faddr 0)), [.tmp 2], none⟩,
 ⟨some 7, (.op (.load 1 false)), [.tmp 6], none⟩,
 ⟨some 8, (.op .len), [.tmp 7], none⟩,
 ⟨some 9, (.op (.bin .lss)), [.tmp 5, .tmp 8], none⟩,
 ⟨some 10, (.op .mov), [.tmp 9], none⟩,
 ⟨some 11, (.op (.faddr 0)), [.tmp 2], some (10, true)⟩,
 ⟨some 12, (.op (.load 1 false)), [.tmp 11], some (10, true)⟩,
 ⟨some 13, (.op .mov), [.tmp 1], some (10, true)⟩,
 ⟨some 14, (.op (.iaddr 1)), [.tmp 12, .tmp 13], some (10, true)⟩,
 ⟨some 15, (.op (.load 1 false)), [.tmp 14], some (10, true)⟩,
 ⟨some 16, (.op .len), [.tmp 15], some (10, true)⟩,
 ⟨some 17, (.op (.bin .gtr)), [.tmp 16, .cst (.t (.int .i64 0))], some (10, true)⟩,
 ⟨some 18, (.op .pick), [.tmp 10, .tmp 17, .cst (.t (.bool false))], none⟩,
 ⟨some 4, (.op .mov), [.tmp 18], none⟩])
 .ret))
def hints_ref8_Active : List (Nat × List Nat) := []
def ac_ref8_Same_L0 (n_ref8_Active n_ref1_Lists : Nat) : AC :=
 (.seq
 (.seq
 (.reg 20480 none [
 ⟨some 11, (.op .mov), [.tmp 5], none⟩,
 ⟨some 12, (.op (.bin .lss)), [.tmp 11, .cst (.t (.int .i64 2))], none⟩])
 (.cond (.tmp 12)
 .skip
 (.exit 0)))
 (.seq
 (.block 1
 (.seq
 (.reg 28672 (some [0, 0, 3, 0, 0, 31, 63, 127, 255, 255, 1023, 2047, 4095, 8191, 4095, 32767, 65535, 4095, 135167, 4095, 921599, 1970175, 4194303, 8388607, 16777215, 33554431]) [
 ⟨some 15, (.op (.load 2 true)), [.tmp 2], none⟩,
 ⟨some 16, (.op .mov), [.tmp 5], none⟩,
 ⟨some 17, (.call n_ref8_Active false), [.tmp 15, .tmp 16], none⟩,
 ⟨some 18, (.op (.load 2 true)), [.tmp 3], none⟩,
 ⟨some 19, (.op .mov), [.tmp 5], none⟩,
 ⟨some 20, (.call n_ref8_Active false), [.tmp 18, .tmp 19], none⟩,
 ⟨some 21, (.op (.beq true)), [.tmp 17, .tmp 20], none⟩,
 ⟨some 22, (.op .mov), [.tmp 21], none⟩,
 ⟨some 23, (.op (.load 2 true)), [.tmp 2], some (22, false)⟩,
 ⟨some 24, (.op .mov), [.tmp 5], some (22, false)⟩,
 ⟨some 25, (.call n_ref8_Active false), [.tmp 23, .tmp 24], some (22, false)⟩,
 ⟨some 26, (.op .mov), [.tmp 25], some (22, false)⟩,
 ⟨some 27, (.op (.faddr 0)), [.tmp 2], some (26, true)⟩,
 ⟨some 28, (.op (.load 1 false)), [.tmp 27], some (26, true)⟩,
 ⟨some 29, (.op .mov), [.tmp 5], some (26, true)⟩,
 ⟨some 30, (.op (.iaddr 1)), [.tmp 28, .tmp 29], some (26, true)⟩,
 ⟨some 31, (.op (.load 1 false)), [.tmp 30], some (26, true)⟩,
 ⟨some 32, (.op (.faddr 0)), [.tmp 3], some (26, true)⟩,
 ⟨some 33, (.op (.load 1 false)), [.tmp 32], some (26, true)⟩,
 ⟨some 34, (.op .mov), [.tmp 5], some (26, true)⟩,
 ⟨some 35, (.op (.iaddr 1)), [.tmp 33, .tmp 34], some (26, true)⟩,
 ⟨some 36, (.op (.load 1 false)), [.tmp 35], some (26, true)⟩,
 ⟨some 37, (.call n_ref1_Lists false), [.tmp 31, .tmp 36], some (26, true)⟩,
 ⟨some 38, (.op (.un .not)), [.tmp 37], some (26, true)⟩,
 ⟨some 39, (.op .pick), [.tmp 26, .tmp 38, .cst (.t (.bool false))], some (22, false)⟩,
 ⟨some 40, (.op .pick), [.tmp 22, .cst (.t (.bool true)), .tmp 39], none⟩])
 (.cond (.tmp 40)
 (.seq
 (.reg 32768 none [
 ⟨some 4, (.op .mov), [.cst (.t (.bool false))], none⟩])
 .ret)
 .skip)))
 (.reg 24576 none [
 ⟨some 13, (.op .mov), [.tmp 5], none⟩,
 ⟨some 14, (.op (.bin .add)), [.tmp 13, .cst (.t (.int .i64 1))], none⟩,
 ⟨some 5, (.op .mov), [.tmp 14], none⟩])))
def ac_ref8_Same (n_ref8_Active n_ref1_Lists : Nat) : AC :=
 (.seq
 (.reg 4096 none [
 ⟨some 2, (.op .box), [.tmp 0], none⟩,
 ⟨some 3, (.op .box), [.tmp 1], none⟩,
 ⟨some 4, (.op .mov), [.cst (.t (.bool false))], none⟩])
 (.seq
 (.seq
 (.reg 8192 none [
 ⟨some 6, (.op (.faddr 1)), [.tmp 2], none⟩,
 ⟨some 7, (.op (.load 1 false)), [.tmp 6], none⟩,
 ⟨some 8, (.op (.faddr 1)), [.tmp 3], none⟩,
 ⟨some 9, (.op (.load 1 false)), [.tmp 8], none⟩,
 ⟨some 10, (.op (.bin .neq)), [.tmp 7, .tmp 9], none⟩])
 (.cond (.tmp 10)
 (.seq
 (.reg 12288 none [
 ⟨some 4, (.op .mov), [.cst (.t (.bool false))], none⟩])
 .ret)
 .skip))
 (.seq
 (.seq
 (.reg 16384 none [
 ⟨some 5, (.op .mov), [.cst (.t (.int .i64 0))], none⟩])
 (.block 0
 (.loop (ac_ref8_Same_L0 n_ref8_Active n_ref1_Lists))))
 (.seq
 (.reg 36864 none [
 ⟨some 41, (.op (.faddr 0)), [.tmp 2], none⟩,
 ⟨some 42, (.op (.load 1 false)), [.tmp 41], none⟩,
 ⟨some 43, (.op .len), [.tmp 42], none⟩,
 ⟨some 44, (.op (.bin .leq)), [.tmp 43, .cst (.t (.int .i64 2))], none⟩,
 ⟨some 45, (.op .mov), [.tmp 44], none⟩,
 ⟨some 46, (.op (.faddr 0)), [.tmp 3], some (45, true)⟩,
 ⟨some 47, (.op (.load 1 false)), [.tmp 46], some (45, true)⟩,
 ⟨some 48, (.op .len), [.tmp 47], some (45, true)⟩,
 ⟨some 49, (.op (.bin .leq)), [.tmp 48, .cst (.t (.int .i64 2))], some (45, true)⟩,
 ⟨some 50, (.op .pick), [.tmp 45, .tmp 49, .cst (.t (.bool false))], none⟩,
 ⟨some 4, (.op .mov), [.tmp 50], none⟩])
 .ret))))
def hints_ref8_Same : List (Nat × List Nat) := []
end Go.Eng
end
section
set_option maxRecDepth 20000
set_option maxHeartbeats 8000000
namespace Go.Eng
theorem w_bits_Mul64 (tab : Tab) (gl : Gl) (n : Int) (hn : n = 20 ∨ n = 32) : ac_bits_Mul64.wp tab gl (zipF 0 [.t (.int .u64 1), .t (.int .u64 n)]) (zipF 0 []) (resW [(4, none), (5, none)] 0 (fun r o => r = .tup [.t (.int .u64 0), .t (.int .u64 n)] ∧ o = [])) := by
  rcases hn with rfl | rfl
  · simp (config := { maxSteps := 2000000 }) (disch := (first | omega | (simp only [lens, lenm]; omega))) only [go_sem, ↓reduceIte, Nat.reduceAdd, Nat.reduceEqDiff, Nat.reduceSub, Nat.reduceMul, Nat.reduceLT, Nat.reduceLeDiff, Nat.reduceBEq, Int.reduceEq, Int.reduceLT, Int.reduceLE, Int.reduceToNat, Int.reduceNeg, Int.reduceAdd, Int.reduceSub, Int.reduceMul, Int.reduceMod, Int.reduceDiv, reduceCtorEq, Nat.reducePow, Int.reducePow, ac_bits_Mul64, BitVec.reduceOfInt, BitVec.reduceAnd, BitVec.reduceToNat, Int.reduceFDiv]
  · simp (config := { maxSteps := 2000000 }) (disch := (first | omega | (simp only [lens, lenm]; omega))) only [go_sem, ↓reduceIte, Nat.reduceAdd, Nat.reduceEqDiff, Nat.reduceSub, Nat.reduceMul, Nat.reduceLT, Nat.reduceLeDiff, Nat.reduceBEq, Int.reduceEq, Int.reduceLT, Int.reduceLE, Int.reduceToNat, Int.reduceNeg, Int.reduceAdd, Int.reduceSub, Int.reduceMul, Int.reduceMod, Int.reduceDiv, reduceCtorEq, Nat.reducePow, Int.reducePow, ac_bits_Mul64, BitVec.reduceOfInt, BitVec.reduceAnd, BitVec.reduceToNat, Int.reduceFDiv]
def ct_mul64 : Ct where
  α := Int
  as x := [.t (.int .u64 1), .t (.int .u64 x)]
  ins _ := []
  pre x := x = 20 ∨ x = 32
  r x := .tup [.t (.int .u64 0), .t (.int .u64 x)]
  outs _ := []
  inj := by
    intro a b h _
    simp at h
    subst h; exact ⟨rfl, rfl⟩
theorem mul64_eq {n : Int} (h : n = 20 ∨ n = 32) : ct_mul64.fs [.t (.int .u64 1), .t (.int .u64 n)] [] = some (.tup [.t (.int .u64 0), .t (.int .u64 n)], []) := ct_mul64.eq n h
theorem w_bits_Mul (tab : Tab) (gl : Gl) (n1 n2 : Nat) (h2 : tab.look n2 = some ct_mul64.fs) (n : Int) (hn : n = 20 ∨ n = 32) : (ac_bits_Mul n1 n2).wp tab gl (zipF 0 [.t (.int .u64 1), .t (.int .u64 n)]) (zipF 0 []) (resW [(4, none), (5, none)] 0 (fun r o => r = .tup [.t (.int .u64 0), .t (.int .u64 n)] ∧ o = [])) := by
  simp (config := { maxSteps := 2000000 }) (disch := (first | omega | (simp only [lens, lenm]; omega))) only [go_sem, ↓reduceIte, Nat.reduceAdd, Nat.reduceEqDiff, Nat.reduceSub, Nat.reduceMul, Nat.reduceLT, Nat.reduceLeDiff, Nat.reduceBEq, Int.reduceEq, Int.reduceLT, Int.reduceLE, Int.reduceToNat, Int.reduceNeg, Int.reduceAdd, Int.reduceSub, Int.reduceMul, Int.reduceMod, Int.reduceDiv, reduceCtorEq, Nat.reducePow, Int.reducePow, ac_bits_Mul, h2, mul64_eq]
def ct_mnz : Ct where
  α := Int
  as x := [.t (.int .i64 x)]
  ins _ := []
  pre x := x = 20 ∨ x = 32
  r x := .sl 0 0 x.toNat
  outs _ := [.live 1 [] true false]
  inj := by
    intro a b h _
    simp at h
    subst h; exact ⟨rfl, rfl⟩
theorem mnz_eq {n : Int} (h : n = 20 ∨ n = 32) : ct_mnz.fs [.t (.int .i64 n)] [] = some (.sl 0 0 n.toNat, [.live 1 [] true false]) := ct_mnz.eq n h
theorem setRange_end {α : Type} {l xs : List α} : setRange l l.length xs = l ++ xs := by simp [setRange]
theorem w_bytes_Repeat (tab : Tab) (gl : Gl) (n1 n2 : Nat) (h1 : tab.look n1 = some ct_mul64.fs) (h2 : tab.look n2 = some ct_mnz.fs) (x : UInt8) (n : Nat) (hn : n = 20 ∨ n = 32) :
    (ac_bytes_Repeat n1 n2).wp tab gl (zipF 0 [.t (.sl ([x].map byteT)), .t (.int .i64 n)]) (zipF 0 []) (resF [] [(4, none)] 0 (fun r o => r = .sl 0 0 n ∧ o = [.live 1 (((List.replicate n x).map byteT).map V.t) true false])) := by
  have hn2 : (n : Int) = 20 ∨ (n : Int) = 32 := by omega
  have ht1 : ∀ v : V, List.take n [v] = [v] := fun v => List.take_of_length_le (by simp only [List.length_cons, List.length_nil]; omega)
  simp (config := { maxSteps := 2000000 }) (disch := (first | omega | (simp only [lens, lenm]; omega))) only [go_sem, ↓reduceIte, Nat.reduceAdd, Nat.reduceEqDiff, Nat.reduceSub, Nat.reduceMul, Nat.reduceLT, Nat.reduceLeDiff, Nat.reduceBEq, Int.reduceEq, Int.reduceLT, Int.reduceLE, Int.reduceToNat, Int.reduceNeg, Int.reduceAdd, Int.reduceSub, Int.reduceMul, Int.reduceMod, Int.reduceDiv, reduceCtorEq, Nat.reducePow, Int.reducePow, ac_bytes_Repeat, h1, h2, mul64_eq, mnz_eq, ht1]
  refine loop_rule (ι := { p : Nat // 1 ≤ p ∧ p ≤ n }) (fun p => ([(7, .t (.int .i64 n)), (8, .t (.int .i64 n)), (9, .sl 69648 0 n), (10, .t (.int .i64 p.1))], [(69648, .live 1 (((List.replicate p.1 x).map byteT).map V.t) true false)])) (fun p => n - p.1) ⟨1, by omega⟩ ?_ (fun p => ?_)
  · refine Weak.rd id ?_ ?_ rfl
    all_goals simp (config := { maxSteps := 2000000 }) (disch := (first | omega | (simp only [lens, lenm]; omega))) only [go_sem, ↓reduceIte, Nat.reduceAdd, Nat.reduceEqDiff, Nat.reduceSub, Nat.reduceMul, Nat.reduceLT, Nat.reduceLeDiff, Nat.reduceBEq, Int.reduceEq, Int.reduceLT, Int.reduceLE, Int.reduceToNat, Int.reduceNeg, Int.reduceAdd, Int.reduceSub, Int.reduceMul, Int.reduceMod, Int.reduceDiv, reduceCtorEq, Nat.reducePow, Int.reducePow, id, List.map_cons, List.map_nil]
  · obtain ⟨p, hp1, hp2⟩ := p
    by_cases hlt : p < n
    · have hse : ∀ xs, setRange (List.map V.t (List.map byteT (List.replicate p x))) p xs = List.map V.t (List.map byteT (List.replicate p x)) ++ xs := by
        intro xs
        have := setRange_end (l := List.map V.t (List.map byteT (List.replicate p x))) (xs := xs)
        simpa using this
      have hm : (if (n : Int) < (p : Int) then (n : Int) else (p : Int)) = p := if_neg (by omega)
      by_cases hd : p ≤ n - p
      · simp (config := { maxSteps := 2000000 }) (disch := (first | omega | (simp only [lens, lenm]; omega))) only [go_sem, ↓reduceIte, Nat.reduceAdd, Nat.reduceEqDiff, Nat.reduceSub, Nat.reduceMul, Nat.reduceLT, Nat.reduceLeDiff, Nat.reduceBEq, Int.reduceEq, Int.reduceLT, Int.reduceLE, Int.reduceToNat, Int.reduceNeg, Int.reduceAdd, Int.reduceSub, Int.reduceMul, Int.reduceMod, Int.reduceDiv, reduceCtorEq, Nat.reducePow, Int.reducePow, ac_bytes_Repeat_L0, hse, List.take_replicate, hm]
        refine ⟨rfl, ⟨p + p, by omega⟩, by simp only; omega, Weak.rd id ?_ ?_ rfl⟩
        all_goals simp (config := { maxSteps := 2000000 }) (disch := (first | omega | (simp only [lens, lenm]; omega))) only [go_sem, ↓reduceIte, Nat.reduceAdd, Nat.reduceEqDiff, Nat.reduceSub, Nat.reduceMul, Nat.reduceLT, Nat.reduceLeDiff, Nat.reduceBEq, Int.reduceEq, Int.reduceLT, Int.reduceLE, Int.reduceToNat, Int.reduceNeg, Int.reduceAdd, Int.reduceSub, Int.reduceMul, Int.reduceMod, Int.reduceDiv, reduceCtorEq, Nat.reducePow, Int.reducePow, id, List.replicate_append_replicate]
      · simp (config := { maxSteps := 2000000 }) (disch := (first | omega | (simp only [lens, lenm]; omega))) only [go_sem, ↓reduceIte, Nat.reduceAdd, Nat.reduceEqDiff, Nat.reduceSub, Nat.reduceMul, Nat.reduceLT, Nat.reduceLeDiff, Nat.reduceBEq, Int.reduceEq, Int.reduceLT, Int.reduceLE, Int.reduceToNat, Int.reduceNeg, Int.reduceAdd, Int.reduceSub, Int.reduceMul, Int.reduceMod, Int.reduceDiv, reduceCtorEq, Nat.reducePow, Int.reducePow, ac_bytes_Repeat_L0, hse, List.take_replicate, hm]
        refine ⟨rfl, ⟨p + (n - p), by omega⟩, by simp only; omega, Weak.rd id ?_ ?_ rfl⟩
        all_goals simp (config := { maxSteps := 2000000 }) (disch := (first | omega | (simp only [lens, lenm]; omega))) only [go_sem, ↓reduceIte, Nat.reduceAdd, Nat.reduceEqDiff, Nat.reduceSub, Nat.reduceMul, Nat.reduceLT, Nat.reduceLeDiff, Nat.reduceBEq, Int.reduceEq, Int.reduceLT, Int.reduceLE, Int.reduceToNat, Int.reduceNeg, Int.reduceAdd, Int.reduceSub, Int.reduceMul, Int.reduceMod, Int.reduceDiv, reduceCtorEq, Nat.reducePow, Int.reducePow, id, List.replicate_append_replicate]
    · have e : p = n := by omega
      subst e
      simp (config := { maxSteps := 2000000 }) (disch := (first | omega | (simp only [lens, lenm]; omega))) only [go_sem, ↓reduceIte, Nat.reduceAdd, Nat.reduceEqDiff, Nat.reduceSub, Nat.reduceMul, Nat.reduceLT, Nat.reduceLeDiff, Nat.reduceBEq, Int.reduceEq, Int.reduceLT, Int.reduceLE, Int.reduceToNat, Int.reduceNeg, Int.reduceAdd, Int.reduceSub, Int.reduceMul, Int.reduceMod, Int.reduceDiv, reduceCtorEq, Nat.reducePow, Int.reducePow, ac_bytes_Repeat_L0]
def ct_repeat : Ct where
  α := UInt8 × Nat
  as x := [.t (.sl ([x.1].map byteT)), .t (.int .i64 x.2)]
  ins _ := []
  pre x := x.2 = 20 ∨ x.2 = 32
  r x := .sl 0 0 x.2
  outs x := [.live 1 (((List.replicate x.2 x.1).map byteT).map V.t) true false]
  inj := by
    rintro ⟨a, b⟩ ⟨c, d⟩ h _
    simp [byteT_eq, Int.natCast_inj] at h
    obtain ⟨rfl, rfl⟩ := h
    exact ⟨rfl, rfl⟩
theorem repeat_eq {x : UInt8} {n : Nat} (h : n = 20 ∨ n = 32) : ct_repeat.fs [.t (.sl [byteT x]), .t (.int .i64 n)] [] = some (.sl 0 0 n, [.live 1 (((List.replicate n x).map byteT).map V.t) true false]) := ct_repeat.eq (x, n) h
theorem w_registers_fill (tab : Tab) (gl : Gl) (n1 : Nat) (h1 : tab.look n1 = some ct_repeat.fs) (x : UInt8) (n : Nat) (hn : n = 20 ∨ n = 32) : (ac_registers_fill n1).wp tab gl (zipF 0 [.t (.int .i64 n), .t (byteT x)]) (zipF 0 []) (resF [] [(4, none)] 0 (fun r o => r = .sl 0 0 n ∧ o = [.live 1 (((List.replicate n x).map byteT).map V.t) true false])) := by
  simp (config := { maxSteps := 2000000 }) (disch := (first | omega | (simp only [lens, lenm]; omega))) only [go_sem, ↓reduceIte, Nat.reduceAdd, Nat.reduceEqDiff, Nat.reduceSub, Nat.reduceMul, Nat.reduceLT, Nat.reduceLeDiff, Nat.reduceBEq, Int.reduceEq, Int.reduceLT, Int.reduceLE, Int.reduceToNat, Int.reduceNeg, Int.reduceAdd, Int.reduceSub, Int.reduceMul, Int.reduceMod, Int.reduceDiv, reduceCtorEq, Nat.reducePow, Int.reducePow, ac_registers_fill, h1, repeat_eq]
theorem set_fill {α : Type} {x d : α} {n k : Nat} (h : k < n) : (List.replicate k x ++ List.replicate (n - k) d).set k x = List.replicate (k + 1) x ++ List.replicate (n - (k + 1)) d := by
  rw [show n - k = (n - (k + 1)) + 1 by omega, List.replicate_succ, List.set_append_right _ _ (by simp)]
  simp [List.replicate_succ']
theorem w_ref8_fill (tab : Tab) (gl : Gl) (x : UInt8) (n : Nat) (hn : n < 1000000000) : ac_ref8_fill.wp tab gl (zipF 0 [.t (.int .i64 n), .t (byteT x)]) (zipF 0 []) (resF [] [(4, none)] 0 (fun r o => r = .sl 0 0 n ∧ o = [.live 1 (((List.replicate n x).map byteT).map V.t) true false])) := by
  simp (config := { maxSteps := 2000000 }) (disch := (first | omega | (simp only [lens, lenm]; omega))) only [go_sem, ↓reduceIte, Nat.reduceAdd, Nat.reduceEqDiff, Nat.reduceSub, Nat.reduceMul, Nat.reduceLT, Nat.reduceLeDiff, Nat.reduceBEq, Int.reduceEq, Int.reduceLT, Int.reduceLE, Int.reduceToNat, Int.reduceNeg, Int.reduceAdd, Int.reduceSub, Int.reduceMul, Int.reduceMod, Int.reduceDiv, reduceCtorEq, Nat.reducePow, Int.reducePow, ac_ref8_fill]
  refine loop_upto n (fun k => [(0, .t (.int .i64 n)), (1, .t (byteT x)), (5, .sl 8208 0 n), (6, .t (.int .i64 k))]) (fun k => [(8208, .live 1 (((List.replicate k x ++ List.replicate (n - k) 0).map byteT).map V.t) true false)]) ?_ (fun k hk => ?_)
  · refine Weak.rd id ?_ ?_ rfl
    all_goals simp (config := { maxSteps := 2000000 }) (disch := (first | omega | (simp only [lens, lenm]; omega))) only [go_sem, ↓reduceIte, Nat.reduceAdd, Nat.reduceEqDiff, Nat.reduceSub, Nat.reduceMul, Nat.reduceLT, Nat.reduceLeDiff, Nat.reduceBEq, Int.reduceEq, Int.reduceLT, Int.reduceLE, Int.reduceToNat, Int.reduceNeg, Int.reduceAdd, Int.reduceSub, Int.reduceMul, Int.reduceMod, Int.reduceDiv, reduceCtorEq, Nat.reducePow, Int.reducePow, id]
  · by_cases hlt : k < n
    · simp (config := { maxSteps := 2000000 }) (disch := (first | omega | (simp only [lens, lenm]; omega))) only [go_sem, ↓reduceIte, Nat.reduceAdd, Nat.reduceEqDiff, Nat.reduceSub, Nat.reduceMul, Nat.reduceLT, Nat.reduceLeDiff, Nat.reduceBEq, Int.reduceEq, Int.reduceLT, Int.reduceLE, Int.reduceToNat, Int.reduceNeg, Int.reduceAdd, Int.reduceSub, Int.reduceMul, Int.reduceMod, Int.reduceDiv, reduceCtorEq, Nat.reducePow, Int.reducePow, ac_ref8_fill_L0]
      refine ⟨hlt, Weak.rd id ?_ ?_ rfl⟩
      all_goals simp (config := { maxSteps := 2000000 }) (disch := (first | omega | (simp only [lens, lenm]; omega))) only [go_sem, ↓reduceIte, Nat.reduceAdd, Nat.reduceEqDiff, Nat.reduceSub, Nat.reduceMul, Nat.reduceLT, Nat.reduceLeDiff, Nat.reduceBEq, Int.reduceEq, Int.reduceLT, Int.reduceLE, Int.reduceToNat, Int.reduceNeg, Int.reduceAdd, Int.reduceSub, Int.reduceMul, Int.reduceMod, Int.reduceDiv, reduceCtorEq, Nat.reducePow, Int.reducePow, id, set_fill hlt]
    · have e : k = n := by omega
      subst e
      simp (config := { maxSteps := 2000000 }) (disch := (first | omega | (simp only [lens, lenm]; omega))) only [go_sem, ↓reduceIte, Nat.reduceAdd, Nat.reduceEqDiff, Nat.reduceSub, Nat.reduceMul, Nat.reduceLT, Nat.reduceLeDiff, Nat.reduceBEq, Int.reduceEq, Int.reduceLT, Int.reduceLE, Int.reduceToNat, Int.reduceNeg, Int.reduceAdd, Int.reduceSub, Int.reduceMul, Int.reduceMod, Int.reduceDiv, reduceCtorEq, Nat.reducePow, Int.reducePow, ac_ref8_fill_L0, Nat.sub_self, List.append_nil]
end Go.Eng
end
section
set_option maxRecDepth 20000
set_option maxHeartbeats 8000000
namespace Go.Eng
abbrev Bank := List (List UInt8)
def bankT (b : Bank) : T := .sl (b.map bsT)
def regT (bk : List Bank) (u : Int) : T := .agg [.sl (bk.map bankT), .int .i64 u]
theorem bankT_def {b : Bank} : bankT b = .sl (b.map bsT) := Eq.trans (Eq.refl _) rfl
theorem regT_def {bk : List Bank} {u : Int} : regT bk u = .agg [.sl (bk.map bankT), .int .i64 u] := Eq.trans (Eq.refl _) rfl
attribute [go_sem] bankT_def regT_def
def bkOk (b : Bank) : Prop := b.length = 0 ∨ b.length = 16
def actM (b0 b1 : Bank) : Int := (if b0.length = 16 then 1 else 0) + (if b1.length = 16 then 2 else 0)
theorem w_registers_active0 (tab : Tab) (gl : Gl) (u : Int) : ac_registers_active.wp tab gl (zipF 0 [.t (regT [] u)]) (zipF 0 []) (resW [(2, none)] 0 (fun r o => r = .t (.int .i64 0) ∧ o = [])) := by
  simp (config := { maxSteps := 2000000 }) (disch := (first | omega | (simp only [lens, lenm]; omega))) only [go_sem, ↓reduceIte, Nat.reduceAdd, Nat.reduceEqDiff, Nat.reduceSub, Nat.reduceMul, Nat.reduceLT, Nat.reduceLeDiff, Nat.reduceBEq, Int.reduceEq, Int.reduceLT, Int.reduceLE, Int.reduceToNat, Int.reduceNeg, Int.reduceAdd, Int.reduceSub, Int.reduceMul, Int.reduceMod, Int.reduceDiv, reduceCtorEq, Nat.reducePow, Int.reducePow, ac_registers_active, List.map_nil, List.map_cons]
  refine loop_fuel 1 ?_
  simp (config := { maxSteps := 2000000 }) (disch := (first | omega | (simp only [lens, lenm]; omega))) only [go_sem, ↓reduceIte, Nat.reduceAdd, Nat.reduceEqDiff, Nat.reduceSub, Nat.reduceMul, Nat.reduceLT, Nat.reduceLeDiff, Nat.reduceBEq, Int.reduceEq, Int.reduceLT, Int.reduceLE, Int.reduceToNat, Int.reduceNeg, Int.reduceAdd, Int.reduceSub, Int.reduceMul, Int.reduceMod, Int.reduceDiv, reduceCtorEq, Nat.reducePow, Int.reducePow, loopN_succ, ac_registers_active_L0]
theorem w_registers_active2 (tab : Tab) (gl : Gl) (b0 b1 : Bank) (h0 : b0.length < 1000000000) (h1 : b1.length < 1000000000) (u : Int) : ac_registers_active.wp tab gl (zipF 0 [.t (regT [b0, b1] u)]) (zipF 0 []) (resW [(2, none)] 0 (fun r o => r = .t (.int .i64 (actM b0 b1)) ∧ o = [])) := by
  simp (config := { maxSteps := 2000000 }) (disch := (first | omega | (simp only [lens, lenm]; omega))) only [go_sem, ↓reduceIte, Nat.reduceAdd, Nat.reduceEqDiff, Nat.reduceSub, Nat.reduceMul, Nat.reduceLT, Nat.reduceLeDiff, Nat.reduceBEq, Int.reduceEq, Int.reduceLT, Int.reduceLE, Int.reduceToNat, Int.reduceNeg, Int.reduceAdd, Int.reduceSub, Int.reduceMul, Int.reduceMod, Int.reduceDiv, reduceCtorEq, Nat.reducePow, Int.reducePow, ac_registers_active, List.map_nil, List.map_cons]
  refine loop_fuel 3 ?_
  by_cases e0 : b0.length = 16
  · by_cases e1 : b1.length = 16
    · simp (config := { maxSteps := 2000000 }) (disch := (first | omega | (simp only [lens, lenm]; omega))) only [go_sem, ↓reduceIte, Nat.reduceAdd, Nat.reduceEqDiff, Nat.reduceSub, Nat.reduceMul, Nat.reduceLT, Nat.reduceLeDiff, Nat.reduceBEq, Int.reduceEq, Int.reduceLT, Int.reduceLE, Int.reduceToNat, Int.reduceNeg, Int.reduceAdd, Int.reduceSub, Int.reduceMul, Int.reduceMod, Int.reduceDiv, reduceCtorEq, Nat.reducePow, Int.reducePow, loopN_succ, ac_registers_active_L0, actM, e0, e1, BitVec.reduceOfInt, BitVec.reduceOr, BitVec.reduceToNat]
    · simp (config := { maxSteps := 2000000 }) (disch := (first | omega | (simp only [lens, lenm]; omega))) only [go_sem, ↓reduceIte, Nat.reduceAdd, Nat.reduceEqDiff, Nat.reduceSub, Nat.reduceMul, Nat.reduceLT, Nat.reduceLeDiff, Nat.reduceBEq, Int.reduceEq, Int.reduceLT, Int.reduceLE, Int.reduceToNat, Int.reduceNeg, Int.reduceAdd, Int.reduceSub, Int.reduceMul, Int.reduceMod, Int.reduceDiv, reduceCtorEq, Nat.reducePow, Int.reducePow, loopN_succ, ac_registers_active_L0, actM, e0, e1, BitVec.reduceOfInt, BitVec.reduceOr, BitVec.reduceToNat]
  · by_cases e1 : b1.length = 16
    · simp (config := { maxSteps := 2000000 }) (disch := (first | omega | (simp only [lens, lenm]; omega))) only [go_sem, ↓reduceIte, Nat.reduceAdd, Nat.reduceEqDiff, Nat.reduceSub, Nat.reduceMul, Nat.reduceLT, Nat.reduceLeDiff, Nat.reduceBEq, Int.reduceEq, Int.reduceLT, Int.reduceLE, Int.reduceToNat, Int.reduceNeg, Int.reduceAdd, Int.reduceSub, Int.reduceMul, Int.reduceMod, Int.reduceDiv, reduceCtorEq, Nat.reducePow, Int.reducePow, loopN_succ, ac_registers_active_L0, actM, e0, e1, BitVec.reduceOfInt, BitVec.reduceOr, BitVec.reduceToNat]
    · simp (config := { maxSteps := 2000000 }) (disch := (first | omega | (simp only [lens, lenm]; omega))) only [go_sem, ↓reduceIte, Nat.reduceAdd, Nat.reduceEqDiff, Nat.reduceSub, Nat.reduceMul, Nat.reduceLT, Nat.reduceLeDiff, Nat.reduceBEq, Int.reduceEq, Int.reduceLT, Int.reduceLE, Int.reduceToNat, Int.reduceNeg, Int.reduceAdd, Int.reduceSub, Int.reduceMul, Int.reduceMod, Int.reduceDiv, reduceCtorEq, Nat.reducePow, Int.reducePow, loopN_succ, ac_registers_active_L0, actM, e0, e1, BitVec.reduceOfInt, BitVec.reduceOr, BitVec.reduceToNat]
inductive RK : List Bank → Prop
  | nil : RK []
  | two (b0 b1 : Bank) (h0 : bkOk b0) (h1 : bkOk b1) : RK [b0, b1]
def actI : List Bank → Int
  | [b0, b1] => actM b0 b1
  | _ => 0
theorem bankT_inj {a b : Bank} (h : bankT a = bankT b) : a = b := by
  simpa [bankT, mapBs_inj] using h
theorem regT_inj {a b : List Bank} {u v : Int} (h : regT a u = regT b v) : a = b ∧ u = v := by
  simp only [regT, T.agg.injEq, List.cons.injEq, T.sl.injEq, T.int.injEq, true_and, and_true] at h
  exact ⟨map_inj' (fun _ _ => bankT_inj) h.1, h.2⟩
def ct_active : Ct where
  α := List Bank × Int
  as x := [.t (regT x.1 x.2)]
  ins _ := []
  pre x := RK x.1
  r x := .t (.int .i64 (actI x.1))
  outs _ := []
  inj := by
    rintro ⟨a, u⟩ ⟨b, v⟩ h _
    simp only [List.cons.injEq, V.t.injEq, and_true] at h
    obtain ⟨rfl, rfl⟩ := regT_inj h
    exact ⟨rfl, rfl⟩
theorem active_eq {bk : List Bank} {u : Int} (h : RK bk) : ct_active.fs [.t (.agg [.sl (bk.map bankT), .int .i64 u])] [] = some (.t (.int .i64 (actI bk)), []) := ct_active.eq (bk, u) h
def onB (bk : List Bank) (a : Nat) : Bool := decide ((bk.getD a []).length = 16)
theorem w_registers_on (tab : Tab) (gl : Gl) (n1 : Nat) (h1 : tab.look n1 = some ct_active.fs) (bk : List Bank) (u : Int) (hk : RK bk) (a : Nat) (ha : a < 2) : (ac_registers_on n1).wp tab gl (zipF 0 [.t (regT bk u), .t (.int .i64 a)]) (zipF 0 []) (resW [(4, none)] 0 (fun r o => r = .t (.bool (onB bk a)) ∧ o = [])) := by
  have he := active_eq (u := u) hk
  have hv : actI bk = 0 ∨ actI bk = 1 ∨ actI bk = 2 ∨ actI bk = 3 := by
    cases hk with
    | nil => left; rfl
    | two b0 b1 h0 h1 => simp only [actI, actM]; split <;> split <;> simp
  have hon : onB bk a = decide ((actI bk).toNat / 2 ^ a % 2 = 1) := by
    cases hk with
    | nil =>
      rcases (show a = 0 ∨ a = 1 by omega) with rfl | rfl <;> simp [onB, actI]
    | two b0 b1 h0 h1 =>
      rcases (show a = 0 ∨ a = 1 by omega) with rfl | rfl
      · simp only [onB, actI, actM, List.getD_cons_zero]; split <;> split <;> simp_all
      · simp only [onB, actI, actM, List.getD_cons_succ, List.getD_cons_zero]; split <;> split <;> simp_all
  rw [hon]
  rcases (show a = 0 ∨ a = 1 by omega) with rfl | rfl <;> rcases hv with hv | hv | hv | hv <;> rw [hv] at he <;> simp only [hv]
  all_goals simp (config := { maxSteps := 2000000 }) (disch := (first | omega | (simp only [lens, lenm]; omega))) only [go_sem, ↓reduceIte, Nat.reduceAdd, Nat.reduceEqDiff, Nat.reduceSub, Nat.reduceMul, Nat.reduceLT, Nat.reduceLeDiff, Nat.reduceBEq, Int.reduceEq, Int.reduceLT, Int.reduceLE, Int.reduceToNat, Int.reduceNeg, Int.reduceAdd, Int.reduceSub, Int.reduceMul, Int.reduceMod, Int.reduceDiv, reduceCtorEq, Nat.reducePow, Int.reducePow, ac_registers_on, h1, he, Int.reduceFDiv, Int.reduceToNat, Nat.reduceDiv, Nat.reduceMod, Int.reduceBEq]
theorem w_registers_index (tab : Tab) (gl : Gl) (i : Int) : ac_registers_index.wp tab gl (zipF 0 [.t (.int .i64 i)]) (zipF 0 []) (resW [(2, none)] 0 (fun r o => r = .t (.bool (decide (0 ≤ i ∧ i < 16))) ∧ o = [])) := by
  by_cases h : 0 ≤ i
  · by_cases h2 : i < 16
    · simp (config := { maxSteps := 2000000 }) (disch := (first | omega | (simp only [lens, lenm]; omega))) only [go_sem, ↓reduceIte, Nat.reduceAdd, Nat.reduceEqDiff, Nat.reduceSub, Nat.reduceMul, Nat.reduceLT, Nat.reduceLeDiff, Nat.reduceBEq, Int.reduceEq, Int.reduceLT, Int.reduceLE, Int.reduceToNat, Int.reduceNeg, Int.reduceAdd, Int.reduceSub, Int.reduceMul, Int.reduceMod, Int.reduceDiv, reduceCtorEq, Nat.reducePow, Int.reducePow, ac_registers_index, h, h2]
    · simp (config := { maxSteps := 2000000 }) (disch := (first | omega | (simp only [lens, lenm]; omega))) only [go_sem, ↓reduceIte, Nat.reduceAdd, Nat.reduceEqDiff, Nat.reduceSub, Nat.reduceMul, Nat.reduceLT, Nat.reduceLeDiff, Nat.reduceBEq, Int.reduceEq, Int.reduceLT, Int.reduceLE, Int.reduceToNat, Int.reduceNeg, Int.reduceAdd, Int.reduceSub, Int.reduceMul, Int.reduceMod, Int.reduceDiv, reduceCtorEq, Nat.reducePow, Int.reducePow, ac_registers_index, h, h2]
  · simp (config := { maxSteps := 2000000 }) (disch := (first | omega | (simp only [lens, lenm]; omega))) only [go_sem, ↓reduceIte, Nat.reduceAdd, Nat.reduceEqDiff, Nat.reduceSub, Nat.reduceMul, Nat.reduceLT, Nat.reduceLeDiff, Nat.reduceBEq, Int.reduceEq, Int.reduceLT, Int.reduceLE, Int.reduceToNat, Int.reduceNeg, Int.reduceAdd, Int.reduceSub, Int.reduceMul, Int.reduceMod, Int.reduceDiv, reduceCtorEq, Nat.reducePow, Int.reducePow, ac_registers_index, h]
def leastI (i : Int) (reset : Bool) : Int := if reset = true ∧ i < 12 then 5 else if i = 14 then (if reset then 3 else 2) else if i = 15 then (if reset then 4 else 3) else 0
theorem w_registers_least (tab : Tab) (gl : Gl) (i : Int) (rs : Bool) : ac_registers_least.wp tab gl (zipF 0 [.t (.int .i64 i), .t (.bool rs)]) (zipF 0 []) (resW [(4, none)] 0 (fun r o => r = .t (.int .i64 (leastI i rs)) ∧ o = [])) := by
  cases rs <;> by_cases h12 : i < 12 <;> by_cases h14 : i = 14 <;> by_cases h15 : i = 15
  all_goals try omega
  all_goals simp (config := { maxSteps := 2000000 }) (disch := (first | omega | (simp only [lens, lenm]; omega))) only [go_sem, ↓reduceIte, Nat.reduceAdd, Nat.reduceEqDiff, Nat.reduceSub, Nat.reduceMul, Nat.reduceLT, Nat.reduceLeDiff, Nat.reduceBEq, Int.reduceEq, Int.reduceLT, Int.reduceLE, Int.reduceToNat, Int.reduceNeg, Int.reduceAdd, Int.reduceSub, Int.reduceMul, Int.reduceMod, Int.reduceDiv, reduceCtorEq, Nat.reducePow, Int.reducePow, ac_registers_least, leastI, h12, h14, h15]
def actB (bk : List Bank) (a : Nat) : Bool := decide (a < bk.length) && decide (0 < (bk.getD a []).length)
theorem w_ref8_Active (tab : Tab) (gl : Gl) (bk : List Bank) (u : Int) (a : Nat) (ha : a < 1000000000) (hb : bk.length < 1000000000) (hm : ∀ b ∈ bk, b.length < 1000000000) : ac_ref8_Active.wp tab gl (zipF 0 [.t (regT bk u), .t (.int .i64 a)]) (zipF 0 []) (resW [(4, none)] 0 (fun r o => r = .t (.bool (actB bk a)) ∧ o = [])) := by
  by_cases h : a < bk.length
  · have hg : bk[a]? = some (bk.getD a []) := by simp [List.getD, h]
    have hl : (bk.getD a []).length < 1000000000 := by
      have : bk.getD a [] = bk[a] := by simp [List.getD, h]
      rw [this]; exact hm _ (List.getElem_mem h)
    by_cases h0 : 0 < (bk.getD a []).length
    · simp (config := { maxSteps := 2000000 }) (disch := (first | omega | (simp only [lens, lenm]; omega))) only [go_sem, ↓reduceIte, Nat.reduceAdd, Nat.reduceEqDiff, Nat.reduceSub, Nat.reduceMul, Nat.reduceLT, Nat.reduceLeDiff, Nat.reduceBEq, Int.reduceEq, Int.reduceLT, Int.reduceLE, Int.reduceToNat, Int.reduceNeg, Int.reduceAdd, Int.reduceSub, Int.reduceMul, Int.reduceMod, Int.reduceDiv, reduceCtorEq, Nat.reducePow, Int.reducePow, ac_ref8_Active, actB, h, hg, h0]
    · simp (config := { maxSteps := 2000000 }) (disch := (first | omega | (simp only [lens, lenm]; omega))) only [go_sem, ↓reduceIte, Nat.reduceAdd, Nat.reduceEqDiff, Nat.reduceSub, Nat.reduceMul, Nat.reduceLT, Nat.reduceLeDiff, Nat.reduceBEq, Int.reduceEq, Int.reduceLT, Int.reduceLE, Int.reduceToNat, Int.reduceNeg, Int.reduceAdd, Int.reduceSub, Int.reduceMul, Int.reduceMod, Int.reduceDiv, reduceCtorEq, Nat.reducePow, Int.reducePow, ac_ref8_Active, actB, h, hg, h0]
  · simp (config := { maxSteps := 2000000 }) (disch := (first | omega | (simp only [lens, lenm]; omega))) only [go_sem, ↓reduceIte, Nat.reduceAdd, Nat.reduceEqDiff, Nat.reduceSub, Nat.reduceMul, Nat.reduceLT, Nat.reduceLeDiff, Nat.reduceBEq, Int.reduceEq, Int.reduceLT, Int.reduceLE, Int.reduceToNat, Int.reduceNeg, Int.reduceAdd, Int.reduceSub, Int.reduceMul, Int.reduceMod, Int.reduceDiv, reduceCtorEq, Nat.reducePow, Int.reducePow, ac_ref8_Active, actB, h]
end Go.Eng
end
section
set_option maxRecDepth 20000
set_option maxHeartbeats 8000000
namespace Go.Eng
theorem w_registers_twin0 (tab : Tab) (gl : Gl) (u : Int) : ac_registers_twin.wp tab gl (zipF 0 [.t (regT [] u)]) (zipF 0 []) (resF [] [(2, some (2, true))] 0 (fun r o => r = .agg [.nil, .t (.int .i64 u)] ∧ o = [])) := by
  simp (config := { maxSteps := 2000000 }) (disch := (first | omega | (simp only [lens, lenm]; omega))) only [go_sem, ↓reduceIte, Nat.reduceAdd, Nat.reduceEqDiff, Nat.reduceSub, Nat.reduceMul, Nat.reduceLT, Nat.reduceLeDiff, Nat.reduceBEq, Int.reduceEq, Int.reduceLT, Int.reduceLE, Int.reduceToNat, Int.reduceNeg, Int.reduceAdd, Int.reduceSub, Int.reduceMul, Int.reduceMod, Int.reduceDiv, reduceCtorEq, Nat.reducePow, Int.reducePow, ac_registers_twin, List.map_nil, Int.natCast_zero]
  refine loop_fuel 1 ?_
  simp (config := { maxSteps := 2000000 }) (disch := (first | omega | (simp only [lens, lenm]; omega))) only [go_sem, ↓reduceIte, Nat.reduceAdd, Nat.reduceEqDiff, Nat.reduceSub, Nat.reduceMul, Nat.reduceLT, Nat.reduceLeDiff, Nat.reduceBEq, Int.reduceEq, Int.reduceLT, Int.reduceLE, Int.reduceToNat, Int.reduceNeg, Int.reduceAdd, Int.reduceSub, Int.reduceMul, Int.reduceMod, Int.reduceDiv, reduceCtorEq, Nat.reducePow, Int.reducePow, loopN_succ, ac_registers_twin_L0]
theorem w_registers_twin2 (tab : Tab) (gl : Gl) (b0 b1 : Bank) (u : Int) (m0 : modL b0) (m1 : modL b1) : ac_registers_twin.wp tab gl (zipF 0 [.t (regT [b0, b1] u)]) (zipF 0 []) (resF [] [(2, some (2, true))] 0 (fun r o => r = .agg [.sl 0 0 2, .t (.int .i64 u)] ∧ o = [.live 1 [.sl 1 0 b0.length, .sl 2 0 b1.length] true false, .live 1 ((b0.map bsT).map V.t) true false, .live 1 ((b1.map bsT).map V.t) true false])) := by
  simp (config := { maxSteps := 2000000 }) (disch := (first | omega | (simp only [lens, lenm]; omega))) only [go_sem, ↓reduceIte, Nat.reduceAdd, Nat.reduceEqDiff, Nat.reduceSub, Nat.reduceMul, Nat.reduceLT, Nat.reduceLeDiff, Nat.reduceBEq, Int.reduceEq, Int.reduceLT, Int.reduceLE, Int.reduceToNat, Int.reduceNeg, Int.reduceAdd, Int.reduceSub, Int.reduceMul, Int.reduceMod, Int.reduceDiv, reduceCtorEq, Nat.reducePow, Int.reducePow, ac_registers_twin, List.map_nil, List.map_cons]
  have hl0 := m0.1
  have hl1 := m1.1
  refine loop_upto 2 (fun k => match k with | 0 => [(2, .ref 4112 0 0), (3, .ref 8240 0 0), (15, .t (.int .i64 0)), (13, .t (T.sl [T.sl (List.map bsT b0), T.sl (List.map bsT b1)])), (14, .t (.int .i64 2))] | 1 => [(2, .ref 4112 0 0), (3, .ref 8240 0 0), (15, .t (.int .i64 1)), (13, .t (T.sl [T.sl (List.map bsT b0), T.sl (List.map bsT b1)])), (14, .t (.int .i64 2))] | _ => [(2, .ref 4112 0 0), (3, .ref 8240 0 0), (15, .t (.int .i64 2)), (13, .t (T.sl [T.sl (List.map bsT b0), T.sl (List.map bsT b1)])), (14, .t (.int .i64 2))]) (fun k => match k with | 0 => [(8240, .live 2 [.agg [.nil, .t (.int .i64 u)]] true true), (4112, .live 2 [.agg [.nil, .t (.int .i64 0)]] true true)] | 1 => [(8240, .live 2 [.agg [.sl 9000 0 1, .t (.int .i64 u)]] true true), (9000, .live 1 [.sl 9001 0 b0.length] true false), (9001, .live 1 ((b0.map bsT).map V.t) true false), (4112, .live 2 [.agg [.nil, .t (.int .i64 0)]] true true)] | _ => [(8240, .live 2 [.agg [.sl 9000 0 2, .t (.int .i64 u)]] true true), (9000, .live 1 [.sl 9001 0 b0.length, .sl 9002 0 b1.length] true false), (9001, .live 1 ((b0.map bsT).map V.t) true false), (9002, .live 1 ((b1.map bsT).map V.t) true false), (4112, .live 2 [.agg [.nil, .t (.int .i64 0)]] true true)]) ?_ (fun k hk => ?_)
  · refine Weak.rd id ?_ ?_ rfl
    all_goals simp (config := { maxSteps := 2000000 }) (disch := (first | omega | (simp only [lens, lenm]; omega))) only [go_sem, ↓reduceIte, Nat.reduceAdd, Nat.reduceEqDiff, Nat.reduceSub, Nat.reduceMul, Nat.reduceLT, Nat.reduceLeDiff, Nat.reduceBEq, Int.reduceEq, Int.reduceLT, Int.reduceLE, Int.reduceToNat, Int.reduceNeg, Int.reduceAdd, Int.reduceSub, Int.reduceMul, Int.reduceMod, Int.reduceDiv, reduceCtorEq, Nat.reducePow, Int.reducePow, id]
  · rcases (show k = 0 ∨ k = 1 ∨ k = 2 by omega) with rfl | rfl | rfl
    · simp (config := { maxSteps := 2000000 }) (disch := (first | omega | (simp only [lens, lenm]; omega))) only [go_sem, ↓reduceIte, Nat.reduceAdd, Nat.reduceEqDiff, Nat.reduceSub, Nat.reduceMul, Nat.reduceLT, Nat.reduceLeDiff, Nat.reduceBEq, Int.reduceEq, Int.reduceLT, Int.reduceLE, Int.reduceToNat, Int.reduceNeg, Int.reduceAdd, Int.reduceSub, Int.reduceMul, Int.reduceMod, Int.reduceDiv, reduceCtorEq, Nat.reducePow, Int.reducePow, ac_registers_twin_L0]
      refine loop_upto b0.length (fun i => [(2, .ref 4112 0 0), (3, .ref 8240 0 0), (15, .t (.int .i64 0)), (13, .t (T.sl [T.sl (List.map bsT b0), T.sl (List.map bsT b1)])), (14, .t (.int .i64 2)), (6, .sl 9100 0 i), (21, .t (.int .i64 (i : Nat))), (19, .t (.sl (b0.map bsT))), (20, .t (.int .i64 b0.length))]) (fun i => [(9100, .live 1 (((b0.take i).map bsT).map V.t) true false), (8240, .live 2 [.agg [.nil, .t (.int .i64 u)]] true true), (4112, .live 2 [.agg [.nil, .t (.int .i64 0)]] true true)]) ?_ (fun i hi => ?_)
      · refine Weak.cv0 (hv := [(9100, .live 1 [] true false)]) (ho := [(8240, .live 2 [.agg [.nil, .t (.int .i64 u)]] true true), (4112, .live 2 [.agg [.nil, .t (.int .i64 0)]] true true)]) id ?_ ?_ rfl rfl
        all_goals simp (config := { maxSteps := 2000000 }) (disch := (first | omega | (simp only [lens, lenm]; omega))) only [go_sem, ↓reduceIte, Nat.reduceAdd, Nat.reduceEqDiff, Nat.reduceSub, Nat.reduceMul, Nat.reduceLT, Nat.reduceLeDiff, Nat.reduceBEq, Int.reduceEq, Int.reduceLT, Int.reduceLE, Int.reduceToNat, Int.reduceNeg, Int.reduceAdd, Int.reduceSub, Int.reduceMul, Int.reduceMod, Int.reduceDiv, reduceCtorEq, Nat.reducePow, Int.reducePow, id, List.map_cons, List.map_nil]
      · have hm := modL_get m0 i
        by_cases hlt : i < b0.length
        · simp (config := { maxSteps := 2000000 }) (disch := (first | omega | (simp only [lens, lenm]; omega))) only [go_sem, ↓reduceIte, Nat.reduceAdd, Nat.reduceEqDiff, Nat.reduceSub, Nat.reduceMul, Nat.reduceLT, Nat.reduceLeDiff, Nat.reduceBEq, Int.reduceEq, Int.reduceLT, Int.reduceLE, Int.reduceToNat, Int.reduceNeg, Int.reduceAdd, Int.reduceSub, Int.reduceMul, Int.reduceMod, Int.reduceDiv, reduceCtorEq, Nat.reducePow, Int.reducePow, ac_registers_twin_L1]
          refine ⟨hlt, Weak.cv (hv := []) [40992] (fun j => if j = 9100 then 41024 else j) ?_ rfl⟩
          simp (config := { maxSteps := 2000000 }) (disch := (first | omega | (simp only [lens, lenm]; omega))) only [go_sem, ↓reduceIte, Nat.reduceAdd, Nat.reduceEqDiff, Nat.reduceSub, Nat.reduceMul, Nat.reduceLT, Nat.reduceLeDiff, Nat.reduceBEq, Int.reduceEq, Int.reduceLT, Int.reduceLE, Int.reduceToNat, Int.reduceNeg, Int.reduceAdd, Int.reduceSub, Int.reduceMul, Int.reduceMod, Int.reduceDiv, reduceCtorEq, Nat.reducePow, Int.reducePow, take_s (d := []) hlt]
          rfl
        · have e : i = b0.length := by omega
          subst e
          simp (config := { maxSteps := 2000000 }) (disch := (first | omega | (simp only [lens, lenm]; omega))) only [go_sem, ↓reduceIte, Nat.reduceAdd, Nat.reduceEqDiff, Nat.reduceSub, Nat.reduceMul, Nat.reduceLT, Nat.reduceLeDiff, Nat.reduceBEq, Int.reduceEq, Int.reduceLT, Int.reduceLE, Int.reduceToNat, Int.reduceNeg, Int.reduceAdd, Int.reduceSub, Int.reduceMul, Int.reduceMod, Int.reduceDiv, reduceCtorEq, Nat.reducePow, Int.reducePow, ac_registers_twin_L1]
          refine Weak.rd (fun j => if j = 9000 then 49216 else if j = 9001 then 9100 else j) ?_ ?_ rfl
          all_goals simp (config := { maxSteps := 2000000 }) (disch := (first | omega | (simp only [lens, lenm]; omega))) only [go_sem, ↓reduceIte, Nat.reduceAdd, Nat.reduceEqDiff, Nat.reduceSub, Nat.reduceMul, Nat.reduceLT, Nat.reduceLeDiff, Nat.reduceBEq, Int.reduceEq, Int.reduceLT, Int.reduceLE, Int.reduceToNat, Int.reduceNeg, Int.reduceAdd, Int.reduceSub, Int.reduceMul, Int.reduceMod, Int.reduceDiv, reduceCtorEq, Nat.reducePow, Int.reducePow]
    · simp (config := { maxSteps := 2000000 }) (disch := (first | omega | (simp only [lens, lenm]; omega))) only [go_sem, ↓reduceIte, Nat.reduceAdd, Nat.reduceEqDiff, Nat.reduceSub, Nat.reduceMul, Nat.reduceLT, Nat.reduceLeDiff, Nat.reduceBEq, Int.reduceEq, Int.reduceLT, Int.reduceLE, Int.reduceToNat, Int.reduceNeg, Int.reduceAdd, Int.reduceSub, Int.reduceMul, Int.reduceMod, Int.reduceDiv, reduceCtorEq, Nat.reducePow, Int.reducePow, ac_registers_twin_L0]
      refine loop_upto b1.length (fun i => [(2, .ref 4112 0 0), (3, .ref 8240 0 0), (15, .t (.int .i64 1)), (13, .t (T.sl [T.sl (List.map bsT b0), T.sl (List.map bsT b1)])), (14, .t (.int .i64 2)), (6, .sl 9100 0 i), (21, .t (.int .i64 (i : Nat))), (19, .t (.sl (b1.map bsT))), (20, .t (.int .i64 b1.length))]) (fun i => [(9100, .live 1 (((b1.take i).map bsT).map V.t) true false), (8240, .live 2 [.agg [.sl 9000 0 1, .t (.int .i64 u)]] true true), (9000, .live 1 [.sl 9001 0 b0.length] true false), (9001, .live 1 ((b0.map bsT).map V.t) true false), (4112, .live 2 [.agg [.nil, .t (.int .i64 0)]] true true)]) ?_ (fun i hi => ?_)
      · refine Weak.cv0 (hv := [(9100, .live 1 [] true false)]) (ho := [(8240, .live 2 [.agg [.sl 9000 0 1, .t (.int .i64 u)]] true true), (9000, .live 1 [.sl 9001 0 b0.length] true false), (9001, .live 1 ((b0.map bsT).map V.t) true false), (4112, .live 2 [.agg [.nil, .t (.int .i64 0)]] true true)]) id ?_ ?_ rfl rfl
        all_goals simp (config := { maxSteps := 2000000 }) (disch := (first | omega | (simp only [lens, lenm]; omega))) only [go_sem, ↓reduceIte, Nat.reduceAdd, Nat.reduceEqDiff, Nat.reduceSub, Nat.reduceMul, Nat.reduceLT, Nat.reduceLeDiff, Nat.reduceBEq, Int.reduceEq, Int.reduceLT, Int.reduceLE, Int.reduceToNat, Int.reduceNeg, Int.reduceAdd, Int.reduceSub, Int.reduceMul, Int.reduceMod, Int.reduceDiv, reduceCtorEq, Nat.reducePow, Int.reducePow, id, List.map_cons, List.map_nil]
      · have hm := modL_get m1 i
        by_cases hlt : i < b1.length
        · simp (config := { maxSteps := 2000000 }) (disch := (first | omega | (simp only [lens, lenm]; omega))) only [go_sem, ↓reduceIte, Nat.reduceAdd, Nat.reduceEqDiff, Nat.reduceSub, Nat.reduceMul, Nat.reduceLT, Nat.reduceLeDiff, Nat.reduceBEq, Int.reduceEq, Int.reduceLT, Int.reduceLE, Int.reduceToNat, Int.reduceNeg, Int.reduceAdd, Int.reduceSub, Int.reduceMul, Int.reduceMod, Int.reduceDiv, reduceCtorEq, Nat.reducePow, Int.reducePow, ac_registers_twin_L1]
          refine ⟨hlt, Weak.cv (hv := []) [40992] (fun j => if j = 9100 then 41024 else j) ?_ rfl⟩
          simp (config := { maxSteps := 2000000 }) (disch := (first | omega | (simp only [lens, lenm]; omega))) only [go_sem, ↓reduceIte, Nat.reduceAdd, Nat.reduceEqDiff, Nat.reduceSub, Nat.reduceMul, Nat.reduceLT, Nat.reduceLeDiff, Nat.reduceBEq, Int.reduceEq, Int.reduceLT, Int.reduceLE, Int.reduceToNat, Int.reduceNeg, Int.reduceAdd, Int.reduceSub, Int.reduceMul, Int.reduceMod, Int.reduceDiv, reduceCtorEq, Nat.reducePow, Int.reducePow, take_s (d := []) hlt]
          rfl
        · have e : i = b1.length := by omega
          subst e
          simp (config := { maxSteps := 2000000 }) (disch := (first | omega | (simp only [lens, lenm]; omega))) only [go_sem, ↓reduceIte, Nat.reduceAdd, Nat.reduceEqDiff, Nat.reduceSub, Nat.reduceMul, Nat.reduceLT, Nat.reduceLeDiff, Nat.reduceBEq, Int.reduceEq, Int.reduceLT, Int.reduceLE, Int.reduceToNat, Int.reduceNeg, Int.reduceAdd, Int.reduceSub, Int.reduceMul, Int.reduceMod, Int.reduceDiv, reduceCtorEq, Nat.reducePow, Int.reducePow, ac_registers_twin_L1]
          refine Weak.rd (fun j => if j = 9000 then 49216 else if j = 9002 then 9100 else j) ?_ ?_ rfl
          all_goals simp (config := { maxSteps := 2000000 }) (disch := (first | omega | (simp only [lens, lenm]; omega))) only [go_sem, ↓reduceIte, Nat.reduceAdd, Nat.reduceEqDiff, Nat.reduceSub, Nat.reduceMul, Nat.reduceLT, Nat.reduceLeDiff, Nat.reduceBEq, Int.reduceEq, Int.reduceLT, Int.reduceLE, Int.reduceToNat, Int.reduceNeg, Int.reduceAdd, Int.reduceSub, Int.reduceMul, Int.reduceMod, Int.reduceDiv, reduceCtorEq, Nat.reducePow, Int.reducePow]
    · simp (config := { maxSteps := 2000000 }) (disch := (first | omega | (simp only [lens, lenm]; omega))) only [go_sem, ↓reduceIte, Nat.reduceAdd, Nat.reduceEqDiff, Nat.reduceSub, Nat.reduceMul, Nat.reduceLT, Nat.reduceLeDiff, Nat.reduceBEq, Int.reduceEq, Int.reduceLT, Int.reduceLE, Int.reduceToNat, Int.reduceNeg, Int.reduceAdd, Int.reduceSub, Int.reduceMul, Int.reduceMod, Int.reduceDiv, reduceCtorEq, Nat.reducePow, Int.reducePow, ac_registers_twin_L0]
def twR (bk : List Bank) (u : Int) : V := match bk with
  | [_, _] => .agg [.sl 0 0 2, .t (.int .i64 u)]
  | _ => .agg [.nil, .t (.int .i64 u)]
def twO (bk : List Bank) : List Ob := match bk with
  | [b0, b1] => [.live 1 [.sl 1 0 b0.length, .sl 2 0 b1.length] true false, .live 1 ((b0.map bsT).map V.t) true false, .live 1 ((b1.map bsT).map V.t) true false]
  | _ => []
def RM (bk : List Bank) : Prop := RK bk ∧ ∀ b ∈ bk, modL b
def ct_twin : Ct where
  α := List Bank × Int
  as x := [.t (regT x.1 x.2)]
  ins _ := []
  pre x := RM x.1
  r x := twR x.1 x.2
  outs x := twO x.1
  inj := by
    rintro ⟨a, u⟩ ⟨b, v⟩ h _
    simp only [List.cons.injEq, V.t.injEq, and_true] at h
    obtain ⟨rfl, rfl⟩ := regT_inj h
    exact ⟨rfl, rfl⟩
theorem twin_eq0 {u : Int} : ct_twin.fs [.t (.agg [.sl [], .int .i64 u])] [] = some (.agg [.nil, .t (.int .i64 u)], []) := ct_twin.eq ([], u) ⟨.nil, by simp⟩
theorem twin_eq2 {b0 b1 : Bank} {u : Int} (h : RM [b0, b1]) : ct_twin.fs [.t (.agg [.sl [.sl (b0.map bsT), .sl (b1.map bsT)], .int .i64 u])] [] =
    some (.agg [.sl 0 0 2, .t (.int .i64 u)], [.live 1 [.sl 1 0 b0.length, .sl 2 0 b1.length] true false, .live 1 ((b0.map bsT).map V.t) true false, .live 1 ((b1.map bsT).map V.t) true false]) := ct_twin.eq ([b0, b1], u) h
end Go.Eng
end
section
set_option maxRecDepth 20000
set_option maxHeartbeats 16000000
namespace Go.Eng
def newV (i : Nat) : UInt8 := if 12 ≤ i then 255 else 0
theorem newV_a {i : Nat} (h : i < 12) : newV i = 0 := if_neg (by omega)
theorem newV_b {i : Nat} (h : ¬ i < 12) : newV i = 255 := if_pos (by omega)
def newB (a : Nat) : Bank := (List.range 16).map fun i => List.replicate (szA a) (newV i)
theorem newB_take {a i : Nat} (h : i < 16) : (newB a).take (i + 1) = (newB a).take i ++ [List.replicate (szA a) (newV i)] := by
  rw [take_s (d := []) (by simp [newB]; omega)]
  congr 2
  simp [newB, List.getD, h]
theorem newB_all {a : Nat} : (newB a).take 16 = newB a := List.take_of_length_le (by simp [newB])
theorem newB_length {a : Nat} : List.length (newB a) = 16 := by simp [newB]
def newBk (s : Int) : List Bank := if s % 4 = 0 then [] else [if s % 2 = 1 then newB 0 else [], if s / 2 % 2 = 1 then newB 1 else []]
theorem newBk_of {s : Int} (h : ¬ s % 4 = 0) : newBk s = [if s % 2 = 1 then newB 0 else [], if s / 2 % 2 = 1 then newB 1 else []] := if_neg h
def ct_size : Ct where
  α := Int
  as x := [.t (.int .i64 x)]
  ins _ := []
  pre _ := True
  r x := .t (.int .i64 (if x = 0 then 20 else if x = 1 then 32 else 0))
  outs _ := []
  inj := by
    intro a b h _
    simp at h
    subst h; exact ⟨rfl, rfl⟩
theorem size_eq0 : ct_size.fs [.t (.int .i64 0)] [] = some (.t (.int .i64 20), []) := ct_size.eq (0 : Int) trivial
theorem size_eq1 : ct_size.fs [.t (.int .i64 1)] [] = some (.t (.int .i64 32), []) := ct_size.eq (1 : Int) trivial
def ct_fill : Ct where
  α := Nat × UInt8
  as x := [.t (.int .i64 x.1), .t (byteT x.2)]
  ins _ := []
  pre x := x.1 = 20 ∨ x.1 = 32
  r x := .sl 0 0 x.1
  outs x := [.live 1 (((List.replicate x.1 x.2).map byteT).map V.t) true false]
  inj := by
    rintro ⟨a, b⟩ ⟨c, d⟩ h _
    simp [byteT_eq, Int.natCast_inj] at h
    obtain ⟨rfl, rfl⟩ := h
    exact ⟨rfl, rfl⟩
theorem fill_eq20 {x : UInt8} : ct_fill.fs [.t (.int .i64 20), .t (byteT x)] [] = some (.sl 0 0 20, [.live 1 (((List.replicate 20 x).map byteT).map V.t) true false]) := ct_fill.eq (20, x) (.inl rfl)
theorem fill_eq32 {x : UInt8} : ct_fill.fs [.t (.int .i64 32), .t (byteT x)] [] = some (.sl 0 0 32, [.live 1 (((List.replicate 32 x).map byteT).map V.t) true false]) := ct_fill.eq (32, x) (.inr rfl)
theorem w_ref8_initial (tab : Tab) (gl : Gl) (n1 n2 : Nat) (h1 : tab.look n1 = some ct_size.fs) (h2 : tab.look n2 = some ct_fill.fs) (a : Nat) (ha : a < 2) (i : Nat) : (ac_ref8_initial n1 n2).wp tab gl (zipF 0 [.t (.int .i64 a), .t (.int .i64 i)]) (zipF 0 []) (resF [] [(4, none)] 0 (fun r o => r = .sl 0 0 (szA a) ∧ o = [.live 1 (((List.replicate (szA a) (newV i)).map byteT).map V.t) true false])) := by
  rcases (show a = 0 ∨ a = 1 by omega) with rfl | rfl <;> by_cases hi : i < 12
  all_goals simp (config := { maxSteps := 2000000 }) (disch := (first | omega | (simp only [lens, lenm]; omega))) only [go_sem, ↓reduceIte, Nat.reduceAdd, Nat.reduceEqDiff, Nat.reduceSub, Nat.reduceMul, Nat.reduceLT, Nat.reduceLeDiff, Nat.reduceBEq, Int.reduceEq, Int.reduceLT, Int.reduceLE, Int.reduceToNat, Int.reduceNeg, Int.reduceAdd, Int.reduceSub, Int.reduceMul, Int.reduceMod, Int.reduceDiv, reduceCtorEq, Nat.reducePow, Int.reducePow, ac_ref8_initial, h1, h2, size_eq0, size_eq1, fill_eq20, fill_eq32, szA]
  all_goals first | rw [newV_a hi] | rw [newV_b hi]
def ct_init : Ct where
  α := Nat × Nat
  as x := [.t (.int .i64 x.1), .t (.int .i64 x.2)]
  ins _ := []
  pre x := x.1 < 2
  r x := .sl 0 0 (szA x.1)
  outs x := [.live 1 (((List.replicate (szA x.1) (newV x.2)).map byteT).map V.t) true false]
  inj := by
    rintro ⟨a, b⟩ ⟨c, d⟩ h _
    simp [Int.natCast_inj] at h
    obtain ⟨rfl, rfl⟩ := h
    exact ⟨rfl, rfl⟩
theorem init_eq0 {i : Nat} : ct_init.fs [.t (.int .i64 0), .t (.int .i64 i)] [] = some (.sl 0 0 20, [.live 1 (((List.replicate 20 (newV i)).map byteT).map V.t) true false]) := ct_init.eq (0, i) (by simp [ct_init])
theorem init_eq1 {i : Nat} : ct_init.fs [.t (.int .i64 1), .t (.int .i64 i)] [] = some (.sl 0 0 32, [.live 1 (((List.replicate 32 (newV i)).map byteT).map V.t) true false]) := ct_init.eq (1, i) (by simp [ct_init])
theorem w_registers_New0 (tab : Tab) (gl : Gl) (n1 n2 : Nat) (s : Int) (h3 : s % 4 = 0) : (ac_registers_New n1 n2).wp tab gl (zipF 0 [.t (.int .i64 s)]) (zipF 0 []) (resF [] [(2, some (2, true))] 0 (fun r o => r = .agg [.nil, .t (.int .i64 0)] ∧ o = [])) := by
  simp (config := { maxSteps := 2000000 }) (disch := (first | omega | (simp only [lens, lenm]; omega))) only [go_sem, ↓reduceIte, Nat.reduceAdd, Nat.reduceEqDiff, Nat.reduceSub, Nat.reduceMul, Nat.reduceLT, Nat.reduceLeDiff, Nat.reduceBEq, Int.reduceEq, Int.reduceLT, Int.reduceLE, Int.reduceToNat, Int.reduceNeg, Int.reduceAdd, Int.reduceSub, Int.reduceMul, Int.reduceMod, Int.reduceDiv, reduceCtorEq, Nat.reducePow, Int.reducePow, ac_registers_New, h3]
theorem w_ref8_New0 (tab : Tab) (gl : Gl) (n1 : Nat) (s : Int) (h3 : s % 4 = 0) : (ac_ref8_New n1).wp tab gl (zipF 0 [.t (.int .i64 s)]) (zipF 0 []) (resF [] [(2, some (2, true))] 0 (fun r o => r = .agg [.nil, .t (.int .i64 0)] ∧ o = [])) := by
  simp (config := { maxSteps := 2000000 }) (disch := (first | omega | (simp only [lens, lenm]; omega))) only [go_sem, ↓reduceIte, Nat.reduceAdd, Nat.reduceEqDiff, Nat.reduceSub, Nat.reduceMul, Nat.reduceLT, Nat.reduceLeDiff, Nat.reduceBEq, Int.reduceEq, Int.reduceLT, Int.reduceLE, Int.reduceToNat, Int.reduceNeg, Int.reduceAdd, Int.reduceSub, Int.reduceMul, Int.reduceMod, Int.reduceDiv, reduceCtorEq, Nat.reducePow, Int.reducePow, ac_ref8_New, h3]
theorem w_registers_New (tab : Tab) (gl : Gl) (n1 n2 : Nat) (h1 : tab.look n1 = some ct_size.fs) (h2 : tab.look n2 = some ct_fill.fs) (s : Int) (h3 : ¬ s % 4 = 0) : (ac_registers_New n1 n2).wp tab gl (zipF 0 [.t (.int .i64 s)]) (zipF 0 []) (resF [] [(2, some (2, true))] 0 (fun r o => r = twR (newBk s) 0 ∧ o = twO (newBk s))) := by
  have h4 : (s % 4 == 0) = false := by simpa using h3
  have hf1 : s.fdiv 1 = s := Int.fdiv_one s
  have hf2 : s.fdiv 2 = s / 2 := Int.fdiv_eq_ediv_of_nonneg s (by omega)
  have hc0 : s % 2 = 0 ∨ s % 2 = 1 := by omega
  have hc1 : s / 2 % 2 = 0 ∨ s / 2 % 2 = 1 := by omega
  rcases hc0 with c0 | c0 <;> rcases hc1 with c1 | c1
  · exact absurd (by omega) h3
  · rw [newBk_of h3, if_neg (by omega), if_pos (by omega)]
    simp (config := { maxSteps := 2000000 }) (disch := (first | omega | (simp only [lens, lenm]; omega))) only [go_sem, ↓reduceIte, Nat.reduceAdd, Nat.reduceEqDiff, Nat.reduceSub, Nat.reduceMul, Nat.reduceLT, Nat.reduceLeDiff, Nat.reduceBEq, Int.reduceEq, Int.reduceLT, Int.reduceLE, Int.reduceToNat, Int.reduceNeg, Int.reduceAdd, Int.reduceSub, Int.reduceMul, Int.reduceMod, Int.reduceDiv, reduceCtorEq, Nat.reducePow, Int.reducePow, ac_registers_New, h4, hf1, hf2]
    refine loop_upto 2 (fun k => match k with | 0 => [(0, .t (.int .i64 s)), (2, .ref 4096 0 0), (3, .ref 16384 0 0), (12, .t (.int .i64 0))] | 1 => [(0, .t (.int .i64 s)), (2, .ref 4096 0 0), (3, .ref 16384 0 0), (12, .t (.int .i64 1))] | _ => [(0, .t (.int .i64 s)), (2, .ref 4096 0 0), (3, .ref 16384 0 0), (12, .t (.int .i64 2))]) (fun k => match k with | 0 => [(16384, .live 2 [.agg [.nil, .t (.int .i64 0)]] true true), (4096, .live 2 [.agg [.nil, .t (.int .i64 0)]] true true)] | 1 => [(16384, .live 2 [.agg [.sl 9000 0 1, .t (.int .i64 0)]] true true), (9000, .live 1 [.sl 9001 0 0] true false), (9001, .live 1 ((([] : Bank).map bsT).map V.t) true false), (4096, .live 2 [.agg [.nil, .t (.int .i64 0)]] true true)] | _ => [(16384, .live 2 [.agg [.sl 9000 0 2, .t (.int .i64 0)]] true true), (9000, .live 1 [.sl 9001 0 0, .sl 9002 0 16] true false), (9001, .live 1 ((([] : Bank).map bsT).map V.t) true false), (9002, .live 1 (((newB 1 : Bank).map bsT).map V.t) true false), (4096, .live 2 [.agg [.nil, .t (.int .i64 0)]] true true)]) ?_ (fun k hk => ?_)
    · refine Weak.rd id ?_ ?_ rfl
      all_goals simp (config := { maxSteps := 2000000 }) (disch := (first | omega | (simp only [lens, lenm]; omega))) only [go_sem, ↓reduceIte, Nat.reduceAdd, Nat.reduceEqDiff, Nat.reduceSub, Nat.reduceMul, Nat.reduceLT, Nat.reduceLeDiff, Nat.reduceBEq, Int.reduceEq, Int.reduceLT, Int.reduceLE, Int.reduceToNat, Int.reduceNeg, Int.reduceAdd, Int.reduceSub, Int.reduceMul, Int.reduceMod, Int.reduceDiv, reduceCtorEq, Nat.reducePow, Int.reducePow, id]
    · rcases (show k = 0 ∨ k = 1 ∨ k = 2 by omega) with rfl | rfl | rfl
      · simp (config := { maxSteps := 2000000 }) (disch := (first | omega | (simp only [lens, lenm]; omega))) only [go_sem, ↓reduceIte, Nat.reduceAdd, Nat.reduceEqDiff, Nat.reduceSub, Nat.reduceMul, Nat.reduceLT, Nat.reduceLeDiff, Nat.reduceBEq, Int.reduceEq, Int.reduceLT, Int.reduceLE, Int.reduceToNat, Int.reduceNeg, Int.reduceAdd, Int.reduceSub, Int.reduceMul, Int.reduceMod, Int.reduceDiv, reduceCtorEq, Nat.reducePow, Int.reducePow, ac_registers_New_L0, c0, c1, newB_length, h1, h2, size_eq0, size_eq1, fill_eq20, fill_eq32, hf1, hf2]
        refine loop_fuel 1 ?_
        simp (config := { maxSteps := 2000000 }) (disch := (first | omega | (simp only [lens, lenm]; omega))) only [go_sem, ↓reduceIte, Nat.reduceAdd, Nat.reduceEqDiff, Nat.reduceSub, Nat.reduceMul, Nat.reduceLT, Nat.reduceLeDiff, Nat.reduceBEq, Int.reduceEq, Int.reduceLT, Int.reduceLE, Int.reduceToNat, Int.reduceNeg, Int.reduceAdd, Int.reduceSub, Int.reduceMul, Int.reduceMod, Int.reduceDiv, reduceCtorEq, Nat.reducePow, Int.reducePow, loopN_succ, ac_registers_New_L1, c0, c1, newB_length, h1, h2, size_eq0, size_eq1, fill_eq20, fill_eq32, hf1, hf2]
        refine Weak.trans (fs' := [(0, .t (.int .i64 s)), (2, .ref 4096 0 0), (3, .ref 16384 0 0), (12, .t (.int .i64 1))]) (Weak.cv0 (hv := [(9001, .live 1 [] true false)]) (ho := [(16384, .live 2 [.agg [.sl 9000 0 1, .t (.int .i64 0)]] true true), (9000, .live 1 [.sl 9001 0 0] true false), (4096, .live 2 [.agg [.nil, .t (.int .i64 0)]] true true)]) (fun j => if j = 9000 then 65600 else j) ?_ ?_ rfl rfl) (Weak.rd id ?_ ?_ rfl)
        all_goals simp (config := { maxSteps := 2000000 }) (disch := (first | omega | (simp only [lens, lenm]; omega))) only [go_sem, ↓reduceIte, Nat.reduceAdd, Nat.reduceEqDiff, Nat.reduceSub, Nat.reduceMul, Nat.reduceLT, Nat.reduceLeDiff, Nat.reduceBEq, Int.reduceEq, Int.reduceLT, Int.reduceLE, Int.reduceToNat, Int.reduceNeg, Int.reduceAdd, Int.reduceSub, Int.reduceMul, Int.reduceMod, Int.reduceDiv, reduceCtorEq, Nat.reducePow, Int.reducePow, List.map_cons, List.map_nil, id]
      · simp (config := { maxSteps := 2000000 }) (disch := (first | omega | (simp only [lens, lenm]; omega))) only [go_sem, ↓reduceIte, Nat.reduceAdd, Nat.reduceEqDiff, Nat.reduceSub, Nat.reduceMul, Nat.reduceLT, Nat.reduceLeDiff, Nat.reduceBEq, Int.reduceEq, Int.reduceLT, Int.reduceLE, Int.reduceToNat, Int.reduceNeg, Int.reduceAdd, Int.reduceSub, Int.reduceMul, Int.reduceMod, Int.reduceDiv, reduceCtorEq, Nat.reducePow, Int.reducePow, ac_registers_New_L0, c0, c1, newB_length, h1, h2, size_eq0, size_eq1, fill_eq20, fill_eq32, hf1, hf2]
        refine loop_upto 16 (fun i => [(0, .t (.int .i64 s)), (2, .ref 4096 0 0), (3, .ref 16384 0 0), (12, .t (.int .i64 1)), (4, .t (.int .i64 1)), (5, .sl 9100 0 i), (6, .t (.int .i64 (i : Nat)))]) (fun i => [(9100, .live 1 ((((newB 1).take i).map bsT).map V.t) true false), (16384, .live 2 [.agg [.sl 9000 0 1, .t (.int .i64 0)]] true true), (9000, .live 1 [.sl 9001 0 0] true false), (9001, .live 1 ((([] : Bank).map bsT).map V.t) true false), (4096, .live 2 [.agg [.nil, .t (.int .i64 0)]] true true)]) ?_ (fun i hi => ?_)
        · refine Weak.cv0 (hv := [(9100, .live 1 [] true false)]) (ho := [(16384, .live 2 [.agg [.sl 9000 0 1, .t (.int .i64 0)]] true true), (9000, .live 1 [.sl 9001 0 0] true false), (9001, .live 1 ((([] : Bank).map bsT).map V.t) true false), (4096, .live 2 [.agg [.nil, .t (.int .i64 0)]] true true)]) id ?_ ?_ rfl rfl
          all_goals simp (config := { maxSteps := 2000000 }) (disch := (first | omega | (simp only [lens, lenm]; omega))) only [go_sem, ↓reduceIte, Nat.reduceAdd, Nat.reduceEqDiff, Nat.reduceSub, Nat.reduceMul, Nat.reduceLT, Nat.reduceLeDiff, Nat.reduceBEq, Int.reduceEq, Int.reduceLT, Int.reduceLE, Int.reduceToNat, Int.reduceNeg, Int.reduceAdd, Int.reduceSub, Int.reduceMul, Int.reduceMod, Int.reduceDiv, reduceCtorEq, Nat.reducePow, Int.reducePow, List.map_cons, List.map_nil, id]
        · by_cases hlt : i < 16
          · by_cases h12 : i < 12
            · simp (config := { maxSteps := 2000000 }) (disch := (first | omega | (simp only [lens, lenm]; omega))) only [go_sem, ↓reduceIte, Nat.reduceAdd, Nat.reduceEqDiff, Nat.reduceSub, Nat.reduceMul, Nat.reduceLT, Nat.reduceLeDiff, Nat.reduceBEq, Int.reduceEq, Int.reduceLT, Int.reduceLE, Int.reduceToNat, Int.reduceNeg, Int.reduceAdd, Int.reduceSub, Int.reduceMul, Int.reduceMod, Int.reduceDiv, reduceCtorEq, Nat.reducePow, Int.reducePow, ac_registers_New_L1, c0, c1, newB_length, h1, h2, size_eq0, size_eq1, fill_eq20, fill_eq32, hf1, hf2]
              refine ⟨hlt, Weak.cv (hv := []) [61504] (fun j => if j = 9100 then 61536 else j) ?_ rfl⟩
              simp (config := { maxSteps := 2000000 }) (disch := (first | omega | (simp only [lens, lenm]; omega))) only [go_sem, ↓reduceIte, Nat.reduceAdd, Nat.reduceEqDiff, Nat.reduceSub, Nat.reduceMul, Nat.reduceLT, Nat.reduceLeDiff, Nat.reduceBEq, Int.reduceEq, Int.reduceLT, Int.reduceLE, Int.reduceToNat, Int.reduceNeg, Int.reduceAdd, Int.reduceSub, Int.reduceMul, Int.reduceMod, Int.reduceDiv, reduceCtorEq, Nat.reducePow, Int.reducePow, newB_take hlt, szA, List.take_replicate, Nat.min_self, newV_a h12]
              rfl
            · simp (config := { maxSteps := 2000000 }) (disch := (first | omega | (simp only [lens, lenm]; omega))) only [go_sem, ↓reduceIte, Nat.reduceAdd, Nat.reduceEqDiff, Nat.reduceSub, Nat.reduceMul, Nat.reduceLT, Nat.reduceLeDiff, Nat.reduceBEq, Int.reduceEq, Int.reduceLT, Int.reduceLE, Int.reduceToNat, Int.reduceNeg, Int.reduceAdd, Int.reduceSub, Int.reduceMul, Int.reduceMod, Int.reduceDiv, reduceCtorEq, Nat.reducePow, Int.reducePow, ac_registers_New_L1, c0, c1, newB_length, h1, h2, size_eq0, size_eq1, fill_eq20, fill_eq32, hf1, hf2]
              refine ⟨hlt, Weak.cv (hv := []) [61504] (fun j => if j = 9100 then 61536 else j) ?_ rfl⟩
              simp (config := { maxSteps := 2000000 }) (disch := (first | omega | (simp only [lens, lenm]; omega))) only [go_sem, ↓reduceIte, Nat.reduceAdd, Nat.reduceEqDiff, Nat.reduceSub, Nat.reduceMul, Nat.reduceLT, Nat.reduceLeDiff, Nat.reduceBEq, Int.reduceEq, Int.reduceLT, Int.reduceLE, Int.reduceToNat, Int.reduceNeg, Int.reduceAdd, Int.reduceSub, Int.reduceMul, Int.reduceMod, Int.reduceDiv, reduceCtorEq, Nat.reducePow, Int.reducePow, newB_take hlt, szA, List.take_replicate, Nat.min_self, newV_b h12]
              rfl
          · have e : i = 16 := by omega
            subst e
            simp (config := { maxSteps := 2000000 }) (disch := (first | omega | (simp only [lens, lenm]; omega))) only [go_sem, ↓reduceIte, Nat.reduceAdd, Nat.reduceEqDiff, Nat.reduceSub, Nat.reduceMul, Nat.reduceLT, Nat.reduceLeDiff, Nat.reduceBEq, Int.reduceEq, Int.reduceLT, Int.reduceLE, Int.reduceToNat, Int.reduceNeg, Int.reduceAdd, Int.reduceSub, Int.reduceMul, Int.reduceMod, Int.reduceDiv, reduceCtorEq, Nat.reducePow, Int.reducePow, ac_registers_New_L1, c0, c1, newB_length, h1, h2, size_eq0, size_eq1, fill_eq20, fill_eq32, hf1, hf2]
            refine Weak.rd (fun j => if j = 9000 then 65600 else if j = 9002 then 9100 else j) ?_ ?_ rfl
            all_goals simp (config := { maxSteps := 2000000 }) (disch := (first | omega | (simp only [lens, lenm]; omega))) only [go_sem, ↓reduceIte, Nat.reduceAdd, Nat.reduceEqDiff, Nat.reduceSub, Nat.reduceMul, Nat.reduceLT, Nat.reduceLeDiff, Nat.reduceBEq, Int.reduceEq, Int.reduceLT, Int.reduceLE, Int.reduceToNat, Int.reduceNeg, Int.reduceAdd, Int.reduceSub, Int.reduceMul, Int.reduceMod, Int.reduceDiv, reduceCtorEq, Nat.reducePow, Int.reducePow, newB_all]
      · simp (config := { maxSteps := 2000000 }) (disch := (first | omega | (simp only [lens, lenm]; omega))) only [go_sem, ↓reduceIte, Nat.reduceAdd, Nat.reduceEqDiff, Nat.reduceSub, Nat.reduceMul, Nat.reduceLT, Nat.reduceLeDiff, Nat.reduceBEq, Int.reduceEq, Int.reduceLT, Int.reduceLE, Int.reduceToNat, Int.reduceNeg, Int.reduceAdd, Int.reduceSub, Int.reduceMul, Int.reduceMod, Int.reduceDiv, reduceCtorEq, Nat.reducePow, Int.reducePow, ac_registers_New_L0, c0, c1, newB_length, h1, h2, size_eq0, size_eq1, fill_eq20, fill_eq32, hf1, hf2]
        exact ⟨rfl, rfl⟩
  · rw [newBk_of h3, if_pos (by omega), if_neg (by omega)]
    simp (config := { maxSteps := 2000000 }) (disch := (first | omega | (simp only [lens, lenm]; omega))) only [go_sem, ↓reduceIte, Nat.reduceAdd, Nat.reduceEqDiff, Nat.reduceSub, Nat.reduceMul, Nat.reduceLT, Nat.reduceLeDiff, Nat.reduceBEq, Int.reduceEq, Int.reduceLT, Int.reduceLE, Int.reduceToNat, Int.reduceNeg, Int.reduceAdd, Int.reduceSub, Int.reduceMul, Int.reduceMod, Int.reduceDiv, reduceCtorEq, Nat.reducePow, Int.reducePow, ac_registers_New, h4, hf1, hf2]
    refine loop_upto 2 (fun k => match k with | 0 => [(0, .t (.int .i64 s)), (2, .ref 4096 0 0), (3, .ref 16384 0 0), (12, .t (.int .i64 0))] | 1 => [(0, .t (.int .i64 s)), (2, .ref 4096 0 0), (3, .ref 16384 0 0), (12, .t (.int .i64 1))] | _ => [(0, .t (.int .i64 s)), (2, .ref 4096 0 0), (3, .ref 16384 0 0), (12, .t (.int .i64 2))]) (fun k => match k with | 0 => [(16384, .live 2 [.agg [.nil, .t (.int .i64 0)]] true true), (4096, .live 2 [.agg [.nil, .t (.int .i64 0)]] true true)] | 1 => [(16384, .live 2 [.agg [.sl 9000 0 1, .t (.int .i64 0)]] true true), (9000, .live 1 [.sl 9001 0 16] true false), (9001, .live 1 (((newB 0 : Bank).map bsT).map V.t) true false), (4096, .live 2 [.agg [.nil, .t (.int .i64 0)]] true true)] | _ => [(16384, .live 2 [.agg [.sl 9000 0 2, .t (.int .i64 0)]] true true), (9000, .live 1 [.sl 9001 0 16, .sl 9002 0 0] true false), (9001, .live 1 (((newB 0 : Bank).map bsT).map V.t) true false), (9002, .live 1 ((([] : Bank).map bsT).map V.t) true false), (4096, .live 2 [.agg [.nil, .t (.int .i64 0)]] true true)]) ?_ (fun k hk => ?_)
    · refine Weak.rd id ?_ ?_ rfl
      all_goals simp (config := { maxSteps := 2000000 }) (disch := (first | omega | (simp only [lens, lenm]; omega))) only [go_sem, ↓reduceIte, Nat.reduceAdd, Nat.reduceEqDiff, Nat.reduceSub, Nat.reduceMul, Nat.reduceLT, Nat.reduceLeDiff, Nat.reduceBEq, Int.reduceEq, Int.reduceLT, Int.reduceLE, Int.reduceToNat, Int.reduceNeg, Int.reduceAdd, Int.reduceSub, Int.reduceMul, Int.reduceMod, Int.reduceDiv, reduceCtorEq, Nat.reducePow, Int.reducePow, id]
    · rcases (show k = 0 ∨ k = 1 ∨ k = 2 by omega) with rfl | rfl | rfl
      · simp (config := { maxSteps := 2000000 }) (disch := (first | omega | (simp only [lens, lenm]; omega))) only [go_sem, ↓reduceIte, Nat.reduceAdd, Nat.reduceEqDiff, Nat.reduceSub, Nat.reduceMul, Nat.reduceLT, Nat.reduceLeDiff, Nat.reduceBEq, Int.reduceEq, Int.reduceLT, Int.reduceLE, Int.reduceToNat, Int.reduceNeg, Int.reduceAdd, Int.reduceSub, Int.reduceMul, Int.reduceMod, Int.reduceDiv, reduceCtorEq, Nat.reducePow, Int.reducePow, ac_registers_New_L0, c0, c1, newB_length, h1, h2, size_eq0, size_eq1, fill_eq20, fill_eq32, hf1, hf2]
        refine loop_upto 16 (fun i => [(0, .t (.int .i64 s)), (2, .ref 4096 0 0), (3, .ref 16384 0 0), (12, .t (.int .i64 0)), (4, .t (.int .i64 0)), (5, .sl 9100 0 i), (6, .t (.int .i64 (i : Nat)))]) (fun i => [(9100, .live 1 ((((newB 0).take i).map bsT).map V.t) true false), (16384, .live 2 [.agg [.nil, .t (.int .i64 0)]] true true), (4096, .live 2 [.agg [.nil, .t (.int .i64 0)]] true true)]) ?_ (fun i hi => ?_)
        · refine Weak.cv0 (hv := [(9100, .live 1 [] true false)]) (ho := [(16384, .live 2 [.agg [.nil, .t (.int .i64 0)]] true true), (4096, .live 2 [.agg [.nil, .t (.int .i64 0)]] true true)]) id ?_ ?_ rfl rfl
          all_goals simp (config := { maxSteps := 2000000 }) (disch := (first | omega | (simp only [lens, lenm]; omega))) only [go_sem, ↓reduceIte, Nat.reduceAdd, Nat.reduceEqDiff, Nat.reduceSub, Nat.reduceMul, Nat.reduceLT, Nat.reduceLeDiff, Nat.reduceBEq, Int.reduceEq, Int.reduceLT, Int.reduceLE, Int.reduceToNat, Int.reduceNeg, Int.reduceAdd, Int.reduceSub, Int.reduceMul, Int.reduceMod, Int.reduceDiv, reduceCtorEq, Nat.reducePow, Int.reducePow, List.map_cons, List.map_nil, id]
        · by_cases hlt : i < 16
          · by_cases h12 : i < 12
            · simp (config := { maxSteps := 2000000 }) (disch := (first | omega | (simp only [lens, lenm]; omega))) only [go_sem, ↓reduceIte, Nat.reduceAdd, Nat.reduceEqDiff, Nat.reduceSub, Nat.reduceMul, Nat.reduceLT, Nat.reduceLeDiff, Nat.reduceBEq, Int.reduceEq, Int.reduceLT, Int.reduceLE, Int.reduceToNat, Int.reduceNeg, Int.reduceAdd, Int.reduceSub, Int.reduceMul, Int.reduceMod, Int.reduceDiv, reduceCtorEq, Nat.reducePow, Int.reducePow, ac_registers_New_L1, c0, c1, newB_length, h1, h2, size_eq0, size_eq1, fill_eq20, fill_eq32, hf1, hf2]
              refine ⟨hlt, Weak.cv (hv := []) [61504] (fun j => if j = 9100 then 61536 else j) ?_ rfl⟩
              simp (config := { maxSteps := 2000000 }) (disch := (first | omega | (simp only [lens, lenm]; omega))) only [go_sem, ↓reduceIte, Nat.reduceAdd, Nat.reduceEqDiff, Nat.reduceSub, Nat.reduceMul, Nat.reduceLT, Nat.reduceLeDiff, Nat.reduceBEq, Int.reduceEq, Int.reduceLT, Int.reduceLE, Int.reduceToNat, Int.reduceNeg, Int.reduceAdd, Int.reduceSub, Int.reduceMul, Int.reduceMod, Int.reduceDiv, reduceCtorEq, Nat.reducePow, Int.reducePow, newB_take hlt, szA, List.take_replicate, Nat.min_self, newV_a h12]
              rfl
            · simp (config := { maxSteps := 2000000 }) (disch := (first | omega | (simp only [lens, lenm]; omega))) only [go_sem, ↓reduceIte, Nat.reduceAdd, Nat.reduceEqDiff, Nat.reduceSub, Nat.reduceMul, Nat.reduceLT, Nat.reduceLeDiff, Nat.reduceBEq, Int.reduceEq, Int.reduceLT, Int.reduceLE, Int.reduceToNat, Int.reduceNeg, Int.reduceAdd, Int.reduceSub, Int.reduceMul, Int.reduceMod, Int.reduceDiv, reduceCtorEq, Nat.reducePow, Int.reducePow, ac_registers_New_L1, c0, c1, newB_length, h1, h2, size_eq0, size_eq1, fill_eq20, fill_eq32, hf1, hf2]
              refine ⟨hlt, Weak.cv (hv := []) [61504] (fun j => if j = 9100 then 61536 else j) ?_ rfl⟩
              simp (config := { maxSteps := 2000000 }) (disch := (first | omega | (simp only [lens, lenm]; omega))) only [go_sem, ↓reduceIte, Nat.reduceAdd, Nat.reduceEqDiff, Nat.reduceSub, Nat.reduceMul, Nat.reduceLT, Nat.reduceLeDiff, Nat.reduceBEq, Int.reduceEq, Int.reduceLT, Int.reduceLE, Int.reduceToNat, Int.reduceNeg, Int.reduceAdd, Int.reduceSub, Int.reduceMul, Int.reduceMod, Int.reduceDiv, reduceCtorEq, Nat.reducePow, Int.reducePow, newB_take hlt, szA, List.take_replicate, Nat.min_self, newV_b h12]
              rfl
          · have e : i = 16 := by omega
            subst e
            simp (config := { maxSteps := 2000000 }) (disch := (first | omega | (simp only [lens, lenm]; omega))) only [go_sem, ↓reduceIte, Nat.reduceAdd, Nat.reduceEqDiff, Nat.reduceSub, Nat.reduceMul, Nat.reduceLT, Nat.reduceLeDiff, Nat.reduceBEq, Int.reduceEq, Int.reduceLT, Int.reduceLE, Int.reduceToNat, Int.reduceNeg, Int.reduceAdd, Int.reduceSub, Int.reduceMul, Int.reduceMod, Int.reduceDiv, reduceCtorEq, Nat.reducePow, Int.reducePow, ac_registers_New_L1, c0, c1, newB_length, h1, h2, size_eq0, size_eq1, fill_eq20, fill_eq32, hf1, hf2]
            refine Weak.rd (fun j => if j = 9000 then 65600 else if j = 9001 then 9100 else j) ?_ ?_ rfl
            all_goals simp (config := { maxSteps := 2000000 }) (disch := (first | omega | (simp only [lens, lenm]; omega))) only [go_sem, ↓reduceIte, Nat.reduceAdd, Nat.reduceEqDiff, Nat.reduceSub, Nat.reduceMul, Nat.reduceLT, Nat.reduceLeDiff, Nat.reduceBEq, Int.reduceEq, Int.reduceLT, Int.reduceLE, Int.reduceToNat, Int.reduceNeg, Int.reduceAdd, Int.reduceSub, Int.reduceMul, Int.reduceMod, Int.reduceDiv, reduceCtorEq, Nat.reducePow, Int.reducePow, newB_all]
      · simp (config := { maxSteps := 2000000 }) (disch := (first | omega | (simp only [lens, lenm]; omega))) only [go_sem, ↓reduceIte, Nat.reduceAdd, Nat.reduceEqDiff, Nat.reduceSub, Nat.reduceMul, Nat.reduceLT, Nat.reduceLeDiff, Nat.reduceBEq, Int.reduceEq, Int.reduceLT, Int.reduceLE, Int.reduceToNat, Int.reduceNeg, Int.reduceAdd, Int.reduceSub, Int.reduceMul, Int.reduceMod, Int.reduceDiv, reduceCtorEq, Nat.reducePow, Int.reducePow, ac_registers_New_L0, c0, c1, newB_length, h1, h2, size_eq0, size_eq1, fill_eq20, fill_eq32, hf1, hf2]
        refine loop_fuel 1 ?_
        simp (config := { maxSteps := 2000000 }) (disch := (first | omega | (simp only [lens, lenm]; omega))) only [go_sem, ↓reduceIte, Nat.reduceAdd, Nat.reduceEqDiff, Nat.reduceSub, Nat.reduceMul, Nat.reduceLT, Nat.reduceLeDiff, Nat.reduceBEq, Int.reduceEq, Int.reduceLT, Int.reduceLE, Int.reduceToNat, Int.reduceNeg, Int.reduceAdd, Int.reduceSub, Int.reduceMul, Int.reduceMod, Int.reduceDiv, reduceCtorEq, Nat.reducePow, Int.reducePow, loopN_succ, ac_registers_New_L1, c0, c1, newB_length, h1, h2, size_eq0, size_eq1, fill_eq20, fill_eq32, hf1, hf2]
        refine Weak.trans (fs' := [(0, .t (.int .i64 s)), (2, .ref 4096 0 0), (3, .ref 16384 0 0), (12, .t (.int .i64 2))]) (Weak.cv0 (hv := [(9002, .live 1 [] true false)]) (ho := [(16384, .live 2 [.agg [.sl 9000 0 2, .t (.int .i64 0)]] true true), (9000, .live 1 [.sl 9001 0 16, .sl 9002 0 0] true false), (9001, .live 1 (((newB 0 : Bank).map bsT).map V.t) true false), (4096, .live 2 [.agg [.nil, .t (.int .i64 0)]] true true)]) (fun j => if j = 9000 then 65600 else j) ?_ ?_ rfl rfl) (Weak.rd id ?_ ?_ rfl)
        all_goals simp (config := { maxSteps := 2000000 }) (disch := (first | omega | (simp only [lens, lenm]; omega))) only [go_sem, ↓reduceIte, Nat.reduceAdd, Nat.reduceEqDiff, Nat.reduceSub, Nat.reduceMul, Nat.reduceLT, Nat.reduceLeDiff, Nat.reduceBEq, Int.reduceEq, Int.reduceLT, Int.reduceLE, Int.reduceToNat, Int.reduceNeg, Int.reduceAdd, Int.reduceSub, Int.reduceMul, Int.reduceMod, Int.reduceDiv, reduceCtorEq, Nat.reducePow, Int.reducePow, List.map_cons, List.map_nil, id]
      · simp (config := { maxSteps := 2000000 }) (disch := (first | omega | (simp only [lens, lenm]; omega))) only [go_sem, ↓reduceIte, Nat.reduceAdd, Nat.reduceEqDiff, Nat.reduceSub, Nat.reduceMul, Nat.reduceLT, Nat.reduceLeDiff, Nat.reduceBEq, Int.reduceEq, Int.reduceLT, Int.reduceLE, Int.reduceToNat, Int.reduceNeg, Int.reduceAdd, Int.reduceSub, Int.reduceMul, Int.reduceMod, Int.reduceDiv, reduceCtorEq, Nat.reducePow, Int.reducePow, ac_registers_New_L0, c0, c1, newB_length, h1, h2, size_eq0, size_eq1, fill_eq20, fill_eq32, hf1, hf2]
        exact ⟨rfl, rfl⟩
  · rw [newBk_of h3, if_pos (by omega), if_pos (by omega)]
    simp (config := { maxSteps := 2000000 }) (disch := (first | omega | (simp only [lens, lenm]; omega))) only [go_sem, ↓reduceIte, Nat.reduceAdd, Nat.reduceEqDiff, Nat.reduceSub, Nat.reduceMul, Nat.reduceLT, Nat.reduceLeDiff, Nat.reduceBEq, Int.reduceEq, Int.reduceLT, Int.reduceLE, Int.reduceToNat, Int.reduceNeg, Int.reduceAdd, Int.reduceSub, Int.reduceMul, Int.reduceMod, Int.reduceDiv, reduceCtorEq, Nat.reducePow, Int.reducePow, ac_registers_New, h4, hf1, hf2]
    refine loop_upto 2 (fun k => match k with | 0 => [(0, .t (.int .i64 s)), (2, .ref 4096 0 0), (3, .ref 16384 0 0), (12, .t (.int .i64 0))] | 1 => [(0, .t (.int .i64 s)), (2, .ref 4096 0 0), (3, .ref 16384 0 0), (12, .t (.int .i64 1))] | _ => [(0, .t (.int .i64 s)), (2, .ref 4096 0 0), (3, .ref 16384 0 0), (12, .t (.int .i64 2))]) (fun k => match k with | 0 => [(16384, .live 2 [.agg [.nil, .t (.int .i64 0)]] true true), (4096, .live 2 [.agg [.nil, .t (.int .i64 0)]] true true)] | 1 => [(16384, .live 2 [.agg [.sl 9000 0 1, .t (.int .i64 0)]] true true), (9000, .live 1 [.sl 9001 0 16] true false), (9001, .live 1 (((newB 0 : Bank).map bsT).map V.t) true false), (4096, .live 2 [.agg [.nil, .t (.int .i64 0)]] true true)] | _ => [(16384, .live 2 [.agg [.sl 9000 0 2, .t (.int .i64 0)]] true true), (9000, .live 1 [.sl 9001 0 16, .sl 9002 0 16] true false), (9001, .live 1 (((newB 0 : Bank).map bsT).map V.t) true false), (9002, .live 1 (((newB 1 : Bank).map bsT).map V.t) true false), (4096, .live 2 [.agg [.nil, .t (.int .i64 0)]] true true)]) ?_ (fun k hk => ?_)
    · refine Weak.rd id ?_ ?_ rfl
      all_goals simp (config := { maxSteps := 2000000 }) (disch := (first | omega | (simp only [lens, lenm]; omega))) only [go_sem, ↓reduceIte, Nat.reduceAdd, Nat.reduceEqDiff, Nat.reduceSub, Nat.reduceMul, Nat.reduceLT, Nat.reduceLeDiff, Nat.reduceBEq, Int.reduceEq, Int.reduceLT, Int.reduceLE, Int.reduceToNat, Int.reduceNeg, Int.reduceAdd, Int.reduceSub, Int.reduceMul, Int.reduceMod, Int.reduceDiv, reduceCtorEq, Nat.reducePow, Int.reducePow, id]
    · rcases (show k = 0 ∨ k = 1 ∨ k = 2 by omega) with rfl | rfl | rfl
      · simp (config := { maxSteps := 2000000 }) (disch := (first | omega | (simp only [lens, lenm]; omega))) only [go_sem, ↓reduceIte, Nat.reduceAdd, Nat.reduceEqDiff, Nat.reduceSub, Nat.reduceMul, Nat.reduceLT, Nat.reduceLeDiff, Nat.reduceBEq, Int.reduceEq, Int.reduceLT, Int.reduceLE, Int.reduceToNat, Int.reduceNeg, Int.reduceAdd, Int.reduceSub, Int.reduceMul, Int.reduceMod, Int.reduceDiv, reduceCtorEq, Nat.reducePow, Int.reducePow, ac_registers_New_L0, c0, c1, newB_length, h1, h2, size_eq0, size_eq1, fill_eq20, fill_eq32, hf1, hf2]
        refine loop_upto 16 (fun i => [(0, .t (.int .i64 s)), (2, .ref 4096 0 0), (3, .ref 16384 0 0), (12, .t (.int .i64 0)), (4, .t (.int .i64 0)), (5, .sl 9100 0 i), (6, .t (.int .i64 (i : Nat)))]) (fun i => [(9100, .live 1 ((((newB 0).take i).map bsT).map V.t) true false), (16384, .live 2 [.agg [.nil, .t (.int .i64 0)]] true true), (4096, .live 2 [.agg [.nil, .t (.int .i64 0)]] true true)]) ?_ (fun i hi => ?_)
        · refine Weak.cv0 (hv := [(9100, .live 1 [] true false)]) (ho := [(16384, .live 2 [.agg [.nil, .t (.int .i64 0)]] true true), (4096, .live 2 [.agg [.nil, .t (.int .i64 0)]] true true)]) id ?_ ?_ rfl rfl
          all_goals simp (config := { maxSteps := 2000000 }) (disch := (first | omega | (simp only [lens, lenm]; omega))) only [go_sem, ↓reduceIte, Nat.reduceAdd, Nat.reduceEqDiff, Nat.reduceSub, Nat.reduceMul, Nat.reduceLT, Nat.reduceLeDiff, Nat.reduceBEq, Int.reduceEq, Int.reduceLT, Int.reduceLE, Int.reduceToNat, Int.reduceNeg, Int.reduceAdd, Int.reduceSub, Int.reduceMul, Int.reduceMod, Int.reduceDiv, reduceCtorEq, Nat.reducePow, Int.reducePow, List.map_cons, List.map_nil, id]
        · by_cases hlt : i < 16
          · by_cases h12 : i < 12
            · simp (config := { maxSteps := 2000000 }) (disch := (first | omega | (simp only [lens, lenm]; omega))) only [go_sem, ↓reduceIte, Nat.reduceAdd, Nat.reduceEqDiff, Nat.reduceSub, Nat.reduceMul, Nat.reduceLT, Nat.reduceLeDiff, Nat.reduceBEq, Int.reduceEq, Int.reduceLT, Int.reduceLE, Int.reduceToNat, Int.reduceNeg, Int.reduceAdd, Int.reduceSub, Int.reduceMul, Int.reduceMod, Int.reduceDiv, reduceCtorEq, Nat.reducePow, Int.reducePow, ac_registers_New_L1, c0, c1, newB_length, h1, h2, size_eq0, size_eq1, fill_eq20, fill_eq32, hf1, hf2]
              refine ⟨hlt, Weak.cv (hv := []) [61504] (fun j => if j = 9100 then 61536 else j) ?_ rfl⟩
              simp (config := { maxSteps := 2000000 }) (disch := (first | omega | (simp only [lens, lenm]; omega))) only [go_sem, ↓reduceIte, Nat.reduceAdd, Nat.reduceEqDiff, Nat.reduceSub, Nat.reduceMul, Nat.reduceLT, Nat.reduceLeDiff, Nat.reduceBEq, Int.reduceEq, Int.reduceLT, Int.reduceLE, Int.reduceToNat, Int.reduceNeg, Int.reduceAdd, Int.reduceSub, Int.reduceMul, Int.reduceMod, Int.reduceDiv, reduceCtorEq, Nat.reducePow, Int.reducePow, newB_take hlt, szA, List.take_replicate, Nat.min_self, newV_a h12]
              rfl
            · simp (config := { maxSteps := 2000000 }) (disch := (first | omega | (simp only [lens, lenm]; omega))) only [go_sem, ↓reduceIte, Nat.reduceAdd, Nat.reduceEqDiff, Nat.reduceSub, Nat.reduceMul, Nat.reduceLT, Nat.reduceLeDiff, Nat.reduceBEq, Int.reduceEq, Int.reduceLT, Int.reduceLE, Int.reduceToNat, Int.reduceNeg, Int.reduceAdd, Int.reduceSub, Int.reduceMul, Int.reduceMod, Int.reduceDiv, reduceCtorEq, Nat.reducePow, Int.reducePow, ac_registers_New_L1, c0, c1, newB_length, h1, h2, size_eq0, size_eq1, fill_eq20, fill_eq32, hf1, hf2]
              refine ⟨hlt, Weak.cv (hv := []) [61504] (fun j => if j = 9100 then 61536 else j) ?_ rfl⟩
              simp (config := { maxSteps := 2000000 }) (disch := (first | omega | (simp only [lens, lenm]; omega))) only [go_sem, ↓reduceIte, Nat.reduceAdd, Nat.reduceEqDiff, Nat.reduceSub, Nat.reduceMul, Nat.reduceLT, Nat.reduceLeDiff, Nat.reduceBEq, Int.reduceEq, Int.reduceLT, Int.reduceLE, Int.reduceToNat, Int.reduceNeg, Int.reduceAdd, Int.reduceSub, Int.reduceMul, Int.reduceMod, Int.reduceDiv, reduceCtorEq, Nat.reducePow, Int.reducePow, newB_take hlt, szA, List.take_replicate, Nat.min_self, newV_b h12]
              rfl
          · have e : i = 16 := by omega
            subst e
            simp (config := { maxSteps := 2000000 }) (disch := (first | omega | (simp only [lens, lenm]; omega))) only [go_sem, ↓reduceIte, Nat.reduceAdd, Nat.reduceEqDiff, Nat.reduceSub, Nat.reduceMul, Nat.reduceLT, Nat.reduceLeDiff, Nat.reduceBEq, Int.reduceEq, Int.reduceLT, Int.reduceLE, Int.reduceToNat, Int.reduceNeg, Int.reduceAdd, Int.reduceSub, Int.reduceMul, Int.reduceMod, Int.reduceDiv, reduceCtorEq, Nat.reducePow, Int.reducePow, ac_registers_New_L1, c0, c1, newB_length, h1, h2, size_eq0, size_eq1, fill_eq20, fill_eq32, hf1, hf2]
            refine Weak.rd (fun j => if j = 9000 then 65600 else if j = 9001 then 9100 else j) ?_ ?_ rfl
            all_goals simp (config := { maxSteps := 2000000 }) (disch := (first | omega | (simp only [lens, lenm]; omega))) only [go_sem, ↓reduceIte, Nat.reduceAdd, Nat.reduceEqDiff, Nat.reduceSub, Nat.reduceMul, Nat.reduceLT, Nat.reduceLeDiff, Nat.reduceBEq, Int.reduceEq, Int.reduceLT, Int.reduceLE, Int.reduceToNat, Int.reduceNeg, Int.reduceAdd, Int.reduceSub, Int.reduceMul, Int.reduceMod, Int.reduceDiv, reduceCtorEq, Nat.reducePow, Int.reducePow, newB_all]
      · simp (config := { maxSteps := 2000000 }) (disch := (first | omega | (simp only [lens, lenm]; omega))) only [go_sem, ↓reduceIte, Nat.reduceAdd, Nat.reduceEqDiff, Nat.reduceSub, Nat.reduceMul, Nat.reduceLT, Nat.reduceLeDiff, Nat.reduceBEq, Int.reduceEq, Int.reduceLT, Int.reduceLE, Int.reduceToNat, Int.reduceNeg, Int.reduceAdd, Int.reduceSub, Int.reduceMul, Int.reduceMod, Int.reduceDiv, reduceCtorEq, Nat.reducePow, Int.reducePow, ac_registers_New_L0, c0, c1, newB_length, h1, h2, size_eq0, size_eq1, fill_eq20, fill_eq32, hf1, hf2]
        refine loop_upto 16 (fun i => [(0, .t (.int .i64 s)), (2, .ref 4096 0 0), (3, .ref 16384 0 0), (12, .t (.int .i64 1)), (4, .t (.int .i64 1)), (5, .sl 9100 0 i), (6, .t (.int .i64 (i : Nat)))]) (fun i => [(9100, .live 1 ((((newB 1).take i).map bsT).map V.t) true false), (16384, .live 2 [.agg [.sl 9000 0 1, .t (.int .i64 0)]] true true), (9000, .live 1 [.sl 9001 0 16] true false), (9001, .live 1 (((newB 0 : Bank).map bsT).map V.t) true false), (4096, .live 2 [.agg [.nil, .t (.int .i64 0)]] true true)]) ?_ (fun i hi => ?_)
        · refine Weak.cv0 (hv := [(9100, .live 1 [] true false)]) (ho := [(16384, .live 2 [.agg [.sl 9000 0 1, .t (.int .i64 0)]] true true), (9000, .live 1 [.sl 9001 0 16] true false), (9001, .live 1 (((newB 0 : Bank).map bsT).map V.t) true false), (4096, .live 2 [.agg [.nil, .t (.int .i64 0)]] true true)]) id ?_ ?_ rfl rfl
          all_goals simp (config := { maxSteps := 2000000 }) (disch := (first | omega | (simp only [lens, lenm]; omega))) only [go_sem, ↓reduceIte, Nat.reduceAdd, Nat.reduceEqDiff, Nat.reduceSub, Nat.reduceMul, Nat.reduceLT, Nat.reduceLeDiff, Nat.reduceBEq, Int.reduceEq, Int.reduceLT, Int.reduceLE, Int.reduceToNat, Int.reduceNeg, Int.reduceAdd, Int.reduceSub, Int.reduceMul, Int.reduceMod, Int.reduceDiv, reduceCtorEq, Nat.reducePow, Int.reducePow, List.map_cons, List.map_nil, id]
        · by_cases hlt : i < 16
          · by_cases h12 : i < 12
            · simp (config := { maxSteps := 2000000 }) (disch := (first | omega | (simp only [lens, lenm]; omega))) only [go_sem, ↓reduceIte, Nat.reduceAdd, Nat.reduceEqDiff, Nat.reduceSub, Nat.reduceMul, Nat.reduceLT, Nat.reduceLeDiff, Nat.reduceBEq, Int.reduceEq, Int.reduceLT, Int.reduceLE, Int.reduceToNat, Int.reduceNeg, Int.reduceAdd, Int.reduceSub, Int.reduceMul, Int.reduceMod, Int.reduceDiv, reduceCtorEq, Nat.reducePow, Int.reducePow, ac_registers_New_L1, c0, c1, newB_length, h1, h2, size_eq0, size_eq1, fill_eq20, fill_eq32, hf1, hf2]
              refine ⟨hlt, Weak.cv (hv := []) [61504] (fun j => if j = 9100 then 61536 else j) ?_ rfl⟩
              simp (config := { maxSteps := 2000000 }) (disch := (first | omega | (simp only [lens, lenm]; omega))) only [go_sem, ↓reduceIte, Nat.reduceAdd, Nat.reduceEqDiff, Nat.reduceSub, Nat.reduceMul, Nat.reduceLT, Nat.reduceLeDiff, Nat.reduceBEq, Int.reduceEq, Int.reduceLT, Int.reduceLE, Int.reduceToNat, Int.reduceNeg, Int.reduceAdd, Int.reduceSub, Int.reduceMul, Int.reduceMod, Int.reduceDiv, reduceCtorEq, Nat.reducePow, Int.reducePow, newB_take hlt, szA, List.take_replicate, Nat.min_self, newV_a h12]
              rfl
            · simp (config := { maxSteps := 2000000 }) (disch := (first | omega | (simp only [lens, lenm]; omega))) only [go_sem, ↓reduceIte, Nat.reduceAdd, Nat.reduceEqDiff, Nat.reduceSub, Nat.reduceMul, Nat.reduceLT, Nat.reduceLeDiff, Nat.reduceBEq, Int.reduceEq, Int.reduceLT, Int.reduceLE, Int.reduceToNat, Int.reduceNeg, Int.reduceAdd, Int.reduceSub, Int.reduceMul, Int.reduceMod, Int.reduceDiv, reduceCtorEq, Nat.reducePow, Int.reducePow, ac_registers_New_L1, c0, c1, newB_length, h1, h2, size_eq0, size_eq1, fill_eq20, fill_eq32, hf1, hf2]
              refine ⟨hlt, Weak.cv (hv := []) [61504] (fun j => if j = 9100 then 61536 else j) ?_ rfl⟩
              simp (config := { maxSteps := 2000000 }) (disch := (first | omega | (simp only [lens, lenm]; omega))) only [go_sem, ↓reduceIte, Nat.reduceAdd, Nat.reduceEqDiff, Nat.reduceSub, Nat.reduceMul, Nat.reduceLT, Nat.reduceLeDiff, Nat.reduceBEq, Int.reduceEq, Int.reduceLT, Int.reduceLE, Int.reduceToNat, Int.reduceNeg, Int.reduceAdd, Int.reduceSub, Int.reduceMul, Int.reduceMod, Int.reduceDiv, reduceCtorEq, Nat.reducePow, Int.reducePow, newB_take hlt, szA, List.take_replicate, Nat.min_self, newV_b h12]
              rfl
          · have e : i = 16 := by omega
            subst e
            simp (config := { maxSteps := 2000000 }) (disch := (first | omega | (simp only [lens, lenm]; omega))) only [go_sem, ↓reduceIte, Nat.reduceAdd, Nat.reduceEqDiff, Nat.reduceSub, Nat.reduceMul, Nat.reduceLT, Nat.reduceLeDiff, Nat.reduceBEq, Int.reduceEq, Int.reduceLT, Int.reduceLE, Int.reduceToNat, Int.reduceNeg, Int.reduceAdd, Int.reduceSub, Int.reduceMul, Int.reduceMod, Int.reduceDiv, reduceCtorEq, Nat.reducePow, Int.reducePow, ac_registers_New_L1, c0, c1, newB_length, h1, h2, size_eq0, size_eq1, fill_eq20, fill_eq32, hf1, hf2]
            refine Weak.rd (fun j => if j = 9000 then 65600 else if j = 9002 then 9100 else j) ?_ ?_ rfl
            all_goals simp (config := { maxSteps := 2000000 }) (disch := (first | omega | (simp only [lens, lenm]; omega))) only [go_sem, ↓reduceIte, Nat.reduceAdd, Nat.reduceEqDiff, Nat.reduceSub, Nat.reduceMul, Nat.reduceLT, Nat.reduceLeDiff, Nat.reduceBEq, Int.reduceEq, Int.reduceLT, Int.reduceLE, Int.reduceToNat, Int.reduceNeg, Int.reduceAdd, Int.reduceSub, Int.reduceMul, Int.reduceMod, Int.reduceDiv, reduceCtorEq, Nat.reducePow, Int.reducePow, newB_all]
      · simp (config := { maxSteps := 2000000 }) (disch := (first | omega | (simp only [lens, lenm]; omega))) only [go_sem, ↓reduceIte, Nat.reduceAdd, Nat.reduceEqDiff, Nat.reduceSub, Nat.reduceMul, Nat.reduceLT, Nat.reduceLeDiff, Nat.reduceBEq, Int.reduceEq, Int.reduceLT, Int.reduceLE, Int.reduceToNat, Int.reduceNeg, Int.reduceAdd, Int.reduceSub, Int.reduceMul, Int.reduceMod, Int.reduceDiv, reduceCtorEq, Nat.reducePow, Int.reducePow, ac_registers_New_L0, c0, c1, newB_length, h1, h2, size_eq0, size_eq1, fill_eq20, fill_eq32, hf1, hf2]
        exact ⟨rfl, rfl⟩
theorem w_ref8_New (tab : Tab) (gl : Gl) (n1 : Nat) (h1 : tab.look n1 = some ct_init.fs) (s : Int) (h3 : ¬ s % 4 = 0) : (ac_ref8_New n1).wp tab gl (zipF 0 [.t (.int .i64 s)]) (zipF 0 []) (resF [] [(2, some (2, true))] 0 (fun r o => r = twR (newBk s) 0 ∧ o = twO (newBk s))) := by
  have h4 : (s % 4 == 0) = false := by simpa using h3
  have hf1 : s.fdiv 1 = s := Int.fdiv_one s
  have hf2 : s.fdiv 2 = s / 2 := Int.fdiv_eq_ediv_of_nonneg s (by omega)
  have hc0 : s % 2 = 0 ∨ s % 2 = 1 := by omega
  have hc1 : s / 2 % 2 = 0 ∨ s / 2 % 2 = 1 := by omega
  rcases hc0 with c0 | c0 <;> rcases hc1 with c1 | c1
  · exact absurd (by omega) h3
  · rw [newBk_of h3, if_neg (by omega), if_pos (by omega)]
    simp (config := { maxSteps := 2000000 }) (disch := (first | omega | (simp only [lens, lenm]; omega))) only [go_sem, ↓reduceIte, Nat.reduceAdd, Nat.reduceEqDiff, Nat.reduceSub, Nat.reduceMul, Nat.reduceLT, Nat.reduceLeDiff, Nat.reduceBEq, Int.reduceEq, Int.reduceLT, Int.reduceLE, Int.reduceToNat, Int.reduceNeg, Int.reduceAdd, Int.reduceSub, Int.reduceMul, Int.reduceMod, Int.reduceDiv, reduceCtorEq, Nat.reducePow, Int.reducePow, ac_ref8_New, h4, hf1, hf2]
    refine loop_upto 2 (fun k => match k with | 0 => [(0, .t (.int .i64 s)), (2, .ref 4096 0 0), (3, .ref 8208 0 0), (4, .t (.int .i64 0))] | 1 => [(0, .t (.int .i64 s)), (2, .ref 4096 0 0), (3, .ref 8208 0 0), (4, .t (.int .i64 1))] | _ => [(0, .t (.int .i64 s)), (2, .ref 4096 0 0), (3, .ref 8208 0 0), (4, .t (.int .i64 2))]) (fun k => match k with | 0 => [(8208, .live 2 [.agg [.nil, .t (.int .i64 0)]] true true), (4096, .live 2 [.agg [.nil, .t (.int .i64 0)]] true true)] | 1 => [(8208, .live 2 [.agg [.sl 9000 0 1, .t (.int .i64 0)]] true true), (9000, .live 1 [.sl 9001 0 0] true false), (9001, .live 1 ((([] : Bank).map bsT).map V.t) true false), (4096, .live 2 [.agg [.nil, .t (.int .i64 0)]] true true)] | _ => [(8208, .live 2 [.agg [.sl 9000 0 2, .t (.int .i64 0)]] true true), (9000, .live 1 [.sl 9001 0 0, .sl 9002 0 16] true false), (9001, .live 1 ((([] : Bank).map bsT).map V.t) true false), (9002, .live 1 (((newB 1 : Bank).map bsT).map V.t) true false), (4096, .live 2 [.agg [.nil, .t (.int .i64 0)]] true true)]) ?_ (fun k hk => ?_)
    · refine Weak.rd id ?_ ?_ rfl
      all_goals simp (config := { maxSteps := 2000000 }) (disch := (first | omega | (simp only [lens, lenm]; omega))) only [go_sem, ↓reduceIte, Nat.reduceAdd, Nat.reduceEqDiff, Nat.reduceSub, Nat.reduceMul, Nat.reduceLT, Nat.reduceLeDiff, Nat.reduceBEq, Int.reduceEq, Int.reduceLT, Int.reduceLE, Int.reduceToNat, Int.reduceNeg, Int.reduceAdd, Int.reduceSub, Int.reduceMul, Int.reduceMod, Int.reduceDiv, reduceCtorEq, Nat.reducePow, Int.reducePow, id]
    · rcases (show k = 0 ∨ k = 1 ∨ k = 2 by omega) with rfl | rfl | rfl
      · simp (config := { maxSteps := 2000000 }) (disch := (first | omega | (simp only [lens, lenm]; omega))) only [go_sem, ↓reduceIte, Nat.reduceAdd, Nat.reduceEqDiff, Nat.reduceSub, Nat.reduceMul, Nat.reduceLT, Nat.reduceLeDiff, Nat.reduceBEq, Int.reduceEq, Int.reduceLT, Int.reduceLE, Int.reduceToNat, Int.reduceNeg, Int.reduceAdd, Int.reduceSub, Int.reduceMul, Int.reduceMod, Int.reduceDiv, reduceCtorEq, Nat.reducePow, Int.reducePow, ac_ref8_New_L0, c0, c1, newB_length, h1, init_eq0, init_eq1, hf1, hf2]
        refine loop_fuel 1 ?_
        simp (config := { maxSteps := 2000000 }) (disch := (first | omega | (simp only [lens, lenm]; omega))) only [go_sem, ↓reduceIte, Nat.reduceAdd, Nat.reduceEqDiff, Nat.reduceSub, Nat.reduceMul, Nat.reduceLT, Nat.reduceLeDiff, Nat.reduceBEq, Int.reduceEq, Int.reduceLT, Int.reduceLE, Int.reduceToNat, Int.reduceNeg, Int.reduceAdd, Int.reduceSub, Int.reduceMul, Int.reduceMod, Int.reduceDiv, reduceCtorEq, Nat.reducePow, Int.reducePow, loopN_succ, ac_ref8_New_L1, c0, c1, newB_length, h1, init_eq0, init_eq1, hf1, hf2]
        refine Weak.trans (fs' := [(0, .t (.int .i64 s)), (2, .ref 4096 0 0), (3, .ref 8208 0 0), (4, .t (.int .i64 1))]) (Weak.cv0 (hv := [(9001, .live 1 [] true false)]) (ho := [(8208, .live 2 [.agg [.sl 9000 0 1, .t (.int .i64 0)]] true true), (9000, .live 1 [.sl 9001 0 0] true false), (4096, .live 2 [.agg [.nil, .t (.int .i64 0)]] true true)]) (fun j => if j = 9000 then 53312 else j) ?_ ?_ rfl rfl) (Weak.rd id ?_ ?_ rfl)
        all_goals simp (config := { maxSteps := 2000000 }) (disch := (first | omega | (simp only [lens, lenm]; omega))) only [go_sem, ↓reduceIte, Nat.reduceAdd, Nat.reduceEqDiff, Nat.reduceSub, Nat.reduceMul, Nat.reduceLT, Nat.reduceLeDiff, Nat.reduceBEq, Int.reduceEq, Int.reduceLT, Int.reduceLE, Int.reduceToNat, Int.reduceNeg, Int.reduceAdd, Int.reduceSub, Int.reduceMul, Int.reduceMod, Int.reduceDiv, reduceCtorEq, Nat.reducePow, Int.reducePow, List.map_cons, List.map_nil, id]
      · simp (config := { maxSteps := 2000000 }) (disch := (first | omega | (simp only [lens, lenm]; omega))) only [go_sem, ↓reduceIte, Nat.reduceAdd, Nat.reduceEqDiff, Nat.reduceSub, Nat.reduceMul, Nat.reduceLT, Nat.reduceLeDiff, Nat.reduceBEq, Int.reduceEq, Int.reduceLT, Int.reduceLE, Int.reduceToNat, Int.reduceNeg, Int.reduceAdd, Int.reduceSub, Int.reduceMul, Int.reduceMod, Int.reduceDiv, reduceCtorEq, Nat.reducePow, Int.reducePow, ac_ref8_New_L0, c0, c1, newB_length, h1, init_eq0, init_eq1, hf1, hf2]
        refine loop_upto 16 (fun i => [(0, .t (.int .i64 s)), (2, .ref 4096 0 0), (3, .ref 8208 0 0), (4, .t (.int .i64 1)), (5, .sl 9100 0 i), (6, .t (.int .i64 (i : Nat)))]) (fun i => [(9100, .live 1 ((((newB 1).take i).map bsT).map V.t) true false), (8208, .live 2 [.agg [.sl 9000 0 1, .t (.int .i64 0)]] true true), (9000, .live 1 [.sl 9001 0 0] true false), (9001, .live 1 ((([] : Bank).map bsT).map V.t) true false), (4096, .live 2 [.agg [.nil, .t (.int .i64 0)]] true true)]) ?_ (fun i hi => ?_)
        · refine Weak.cv0 (hv := [(9100, .live 1 [] true false)]) (ho := [(8208, .live 2 [.agg [.sl 9000 0 1, .t (.int .i64 0)]] true true), (9000, .live 1 [.sl 9001 0 0] true false), (9001, .live 1 ((([] : Bank).map bsT).map V.t) true false), (4096, .live 2 [.agg [.nil, .t (.int .i64 0)]] true true)]) id ?_ ?_ rfl rfl
          all_goals simp (config := { maxSteps := 2000000 }) (disch := (first | omega | (simp only [lens, lenm]; omega))) only [go_sem, ↓reduceIte, Nat.reduceAdd, Nat.reduceEqDiff, Nat.reduceSub, Nat.reduceMul, Nat.reduceLT, Nat.reduceLeDiff, Nat.reduceBEq, Int.reduceEq, Int.reduceLT, Int.reduceLE, Int.reduceToNat, Int.reduceNeg, Int.reduceAdd, Int.reduceSub, Int.reduceMul, Int.reduceMod, Int.reduceDiv, reduceCtorEq, Nat.reducePow, Int.reducePow, List.map_cons, List.map_nil, id]
        · by_cases hlt : i < 16
          · simp (config := { maxSteps := 2000000 }) (disch := (first | omega | (simp only [lens, lenm]; omega))) only [go_sem, ↓reduceIte, Nat.reduceAdd, Nat.reduceEqDiff, Nat.reduceSub, Nat.reduceMul, Nat.reduceLT, Nat.reduceLeDiff, Nat.reduceBEq, Int.reduceEq, Int.reduceLT, Int.reduceLE, Int.reduceToNat, Int.reduceNeg, Int.reduceAdd, Int.reduceSub, Int.reduceMul, Int.reduceMod, Int.reduceDiv, reduceCtorEq, Nat.reducePow, Int.reducePow, ac_ref8_New_L1, c0, c1, newB_length, h1, init_eq0, init_eq1, hf1, hf2]
            refine ⟨hlt, Weak.cv (hv := []) [49200] (fun j => if j = 9100 then 49232 else j) ?_ rfl⟩
            simp (config := { maxSteps := 2000000 }) (disch := (first | omega | (simp only [lens, lenm]; omega))) only [go_sem, ↓reduceIte, Nat.reduceAdd, Nat.reduceEqDiff, Nat.reduceSub, Nat.reduceMul, Nat.reduceLT, Nat.reduceLeDiff, Nat.reduceBEq, Int.reduceEq, Int.reduceLT, Int.reduceLE, Int.reduceToNat, Int.reduceNeg, Int.reduceAdd, Int.reduceSub, Int.reduceMul, Int.reduceMod, Int.reduceDiv, reduceCtorEq, Nat.reducePow, Int.reducePow, newB_take hlt, szA, List.take_replicate, Nat.min_self]
            rfl
          · have e : i = 16 := by omega
            subst e
            simp (config := { maxSteps := 2000000 }) (disch := (first | omega | (simp only [lens, lenm]; omega))) only [go_sem, ↓reduceIte, Nat.reduceAdd, Nat.reduceEqDiff, Nat.reduceSub, Nat.reduceMul, Nat.reduceLT, Nat.reduceLeDiff, Nat.reduceBEq, Int.reduceEq, Int.reduceLT, Int.reduceLE, Int.reduceToNat, Int.reduceNeg, Int.reduceAdd, Int.reduceSub, Int.reduceMul, Int.reduceMod, Int.reduceDiv, reduceCtorEq, Nat.reducePow, Int.reducePow, ac_ref8_New_L1, c0, c1, newB_length, h1, init_eq0, init_eq1, hf1, hf2]
            refine Weak.rd (fun j => if j = 9000 then 53312 else if j = 9002 then 9100 else j) ?_ ?_ rfl
            all_goals simp (config := { maxSteps := 2000000 }) (disch := (first | omega | (simp only [lens, lenm]; omega))) only [go_sem, ↓reduceIte, Nat.reduceAdd, Nat.reduceEqDiff, Nat.reduceSub, Nat.reduceMul, Nat.reduceLT, Nat.reduceLeDiff, Nat.reduceBEq, Int.reduceEq, Int.reduceLT, Int.reduceLE, Int.reduceToNat, Int.reduceNeg, Int.reduceAdd, Int.reduceSub, Int.reduceMul, Int.reduceMod, Int.reduceDiv, reduceCtorEq, Nat.reducePow, Int.reducePow, newB_all]
      · simp (config := { maxSteps := 2000000 }) (disch := (first | omega | (simp only [lens, lenm]; omega))) only [go_sem, ↓reduceIte, Nat.reduceAdd, Nat.reduceEqDiff, Nat.reduceSub, Nat.reduceMul, Nat.reduceLT, Nat.reduceLeDiff, Nat.reduceBEq, Int.reduceEq, Int.reduceLT, Int.reduceLE, Int.reduceToNat, Int.reduceNeg, Int.reduceAdd, Int.reduceSub, Int.reduceMul, Int.reduceMod, Int.reduceDiv, reduceCtorEq, Nat.reducePow, Int.reducePow, ac_ref8_New_L0, c0, c1, newB_length, h1, init_eq0, init_eq1, hf1, hf2]
        exact ⟨rfl, rfl⟩
  · rw [newBk_of h3, if_pos (by omega), if_neg (by omega)]
    simp (config := { maxSteps := 2000000 }) (disch := (first | omega | (simp only [lens, lenm]; omega))) only [go_sem, ↓reduceIte, Nat.reduceAdd, Nat.reduceEqDiff, Nat.reduceSub, Nat.reduceMul, Nat.reduceLT, Nat.reduceLeDiff, Nat.reduceBEq, Int.reduceEq, Int.reduceLT, Int.reduceLE, Int.reduceToNat, Int.reduceNeg, Int.reduceAdd, Int.reduceSub, Int.reduceMul, Int.reduceMod, Int.reduceDiv, reduceCtorEq, Nat.reducePow, Int.reducePow, ac_ref8_New, h4, hf1, hf2]
    refine loop_upto 2 (fun k => match k with | 0 => [(0, .t (.int .i64 s)), (2, .ref 4096 0 0), (3, .ref 8208 0 0), (4, .t (.int .i64 0))] | 1 => [(0, .t (.int .i64 s)), (2, .ref 4096 0 0), (3, .ref 8208 0 0), (4, .t (.int .i64 1))] | _ => [(0, .t (.int .i64 s)), (2, .ref 4096 0 0), (3, .ref 8208 0 0), (4, .t (.int .i64 2))]) (fun k => match k with | 0 => [(8208, .live 2 [.agg [.nil, .t (.int .i64 0)]] true true), (4096, .live 2 [.agg [.nil, .t (.int .i64 0)]] true true)] | 1 => [(8208, .live 2 [.agg [.sl 9000 0 1, .t (.int .i64 0)]] true true), (9000, .live 1 [.sl 9001 0 16] true false), (9001, .live 1 (((newB 0 : Bank).map bsT).map V.t) true false), (4096, .live 2 [.agg [.nil, .t (.int .i64 0)]] true true)] | _ => [(8208, .live 2 [.agg [.sl 9000 0 2, .t (.int .i64 0)]] true true), (9000, .live 1 [.sl 9001 0 16, .sl 9002 0 0] true false), (9001, .live 1 (((newB 0 : Bank).map bsT).map V.t) true false), (9002, .live 1 ((([] : Bank).map bsT).map V.t) true false), (4096, .live 2 [.agg [.nil, .t (.int .i64 0)]] true true)]) ?_ (fun k hk => ?_)
    · refine Weak.rd id ?_ ?_ rfl
      all_goals simp (config := { maxSteps := 2000000 }) (disch := (first | omega | (simp only [lens, lenm]; omega))) only [go_sem, ↓reduceIte, Nat.reduceAdd, Nat.reduceEqDiff, Nat.reduceSub, Nat.reduceMul, Nat.reduceLT, Nat.reduceLeDiff, Nat.reduceBEq, Int.reduceEq, Int.reduceLT, Int.reduceLE, Int.reduceToNat, Int.reduceNeg, Int.reduceAdd, Int.reduceSub, Int.reduceMul, Int.reduceMod, Int.reduceDiv, reduceCtorEq, Nat.reducePow, Int.reducePow, id]
    · rcases (show k = 0 ∨ k = 1 ∨ k = 2 by omega) with rfl | rfl | rfl
      · simp (config := { maxSteps := 2000000 }) (disch := (first | omega | (simp only [lens, lenm]; omega))) only [go_sem, ↓reduceIte, Nat.reduceAdd, Nat.reduceEqDiff, Nat.reduceSub, Nat.reduceMul, Nat.reduceLT, Nat.reduceLeDiff, Nat.reduceBEq, Int.reduceEq, Int.reduceLT, Int.reduceLE, Int.reduceToNat, Int.reduceNeg, Int.reduceAdd, Int.reduceSub, Int.reduceMul, Int.reduceMod, Int.reduceDiv, reduceCtorEq, Nat.reducePow, Int.reducePow, ac_ref8_New_L0, c0, c1, newB_length, h1, init_eq0, init_eq1, hf1, hf2]
        refine loop_upto 16 (fun i => [(0, .t (.int .i64 s)), (2, .ref 4096 0 0), (3, .ref 8208 0 0), (4, .t (.int .i64 0)), (5, .sl 9100 0 i), (6, .t (.int .i64 (i : Nat)))]) (fun i => [(9100, .live 1 ((((newB 0).take i).map bsT).map V.t) true false), (8208, .live 2 [.agg [.nil, .t (.int .i64 0)]] true true), (4096, .live 2 [.agg [.nil, .t (.int .i64 0)]] true true)]) ?_ (fun i hi => ?_)
        · refine Weak.cv0 (hv := [(9100, .live 1 [] true false)]) (ho := [(8208, .live 2 [.agg [.nil, .t (.int .i64 0)]] true true), (4096, .live 2 [.agg [.nil, .t (.int .i64 0)]] true true)]) id ?_ ?_ rfl rfl
          all_goals simp (config := { maxSteps := 2000000 }) (disch := (first | omega | (simp only [lens, lenm]; omega))) only [go_sem, ↓reduceIte, Nat.reduceAdd, Nat.reduceEqDiff, Nat.reduceSub, Nat.reduceMul, Nat.reduceLT, Nat.reduceLeDiff, Nat.reduceBEq, Int.reduceEq, Int.reduceLT, Int.reduceLE, Int.reduceToNat, Int.reduceNeg, Int.reduceAdd, Int.reduceSub, Int.reduceMul, Int.reduceMod, Int.reduceDiv, reduceCtorEq, Nat.reducePow, Int.reducePow, List.map_cons, List.map_nil, id]
        · by_cases hlt : i < 16
          · simp (config := { maxSteps := 2000000 }) (disch := (first | omega | (simp only [lens, lenm]; omega))) only [go_sem, ↓reduceIte, Nat.reduceAdd, Nat.reduceEqDiff, Nat.reduceSub, Nat.reduceMul, Nat.reduceLT, Nat.reduceLeDiff, Nat.reduceBEq, Int.reduceEq, Int.reduceLT, Int.reduceLE, Int.reduceToNat, Int.reduceNeg, Int.reduceAdd, Int.reduceSub, Int.reduceMul, Int.reduceMod, Int.reduceDiv, reduceCtorEq, Nat.reducePow, Int.reducePow, ac_ref8_New_L1, c0, c1, newB_length, h1, init_eq0, init_eq1, hf1, hf2]
            refine ⟨hlt, Weak.cv (hv := []) [49200] (fun j => if j = 9100 then 49232 else j) ?_ rfl⟩
            simp (config := { maxSteps := 2000000 }) (disch := (first | omega | (simp only [lens, lenm]; omega))) only [go_sem, ↓reduceIte, Nat.reduceAdd, Nat.reduceEqDiff, Nat.reduceSub, Nat.reduceMul, Nat.reduceLT, Nat.reduceLeDiff, Nat.reduceBEq, Int.reduceEq, Int.reduceLT, Int.reduceLE, Int.reduceToNat, Int.reduceNeg, Int.reduceAdd, Int.reduceSub, Int.reduceMul, Int.reduceMod, Int.reduceDiv, reduceCtorEq, Nat.reducePow, Int.reducePow, newB_take hlt, szA, List.take_replicate, Nat.min_self]
            rfl
          · have e : i = 16 := by omega
            subst e
            simp (config := { maxSteps := 2000000 }) (disch := (first | omega | (simp only [lens, lenm]; omega))) only [go_sem, ↓reduceIte, Nat.reduceAdd, Nat.reduceEqDiff, Nat.reduceSub, Nat.reduceMul, Nat.reduceLT, Nat.reduceLeDiff, Nat.reduceBEq, Int.reduceEq, Int.reduceLT, Int.reduceLE, Int.reduceToNat, Int.reduceNeg, Int.reduceAdd, Int.reduceSub, Int.reduceMul, Int.reduceMod, Int.reduceDiv, reduceCtorEq, Nat.reducePow, Int.reducePow, ac_ref8_New_L1, c0, c1, newB_length, h1, init_eq0, init_eq1, hf1, hf2]
            refine Weak.rd (fun j => if j = 9000 then 53312 else if j = 9001 then 9100 else j) ?_ ?_ rfl
            all_goals simp (config := { maxSteps := 2000000 }) (disch := (first | omega | (simp only [lens, lenm]; omega))) only [go_sem, ↓reduceIte, Nat.reduceAdd, Nat.reduceEqDiff, Nat.reduceSub, Nat.reduceMul, Nat.reduceLT, Nat.reduceLeDiff, Nat.reduceBEq, Int.reduceEq, Int.reduceLT, Int.reduceLE, Int.reduceToNat, Int.reduceNeg, Int.reduceAdd, Int.reduceSub, Int.reduceMul, Int.reduceMod, Int.reduceDiv, reduceCtorEq, Nat.reducePow, Int.reducePow, newB_all]
      · simp (config := { maxSteps := 2000000 }) (disch := (first | omega | (simp only [lens, lenm]; omega))) only [go_sem, ↓reduceIte, Nat.reduceAdd, Nat.reduceEqDiff, Nat.reduceSub, Nat.reduceMul, Nat.reduceLT, Nat.reduceLeDiff, Nat.reduceBEq, Int.reduceEq, Int.reduceLT, Int.reduceLE, Int.reduceToNat, Int.reduceNeg, Int.reduceAdd, Int.reduceSub, Int.reduceMul, Int.reduceMod, Int.reduceDiv, reduceCtorEq, Nat.reducePow, Int.reducePow, ac_ref8_New_L0, c0, c1, newB_length, h1, init_eq0, init_eq1, hf1, hf2]
        refine loop_fuel 1 ?_
        simp (config := { maxSteps := 2000000 }) (disch := (first | omega | (simp only [lens, lenm]; omega))) only [go_sem, ↓reduceIte, Nat.reduceAdd, Nat.reduceEqDiff, Nat.reduceSub, Nat.reduceMul, Nat.reduceLT, Nat.reduceLeDiff, Nat.reduceBEq, Int.reduceEq, Int.reduceLT, Int.reduceLE, Int.reduceToNat, Int.reduceNeg, Int.reduceAdd, Int.reduceSub, Int.reduceMul, Int.reduceMod, Int.reduceDiv, reduceCtorEq, Nat.reducePow, Int.reducePow, loopN_succ, ac_ref8_New_L1, c0, c1, newB_length, h1, init_eq0, init_eq1, hf1, hf2]
        refine Weak.trans (fs' := [(0, .t (.int .i64 s)), (2, .ref 4096 0 0), (3, .ref 8208 0 0), (4, .t (.int .i64 2))]) (Weak.cv0 (hv := [(9002, .live 1 [] true false)]) (ho := [(8208, .live 2 [.agg [.sl 9000 0 2, .t (.int .i64 0)]] true true), (9000, .live 1 [.sl 9001 0 16, .sl 9002 0 0] true false), (9001, .live 1 (((newB 0 : Bank).map bsT).map V.t) true false), (4096, .live 2 [.agg [.nil, .t (.int .i64 0)]] true true)]) (fun j => if j = 9000 then 53312 else j) ?_ ?_ rfl rfl) (Weak.rd id ?_ ?_ rfl)
        all_goals simp (config := { maxSteps := 2000000 }) (disch := (first | omega | (simp only [lens, lenm]; omega))) only [go_sem, ↓reduceIte, Nat.reduceAdd, Nat.reduceEqDiff, Nat.reduceSub, Nat.reduceMul, Nat.reduceLT, Nat.reduceLeDiff, Nat.reduceBEq, Int.reduceEq, Int.reduceLT, Int.reduceLE, Int.reduceToNat, Int.reduceNeg, Int.reduceAdd, Int.reduceSub, Int.reduceMul, Int.reduceMod, Int.reduceDiv, reduceCtorEq, Nat.reducePow, Int.reducePow, List.map_cons, List.map_nil, id]
      · simp (config := { maxSteps := 2000000 }) (disch := (first | omega | (simp only [lens, lenm]; omega))) only [go_sem, ↓reduceIte, Nat.reduceAdd, Nat.reduceEqDiff, Nat.reduceSub, Nat.reduceMul, Nat.reduceLT, Nat.reduceLeDiff, Nat.reduceBEq, Int.reduceEq, Int.reduceLT, Int.reduceLE, Int.reduceToNat, Int.reduceNeg, Int.reduceAdd, Int.reduceSub, Int.reduceMul, Int.reduceMod, Int.reduceDiv, reduceCtorEq, Nat.reducePow, Int.reducePow, ac_ref8_New_L0, c0, c1, newB_length, h1, init_eq0, init_eq1, hf1, hf2]
        exact ⟨rfl, rfl⟩
  · rw [newBk_of h3, if_pos (by omega), if_pos (by omega)]
    simp (config := { maxSteps := 2000000 }) (disch := (first | omega | (simp only [lens, lenm]; omega))) only [go_sem, ↓reduceIte, Nat.reduceAdd, Nat.reduceEqDiff, Nat.reduceSub, Nat.reduceMul, Nat.reduceLT, Nat.reduceLeDiff, Nat.reduceBEq, Int.reduceEq, Int.reduceLT, Int.reduceLE, Int.reduceToNat, Int.reduceNeg, Int.reduceAdd, Int.reduceSub, Int.reduceMul, Int.reduceMod, Int.reduceDiv, reduceCtorEq, Nat.reducePow, Int.reducePow, ac_ref8_New, h4, hf1, hf2]
    refine loop_upto 2 (fun k => match k with | 0 => [(0, .t (.int .i64 s)), (2, .ref 4096 0 0), (3, .ref 8208 0 0), (4, .t (.int .i64 0))] | 1 => [(0, .t (.int .i64 s)), (2, .ref 4096 0 0), (3, .ref 8208 0 0), (4, .t (.int .i64 1))] | _ => [(0, .t (.int .i64 s)), (2, .ref 4096 0 0), (3, .ref 8208 0 0), (4, .t (.int .i64 2))]) (fun k => match k with | 0 => [(8208, .live 2 [.agg [.nil, .t (.int .i64 0)]] true true), (4096, .live 2 [.agg [.nil, .t (.int .i64 0)]] true true)] | 1 => [(8208, .live 2 [.agg [.sl 9000 0 1, .t (.int .i64 0)]] true true), (9000, .live 1 [.sl 9001 0 16] true false), (9001, .live 1 (((newB 0 : Bank).map bsT).map V.t) true false), (4096, .live 2 [.agg [.nil, .t (.int .i64 0)]] true true)] | _ => [(8208, .live 2 [.agg [.sl 9000 0 2, .t (.int .i64 0)]] true true), (9000, .live 1 [.sl 9001 0 16, .sl 9002 0 16] true false), (9001, .live 1 (((newB 0 : Bank).map bsT).map V.t) true false), (9002, .live 1 (((newB 1 : Bank).map bsT).map V.t) true false), (4096, .live 2 [.agg [.nil, .t (.int .i64 0)]] true true)]) ?_ (fun k hk => ?_)
    · refine Weak.rd id ?_ ?_ rfl
      all_goals simp (config := { maxSteps := 2000000 }) (disch := (first | omega | (simp only [lens, lenm]; omega))) only [go_sem, ↓reduceIte, Nat.reduceAdd, Nat.reduceEqDiff, Nat.reduceSub, Nat.reduceMul, Nat.reduceLT, Nat.reduceLeDiff, Nat.reduceBEq, Int.reduceEq, Int.reduceLT, Int.reduceLE, Int.reduceToNat, Int.reduceNeg, Int.reduceAdd, Int.reduceSub, Int.reduceMul, Int.reduceMod, Int.reduceDiv, reduceCtorEq, Nat.reducePow, Int.reducePow, id]
    · rcases (show k = 0 ∨ k = 1 ∨ k = 2 by omega) with rfl | rfl | rfl
      · simp (config := { maxSteps := 2000000 }) (disch := (first | omega | (simp only [lens, lenm]; omega))) only [go_sem, ↓reduceIte, Nat.reduceAdd, Nat.reduceEqDiff, Nat.reduceSub, Nat.reduceMul, Nat.reduceLT, Nat.reduceLeDiff, Nat.reduceBEq, Int.reduceEq, Int.reduceLT, Int.reduceLE, Int.reduceToNat, Int.reduceNeg, Int.reduceAdd, Int.reduceSub, Int.reduceMul, Int.reduceMod, Int.reduceDiv, reduceCtorEq, Nat.reducePow, Int.reducePow, ac_ref8_New_L0, c0, c1, newB_length, h1, init_eq0, init_eq1, hf1, hf2]
        refine loop_upto 16 (fun i => [(0, .t (.int .i64 s)), (2, .ref 4096 0 0), (3, .ref 8208 0 0), (4, .t (.int .i64 0)), (5, .sl 9100 0 i), (6, .t (.int .i64 (i : Nat)))]) (fun i => [(9100, .live 1 ((((newB 0).take i).map bsT).map V.t) true false), (8208, .live 2 [.agg [.nil, .t (.int .i64 0)]] true true), (4096, .live 2 [.agg [.nil, .t (.int .i64 0)]] true true)]) ?_ (fun i hi => ?_)
        · refine Weak.cv0 (hv := [(9100, .live 1 [] true false)]) (ho := [(8208, .live 2 [.agg [.nil, .t (.int .i64 0)]] true true), (4096, .live 2 [.agg [.nil, .t (.int .i64 0)]] true true)]) id ?_ ?_ rfl rfl
          all_goals simp (config := { maxSteps := 2000000 }) (disch := (first | omega | (simp only [lens, lenm]; omega))) only [go_sem, ↓reduceIte, Nat.reduceAdd, Nat.reduceEqDiff, Nat.reduceSub, Nat.reduceMul, Nat.reduceLT, Nat.reduceLeDiff, Nat.reduceBEq, Int.reduceEq, Int.reduceLT, Int.reduceLE, Int.reduceToNat, Int.reduceNeg, Int.reduceAdd, Int.reduceSub, Int.reduceMul, Int.reduceMod, Int.reduceDiv, reduceCtorEq, Nat.reducePow, Int.reducePow, List.map_cons, List.map_nil, id]
        · by_cases hlt : i < 16
          · simp (config := { maxSteps := 2000000 }) (disch := (first | omega | (simp only [lens, lenm]; omega))) only [go_sem, ↓reduceIte, Nat.reduceAdd, Nat.reduceEqDiff, Nat.reduceSub, Nat.reduceMul, Nat.reduceLT, Nat.reduceLeDiff, Nat.reduceBEq, Int.reduceEq, Int.reduceLT, Int.reduceLE, Int.reduceToNat, Int.reduceNeg, Int.reduceAdd, Int.reduceSub, Int.reduceMul, Int.reduceMod, Int.reduceDiv, reduceCtorEq, Nat.reducePow, Int.reducePow, ac_ref8_New_L1, c0, c1, newB_length, h1, init_eq0, init_eq1, hf1, hf2]
            refine ⟨hlt, Weak.cv (hv := []) [49200] (fun j => if j = 9100 then 49232 else j) ?_ rfl⟩
            simp (config := { maxSteps := 2000000 }) (disch := (first | omega | (simp only [lens, lenm]; omega))) only [go_sem, ↓reduceIte, Nat.reduceAdd, Nat.reduceEqDiff, Nat.reduceSub, Nat.reduceMul, Nat.reduceLT, Nat.reduceLeDiff, Nat.reduceBEq, Int.reduceEq, Int.reduceLT, Int.reduceLE, Int.reduceToNat, Int.reduceNeg, Int.reduceAdd, Int.reduceSub, Int.reduceMul, Int.reduceMod, Int.reduceDiv, reduceCtorEq, Nat.reducePow, Int.reducePow, newB_take hlt, szA, List.take_replicate, Nat.min_self]
            rfl
          · have e : i = 16 := by omega
            subst e
            simp (config := { maxSteps := 2000000 }) (disch := (first | omega | (simp only [lens, lenm]; omega))) only [go_sem, ↓reduceIte, Nat.reduceAdd, Nat.reduceEqDiff, Nat.reduceSub, Nat.reduceMul, Nat.reduceLT, Nat.reduceLeDiff, Nat.reduceBEq, Int.reduceEq, Int.reduceLT, Int.reduceLE, Int.reduceToNat, Int.reduceNeg, Int.reduceAdd, Int.reduceSub, Int.reduceMul, Int.reduceMod, Int.reduceDiv, reduceCtorEq, Nat.reducePow, Int.reducePow, ac_ref8_New_L1, c0, c1, newB_length, h1, init_eq0, init_eq1, hf1, hf2]
            refine Weak.rd (fun j => if j = 9000 then 53312 else if j = 9001 then 9100 else j) ?_ ?_ rfl
            all_goals simp (config := { maxSteps := 2000000 }) (disch := (first | omega | (simp only [lens, lenm]; omega))) only [go_sem, ↓reduceIte, Nat.reduceAdd, Nat.reduceEqDiff, Nat.reduceSub, Nat.reduceMul, Nat.reduceLT, Nat.reduceLeDiff, Nat.reduceBEq, Int.reduceEq, Int.reduceLT, Int.reduceLE, Int.reduceToNat, Int.reduceNeg, Int.reduceAdd, Int.reduceSub, Int.reduceMul, Int.reduceMod, Int.reduceDiv, reduceCtorEq, Nat.reducePow, Int.reducePow, newB_all]
      · simp (config := { maxSteps := 2000000 }) (disch := (first | omega | (simp only [lens, lenm]; omega))) only [go_sem, ↓reduceIte, Nat.reduceAdd, Nat.reduceEqDiff, Nat.reduceSub, Nat.reduceMul, Nat.reduceLT, Nat.reduceLeDiff, Nat.reduceBEq, Int.reduceEq, Int.reduceLT, Int.reduceLE, Int.reduceToNat, Int.reduceNeg, Int.reduceAdd, Int.reduceSub, Int.reduceMul, Int.reduceMod, Int.reduceDiv, reduceCtorEq, Nat.reducePow, Int.reducePow, ac_ref8_New_L0, c0, c1, newB_length, h1, init_eq0, init_eq1, hf1, hf2]
        refine loop_upto 16 (fun i => [(0, .t (.int .i64 s)), (2, .ref 4096 0 0), (3, .ref 8208 0 0), (4, .t (.int .i64 1)), (5, .sl 9100 0 i), (6, .t (.int .i64 (i : Nat)))]) (fun i => [(9100, .live 1 ((((newB 1).take i).map bsT).map V.t) true false), (8208, .live 2 [.agg [.sl 9000 0 1, .t (.int .i64 0)]] true true), (9000, .live 1 [.sl 9001 0 16] true false), (9001, .live 1 (((newB 0 : Bank).map bsT).map V.t) true false), (4096, .live 2 [.agg [.nil, .t (.int .i64 0)]] true true)]) ?_ (fun i hi => ?_)
        · refine Weak.cv0 (hv := [(9100, .live 1 [] true false)]) (ho := [(8208, .live 2 [.agg [.sl 9000 0 1, .t (.int .i64 0)]] true true), (9000, .live 1 [.sl 9001 0 16] true false), (9001, .live 1 (((newB 0 : Bank).map bsT).map V.t) true false), (4096, .live 2 [.agg [.nil, .t (.int .i64 0)]] true true)]) id ?_ ?_ rfl rfl
          all_goals simp (config := { maxSteps := 2000000 }) (disch := (first | omega | (simp only [lens, lenm]; omega))) only [go_sem, ↓reduceIte, Nat.reduceAdd, Nat.reduceEqDiff, Nat.reduceSub, Nat.reduceMul, Nat.reduceLT, Nat.reduceLeDiff, Nat.reduceBEq, Int.reduceEq, Int.reduceLT, Int.reduceLE, Int.reduceToNat, Int.reduceNeg, Int.reduceAdd, Int.reduceSub, Int.reduceMul, Int.reduceMod, Int.reduceDiv, reduceCtorEq, Nat.reducePow, Int.reducePow, List.map_cons, List.map_nil, id]
        · by_cases hlt : i < 16
          · simp (config := { maxSteps := 2000000 }) (disch := (first | omega | (simp only [lens, lenm]; omega))) only [go_sem, ↓reduceIte, Nat.reduceAdd, Nat.reduceEqDiff, Nat.reduceSub, Nat.reduceMul, Nat.reduceLT, Nat.reduceLeDiff, Nat.reduceBEq, Int.reduceEq, Int.reduceLT, Int.reduceLE, Int.reduceToNat, Int.reduceNeg, Int.reduceAdd, Int.reduceSub, Int.reduceMul, Int.reduceMod, Int.reduceDiv, reduceCtorEq, Nat.reducePow, Int.reducePow, ac_ref8_New_L1, c0, c1, newB_length, h1, init_eq0, init_eq1, hf1, hf2]
            refine ⟨hlt, Weak.cv (hv := []) [49200] (fun j => if j = 9100 then 49232 else j) ?_ rfl⟩
            simp (config := { maxSteps := 2000000 }) (disch := (first | omega | (simp only [lens, lenm]; omega))) only [go_sem, ↓reduceIte, Nat.reduceAdd, Nat.reduceEqDiff, Nat.reduceSub, Nat.reduceMul, Nat.reduceLT, Nat.reduceLeDiff, Nat.reduceBEq, Int.reduceEq, Int.reduceLT, Int.reduceLE, Int.reduceToNat, Int.reduceNeg, Int.reduceAdd, Int.reduceSub, Int.reduceMul, Int.reduceMod, Int.reduceDiv, reduceCtorEq, Nat.reducePow, Int.reducePow, newB_take hlt, szA, List.take_replicate, Nat.min_self]
            rfl
          · have e : i = 16 := by omega
            subst e
            simp (config := { maxSteps := 2000000 }) (disch := (first | omega | (simp only [lens, lenm]; omega))) only [go_sem, ↓reduceIte, Nat.reduceAdd, Nat.reduceEqDiff, Nat.reduceSub, Nat.reduceMul, Nat.reduceLT, Nat.reduceLeDiff, Nat.reduceBEq, Int.reduceEq, Int.reduceLT, Int.reduceLE, Int.reduceToNat, Int.reduceNeg, Int.reduceAdd, Int.reduceSub, Int.reduceMul, Int.reduceMod, Int.reduceDiv, reduceCtorEq, Nat.reducePow, Int.reducePow, ac_ref8_New_L1, c0, c1, newB_length, h1, init_eq0, init_eq1, hf1, hf2]
            refine Weak.rd (fun j => if j = 9000 then 53312 else if j = 9002 then 9100 else j) ?_ ?_ rfl
            all_goals simp (config := { maxSteps := 2000000 }) (disch := (first | omega | (simp only [lens, lenm]; omega))) only [go_sem, ↓reduceIte, Nat.reduceAdd, Nat.reduceEqDiff, Nat.reduceSub, Nat.reduceMul, Nat.reduceLT, Nat.reduceLeDiff, Nat.reduceBEq, Int.reduceEq, Int.reduceLT, Int.reduceLE, Int.reduceToNat, Int.reduceNeg, Int.reduceAdd, Int.reduceSub, Int.reduceMul, Int.reduceMod, Int.reduceDiv, reduceCtorEq, Nat.reducePow, Int.reducePow, newB_all]
      · simp (config := { maxSteps := 2000000 }) (disch := (first | omega | (simp only [lens, lenm]; omega))) only [go_sem, ↓reduceIte, Nat.reduceAdd, Nat.reduceEqDiff, Nat.reduceSub, Nat.reduceMul, Nat.reduceLT, Nat.reduceLeDiff, Nat.reduceBEq, Int.reduceEq, Int.reduceLT, Int.reduceLE, Int.reduceToNat, Int.reduceNeg, Int.reduceAdd, Int.reduceSub, Int.reduceMul, Int.reduceMod, Int.reduceDiv, reduceCtorEq, Nat.reducePow, Int.reducePow, ac_ref8_New_L0, c0, c1, newB_length, h1, init_eq0, init_eq1, hf1, hf2]
        exact ⟨rfl, rfl⟩
end Go.Eng
end
section
set_option maxRecDepth 20000
set_option maxHeartbeats 16000000
namespace Go.Eng
def ct_index : Ct where
  α := Int
  as x := [.t (.int .i64 x)]
  ins _ := []
  pre _ := True
  r x := .t (.bool (decide ((0 : Int) ≤ x ∧ x < (16 : Int))))
  outs _ := []
  inj := by
    intro a b h _
    simp at h
    subst h; exact ⟨rfl, rfl⟩
theorem index_t {i : Int} (h : 0 ≤ i ∧ i < 16) : ct_index.fs [.t (.int .i64 i)] [] = some (.t (.bool true), []) := by
  refine (ct_index.eq i trivial).trans ?_
  simp [ct_index, h]
theorem index_f {i : Int} (h : ¬ (0 ≤ i ∧ i < 16)) : ct_index.fs [.t (.int .i64 i)] [] = some (.t (.bool false), []) := by
  refine (ct_index.eq i trivial).trans ?_
  simp only [ct_index, decide_eq_false h]
def ct_on : Ct where
  α := List Bank × Int × Nat
  as x := [.t (regT x.1 x.2.1), .t (.int .i64 x.2.2)]
  ins _ := []
  pre x := RK x.1 ∧ x.2.2 < 2
  r x := .t (.bool (onB x.1 x.2.2))
  outs _ := []
  inj := by
    rintro ⟨a, u, i⟩ ⟨b, v, j⟩ h _
    simp only [List.cons.injEq, V.t.injEq, T.int.injEq, true_and, and_true, Int.natCast_inj] at h
    obtain ⟨h1, rfl⟩ := h
    obtain ⟨rfl, rfl⟩ := regT_inj h1
    exact ⟨rfl, rfl⟩
theorem on_eq {bk : List Bank} {u : Int} {a : Nat} (hk : RK bk) (h : a < 2) : ct_on.fs [.t (.agg [.sl (bk.map bankT), .int .i64 u]), .t (.int .i64 a)] [] = some (.t (.bool (onB bk a)), []) := ct_on.eq (bk, u, a) ⟨hk, h⟩
theorem on_eq0 {b0 b1 : Bank} {u : Int} (hk : RK [b0, b1]) : ct_on.fs [.t (.agg [.sl [.sl (b0.map bsT), .sl (b1.map bsT)], .int .i64 u]), .t (.int .i64 0)] [] = some (.t (.bool (decide (b0.length = 16))), []) := ct_on.eq ([b0, b1], u, 0) ⟨hk, by show 0 < 2; omega⟩
theorem on_eq1 {b0 b1 : Bank} {u : Int} (hk : RK [b0, b1]) : ct_on.fs [.t (.agg [.sl [.sl (b0.map bsT), .sl (b1.map bsT)], .int .i64 u]), .t (.int .i64 1)] [] = some (.t (.bool (decide (b1.length = 16))), []) := ct_on.eq ([b0, b1], u, 1) ⟨hk, by show 1 < 2; omega⟩
theorem on_eqn {u : Int} {a : Nat} (h : a < 2) : ct_on.fs [.t (.agg [.sl [], .int .i64 u]), .t (.int .i64 a)] [] = some (.t (.bool false), []) := by
  refine (ct_on.eq ([], u, a) ⟨.nil, h⟩).trans ?_
  simp [ct_on, onB]
def ct_actv : Ct where
  α := List Bank × Int × Nat
  as x := [.t (regT x.1 x.2.1), .t (.int .i64 x.2.2)]
  ins _ := []
  pre x := RK x.1 ∧ x.2.2 < 1000000000
  r x := .t (.bool (actB x.1 x.2.2))
  outs _ := []
  inj := by
    rintro ⟨a, u, i⟩ ⟨b, v, j⟩ h _
    simp only [List.cons.injEq, V.t.injEq, T.int.injEq, true_and, and_true, Int.natCast_inj] at h
    obtain ⟨h1, rfl⟩ := h
    obtain ⟨rfl, rfl⟩ := regT_inj h1
    exact ⟨rfl, rfl⟩
theorem RK.on {bk : List Bank} (h : RK bk) (a : Nat) : actB bk a = onB bk a := by
  cases h with
  | nil => simp [actB, onB]
  | two b0 b1 h0 h1 =>
    have key : ∀ b : Bank, bkOk b → decide (0 < List.length b) = decide (List.length b = 16) := by
      intro b hb
      rcases hb with h | h <;> simp [h]
    match a with
    | 0 => simpa [actB, onB] using key b0 h0
    | 1 => simpa [actB, onB] using key b1 h1
    | a + 2 => simp [actB, onB]
theorem actv_eq {bk : List Bank} {u : Int} {a : Nat} (hk : RK bk) (h : a < 1000000000) : ct_actv.fs [.t (.agg [.sl (bk.map bankT), .int .i64 u]), .t (.int .i64 a)] [] = some (.t (.bool (onB bk a)), []) := by
  refine (ct_actv.eq (bk, u, a) ⟨hk, h⟩).trans ?_
  simp only [ct_actv, hk.on]
def valL (bk : List Bank) (a i : Nat) : List UInt8 := (bk.getD a []).getD i []
def badR (bank i : Int) : Prop := bank < 0 ∨ 2 ≤ bank ∨ i < 0 ∨ 16 ≤ i
instance (bank i : Int) : Decidable (badR bank i) := by unfold badR; infer_instance
def valR (bk : List Bank) (bank i : Int) : V := if badR bank i then .tup [.nil, .t (.int .i64 1)] else if onB bk bank.toNat then .tup [.sl 0 0 (valL bk bank.toNat i.toNat).length, .t (.int .i64 0)] else .tup [.nil, .t (.int .i64 27)]
def valO (bk : List Bank) (bank i : Int) : List Ob := if badR bank i then [] else if onB bk bank.toNat then [.live 1 (((valL bk bank.toNat i.toNat).map byteT).map V.t) true false] else []
theorem RM.val {bk : List Bank} (h : RM bk) (a i : Nat) : (valL bk a i).length < 1000000000 := by
  by_cases ha : a < bk.length
  · have e : bk.getD a [] = bk[a] := by simp [List.getD, ha]
    unfold valL
    rw [e]
    exact modL_get (h.2 _ (List.getElem_mem ha)) i
  · have e : bk.getD a [] = [] := by simp [List.getD, List.getElem?_eq_none (Nat.le_of_not_lt ha)]
    unfold valL
    rw [e]; simp
theorem RK.len {bk : List Bank} (h : RK bk) {a : Nat} (ho : onB bk a = true) : a < bk.length := by
  simp only [onB, decide_eq_true_eq] at ho
  rcases Nat.lt_or_ge a bk.length with h1 | h1
  · exact h1
  · rw [List.getD, List.getElem?_eq_none h1] at ho; simp at ho
theorem w_registers_Value (tab : Tab) (gl : Gl) (n1 n2 : Nat) (h1 : tab.look n1 = some ct_index.fs) (h2 : tab.look n2 = some ct_on.fs) (bk : List Bank) (u bank i : Int) (hk : RM bk) :
    (ac_registers_Value n1 n2).wp tab gl (zipF 0 [.t (regT bk u), .t (.int .i64 bank), .t (.int .i64 i)]) (zipF 0 []) (resF [] [(6, none), (7, none)] 0 (fun r o => r = valR bk bank i ∧ o = valO bk bank i)) := by
  by_cases hb : badR bank i
  · rw [valR, valO, if_pos hb, if_pos hb]
    by_cases b1 : bank < 0
    · simp (config := { maxSteps := 2000000 }) (disch := (first | omega | (simp only [lens, lenm]; omega))) only [go_sem, ↓reduceIte, Nat.reduceAdd, Nat.reduceEqDiff, Nat.reduceSub, Nat.reduceMul, Nat.reduceLT, Nat.reduceLeDiff, Nat.reduceBEq, Int.reduceEq, Int.reduceLT, Int.reduceLE, Int.reduceToNat, Int.reduceNeg, Int.reduceAdd, Int.reduceSub, Int.reduceMul, Int.reduceMod, Int.reduceDiv, reduceCtorEq, Nat.reducePow, Int.reducePow, ac_registers_Value, b1]
    · by_cases b2 : 2 ≤ bank
      · simp (config := { maxSteps := 2000000 }) (disch := (first | omega | (simp only [lens, lenm]; omega))) only [go_sem, ↓reduceIte, Nat.reduceAdd, Nat.reduceEqDiff, Nat.reduceSub, Nat.reduceMul, Nat.reduceLT, Nat.reduceLeDiff, Nat.reduceBEq, Int.reduceEq, Int.reduceLT, Int.reduceLE, Int.reduceToNat, Int.reduceNeg, Int.reduceAdd, Int.reduceSub, Int.reduceMul, Int.reduceMod, Int.reduceDiv, reduceCtorEq, Nat.reducePow, Int.reducePow, ac_registers_Value, b1]
      · have hi : ¬ (0 ≤ i ∧ i < 16) := by unfold badR at hb; omega
        simp (config := { maxSteps := 2000000 }) (disch := (first | omega | (simp only [lens, lenm]; omega))) only [go_sem, ↓reduceIte, Nat.reduceAdd, Nat.reduceEqDiff, Nat.reduceSub, Nat.reduceMul, Nat.reduceLT, Nat.reduceLeDiff, Nat.reduceBEq, Int.reduceEq, Int.reduceLT, Int.reduceLE, Int.reduceToNat, Int.reduceNeg, Int.reduceAdd, Int.reduceSub, Int.reduceMul, Int.reduceMod, Int.reduceDiv, reduceCtorEq, Nat.reducePow, Int.reducePow, ac_registers_Value, b1, h1, index_f]
  · rw [valR, valO, if_neg hb, if_neg hb]
    unfold badR at hb
    obtain ⟨a, rfl⟩ := Int.eq_ofNat_of_zero_le (show 0 ≤ bank by omega)
    obtain ⟨k, rfl⟩ := Int.eq_ofNat_of_zero_le (show 0 ≤ i by omega)
    have hon := on_eq (u := u) (a := a) hk.1 (by omega)
    by_cases ho : onB bk a = true
    · have hl := hk.1.len ho
      have hv := hk.val a k
      have hl2 : (bk.getD a []).length = 16 := by simpa [onB] using ho
      rw [ho] at hon
      unfold valL at hv
      simp (config := { maxSteps := 2000000 }) (disch := (first | omega | (simp only [lens, lenm]; omega))) only [go_sem, ↓reduceIte, Nat.reduceAdd, Nat.reduceEqDiff, Nat.reduceSub, Nat.reduceMul, Nat.reduceLT, Nat.reduceLeDiff, Nat.reduceBEq, Int.reduceEq, Int.reduceLT, Int.reduceLE, Int.reduceToNat, Int.reduceNeg, Int.reduceAdd, Int.reduceSub, Int.reduceMul, Int.reduceMod, Int.reduceDiv, reduceCtorEq, Nat.reducePow, Int.reducePow, ac_registers_Value, h1, h2, index_t, hon, ho, valL]
    · have ho' : onB bk a = false := by simpa using ho
      rw [ho'] at hon
      simp (config := { maxSteps := 2000000 }) (disch := (first | omega | (simp only [lens, lenm]; omega))) only [go_sem, ↓reduceIte, Nat.reduceAdd, Nat.reduceEqDiff, Nat.reduceSub, Nat.reduceMul, Nat.reduceLT, Nat.reduceLeDiff, Nat.reduceBEq, Int.reduceEq, Int.reduceLT, Int.reduceLE, Int.reduceToNat, Int.reduceNeg, Int.reduceAdd, Int.reduceSub, Int.reduceMul, Int.reduceMod, Int.reduceDiv, reduceCtorEq, Nat.reducePow, Int.reducePow, ac_registers_Value, h1, h2, index_t, hon, ho']
end Go.Eng
end
section
set_option maxRecDepth 20000
set_option maxHeartbeats 16000000
namespace Go.Eng
def ct_least : Ct where
  α := Int × Bool
  as x := [.t (.int .i64 x.1), .t (.bool x.2)]
  ins _ := []
  pre _ := True
  r x := .t (.int .i64 (leastI x.1 x.2))
  outs _ := []
  inj := by
    rintro ⟨a, b⟩ ⟨c, d⟩ h _
    simp at h
    obtain ⟨rfl, rfl⟩ := h; exact ⟨rfl, rfl⟩
theorem least_eq {i : Int} {rs : Bool} : ct_least.fs [.t (.int .i64 i), .t (.bool rs)] [] = some (.t (.int .i64 (leastI i rs)), []) := ct_least.eq (i, rs) trivial
end Go.Eng
end
