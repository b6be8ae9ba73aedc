/- My own text: an abstract machine, its walks over the functions reached, and their tie to the program. -/
import Derived.Test.YtlakkalpdcjpnaaDoorT4
import Derived.Test.YtlakkalpdcjpnaaDoorR3
import Derived.Conc.MuLone
import Derived.KernelRfl
import Derived.Lib.MakeNoZero
import Derived.Laws.Externs
set_option linter.unusedSimpArgs false
set_option linter.unusedVariables false
section
namespace Go.Eng
def ac_draw_Codes_Left : AC :=
 (.seq
 (rG 4096 [mC 2 (.t (.bool false))])
 (.seq
 (.reg 8192 (some [0, 1, 3, 7, 0, 16, 48, 112, 240, 511, 1023]) [mv 3 0,oO 4 .nilchk [.tmp 3],oO 5 (.faddr 1) [.tmp 4],oO 6 (.load 1 false) [.tmp 5],mv 7 0,oO 8 .nilchk [.tmp 7],oO 9 (.faddr 0) [.tmp 8],oO 10 (.load 1 false) [.tmp 9],oO 11 .len [.tmp 10],bT 12 .lss 6 11,mv 2 12])
 .ret))
def hints_draw_Codes_Left : List (Nat × List Nat) := []
def ac_draw_Codes_Events_L0 (n_draw_Codes_Left n_draw_Codes_Event : Nat) : AC :=
 (.seq
 (.seq
 (rG 12288 [mv 8 0,cL 9 n_draw_Codes_Left true [.tmp 8],mv 10 9,mG 11 7 10,oG 12 10 .len [.tmp 11],mG 13 2 10,oG 14 10 (.bin .lss) [.tmp 12, .tmp 13],oO 15 .pick [.tmp 10, .tmp 14, .cst (.t (.bool false))]])
 (.cond (.tmp 15)
 .skip
 (.exit 0)))
 (.block 1
 (rG 16384 [mv 16 7,mv 17 0,mv 18 1,cL 19 n_draw_Codes_Event true [.tmp 17, .tmp 18],oO 20 (.bslice 4 1 (.agg [(.t (.int .i64 0)), (.t (.int .i64 0)), .nil, .nil]) [0]) [.tmp 19],oO 21 (.append 4 64) [.tmp 16, .tmp 20],mv 7 21])))
def ac_draw_Codes_Events (n_draw_Codes_Left n_draw_Codes_Event : Nat) : AC :=
 (.seq
 (rG 4096 [mC 6 .nil])
 (.seq
 (rG 8192 [mC 7 .nil])
 (.seq
 (.block 0
 (.loop (ac_draw_Codes_Events_L0 n_draw_Codes_Left n_draw_Codes_Event)))
 (.seq
 (rG 20480 [mv 22 7,mv 6 22])
 .ret))))
def hints_draw_Codes_Events : List (Nat × List Nat) := [(2, [1]), (3, [3])]
def ac_draw_Chain_L2 : AC :=
 (.seq
 (.seq
 (rG 61440 [mv 34 9,mv 35 4,oO 36 .len [.tmp 35],bT 37 .lss 34 36])
 (.cond (.tmp 37)
 .skip
 (.exit 4)))
 (.seq
 (.block 5
 (.reg 69632 (some [0, 1, 3, 3, 15, 31, 63, 3, 131, 511, 1023, 2047, 2047, 8191, 16383, 32767, 2047, 67583, 262143, 524287, 1048575, 2097151]) [mv 40 8,mv 41 40,mF 42 4 41,mF 43 9 41,oF 44 41 (.iaddr 4) [.tmp 42, .tmp 43],oF 45 41 (.faddr 0) [.tmp 44],oF 46 41 (.load 1 false) [.tmp 45],oF 47 41 (.faddr 0) [.tmp 7],oF 48 41 (.load 1 false) [.tmp 47],oF 49 41 (.bin .eql) [.tmp 46, .tmp 48],mF 50 49 41,mG 51 4 50,mG 52 9 50,oG 53 50 (.iaddr 4) [.tmp 51, .tmp 52],oG 54 50 (.faddr 1) [.tmp 53],oG 55 50 (.load 1 false) [.tmp 54],oG 56 50 (.faddr 1) [.tmp 7],oG 57 50 (.load 1 false) [.tmp 56],oG 58 50 (.bin .eql) [.tmp 55, .tmp 57],oF 59 41 .pick [.tmp 50, .tmp 58, .cst (.t (.bool false))],oO 60 .pick [.tmp 41, .cst (.t (.bool true)), .tmp 59],mv 8 60]))
 (rG 65536 [mv 38 9,bN 39 .add 38 1,mv 9 39])))
def ac_draw_Chain_L1 (n_draw_Codes_Image : Nat) : AC :=
 (.seq
 (.seq
 (rG 40960 [mv 27 6,bN 28 .gtr 27 0])
 (.cond (.tmp 28)
 .skip
 (.exit 2)))
 (.seq
 (.block 3
 (.seq
 (rG 49152 [mv 31 3,mv 32 5,cL 33 n_draw_Codes_Image true [.tmp 31, .tmp 32],oO 7 (.new 4 [(.agg [(.t (.int .i64 0)), (.t (strT [])), (.t (.int .i64 0)), .nil])]) [],oS 4 7 33])
 (.seq
 (rG 53248 [mC 8 (.t (.bool false))])
 (.seq
 (.seq
 (rG 57344 [mC 9 (.t (.int .i64 0))])
 (.block 4
 (.loop ac_draw_Chain_L2)))
 (.seq
 (rG 73728 [mv 61 8,oO 62 (.un .not) [.tmp 61]])
 (.cond (.tmp 62)
 (rG 77824 [mv 63 4,oO 64 (.load 4 true) [.tmp 7],oO 65 (.bslice 4 1 (.agg [(.t (.int .i64 0)), (.t (strT [])), (.t (.int .i64 0)), .nil]) [0]) [.tmp 64],oO 66 (.append 4 56) [.tmp 63, .tmp 65],mv 4 66])
 .skip))))))
 (rG 45056 [mv 29 6,bN 30 .sub 29 1,mv 6 30])))
def ac_draw_Chain_L0 (n_draw_Codes_Next n_draw_Codes_Image : Nat) : AC :=
 (.seq
 (.seq
 (rG 20480 [mv 12 5,bN 13 .leq 12 4])
 (.cond (.tmp 13)
 .skip
 (.exit 0)))
 (.seq
 (.block 1
 (.seq
 (rG 28672 [mv 16 3,cL 17 n_draw_Codes_Next true [.tmp 16, .cst (.t (.int .i64 3))],mv 6 17])
 (.seq
 (.seq
 (rG 32768 [mv 18 5,bN 19 .eql 18 1,mv 20 19,mF 21 5 20,oF 22 20 (.bin .eql) [.tmp 21, .cst (.t (.int .i64 3))],oO 23 .pick [.tmp 20, .cst (.t (.bool true)), .tmp 22]])
 (.cond (.tmp 23)
 (rG 36864 [mv 24 3,cL 25 n_draw_Codes_Next true [.tmp 24, .cst (.t (.int .i64 2))],oO 26 (.bin .add) [.cst (.t (.int .i64 1)), .tmp 25],mv 6 26])
 .skip))
 (.block 2
 (.loop (ac_draw_Chain_L1 n_draw_Codes_Image))))))
 (rG 24576 [mv 14 5,bN 15 .add 14 1,mv 5 15])))
def ac_draw_Chain (n_draw_New n_draw_Codes_Next n_draw_Codes_Image : Nat) : AC :=
 (.seq
 (rG 4096 [mC 2 .nil])
 (.seq
 (rG 8192 [mv 10 0,cL 11 n_draw_New true [.tmp 10, .cst (.t (.int .i64 200))],mv 3 11])
 (.seq
 (rG 12288 [mC 4 .nil])
 (.seq
 (.seq
 (rG 16384 [mC 5 (.t (.int .i64 1))])
 (.block 0
 (.loop (ac_draw_Chain_L0 n_draw_Codes_Next n_draw_Codes_Image))))
 (.seq
 (rG 81920 [mv 67 4,mv 2 67])
 .ret)))))
def hints_draw_Chain : List (Nat × List Nat) := [(1, [1]), (6, [1]), (8, [1]), (11, [2])]
def ac_draw_Log_L0 (n_draw_Codes_Next n_draw_Codes_Event n_ref25_Make : Nat) : AC :=
 (.seq
 (.seq
 (rG 40960 [mv 43 10,bN 44 .gtr 43 0])
 (.cond (.tmp 44)
 .skip
 (.exit 0)))
 (.seq
 (.block 1
 (.seq
 (rG 49152 [mv 47 7,oO 48 (.faddr 2) [.tmp 8],oO 49 (.load 1 false) [.tmp 48],oO 50 .len [.tmp 49],cL 51 n_draw_Codes_Next true [.tmp 47, .tmp 50],mv 11 51])
 (.seq
 (rG 53248 [mv 52 7,cL 53 n_draw_Codes_Next true [.tmp 52, .cst (.t (.int .i64 5))]])
 (.block 2
 (.seq
 (rG 61440 [bN 73 .eql 53 0,mv 72 73])
 (.cond (.tmp 72)
 (.reg 65536 (some [0, 0, 2, 0, 14, 31, 0, 64, 0, 256, 960, 2047, 4095, 8191]) [oO 74 (.bslice 4 0 (.agg [(.t (.int .i64 0)), (.t (.int .i64 0)), .nil, .nil]) []) [],oO 75 (.faddr 2) [.tmp 8],oO 76 (.load 1 false) [.tmp 75],mv 77 11,oO 78 (.slice 4 false true false) [.tmp 76, .tmp 77],oO 79 (.append 4 64) [.tmp 74, .tmp 78],oO 80 (.faddr 2) [.tmp 8],oO 81 (.load 1 false) [.tmp 80],mv 82 11,bN 83 .add 82 1,oO 84 (.slice 4 true false false) [.tmp 81, .tmp 83],oO 85 (.append 4 64) [.tmp 79, .tmp 84],oO 86 (.faddr 2) [.tmp 8],oS 1 86 85])
 (.seq
 (rG 69632 [bN 88 .eql 53 1,mv 87 88])
 (.cond (.tmp 87)
 (.reg 73728 (some [0, 0, 2, 0, 14, 31, 0, 64, 0, 448, 960, 1984, 4095, 0, 8192, 0, 57344, 131071, 262143, 524287]) [oO 89 (.bslice 4 0 (.agg [(.t (.int .i64 0)), (.t (.int .i64 0)), .nil, .nil]) []) [],oO 90 (.faddr 2) [.tmp 8],oO 91 (.load 1 false) [.tmp 90],mv 92 11,oO 93 (.slice 4 false true false) [.tmp 91, .tmp 92],oO 94 (.append 4 64) [.tmp 89, .tmp 93],oO 95 (.faddr 2) [.tmp 8],oO 96 (.load 1 false) [.tmp 95],mv 97 11,oO 98 (.iaddr 4) [.tmp 96, .tmp 97],oO 99 (.load 4 true) [.tmp 98],oO 100 (.bslice 4 1 (.agg [(.t (.int .i64 0)), (.t (.int .i64 0)), .nil, .nil]) [0]) [.tmp 99],oO 101 (.append 4 64) [.tmp 94, .tmp 100],oO 102 (.faddr 2) [.tmp 8],oO 103 (.load 1 false) [.tmp 102],mv 104 11,oO 105 (.slice 4 true false false) [.tmp 103, .tmp 104],oO 106 (.append 4 64) [.tmp 101, .tmp 105],oO 107 (.faddr 2) [.tmp 8],oS 1 107 106])
 (.seq
 (rG 77824 [bN 109 .eql 53 2,mv 108 109])
 (.cond (.tmp 108)
 (.seq
 (rG 81920 [mv 110 7,oO 111 (.faddr 2) [.tmp 8],oO 112 (.load 1 false) [.tmp 111],oO 113 .len [.tmp 112],cL 114 n_draw_Codes_Next true [.tmp 110, .tmp 113],mv 12 114])
 (.seq
 (rG 86016 [oO 115 (.bslice 4 0 (.agg [(.t (.int .i64 0)), (.t (.int .i64 0)), .nil, .nil]) []) [],oO 116 (.faddr 2) [.tmp 8],oO 117 (.load 1 false) [.tmp 116],oO 118 (.append 4 64) [.tmp 115, .tmp 117],oO 119 (.faddr 2) [.tmp 8],oS 1 119 118])
 (.reg 90112 (some [0, 1, 0, 0, 8, 0, 0, 64, 0, 448, 960, 0, 2048, 0, 14336, 30720, 65479, 131015, 262143, 524287]) [oO 120 (.faddr 2) [.tmp 8],oO 121 (.load 1 false) [.tmp 120],mv 122 11,oO 123 (.faddr 2) [.tmp 8],oO 124 (.load 1 false) [.tmp 123],mv 125 12,oO 126 (.faddr 2) [.tmp 8],oO 127 (.load 1 false) [.tmp 126],mv 128 12,oO 129 (.iaddr 4) [.tmp 127, .tmp 128],oO 130 (.load 4 true) [.tmp 129],oO 131 (.faddr 2) [.tmp 8],oO 132 (.load 1 false) [.tmp 131],mv 133 11,oO 134 (.iaddr 4) [.tmp 132, .tmp 133],oO 135 (.load 4 true) [.tmp 134],oO 136 (.iaddr 4) [.tmp 121, .tmp 122],oS 4 136 130,oO 137 (.iaddr 4) [.tmp 124, .tmp 125],oS 4 137 135])))
 (.seq
 (rG 94208 [bN 139 .eql 53 3,mv 138 139])
 (.cond (.tmp 138)
 (.reg 98304 (some [0, 0, 2, 0, 14, 31, 0, 0, 255, 511, 1023, 0, 2048, 0, 14336, 32767, 65535, 131071]) [oO 140 (.bslice 4 0 (.agg [(.t (.int .i64 0)), (.t (.int .i64 0)), .nil, .nil]) []) [],oO 141 (.faddr 2) [.tmp 8],oO 142 (.load 1 false) [.tmp 141],mv 143 11,oO 144 (.slice 4 false true false) [.tmp 142, .tmp 143],oO 145 (.append 4 64) [.tmp 140, .tmp 144],mv 146 7,mv 147 1,cL 148 n_draw_Codes_Event true [.tmp 146, .tmp 147],oO 149 (.bslice 4 1 (.agg [(.t (.int .i64 0)), (.t (.int .i64 0)), .nil, .nil]) [0]) [.tmp 148],oO 150 (.append 4 64) [.tmp 145, .tmp 149],oO 151 (.faddr 2) [.tmp 8],oO 152 (.load 1 false) [.tmp 151],mv 153 11,oO 154 (.slice 4 true false false) [.tmp 152, .tmp 153],oO 155 (.append 4 64) [.tmp 150, .tmp 154],oO 156 (.faddr 2) [.tmp 8],oS 1 156 155])
 (.reg 57344 (some [0, 0, 2, 0, 14, 31, 0, 0, 128, 511, 1023, 2047, 0, 4096, 0, 28672, 65535, 131071, 262143]) [oO 54 (.bslice 4 0 (.agg [(.t (.int .i64 0)), (.t (.int .i64 0)), .nil, .nil]) []) [],oO 55 (.faddr 2) [.tmp 8],oO 56 (.load 1 false) [.tmp 55],mv 57 11,oO 58 (.slice 4 false true false) [.tmp 56, .tmp 57],oO 59 (.append 4 64) [.tmp 54, .tmp 58],mv 60 1,oO 61 (.bslice 1 4 (.t (byteT 0)) [0, 1, 2, 3]) [.cst (.t (byteT 110)), .cst (.t (byteT 111)), .cst (.t (byteT 116)), .cst (.t (byteT 101))],oO 62 .idsl [.tmp 61],cL 63 n_ref25_Make true [.cst (.t (.int .i64 3)), .cst (.t (.int .i64 5)), .tmp 60, .tmp 62],oO 64 (.bslice 4 1 (.agg [(.t (.int .i64 0)), (.t (.int .i64 0)), .nil, .nil]) [0]) [.tmp 63],oO 65 (.append 4 64) [.tmp 59, .tmp 64],oO 66 (.faddr 2) [.tmp 8],oO 67 (.load 1 false) [.tmp 66],mv 68 11,oO 69 (.slice 4 true false false) [.tmp 67, .tmp 68],oO 70 (.append 4 64) [.tmp 65, .tmp 69],oO 71 (.faddr 2) [.tmp 8],oS 1 71 70])))))))))))))
 (rG 45056 [mv 45 10,bN 46 .sub 45 1,mv 10 46])))
def ac_draw_Log (n_draw_New n_draw_Mod n_draw_Codes_Next n_draw_Codes_Events n_draw_Chain n_ref25_Events n_draw_Codes_Event n_ref25_Make : Nat) : AC :=
 (.seq
 (rG 4096 [oO 6 (.new 3 [(.agg [(.t (.int .i64 0)), (.t (.int .i64 0)), .nil])]) []])
 (.seq
 (rG 8192 [mv 13 0,cL 14 n_draw_New true [.tmp 13, .cst (.t (.int .i64 240))],mv 7 14])
 (.seq
 (rG 12288 [mv 15 1,mv 16 2,cL 17 n_draw_Mod false [.tmp 16, .cst (.t (.int .i64 1000))],oO 18 (.build [(.t (.int .i64 0)), (.t (.int .i64 0)), .nil] [(0, 1), (1, 1)]) [.tmp 15, .tmp 17],oO 8 (.new 3 [(.agg [(.t (.int .i64 0)), (.t (.int .i64 0)), .nil])]) [],oS 3 8 18])
 (.seq
 (.seq
 (rG 16384 [mv 19 7,cL 20 n_draw_Codes_Next true [.tmp 19, .cst (.t (.int .i64 3))],bN 21 .eql 20 0])
 (.cond (.tmp 21)
 (.seq
 (rG 20480 [mv 22 7,mv 23 1,cL 24 n_draw_Codes_Events true [.tmp 22, .tmp 23, .cst (.t (.int .i64 14))],oO 25 (.faddr 2) [.tmp 8],oS 1 25 24])
 (.seq
 (rG 24576 [oO 26 (.load 3 true) [.tmp 8],oS 3 6 26])
 .ret))
 .skip))
 (.seq
 (.reg 28672 (some [0, 1, 3, 7, 0, 16, 48, 112, 255, 511, 1023]) [mv 27 7,oO 28 .nilchk [.tmp 27],oO 29 (.faddr 0) [.tmp 28],oO 30 (.load 1 false) [.tmp 29],mv 31 7,oO 32 .nilchk [.tmp 31],oO 33 (.faddr 1) [.tmp 32],oO 34 (.load 1 false) [.tmp 33],oO 35 (.slice 1 true false false) [.tmp 30, .tmp 34],cL 36 n_draw_Chain true [.tmp 35],mv 9 36])
 (.seq
 (rG 32768 [mv 37 9,mv 38 1,cL 39 n_ref25_Events true [.tmp 37, .tmp 38],oO 40 (.faddr 2) [.tmp 8],oS 1 40 39])
 (.seq
 (.seq
 (rG 36864 [mv 41 7,cL 42 n_draw_Codes_Next true [.tmp 41, .cst (.t (.int .i64 4))],mv 10 42])
 (.block 0
 (.loop (ac_draw_Log_L0 n_draw_Codes_Next n_draw_Codes_Event n_ref25_Make))))
 (.seq
 (rG 102400 [oO 157 (.load 3 true) [.tmp 8],oS 3 6 157])
 .ret))))))))
def hints_draw_Log : List (Nat × List Nat) := [(1, [1]), (3, [1]), (4, [2]), (6, [9]), (7, [2]), (8, [1]), (11, [4]), (12, [1]), (19, [4]), (23, [8]), (13, [9])]
def ac_ref25_Chain_L1 : AC :=
 (.seq
 (.seq
 (rG 57344 [mv 46 7,mv 47 5,bT 48 .lss 46 47])
 (.cond (.tmp 48)
 .skip
 (.exit 2)))
 (.seq
 (.block 3
 (.seq
 (.reg 65536 (some [0, 0, 3, 7, 15, 0, 0, 96, 224, 480, 1023, 2047, 4095, 4095, 16383, 32767, 65535, 4095, 4095, 397311, 921599, 1970175, 4194303, 8388607]) [mv 51 0,mv 52 7,oO 53 (.iaddr 4) [.tmp 51, .tmp 52],oO 54 (.faddr 0) [.tmp 53],oO 55 (.load 1 false) [.tmp 54],mv 56 0,mv 57 5,oO 58 (.iaddr 4) [.tmp 56, .tmp 57],oO 59 (.faddr 0) [.tmp 58],oO 60 (.load 1 false) [.tmp 59],bT 61 .eql 55 60,mv 62 61,mG 63 0 62,mG 64 7 62,oG 65 62 (.iaddr 4) [.tmp 63, .tmp 64],oG 66 62 (.faddr 1) [.tmp 65],oG 67 62 (.load 1 false) [.tmp 66],mG 68 0 62,mG 69 5 62,oG 70 62 (.iaddr 4) [.tmp 68, .tmp 69],oG 71 62 (.faddr 1) [.tmp 70],oG 72 62 (.load 1 false) [.tmp 71],oG 73 62 (.bin .eql) [.tmp 67, .tmp 72],oO 74 .pick [.tmp 62, .tmp 73, .cst (.t (.bool false))]])
 (.cond (.tmp 74)
 (.seq
 (rG 69632 [mC 2 (.t (.int .i64 42))])
 .ret)
 .skip)))
 (rG 61440 [mv 49 7,bN 50 .add 49 1,mv 7 50])))
def ac_ref25_Chain_L0 (n_ref25_Image : Nat) : AC :=
 (.seq
 (.seq
 (rG 24576 [mv 16 5,mv 17 0,oO 18 .len [.tmp 17],bT 19 .lss 16 18])
 (.cond (.tmp 19)
 .skip
 (.exit 0)))
 (.seq
 (.block 1
 (.seq
 (.seq
 (rG 32768 [mv 22 0,mv 23 5,oO 24 (.iaddr 4) [.tmp 22, .tmp 23],oO 25 (.load 4 true) [.tmp 24],cL 26 n_ref25_Image false [.tmp 25],mv 6 26])
 (.seq
 (rG 36864 [mv 27 6,bN 28 .neq 27 0])
 (.cond (.tmp 28)
 (.seq
 (rG 40960 [mv 29 6,mv 2 29])
 .ret)
 .skip)))
 (.seq
 (.seq
 (.reg 45056 (some [0, 1, 3, 7, 7, 31, 63, 127, 7, 7, 519, 1799, 3847, 7943, 16383, 32767]) [mv 30 5,bN 31 .gtr 30 0,mv 32 31,mG 33 0 32,mG 34 5 32,oG 35 32 (.iaddr 4) [.tmp 33, .tmp 34],oG 36 32 (.faddr 0) [.tmp 35],oG 37 32 (.load 1 false) [.tmp 36],mG 38 0 32,mG 39 5 32,oG 40 32 (.bin .sub) [.tmp 39, .cst (.t (.int .i64 1))],oG 41 32 (.iaddr 4) [.tmp 38, .tmp 40],oG 42 32 (.faddr 0) [.tmp 41],oG 43 32 (.load 1 false) [.tmp 42],oG 44 32 (.bin .lss) [.tmp 37, .tmp 43],oO 45 .pick [.tmp 32, .tmp 44, .cst (.t (.bool false))]])
 (.cond (.tmp 45)
 (.seq
 (rG 49152 [mC 2 (.t (.int .i64 41))])
 .ret)
 .skip))
 (.seq
 (.seq
 (rG 53248 [mC 7 (.t (.int .i64 0))])
 (.block 2
 (.loop ac_ref25_Chain_L1)))
 (.seq
 (rG 73728 [mv 75 3,mv 76 75,mF 77 0 76,mF 78 5 76,oF 79 76 (.iaddr 4) [.tmp 77, .tmp 78],oF 80 76 (.faddr 0) [.tmp 79],oF 81 76 (.load 1 false) [.tmp 80],oF 82 76 (.bin .eql) [.tmp 81, .cst (.t (.int .i64 1))],oO 83 .pick [.tmp 76, .cst (.t (.bool true)), .tmp 82],mv 3 83])
 (rG 77824 [mv 84 4,mv 85 84,mF 86 0 85,mF 87 5 85,oF 88 85 (.iaddr 4) [.tmp 86, .tmp 87],oF 89 85 (.faddr 0) [.tmp 88],oF 90 85 (.load 1 false) [.tmp 89],oF 91 85 (.bin .eql) [.tmp 90, .cst (.t (.int .i64 3))],oO 92 .pick [.tmp 85, .cst (.t (.bool true)), .tmp 91],mv 4 92]))))))
 (rG 28672 [mv 20 5,bN 21 .add 20 1,mv 5 21])))
def ac_ref25_Chain (n_ref25_Image : Nat) : AC :=
 (.seq
 (rG 4096 [mC 2 (.t (.int .i64 0))])
 (.seq
 (.seq
 (rG 8192 [mv 8 0,oO 9 .len [.tmp 8],bN 10 .eql 9 0,mv 11 10,mF 12 0 11,oF 13 11 .len [.tmp 12],oF 14 11 (.bin .gtr) [.tmp 13, .cst (.t (.int .i64 8))],oO 15 .pick [.tmp 11, .cst (.t (.bool true)), .tmp 14]])
 (.cond (.tmp 15)
 (.seq
 (rG 12288 [mC 2 (.t (.int .i64 1))])
 .ret)
 .skip))
 (.seq
 (rG 16384 [mC 3 (.t (.bool false)),mC 4 (.t (.bool false))])
 (.seq
 (.seq
 (rG 20480 [mC 5 (.t (.int .i64 0))])
 (.block 0
 (.loop (ac_ref25_Chain_L0 n_ref25_Image))))
 (.seq
 (.seq
 (rG 81920 [mv 93 3,oO 94 (.un .not) [.tmp 93],mv 95 94,mF 96 4 95,oF 97 95 (.un .not) [.tmp 96],oO 98 .pick [.tmp 95, .cst (.t (.bool true)), .tmp 97]])
 (.cond (.tmp 98)
 (.seq
 (rG 86016 [mC 2 (.t (.int .i64 40))])
 .ret)
 .skip))
 (.seq
 (rG 90112 [mC 2 (.t (.int .i64 0))])
 .ret))))))
def hints_ref25_Chain : List (Nat × List Nat) := []
def ac_ref25_Events_L1 (n_ref25_Separator n_ref25_Make : Nat) : AC :=
 (.seq
 (.seq
 (rG 40960 [mv 28 7,bN 29 .lss 28 8])
 (.cond (.tmp 29)
 .skip
 (.exit 2)))
 (.seq
 (.block 3
 (rG 49152 [mv 32 5,mv 33 7,mv 34 1,cL 35 n_ref25_Separator false [],cL 36 n_ref25_Make true [.tmp 33, .cst (.t (.int .i64 2)), .tmp 34, .tmp 35],oO 37 (.bslice 4 1 (.agg [(.t (.int .i64 0)), (.t (.int .i64 0)), .nil, .nil]) [0]) [.tmp 36],oO 38 (.append 4 64) [.tmp 32, .tmp 37],mv 5 38]))
 (rG 45056 [mv 30 7,bN 31 .add 30 1,mv 7 31])))
def ac_ref25_Events_L3 (n_ref25_Make : Nat) : AC :=
 (.seq
 (.seq
 (rG 86016 [mv 68 10,mv 69 9,oO 70 .len [.tmp 69],bT 71 .lss 68 70])
 (.cond (.tmp 71)
 .skip
 (.exit 6)))
 (.seq
 (.block 7
 (rG 94208 [mv 74 5,mv 75 1,mv 76 9,mv 77 10,oO 78 (.iaddr 1) [.tmp 76, .tmp 77],oO 79 (.load 1 false) [.tmp 78],cL 80 n_ref25_Make true [.cst (.t (.int .i64 9)), .cst (.t (.int .i64 3)), .tmp 75, .tmp 79],oO 81 (.bslice 4 1 (.agg [(.t (.int .i64 0)), (.t (.int .i64 0)), .nil, .nil]) [0]) [.tmp 80],oO 82 (.append 4 64) [.tmp 74, .tmp 81],mv 5 82]))
 (rG 90112 [mv 72 10,bN 73 .add 72 1,mv 10 73])))
def ac_ref25_Events_L2 (n_ref25_OfImage n_ref25_Lines n_ref25_Make : Nat) : AC :=
 (.seq
 (.seq
 (rG 57344 [mv 39 8,mv 40 0,oO 41 .len [.tmp 40],bT 42 .lss 39 41])
 (.cond (.tmp 42)
 .skip
 (.exit 4)))
 (.seq
 (.block 5
 (.seq
 (.seq
 (rG 65536 [mv 45 0,mv 46 8,oO 47 (.iaddr 4) [.tmp 45, .tmp 46],oO 48 (.faddr 0) [.tmp 47],oO 49 (.load 1 false) [.tmp 48],mv 50 6,bT 51 .neq 49 50])
 (.cond (.tmp 51)
 (.exit 5)
 .skip))
 (.seq
 (.seq
 (rG 69632 [mv 52 6,bN 53 .neq 52 4])
 (.cond (.tmp 53)
 (.seq
 (rG 73728 [mv 54 5,mv 55 0,mv 56 8,oO 57 (.iaddr 4) [.tmp 55, .tmp 56],oO 58 (.load 4 true) [.tmp 57],mv 59 1,cL 60 n_ref25_OfImage true [.tmp 58, .tmp 59],oO 61 (.bslice 4 1 (.agg [(.t (.int .i64 0)), (.t (.int .i64 0)), .nil, .nil]) [0]) [.tmp 60],oO 62 (.append 4 64) [.tmp 54, .tmp 61],mv 5 62])
 (.exit 5))
 .skip))
 (.seq
 (rG 77824 [mv 63 0,mv 64 8,oO 65 (.iaddr 4) [.tmp 63, .tmp 64],oO 66 (.load 4 true) [.tmp 65],cL 67 n_ref25_Lines true [.tmp 66],mv 9 67])
 (.seq
 (rG 81920 [mC 10 (.t (.int .i64 0))])
 (.block 6
 (.loop (ac_ref25_Events_L3 n_ref25_Make))))))))
 (rG 61440 [mv 43 8,bN 44 .add 43 1,mv 8 44])))
def ac_ref25_Events_L0 (n_ref25_Separator n_ref25_Make n_ref25_OfImage n_ref25_Lines : Nat) : AC :=
 (.seq
 (.seq
 (rG 24576 [mv 22 6,bN 23 .leq 22 4])
 (.cond (.tmp 23)
 .skip
 (.exit 0)))
 (.seq
 (.block 1
 (.seq
 (.seq
 (rG 32768 [mv 26 6,bN 27 .eql 26 3])
 (.cond (.tmp 27)
 (.seq
 (rG 36864 [mC 7 (.t (.int .i64 0))])
 (.block 2
 (.loop (ac_ref25_Events_L1 n_ref25_Separator n_ref25_Make))))
 .skip))
 (.seq
 (rG 53248 [mC 8 (.t (.int .i64 0))])
 (.block 4
 (.loop (ac_ref25_Events_L2 n_ref25_OfImage n_ref25_Lines n_ref25_Make))))))
 (rG 28672 [mv 24 6,bN 25 .add 24 1,mv 6 25])))
def ac_ref25_Events (n_ref25_Chain n_ref25_Separator n_ref25_Make n_ref25_OfImage n_ref25_Lines : Nat) : AC :=
 (.seq
 (rG 4096 [mC 4 .nil])
 (.seq
 (.seq
 (rG 8192 [mv 11 0,cL 12 n_ref25_Chain false [.tmp 11],bN 13 .neq 12 0,mv 14 13,mF 15 1 14,oF 16 14 (.bin .lss) [.tmp 15, .cst (.t (.int .i64 1))],oO 17 .pick [.tmp 14, .cst (.t (.bool true)), .tmp 16],mv 18 17,mF 19 1 18,oF 20 18 (.bin .gtr) [.tmp 19, .cst (.t (.int .i64 3))],oO 21 .pick [.tmp 18, .cst (.t (.bool true)), .tmp 20]])
 (.cond (.tmp 21)
 (.seq
 (rG 12288 [mC 4 .nil])
 .ret)
 .skip))
 (.seq
 (rG 16384 [mC 5 .nil])
 (.seq
 (.seq
 (rG 20480 [mC 6 (.t (.int .i64 1))])
 (.block 0
 (.loop (ac_ref25_Events_L0 n_ref25_Separator n_ref25_Make n_ref25_OfImage n_ref25_Lines))))
 (.seq
 (rG 98304 [mv 83 5,mv 4 83])
 .ret)))))
def hints_ref25_Events : List (Nat × List Nat) := [(11, [4]), (17, [6]), (18, [4]), (22, [6])]
end Go.Eng
end
section
set_option maxRecDepth 20000
set_option maxHeartbeats 64000000
namespace Go.Eng
theorem mapI_snoc {l : List Im} {a v : Int} {s p : List UInt8} : List.map imT (l ++ [(a, s, v, p)]) = List.map imT l ++ [.agg [.int .i64 a, strT s, .int .i64 v, .sl (p.map byteT)]] := by simp [imT_def]
theorem mapE_snoc {l : List Ev} {a b : Int} {c : List (List UInt8)} {d : List UInt8} : List.map evT (l ++ [(a, b, c, d)]) = List.map evT l ++ [.agg [.int .i64 a, .int .i64 b, .sl (c.map bsT), .sl (d.map byteT)]] := by simp [evT_def]
def ct_dlf : Ct where
 α := Cd
 as _ := [.ref 0 0 0]
 ins x := [cdOb x]
 pre x := cdOk x
 r x := .t (.bool (decide (x.2 < x.1.length)))
 outs x := [cdOb x]
 inj := by
   intro s t _ h2
   simp only [List.cons.injEq, and_true] at h2
   cases cdOb_inj h2
   exact ⟨rfl, rfl⟩
theorem dlf_eq {c : Cd} (h : cdOk c) : ct_dlf.fs [.ref 0 0 0] [cdO c] = some (.t (.bool (decide (c.2 < c.1.length))), [cdO c]) := ct_dlf.eq c h
theorem w_draw_Left (tab : Tab) (gl : Gl) (c : Cd) (hc : cdOk c) : ac_draw_Codes_Left.wp tab gl (zipF 0 [.ref 0 0 0]) (zipF 0 [cdOb c]) (resW [(2, none)] 1 (fun r o => r = .t (.bool (decide (c.2 < c.1.length))) ∧ o = [cdOb c])) := by
 obtain ⟨b, a⟩ := c
 obtain ⟨h1, h2⟩ := hc
 simp only at h1 h2
 by_cases h : a < b.length
 · simp (disch := omega) only [go_sem, ↓reduceIte, Nat.reduceAdd, Nat.reduceEqDiff, Nat.reduceLeDiff, reduceCtorEq, ac_draw_Codes_Left, cdOb_eq, h]
   all_goals rfl
 · simp (disch := omega) only [go_sem, ↓reduceIte, Nat.reduceAdd, Nat.reduceEqDiff, Nat.reduceLeDiff, reduceCtorEq, ac_draw_Codes_Left, cdOb_eq, h]
   all_goals rfl
def ct_dvs : Ct where
 α := Cd × Int × Nat
 as x := [.ref 0 0 0, .t (.int .i64 x.2.1), .t (.int .i64 x.2.2)]
 ins x := [cdOb x.1]
 pre x := cdOk x.1 ∧ (1 ≤ x.2.1 ∧ x.2.1 ≤ 3) ∧ x.2.2 ≤ 1000
 r x := .t (.sl ((evN x.2.2 x.1 x.2.1 []).1.map evT))
 outs x := [cdOb (evN x.2.2 x.1 x.2.1 []).2]
 inj := by
   rintro ⟨s, a, n⟩ ⟨t, c, m⟩ h1 h2
   simp only [List.cons.injEq, V.t.injEq, T.int.injEq, true_and, and_true, Int.natCast_inj] at h1
   simp only [List.cons.injEq, and_true] at h2
   obtain ⟨rfl, rfl⟩ := h1
   cases cdOb_inj h2
   exact ⟨rfl, rfl⟩
theorem dvs_eq {c : Cd} {act : Int} {n : Nat} (h : cdOk c ∧ (1 ≤ act ∧ act ≤ 3) ∧ n ≤ 1000) : ct_dvs.fs [.ref 0 0 0, .t (.int .i64 act), .t (.int .i64 n)] [cdO c] = some (.t (.sl ((evN n c act []).1.map evT)), [cdO (evN n c act []).2]) := ct_dvs.eq (c, act, n) h
theorem evG_cd {c : Cd} {act : Int} (hc : cdOk c) : cdOk (evG c act).2 := by
 have d : ∀ c : Cd, cdOk c → cdOk (evData c).2 := by
   intro c hc
   unfold evData
   split
   · exact nx_ok (nx_ok (nx_ok hc))
   · exact nx_ok (nx_ok hc)
 have k : ∀ c : Cd, cdOk c → cdOk (evKind c).2.2 := fun c hc => nx_ok (nx_ok hc)
 have s : ∀ (k r : Int) (x : List UInt8) (c : Cd), cdOk c → cdOk (evSep k r x c).2.2 := by
   intro k r x c hc
   unfold evSep
   split
   · split
     · exact nx_ok (nx_ok hc)
     · exact nx_ok hc
   · exact hc
 have g : ∀ (k r act : Int) (x : List UInt8) (c : Cd), cdOk c → cdOk (evDig k r act x c).2 := by
   intro k r act x c hc
   unfold evDig
   split
   · exact hc
   · split
     · exact nx_ok (nx_ok hc)
     · exact nx_ok hc
 exact g _ _ _ _ _ (s _ _ _ _ (k _ (d _ hc)))
theorem w_draw_Events (tab : Tab) (gl : Gl) (n1 n2 : Nat) (h1 : tab.look n1 = some ct_dlf.fs) (h2 : tab.look n2 = some ct_devt.fs) (c : Cd) (act : Int) (n : Nat) (hc : cdOk c) (ha : 1 ≤ act ∧ act ≤ 3) (hn : n ≤ 1000) :
   (ac_draw_Codes_Events n1 n2).wp tab gl (zipF 0 [.ref 0 0 0, .t (.int .i64 act), .t (.int .i64 n)]) (zipF 0 [cdOb c]) (resW [(6, none)] 1 (fun r o => r = .t (.sl ((evN n c act []).1.map evT)) ∧ o = [cdOb (evN n c act []).2])) := by
 generalize hP : evN n c act [] = P
 obtain ⟨b, a⟩ := c
 simp (disch := omega) only [go_sem, Nat.reduceAdd, ac_draw_Codes_Events, cdOb_eq]
 refine loop_inv (σ := Nat × Cd × List Ev) (fun s => cdOk s.2.1 ∧ s.2.2.length + s.1 = n ∧ evN s.1 s.2.1 act s.2.2 = P) (fun s => s.1)
   (fun s => [(0, .ref 0 0 0), (1, .t (.int .i64 act)), (2, .t (.int .i64 n)), (7, .sl 9000 0 s.2.2.length)]) (fun s => [(9000, .live 4 ((s.2.2.map evT).map V.t) true false), (0, cdO s.2.1)]) (n, (b, a), []) ⟨hc, by simp, hP⟩ ?_ ?_
 · refine Weak.cv0 (hv := [(9000, .live 4 [] true false)]) (ho := [(0, cdO (b, a))]) id ?_ ?_ rfl rfl
   all_goals simp (disch := omega) only [go_sem, ↓reduceIte, Nat.reduceEqDiff, reduceCtorEq, id]
 · rintro ⟨k, ⟨b1, a1⟩, l⟩ ⟨ok1, hl, hp⟩
   simp only at ok1 hl hp ⊢
   have hL := dlf_eq ok1
   simp only [cdO] at hL
   cases k with
   | zero =>
     rw [← hp]
     have hl' : l.length = n := by omega
     by_cases hb : a1 < b1.length
     · rw [decide_eq_true hb] at hL
       simp (disch := omega) only [go_sem, ↓reduceIte, Nat.reduceAdd, Nat.reduceEqDiff, Nat.reduceSub, Nat.reduceLeDiff, Nat.reduceBEq, reduceCtorEq, ac_draw_Codes_Events_L0, evN, cdOb_eq, h1, hL, hl', List.take_length, List.take_of_length_le]
     · rw [decide_eq_false hb] at hL
       simp (disch := omega) only [go_sem, ↓reduceIte, Nat.reduceAdd, Nat.reduceEqDiff, Nat.reduceSub, Nat.reduceLeDiff, Nat.reduceBEq, reduceCtorEq, ac_draw_Codes_Events_L0, evN, cdOb_eq, h1, hL, hl', List.take_length, List.take_of_length_le]
   | succ k =>
     by_cases hb : a1 < b1.length
     · rw [decide_eq_true hb] at hL
       have hE := devt_eq (c := (b1, a1)) (act := act) ⟨ok1, ha⟩
       have lok := evG_cd (act := act) ok1
       have hp' : evN k (evG (b1, a1) act).2 act (l ++ [(evG (b1, a1) act).1]) = P := by
         rw [evN, if_pos hb] at hp
         exact hp
       have hlt : (l.length : Int) < n := by omega
       generalize evG (b1, a1) act = q at *
       obtain ⟨⟨er, ek, es, ed⟩, b2, a2⟩ := q
       simp only [cdO] at *
       simp (disch := omega) only [go_sem, ↓reduceIte, Nat.reduceAdd, Nat.reduceEqDiff, Nat.reduceSub, Nat.reduceLT, Nat.reduceLeDiff, reduceCtorEq, ac_draw_Codes_Events_L0, evT_def, h1, hL, h2, hE, hlt, List.take_length]
       refine invG.of (k, (b2, a2), l ++ [(er, ek, es, ed)]) ⟨lok, by simp; omega, hp'⟩ (by simp) (Weak.rd (fun j => if j = 9000 then 16464 else j) ?_ ?_ rfl)
       all_goals simp (disch := omega) only [go_sem, ↓reduceIte, Nat.reduceAdd, Nat.reduceEqDiff, Nat.reduceBEq, reduceCtorEq, id, mapE_snoc, evT_def]
     · rw [decide_eq_false hb] at hL
       rw [evN, if_neg hb] at hp
       rw [← hp]
       simp (disch := omega) only [go_sem, ↓reduceIte, Nat.reduceAdd, Nat.reduceEqDiff, Nat.reduceSub, Nat.reduceLeDiff, Nat.reduceBEq, reduceCtorEq, ac_draw_Codes_Events_L0, cdOb_eq, h1, hL, List.take_length]
def chT : Nat → Int → List Im × Cd → List Im × Cd
 | 0, _, s => s
 | k + 1, r, s => chT k (r + 1) (chR r s)
theorem chG_T {b : List UInt8} : chG b = (chT 4 1 ([], (b.take 200, 0))).1 := rfl
def ct_dch : Ct where
 α := List UInt8
 as x := [.t (.sl (x.map byteT))]
 ins _ := []
 pre x := x.length ≤ 9223372036854775807
 r x := .t (.sl ((chG x).map imT))
 outs _ := []
 inj := by
   intro a b h _
   simp only [List.cons.injEq, V.t.injEq, T.sl.injEq, and_true, mapB_inj] at h
   subst h; exact ⟨rfl, rfl⟩
theorem dch_eq {b : List UInt8} (h : b.length ≤ 9223372036854775807) : ct_dch.fs [.t (.sl (b.map byteT))] [] = some (.t (.sl ((chG b).map imT)), []) := ct_dch.eq b h
theorem isD_take {l : List Im} {x y : Im} {i : Nat} (h : l[i]? = some y) : isD (l.take (i + 1)) x = (isD (l.take i) x || (decide (y.1 = x.1) && decide (y.2.1 = x.2.1))) := by
 unfold isD
 rw [List.take_add_one, h, List.any_append]; simp
theorem w_draw_Chain (tab : Tab) (gl : Gl) (n1 n2 n3 : Nat) (h1 : tab.look n1 = some ct_dnew.fs) (h2 : tab.look n2 = some ct_next.fs) (h3 : tab.look n3 = some ct_dim.fs) (b : List UInt8) (hb : b.length ≤ 9223372036854775807) :
   (ac_draw_Chain n1 n2 n3).wp tab gl (zipF 0 [.t (.sl (b.map byteT))]) (zipF 0 []) (resW [(2, none)] 0 (fun r o => r = .t (.sl ((chG b).map imT)) ∧ o = [])) := by
 have hN : ct_dnew.fs [.t (.sl (b.map byteT)), .t (.int .i64 200)] [] = _ := dnew_eq (b := b) (n := 200) ⟨hb, by omega⟩
 have okN : cdOk (b.take 200, 0) := ⟨Nat.zero_le _, by simp only [List.length_take]; omega⟩
 rw [chG_T]
 simp only [cdO, Int.natCast_zero] at hN
 generalize b.take 200 = b0 at *
 generalize hP : chT 4 1 ([], (b0, 0)) = P
 simp (disch := omega) only [go_sem, ↓reduceIte, Nat.reduceAdd, Nat.reduceLeDiff, reduceCtorEq, ac_draw_Chain, h1, hN]
 refine loop_inv (σ := Nat × List Im × Cd) (fun s => cdOk s.2.2 ∧ s.1 ≤ 4 ∧ s.2.1.length ≤ 2 * (4 - s.1) ∧ chT s.1 (5 - s.1 : Nat) s.2 = P) (fun s => s.1)
   (fun s => [(3, .ref 8208 0 0), (4, .sl 9000 0 s.2.1.length), (5, .t (.int .i64 (5 - s.1 : Nat)))]) (fun s => [(9000, .live 4 ((s.2.1.map imT).map V.t) true false), (8208, cdO s.2.2)]) (4, [], (b0, 0)) ⟨okN, by simp, by simp, hP⟩ ?_ ?_
 · refine Weak.cv0 (hv := [(9000, .live 4 [] true false)]) (ho := [(8208, cdO (b0, 0))]) id ?_ ?_ rfl rfl
   all_goals simp (disch := omega) only [go_sem, ↓reduceIte, Nat.reduceEqDiff, Nat.reduceSub, id, Nat.reduceSub]
 · rintro ⟨k, l, ⟨b1, a1⟩⟩ ⟨ok1, hk, hl, hp⟩
   simp only at ok1 hk hl hp ⊢
   cases k with
   | zero =>
     rw [← hp]
     simp (disch := omega) only [go_sem, ↓reduceIte, Nat.reduceAdd, Nat.reduceEqDiff, Nat.reduceLeDiff, Int.reduceLE, ac_draw_Chain_L0, chT, List.take_length]
   | succ k =>
     obtain ⟨r, hr⟩ : ∃ r : Nat, 5 - (k + 1) = r := ⟨_, rfl⟩
     rw [hr] at hp ⊢
     have r4 : 1 ≤ r ∧ r ≤ 4 := by omega
     obtain ⟨i3, b2, a2, e3, l3, ok2, hX3⟩ := nxF 3 ok1 (by omega) (by omega)
     simp only [show ((3 : Nat) : Int) = 3 from rfl] at hX3
     have main : ∀ (m : Nat) (b3 : List UInt8) (a3 : Nat) (fs : Fs) (hs : Hs), cdOk (b3, a3) → m ≤ 2 → chK (b1, a1) (r : Int) = (m, (b3, a3)) → Weak fs hs [(3, .ref 8208 0 0), (4, .sl 9000 0 l.length), (5, .t (.int .i64 r)), (6, .t (.int .i64 m))] [(9000, .live 4 ((l.map imT).map V.t) true false), (8208, cdO (b3, a3))] →
         loopW tab gl (ac_draw_Chain_L1 n3) fs hs (blockK 2 (blockK 1 (seqK tab gl (rG 24576 [mv 14 5, bN 15 .add 14 1, mv 5 15]) (invK (fun s : Nat × List Im × Cd => cdOk s.2.2 ∧ s.1 ≤ 4 ∧ s.2.1.length ≤ 2 * (4 - s.1) ∧ chT s.1 (5 - s.1 : Nat) s.2 = P) (fun s => s.1)
   (fun s => [(3, .ref 8208 0 0), (4, .sl 9000 0 s.2.1.length), (5, .t (.int .i64 (5 - s.1 : Nat)))]) (fun s => [(9000, .live 4 ((s.2.1.map imT).map V.t) true false), (8208, cdO s.2.2)]) (k + 1, l, (b1, a1)) (blockK 0 (seqK tab gl ((rG 81920 [mv 67 4, mv 2 67]).seq AC.ret) (resW [(2, none)] 0 (fun r o => r = .t (.sl (P.1.map imT)) ∧ o = [])))))))) := by
       intro m b3 a3 fs hs ok3 hm hck hw
       refine loopW_weak hw ?_
       have hT : chT k ((5 - k : Nat) : Int) (chN m (b3, a3) r l) = P := by
         have : chT (k + 1) (r : Int) (l, (b1, a1)) = chT k ((r : Int) + 1) (chR r (l, (b1, a1))) := rfl
         rw [this] at hp
         unfold chR at hp
         simp only at hp
         rw [hck] at hp
         rw [show ((5 - k : Nat) : Int) = (r : Int) + 1 by omega]
         exact hp
       generalize hQ : chN m (b3, a3) r l = Q at *
       refine loop_inv (σ := Nat × Cd × List Im) (fun s => cdOk s.2.1 ∧ s.2.2.length + s.1 ≤ 8 ∧ s.2.2.length + s.1 ≤ l.length + m ∧ chN s.1 s.2.1 r s.2.2 = Q) (fun s => s.1)
         (fun s => [(3, .ref 8208 0 0), (4, .sl 9000 0 s.2.2.length), (5, .t (.int .i64 r)), (6, .t (.int .i64 (s.1 : Nat)))]) (fun s => [(9000, .live 4 ((s.2.2.map imT).map V.t) true false), (8208, cdO s.2.1)]) (m, (b3, a3), l) ⟨ok3, by simp only; omega, Nat.le_refl _, hQ⟩ Weak.refl ?_
       rintro ⟨j, ⟨b4, a4⟩, l4⟩ ⟨ok4, hj, hj2, hq⟩
       simp only at ok4 hj hj2 hq ⊢
       cases j with
       | zero =>
         have hq' : Q = (l4, (b4, a4)) := hq.symm
         rw [hq'] at hT
         simp (disch := omega) only [go_sem, ↓reduceIte, Nat.reduceAdd, Nat.reduceEqDiff, ac_draw_Chain_L1]
         refine invG.of (k, l4, (b4, a4)) ⟨ok4, by simp only; omega, by simp only; omega, hT⟩ (by simp) (Weak.rd id ?_ ?_ rfl)
         all_goals simp (disch := omega) only [go_sem, ↓reduceIte, Nat.reduceAdd, Nat.reduceEqDiff, Nat.reduceBEq, id, show ((5 - k : Nat) : Int) = (r : Int) + 1 by omega]
       | succ j =>
         have hD := dim_eq (c := (b4, a4)) (r := r) ⟨ok4, r4⟩
         have lok := imG_cd (r := (r : Int)) ok4
         have hq' : chN j (imG (b4, a4) r).2 r (if isD l4 (imG (b4, a4) r).1 then l4 else l4 ++ [(imG (b4, a4) r).1]) = Q := hq
         generalize imG (b4, a4) (r : Int) = w at *
         obtain ⟨⟨xa, xs, xv, xp⟩, b5, a5⟩ := w
         simp only [cdO] at *
         have hkk : ((j + 1 : Nat) : Int) - 1 = j := by omega
         simp (disch := omega) only [go_sem, ↓reduceIte, Nat.reduceAdd, Nat.reduceEqDiff, Nat.reduceSub, Nat.reduceLeDiff, ac_draw_Chain_L1, imT_def, h3, hD]
         refine loop_upto l4.length (fun i => [(3, .ref 8208 0 0), (4, .sl 9000 0 l4.length), (5, .t (.int .i64 r)), (6, .t (.int .i64 ((j + 1 : Nat) : Int))), (7, .ref 49200 0 0), (8, .t (.bool (isD (l4.take i) (xa, xs, xv, xp)))), (9, .t (.int .i64 (i : Nat)))])
           (fun _ => [(49200, .live 4 [.t (imT (xa, xs, xv, xp))] true true), (9000, .live 4 ((l4.map imT).map V.t) true false), (8208, .live 2 [.t (.agg [.sl (b5.map byteT), .int .i64 (a5 : Int)])] true true)]) ?_ (fun i hi => ?_)
         · have h0 : isD [] (xa, xs, xv, xp) = false := rfl
           refine Weak.rd id ?_ ?_ rfl
           all_goals simp (disch := omega) only [go_sem, ↓reduceIte, Nat.reduceAdd, Nat.reduceEqDiff, Nat.reduceBEq, id, imT_def, h0, List.take_zero]
         · by_cases hlt : i < l4.length
           · obtain ⟨⟨ya, ys, yv, yp⟩, hy⟩ : ∃ y, l4[i]? = some y := ⟨l4[i], by simp [hlt]⟩
             have hst := isD_take (x := (xa, xs, xv, xp)) hy
             simp only at hst
             cases hb0 : isD (l4.take i) (xa, xs, xv, xp)
             · rw [hb0, Bool.false_or] at hst
               by_cases q1 : ya = xa
               · subst q1
                 by_cases q2 : ys = xs
                 · subst q2
                   rw [decide_eq_true rfl, decide_eq_true rfl] at hst
                   simp (disch := omega) only [go_sem, ↓reduceIte, Nat.reduceAdd, Nat.reduceEqDiff, Nat.reduceLeDiff, reduceCtorEq, ac_draw_Chain_L2, imT_def, hy, hb0, beq_self_eq_true]
                   repeat refine And.intro rfl ?_
                   refine ⟨hlt, Weak.rd id ?_ ?_ rfl⟩
                   all_goals simp (disch := omega) only [go_sem, ↓reduceIte, Nat.reduceAdd, Nat.reduceEqDiff, Nat.reduceBEq, id, hst, imT_def]
                 · rw [decide_eq_true rfl, decide_eq_false q2] at hst
                   have q2b : decide (ys = xs) = false := decide_eq_false q2
                   simp (disch := omega) only [go_sem, ↓reduceIte, Nat.reduceAdd, Nat.reduceEqDiff, Nat.reduceLeDiff, reduceCtorEq, ac_draw_Chain_L2, imT_def, hy, hb0, beq_self_eq_true, q2b]
                   repeat refine And.intro rfl ?_
                   refine ⟨hlt, Weak.rd id ?_ ?_ rfl⟩
                   all_goals simp (disch := omega) only [go_sem, ↓reduceIte, Nat.reduceAdd, Nat.reduceEqDiff, Nat.reduceBEq, id, hst, imT_def]
               · rw [decide_eq_false q1, Bool.false_and] at hst
                 have q1b : (ya == xa) = false := by simpa using q1
                 simp (disch := omega) only [go_sem, ↓reduceIte, Nat.reduceAdd, Nat.reduceEqDiff, Nat.reduceLeDiff, ac_draw_Chain_L2, imT_def, hy, hb0, q1b]
                 repeat refine And.intro rfl ?_
                 refine ⟨hlt, Weak.rd id ?_ ?_ rfl⟩
                 all_goals simp (disch := omega) only [go_sem, ↓reduceIte, Nat.reduceAdd, Nat.reduceEqDiff, Nat.reduceBEq, id, hst, imT_def]
             · rw [hb0, Bool.true_or] at hst
               simp (disch := omega) only [go_sem, ↓reduceIte, Nat.reduceAdd, Nat.reduceEqDiff, ac_draw_Chain_L2, imT_def, hy, hb0]
               repeat refine And.intro rfl ?_
               refine ⟨hlt, Weak.rd id ?_ ?_ rfl⟩
               all_goals simp (disch := omega) only [go_sem, ↓reduceIte, Nat.reduceAdd, Nat.reduceEqDiff, Nat.reduceBEq, id, hst, imT_def]
           · have e : i = l4.length := by omega
             subst e
             rw [List.take_length]
             cases hb0 : isD l4 (xa, xs, xv, xp)
             · rw [hb0, if_neg (by decide)] at hq'
               simp (disch := omega) only [go_sem, ↓reduceIte, Nat.reduceAdd, Nat.reduceEqDiff, Nat.reduceLT, Nat.reduceLeDiff, ac_draw_Chain_L2, hb0, hkk, imT_def]
               refine invG.of (j, (b5, a5), l4 ++ [(xa, xs, xv, xp)]) ⟨lok, by simp; omega, by simp; omega, hq'⟩ (by simp) (Weak.rd (fun j => if j = 9000 then 77872 else j) ?_ ?_ rfl)
               all_goals simp (disch := omega) only [go_sem, ↓reduceIte, Nat.reduceAdd, Nat.reduceEqDiff, Nat.reduceBEq, id, imT_def, mapI_snoc]
             · rw [hb0, if_pos rfl] at hq'
               simp (disch := omega) only [go_sem, ↓reduceIte, Nat.reduceAdd, Nat.reduceEqDiff, ac_draw_Chain_L2, hb0, hkk]
               refine invG.of (j, (b5, a5), l4) ⟨lok, by simp only; omega, by simp only; omega, hq'⟩ (by simp) (Weak.rd id ?_ ?_ rfl)
               all_goals simp (disch := omega) only [go_sem, ↓reduceIte, Nat.reduceAdd, Nat.reduceEqDiff, Nat.reduceBEq, id]
     by_cases hr13 : r = 1 ∨ r = 3
     · obtain ⟨i2, b3, a3, e2, l2, ok3, hX2⟩ := nxF 2 ok2 (by omega) (by omega)
       simp only [show ((2 : Nat) : Int) = 2 from rfl] at hX2
       have hck : chK (b1, a1) (r : Int) = (1 + i2, (b3, a3)) := by
         unfold chK
         rw [if_pos (by omega), e3]
         simp only
         rw [e2]
       rcases hr13 with rfl | rfl
       · simp (disch := omega) only [go_sem, ↓reduceIte, Nat.reduceAdd, Nat.reduceEqDiff, Nat.reduceSub, Nat.reduceLeDiff, Int.reduceLE, ac_draw_Chain_L0, h2, hX3, hX2]
         refine main (1 + i2) b3 a3 _ _ ok3 (by omega) hck (Weak.rd id ?_ ?_ rfl)
         all_goals simp (disch := omega) only [go_sem, ↓reduceIte, Nat.reduceAdd, Nat.reduceEqDiff, Nat.reduceBEq, id]
       · simp (disch := omega) only [go_sem, ↓reduceIte, Nat.reduceAdd, Nat.reduceEqDiff, Nat.reduceSub, Nat.reduceLeDiff, Int.reduceLE, ac_draw_Chain_L0, h2, hX3, hX2]
         refine main (1 + i2) b3 a3 _ _ ok3 (by omega) hck (Weak.rd id ?_ ?_ rfl)
         all_goals simp (disch := omega) only [go_sem, ↓reduceIte, Nat.reduceAdd, Nat.reduceEqDiff, Nat.reduceBEq, id]
     · have hck : chK (b1, a1) (r : Int) = (i3, (b2, a2)) := by
         unfold chK
         rw [if_neg (by omega), e3]
       have q1 : ((r : Int) == 1) = false := by simpa using (by omega : ¬ (r : Int) = 1)
       have q3 : ((r : Int) == 3) = false := by simpa using (by omega : ¬ (r : Int) = 3)
       have rle : (r : Int) ≤ 4 := by omega
       simp (disch := omega) only [go_sem, ↓reduceIte, Nat.reduceAdd, Nat.reduceEqDiff, Nat.reduceSub, Nat.reduceLeDiff, ac_draw_Chain_L0, h2, hX3, q1, q3, rle]
       refine main i3 b2 a2 _ _ ok2 (by omega) hck (Weak.rd id ?_ ?_ rfl)
       all_goals simp (disch := omega) only [go_sem, ↓reduceIte, Nat.reduceAdd, Nat.reduceEqDiff, Nat.reduceBEq, id]
theorem mapI_inj {l m : List Im} : (l.map imT = m.map imT) = (l = m) := propext ⟨map_inj' (fun _ _ => imT_inj), fun h => by rw [h]⟩
def imsM (l : List Im) : Prop := l.length ≤ 9223372036854775807 ∧ ∀ x ∈ l, imM x
def ct_chc : Ct where
 α := List Im
 as x := [.t (.sl (x.map imT))]
 ins _ := []
 pre x := imsM x
 r x := .t (.int .i64 (chkC x))
 outs _ := []
 inj := by
   intro a b h _
   simp only [List.cons.injEq, V.t.injEq, T.sl.injEq, and_true, mapI_inj] at h
   subst h; exact ⟨rfl, rfl⟩
theorem chc_eq {l : List Im} (h : imsM l) : ct_chc.fs [.t (.sl (l.map imT))] [] = some (.t (.int .i64 (chkC l)), []) := ct_chc.eq l h
theorem lastD {l : List Im} {y d : Im} {i : Nat} (h : l[i]? = some y) : (l.take (i + 1)).getLastD d = y := by
 rw [List.take_add_one, h]; simp
theorem isD_at {l : List Im} {x y : Im} {k i : Nat} (h : l[k]? = some y) (hk : k < i) (h1 : y.1 = x.1) (h2 : y.2.1 = x.2.1) : isD (l.take i) x = true := by
 unfold isD
 refine List.any_eq_true.2 ⟨y, ?_, by simp [h1, h2]⟩
 refine List.mem_of_getElem? (i := k) ?_
 rw [List.getElem?_take, if_pos hk, h]
theorem any_take {l : List Im} {y : Im} {i : Nat} {p : Im → Bool} (h : l[i]? = some y) : (l.take (i + 1)).any p = ((l.take i).any p || p y) := by
 rw [List.take_add_one, h, List.any_append]; simp
theorem w_ref25_Chain (tab : Tab) (gl : Gl) (n1 : Nat) (h1 : tab.look n1 = some ct_imc.fs) (l : List Im) (hm : imsM l) :
   (ac_ref25_Chain n1).wp tab gl (zipF 0 [.t (.sl (l.map imT))]) (zipF 0 []) (resW [(2, none)] 0 (fun r o => r = .t (.int .i64 (chkC l)) ∧ o = [])) := by
 have hlm := hm.1
 by_cases c0 : l.length = 0
 · have hr : chkC l = 1 := if_pos (.inl c0)
   rw [hr]
   simp (disch := omega) only [go_sem, ↓reduceIte, Nat.reduceAdd, Nat.reduceEqDiff, reduceCtorEq, ac_ref25_Chain, c0]
 have c0b : ((l.length : Int) == 0) = false := by simpa using (by omega : ¬ (l.length : Int) = 0)
 by_cases c8 : 8 < l.length
 · have hr : chkC l = 1 := if_pos (.inr c8)
   rw [hr]
   simp (disch := omega) only [go_sem, ↓reduceIte, Nat.reduceAdd, Nat.reduceEqDiff, reduceCtorEq, ac_ref25_Chain, c0b, c8]
 have hr : chkC l = chF [] l := if_neg (by omega)
 rw [hr]
 simp (disch := omega) only [go_sem, ↓reduceIte, Nat.reduceAdd, Nat.reduceEqDiff, reduceCtorEq, ac_ref25_Chain, c0b, c8]
 refine loop_uptoP l.length (fun i => chF (l.take i) (l.drop i) = chF [] l) (fun i => [(0, .t (.sl (l.map imT))), (3, .t (.bool ((l.take i).any (fun y => decide (y.1 = 1))))), (4, .t (.bool ((l.take i).any (fun y => decide (y.1 = 3))))), (5, .t (.int .i64 (i : Nat)))]) (fun _ => []) rfl ?_ (fun i hi hE => ?_)
 · refine Weak.rd id ?_ ?_ rfl
   all_goals simp (disch := omega) only [go_sem, ↓reduceIte, Nat.reduceEqDiff, reduceCtorEq, id, List.take_zero, List.any_nil]
 · by_cases hlt : i < l.length
   · obtain ⟨⟨xa, xs, xv, xp⟩, hx⟩ : ∃ x, l[i]? = some x := ⟨l[i], by simp [hlt]⟩
     have hd : l.drop i = (xa, xs, xv, xp) :: l.drop (i + 1) := by
       rw [List.drop_eq_getElem_cons hlt]
       have := (List.getElem?_eq_some_iff.1 hx).2
       rw [this]
     have hxm : imM (xa, xs, xv, xp) := hm.2 _ (List.mem_of_getElem? hx)
     have hC := imc_eq hxm
     rw [hd, chF] at hE
     have f1 := any_take (p := fun y => decide (y.1 = 1)) hx
     have f3 := any_take (p := fun y => decide (y.1 = 3)) hx
     simp only at f1 f3
     by_cases hz : chkI (xa, xs, xv, xp) = 0
     · rw [if_neg (by omega)] at hE
       rw [hz] at hC
       by_cases hi0 : i = 0
       · subst hi0
         rw [if_neg (fun h => h.1 (by simp)), if_neg (by simp)] at hE
         have ht : l.take 0 ++ [(xa, xs, xv, xp)] = l.take (0 + 1) := by rw [List.take_add_one, hx]; rfl
         rw [ht] at hE
         have z1 : (l.take 0).any (fun y => decide (y.1 = 1)) = false := rfl
         have z3 : (l.take 0).any (fun y => decide (y.1 = 3)) = false := rfl
         rw [z1, Bool.false_or] at f1
         rw [z3, Bool.false_or] at f3
         rw [z1, z3]
         simp (disch := omega) only [go_sem, ↓reduceIte, Nat.reduceAdd, Nat.reduceEqDiff, Nat.reduceLeDiff, Int.reduceLE, reduceCtorEq, ac_ref25_Chain_L0, imT_def, hx, h1, hC]
         repeat refine And.intro rfl ?_
         refine loop_fuel 1 ?_
         by_cases q1 : xa = 1
         · subst q1
           rw [decide_eq_true rfl] at f1
           rw [decide_eq_false (by decide)] at f3
           simp (disch := omega) only [go_sem, ↓reduceIte, Nat.reduceAdd, Nat.reduceEqDiff, Nat.reduceLeDiff, Int.reduceLT, Int.reduceLE, Int.reduceAdd, reduceCtorEq, loopN_succ, ac_ref25_Chain_L1, imT_def, hx, h1]
           repeat refine And.intro rfl ?_
           refine ⟨hlt, hE, Weak.rd id ?_ ?_ rfl⟩
           all_goals simp (disch := omega) only [go_sem, ↓reduceIte, Nat.reduceEqDiff, reduceCtorEq, id, f1, f3]
         · rw [decide_eq_false q1] at f1
           have q1b : (xa == 1) = false := by simpa using q1
           by_cases q3 : xa = 3
           · subst q3
             rw [decide_eq_true rfl] at f3
             simp (disch := omega) only [go_sem, ↓reduceIte, Nat.reduceAdd, Nat.reduceEqDiff, Nat.reduceLeDiff, Int.reduceLT, Int.reduceLE, Int.reduceAdd, reduceCtorEq, loopN_succ, ac_ref25_Chain_L1, imT_def, hx, h1, q1b]
             repeat refine And.intro rfl ?_
             refine ⟨hlt, hE, Weak.rd id ?_ ?_ rfl⟩
             all_goals simp (disch := omega) only [go_sem, ↓reduceIte, Nat.reduceEqDiff, reduceCtorEq, id, f1, f3]
           · rw [decide_eq_false q3] at f3
             have q3b : (xa == 3) = false := by simpa using q3
             simp (disch := omega) only [go_sem, ↓reduceIte, Nat.reduceAdd, Nat.reduceEqDiff, Nat.reduceLeDiff, Int.reduceLT, Int.reduceLE, Int.reduceAdd, reduceCtorEq, loopN_succ, ac_ref25_Chain_L1, imT_def, hx, h1, q1b, q3b]
             repeat refine And.intro rfl ?_
             refine ⟨hlt, hE, Weak.rd id ?_ ?_ rfl⟩
             all_goals simp (disch := omega) only [go_sem, ↓reduceIte, Nat.reduceEqDiff, reduceCtorEq, id, f1, f3]
       · obtain ⟨⟨ya, ys, yv, yp⟩, hy⟩ : ∃ y, l[i - 1]? = some y := ⟨l[i - 1], by simp⟩
         have hi1 : ((i : Int) - 1) = ((i - 1 : Nat) : Int) := by omega
         have hla := lastD (d := (0, [], 0, [])) hy
         rw [show i - 1 + 1 = i by omega] at hla
         have hne : l.take i ≠ [] := by
           intro h
           have := congrArg List.length h
           simp only [List.length_take, List.length_nil] at this
           omega
         have hgt : 0 < (i : Int) := by omega
         rw [hla] at hE
         by_cases ho : xa < ya
         · rw [if_pos ⟨hne, ho⟩] at hE
           rw [← hE]
           simp (disch := omega) only [go_sem, ↓reduceIte, Nat.reduceAdd, Nat.reduceEqDiff, Nat.reduceLeDiff, reduceCtorEq, ac_ref25_Chain_L0, imT_def, hx, hy, h1, hC, hgt, hi1, ho]
           all_goals rfl
         · rw [if_neg (fun h => ho h.2)] at hE
           have hE' : (if isD (l.take i) (xa, xs, xv, xp) = true then 42 else chF (l.take i ++ [(xa, xs, xv, xp)]) (l.drop (i + 1))) = chF [] l := hE
           have ht : l.take i ++ [(xa, xs, xv, xp)] = l.take (i + 1) := by rw [List.take_add_one, hx]; rfl
           rw [ht] at hE'
           generalize (l.take i).any (fun y => decide (y.1 = 1)) = b1 at *
           generalize (l.take i).any (fun y => decide (y.1 = 3)) = b3 at *
           simp (disch := omega) only [go_sem, ↓reduceIte, Nat.reduceAdd, Nat.reduceEqDiff, Nat.reduceLeDiff, reduceCtorEq, ac_ref25_Chain_L0, imT_def, hx, hy, h1, hC, hgt, hi1, ho]
           repeat refine And.intro rfl ?_
           refine loop_uptoP i (fun k => isD (l.take k) (xa, xs, xv, xp) = false) (fun k => [(0, .t (.sl (l.map imT))), (3, .t (.bool b1)), (4, .t (.bool b3)), (5, .t (.int .i64 (i : Nat))), (7, .t (.int .i64 (k : Nat)))]) (fun _ => []) rfl ?_ (fun k hk hP => ?_)
           · refine Weak.rd id ?_ ?_ rfl
             all_goals simp (disch := omega) only [go_sem, ↓reduceIte, Nat.reduceEqDiff, reduceCtorEq, id]
           · by_cases hkl : k < i
             · obtain ⟨⟨za, zs, zv, zp⟩, hzk⟩ : ∃ z, l[k]? = some z := ⟨l[k], by simp⟩
               have hst := isD_take (x := (xa, xs, xv, xp)) hzk
               rw [hP, Bool.false_or] at hst
               simp only at hst
               by_cases q1 : za = xa
               · subst q1
                 by_cases q2 : zs = xs
                 · subst q2
                   have hd2 := isD_at (x := (za, zs, xv, xp)) hzk hkl rfl rfl
                   rw [hd2, if_pos rfl] at hE'
                   rw [← hE']
                   simp (disch := omega) only [go_sem, ↓reduceIte, Nat.reduceAdd, Nat.reduceEqDiff, Nat.reduceLeDiff, reduceCtorEq, ac_ref25_Chain_L1, imT_def, hx, hzk, beq_self_eq_true]
                   all_goals rfl
                 · rw [decide_eq_true rfl, decide_eq_false q2] at hst
                   have q2b : decide (zs = xs) = false := decide_eq_false q2
                   simp (disch := omega) only [go_sem, ↓reduceIte, Nat.reduceAdd, Nat.reduceEqDiff, Nat.reduceLeDiff, reduceCtorEq, ac_ref25_Chain_L1, imT_def, hx, hzk, beq_self_eq_true, q2b]
                   repeat refine And.intro rfl ?_
                   refine ⟨hkl, hst, Weak.rd id ?_ ?_ rfl⟩
                   all_goals simp (disch := omega) only [go_sem, ↓reduceIte, Nat.reduceEqDiff, reduceCtorEq, id]
               · rw [decide_eq_false q1, Bool.false_and] at hst
                 have q1b : (za == xa) = false := by simpa using q1
                 simp (disch := omega) only [go_sem, ↓reduceIte, Nat.reduceAdd, Nat.reduceEqDiff, Nat.reduceLeDiff, reduceCtorEq, ac_ref25_Chain_L1, imT_def, hx, hzk, q1b]
                 repeat refine And.intro rfl ?_
                 refine ⟨hkl, hst, Weak.rd id ?_ ?_ rfl⟩
                 all_goals simp (disch := omega) only [go_sem, ↓reduceIte, Nat.reduceEqDiff, reduceCtorEq, id]
             · have e : k = i := by omega
               subst e
               rw [hP, if_neg (by decide)] at hE'
               by_cases q1 : xa = 1
               · subst q1
                 rw [decide_eq_true rfl, Bool.or_true] at f1
                 rw [decide_eq_false (by decide), Bool.or_false] at f3
                 cases b1 <;> cases b3
                 all_goals simp (disch := omega) only [go_sem, ↓reduceIte, Nat.reduceAdd, Nat.reduceEqDiff, Nat.reduceLeDiff, reduceCtorEq, ac_ref25_Chain_L1, imT_def, hx]
                 all_goals repeat refine And.intro rfl ?_
                 all_goals refine ⟨hlt, hE', Weak.rd id ?_ ?_ rfl⟩
                 all_goals simp (disch := omega) only [go_sem, ↓reduceIte, Nat.reduceEqDiff, reduceCtorEq, id, f1, f3]
               · rw [decide_eq_false q1, Bool.or_false] at f1
                 have q1b : (xa == 1) = false := by simpa using q1
                 by_cases q3 : xa = 3
                 · subst q3
                   rw [decide_eq_true rfl, Bool.or_true] at f3
                   cases b1 <;> cases b3
                   all_goals simp (disch := omega) only [go_sem, ↓reduceIte, Nat.reduceAdd, Nat.reduceEqDiff, Nat.reduceLeDiff, reduceCtorEq, ac_ref25_Chain_L1, imT_def, hx, q1b]
                   all_goals repeat refine And.intro rfl ?_
                   all_goals refine ⟨hlt, hE', Weak.rd id ?_ ?_ rfl⟩
                   all_goals simp (disch := omega) only [go_sem, ↓reduceIte, Nat.reduceEqDiff, reduceCtorEq, id, f1, f3]
                 · rw [decide_eq_false q3, Bool.or_false] at f3
                   have q3b : (xa == 3) = false := by simpa using q3
                   cases b1 <;> cases b3
                   all_goals simp (disch := omega) only [go_sem, ↓reduceIte, Nat.reduceAdd, Nat.reduceEqDiff, Nat.reduceLeDiff, reduceCtorEq, ac_ref25_Chain_L1, imT_def, hx, q1b, q3b]
                   all_goals repeat refine And.intro rfl ?_
                   all_goals refine ⟨hlt, hE', Weak.rd id ?_ ?_ rfl⟩
                   all_goals simp (disch := omega) only [go_sem, ↓reduceIte, Nat.reduceEqDiff, reduceCtorEq, id, f1, f3]
     · rw [if_pos hz] at hE
       rw [← hE]
       have hz' : (chkI (xa, xs, xv, xp) != 0) = true := by simpa using hz
       simp (disch := omega) only [go_sem, ↓reduceIte, Nat.reduceAdd, Nat.reduceEqDiff, Nat.reduceLeDiff, reduceCtorEq, ac_ref25_Chain_L0, imT_def, hx, h1, hC, hz']
   · have e : i = l.length := by omega
     subst e
     rw [List.take_length, List.drop_length, chF] at hE
     rw [← hE]
     rw [List.take_length]
     cases ha1 : l.any (fun y => decide (y.1 = 1)) <;> cases ha3 : l.any (fun y => decide (y.1 = 3))
     all_goals simp (disch := omega) only [go_sem, ↓reduceIte, Nat.reduceAdd, Nat.reduceEqDiff, reduceCtorEq, ac_ref25_Chain_L0]
theorem evT_c {e : Ev} : (V.t (evT e)).cells.length = 4 := rfl
theorem evT_p {e : Ev} : (V.t (evT e)).plain = true := rfl
theorem evT_tc {e : Ev} : (evT e).cells.length = 4 := rfl
theorem evT_agg {e : Ev} : T.agg (List.take 4 (evT e).cells) = evT e := rfl
theorem evT_all {e : Ev} : allT (List.take 4 (V.t (evT e)).cells) = some (List.take 4 (evT e).cells) := rfl
theorem makeO {r k act : Int} {d : List UInt8} (h : (0 ≤ act ∧ act < 4) ∧ d.length < 1000000000) : ct_make.fs [.t (.int .i64 r), .t (.int .i64 k), .t (.int .i64 act), .t (.sl (d.map byteT))] [] = some (.t (evT (mkE r k act d)), []) := ct_make.eq (r, k, act, d) h
def ct_evI : Ct where
 α := List Im × Int
 as x := [.t (.sl (x.1.map imT)), .t (.int .i64 x.2)]
 ins _ := []
 pre x := imsM x.1
 r x := .t (.sl ((evsI x.1 x.2).map evT))
 outs _ := []
 inj := by
   rintro ⟨a, b⟩ ⟨c, d⟩ h _
   simp only [List.cons.injEq, V.t.injEq, T.sl.injEq, T.int.injEq, true_and, and_true, mapI_inj] at h
   obtain ⟨rfl, rfl⟩ := h
   exact ⟨rfl, rfl⟩
theorem evI_eq {l : List Im} {act : Int} (h : imsM l) : ct_evI.fs [.t (.sl (l.map imT)), .t (.int .i64 act)] [] = some (.t (.sl ((evsI l act).map evT)), []) := ct_evI.eq (l, act) h
def outE (act : Int) (l : List Im) : Nat → List Ev
 | 0 => []
 | 1 => evsR act 1 l
 | 2 => evsR act 1 l ++ evsR act 2 l
 | 3 => (evsR act 1 l ++ evsR act 2 l) ++ seps act ++ evsR act 3 l
 | _ => evsC act l
theorem evsR_take {act r : Int} {l : List Im} {x : Im} {i : Nat} (h : l[i]? = some x) : evsR act r (l.take (i + 1)) = evsR act r (l.take i) ++ (if x.1 = r then (if r = 4 then (lnL x.2.2.2).map (mkE 9 3 act) else [ofI x act]) else []) := by
 unfold evsR
 rw [List.take_add_one, h, List.filter_append, List.flatMap_append]
 congr 1
 by_cases hx : x.1 = r <;> simp [List.filter_cons, hx]
theorem evsR_le {act r : Int} {l : List Im} : (evsR act r l).length ≤ l.length * 4 := Nat.le_trans evsR_len (Nat.mul_le_mul_right _ (List.length_filter_le _ _))
theorem map_take_s {α γ : Type} {f : α → γ} {l : List α} {k : Nat} {x : α} (h : l[k]? = some x) : (l.take (k + 1)).map f = (l.take k).map f ++ [f x] := by
 rw [List.take_add_one, h]; simp
def sepN (act : Int) (p : List UInt8) (k : Nat) : List Ev := (List.range k).map fun (i : Nat) => mkE (i : Int) 2 act p
theorem sepN_s {act : Int} {p : List UInt8} {k : Nat} : sepN act p (k + 1) = sepN act p k ++ [mkE (k : Int) 2 act p] := by unfold sepN; rw [List.range_succ, List.map_append]; rfl
theorem sepN_len {act : Int} {p : List UInt8} {k : Nat} : (sepN act p k).length = k := by simp [sepN]
theorem w_ref25_Events (tab : Tab) (gl : Gl) (n1 n2 n3 n4 n5 : Nat) (h1 : tab.look n1 = some ct_chc.fs) (h2 : tab.look n2 = some ct_sep.fs) (h3 : tab.look n3 = some ct_make.fs) (h4 : tab.look n4 = some ct_ofI.fs) (h5 : tab.look n5 = some ct_lns.fs) (l : List Im) (act : Int) (hm : imsM l) :
   (ac_ref25_Events n1 n2 n3 n4 n5).wp tab gl (zipF 0 [.t (.sl (l.map imT)), .t (.int .i64 act)]) (zipF 0 []) (resW [(4, none)] 0 (fun r o => r = .t (.sl ((evsI l act).map evT)) ∧ o = [])) := by
 have hC := chc_eq hm
 by_cases hz : chkC l = 0
 · rw [hz] at hC
   obtain ⟨hok, hl1, hl8⟩ := chkC_ok hz
   by_cases a1 : act < 1
   · have hr : evsI l act = [] := if_pos (.inr (.inl a1))
     rw [hr]
     simp (disch := omega) only [go_sem, ↓reduceIte, Nat.reduceAdd, Nat.reduceEqDiff, Nat.reduceLeDiff, reduceCtorEq, ac_ref25_Events, h1, hC, a1, List.map_nil]
   by_cases a3 : 3 < act
   · have hr : evsI l act = [] := if_pos (.inr (.inr a3))
     rw [hr]
     simp (disch := omega) only [go_sem, ↓reduceIte, Nat.reduceAdd, Nat.reduceEqDiff, Nat.reduceLeDiff, reduceCtorEq, ac_ref25_Events, h1, hC, a1, a3, List.map_nil]
   have hr : evsI l act = evsC act l := by unfold evsI; rw [if_neg (by omega)]
   rw [hr]
   have ha : 0 ≤ act ∧ act < 4 := by omega
   have b1 := evsR_le (act := act) (r := 1) (l := l)
   have b2 := evsR_le (act := act) (r := 2) (l := l)
   have b3 := evsR_le (act := act) (r := 3) (l := l)
   have b4 := evsR_le (act := act) (r := 4) (l := l)
   have bs := seps_len (act := act)
   have main : ∀ (i r : Nat), i < 4 → r = i + 1 → ∀ (base : List Ev), outE act l (i + 1) = base ++ evsR act r l → base.length ≤ 200 → ∀ (fs : Fs) (hs : Hs), Weak fs hs [(0, .t (.sl (l.map imT))), (1, .t (.int .i64 act)), (5, .sl 9000 0 base.length), (6, .t (.int .i64 r)), (8, .t (.int .i64 0))] [(9000, .live 4 ((base.map evT).map V.t) true false)] →
       loopW tab gl (ac_ref25_Events_L2 n4 n5 n3) fs hs (blockK 4 (blockK 1 (seqK tab gl (rG 28672 [mv 24 6, bN 25 .add 24 1, mv 6 25]) (upK 4 (fun i => [(0, .t (.sl (l.map imT))), (1, .t (.int .i64 act)), (5, .sl 9000 0 (outE act l i).length), (6, .t (.int .i64 ((i + 1 : Nat) : Int)))]) (fun i => [(9000, .live 4 (((outE act l i).map evT).map V.t) true false)]) i (blockK 0 (seqK tab gl ((rG 98304 [mv 83 5, mv 4 83]).seq AC.ret) (resW [(4, none)] 0 (fun r' o => r' = .t (.sl ((evsC act l).map evT)) ∧ o = [])))))))) := by
     intro i r hi hri base hb hbl fs hs hw
     refine loopW_weak hw ?_
     refine loop_upto l.length (fun j => [(0, .t (.sl (l.map imT))), (1, .t (.int .i64 act)), (5, .sl 9000 0 (base ++ evsR act r (l.take j)).length), (6, .t (.int .i64 r)), (8, .t (.int .i64 (j : Nat)))]) (fun j => [(9000, .live 4 (((base ++ evsR act r (l.take j)).map evT).map V.t) true false)]) ?_ (fun j hj => ?_)
     · have e0 : base ++ evsR act r (l.take 0) = base := by simp [evsR]
       simp only [e0]
       exact Weak.refl
     · have bj := evsR_le (act := act) (r := r) (l := l.take j)
       have bl : (base ++ evsR act r (l.take j)).length ≤ 300 := by
         rw [List.length_append]
         simp only [List.length_take] at bj
         omega
       by_cases hlt : j < l.length
       · obtain ⟨⟨xa, xs, xv, xp⟩, hx⟩ : ∃ x, l[j]? = some x := ⟨l[j], by simp [hlt]⟩
         have hxm : imM (xa, xs, xv, xp) := hm.2 _ (List.mem_of_getElem? hx)
         have hst := evsR_take (act := act) (r := r) hx
         simp only at hst
         have hO : base ++ evsR act r (l.take (j + 1)) = (base ++ evsR act r (l.take j)) ++ (if xa = (r : Int) then (if (r : Int) = 4 then (lnL xp).map (mkE 9 3 act) else [ofI (xa, xs, xv, xp) act]) else []) := by rw [hst, List.append_assoc]
         generalize base ++ evsR act r (l.take j) = L at *
         by_cases q : xa = (r : Int)
         · subst q
           by_cases r4 : r = 4
           · subst r4
             rw [if_pos rfl, if_pos (by rfl)] at hO
             have hO : base ++ evsR act 4 (l.take (j + 1)) = L ++ (lnL xp).map (mkE 9 3 act) := hO
             have hN : ct_lns.fs [.t (.agg [.int .i64 4, strT xs, .int .i64 xv, .sl (xp.map byteT)])] [] = some (.t (.sl ((lnL xp).map bsT)), []) := lns_eq hxm
             have ll := lnL_len (p := xp)
             have le := lnL_el (p := xp)
             have lp := hxm.2.1
             simp only at lp
             generalize lnL xp = N at *
             simp (disch := omega) only [go_sem, ↓reduceIte, Nat.reduceAdd, Nat.reduceEqDiff, Nat.reduceLeDiff, reduceCtorEq, ac_ref25_Events_L2, imT_def, hx, h5, hN, bne_self_eq_false]
             repeat refine And.intro rfl ?_
             refine loop_upto N.length (fun k => [(0, .t (.sl (l.map imT))), (1, .t (.int .i64 act)), (5, .sl 9000 0 (L ++ (N.take k).map (mkE 9 3 act)).length), (6, .t (.int .i64 4)), (8, .t (.int .i64 (j : Nat))), (9, .t (.sl (N.map bsT))), (10, .t (.int .i64 (k : Nat)))]) (fun k => [(9000, .live 4 (((L ++ (N.take k).map (mkE 9 3 act)).map evT).map V.t) true false)]) ?_ (fun k hk => ?_)
             · have e0 : L ++ (N.take 0).map (mkE 9 3 act) = L := by simp
               simp only [e0]
               refine Weak.rd id ?_ ?_ rfl
               all_goals simp (disch := omega) only [go_sem, ↓reduceIte, Nat.reduceAdd, Nat.reduceEqDiff, reduceCtorEq, id]
             · have bk : (L ++ (N.take k).map (mkE 9 3 act)).length ≤ 400 := by simp; omega
               by_cases hkl : k < N.length
               · obtain ⟨s, hs⟩ : ∃ s, N[k]? = some s := ⟨N[k], by simp [hkl]⟩
                 have hsl := le s (List.mem_of_getElem? hs)
                 have hM := makeO (r := 9) (k := 3) (act := act) (d := s) ⟨ha, by omega⟩
                 have hT : L ++ (N.take (k + 1)).map (mkE 9 3 act) = (L ++ (N.take k).map (mkE 9 3 act)) ++ [mkE 9 3 act s] := by rw [map_take_s hs, List.append_assoc]
                 generalize L ++ (N.take k).map (mkE 9 3 act) = M at *
                 generalize mkE 9 3 act s = e at *
                 simp (disch := omega) only [go_sem, ↓reduceIte, Nat.reduceAdd, Nat.reduceEqDiff, Nat.reduceLT, Nat.reduceLeDiff, reduceCtorEq, ac_ref25_Events_L3, bsT_def, hs, h3, hM, evT_c, evT_p]
                 refine ⟨hkl, Weak.rd (fun j => if j = 9000 then 94336 else j) ?_ ?_ rfl⟩
                 all_goals simp (disch := omega) only [go_sem, ↓reduceIte, Nat.reduceAdd, Nat.reduceEqDiff, reduceCtorEq, id, hT]
                 all_goals (have hq := congrArg List.length hT; simp only [List.length_append, List.length_cons, List.length_nil, List.length_map, List.length_take, sepN_len] at hq ⊢; omega)
               · have e : k = N.length := by omega
                 subst e
                 rw [List.take_length]
                 simp (disch := omega) only [go_sem, ↓reduceIte, Nat.reduceAdd, Nat.reduceEqDiff, reduceCtorEq, ac_ref25_Events_L3]
                 refine ⟨hlt, Weak.rd id ?_ ?_ rfl⟩
                 all_goals simp (disch := omega) only [go_sem, ↓reduceIte, Nat.reduceAdd, Nat.reduceEqDiff, reduceCtorEq, id, hO]
                 all_goals (have hq := congrArg List.length hO; simp only [List.length_append, List.length_cons, List.length_nil, List.length_map, List.length_take, sepN_len] at hq ⊢; omega)
           · have hE : ct_ofI.fs [.t (.agg [.int .i64 (r : Int), strT xs, .int .i64 xv, .sl (xp.map byteT)]), .t (.int .i64 act)] [] = some (.t (evT (ofI ((r : Int), xs, xv, xp) act)), []) := ofI_eq (x := ((r : Int), xs, xv, xp)) ⟨hxm, ha⟩
             have r4i : ¬ (r : Int) = 4 := by omega
             have r4b : ((r : Int) != 4) = true := by simpa using r4i
             rw [if_pos rfl, if_neg r4i] at hO
             generalize ofI ((r : Int), xs, xv, xp) act = e at *
             simp (disch := omega) only [go_sem, ↓reduceIte, Nat.reduceAdd, Nat.reduceEqDiff, Nat.reduceLT, Nat.reduceLeDiff, reduceCtorEq, ac_ref25_Events_L2, imT_def, hx, bne_self_eq_false, r4b, h4, hE, evT_c, evT_p]
             repeat refine And.intro rfl ?_
             refine ⟨hlt, Weak.rd (fun j => if j = 9000 then 73856 else j) ?_ ?_ rfl⟩
             all_goals simp (disch := omega) only [go_sem, ↓reduceIte, Nat.reduceAdd, Nat.reduceEqDiff, reduceCtorEq, id, hO]
             all_goals (have hq := congrArg List.length hO; simp only [List.length_append, List.length_cons, List.length_nil, List.length_map, List.length_take, sepN_len] at hq ⊢; omega)
         · rw [if_neg q, List.append_nil] at hO
           have qb : (xa != (r : Int)) = true := by simpa using q
           simp (disch := omega) only [go_sem, ↓reduceIte, Nat.reduceAdd, Nat.reduceEqDiff, Nat.reduceLeDiff, reduceCtorEq, ac_ref25_Events_L2, imT_def, hx, qb]
           refine ⟨hlt, Weak.rd id ?_ ?_ rfl⟩
           all_goals simp (disch := omega) only [go_sem, ↓reduceIte, Nat.reduceAdd, Nat.reduceEqDiff, reduceCtorEq, id, hO]
           all_goals (have hq := congrArg List.length hO; simp only [List.length_append, List.length_cons, List.length_nil, List.length_map, List.length_take, sepN_len] at hq ⊢; omega)
       · have e : j = l.length := by omega
         subst e
         rw [List.take_length] at bl ⊢
         subst hri
         rw [← hb] at bl ⊢
         simp (disch := omega) only [go_sem, ↓reduceIte, Nat.reduceAdd, Nat.reduceEqDiff, reduceCtorEq, ac_ref25_Events_L2]
         refine ⟨hi, Weak.rd id ?_ ?_ rfl⟩
         all_goals simp (disch := omega) only [go_sem, ↓reduceIte, Nat.reduceAdd, Nat.reduceEqDiff, reduceCtorEq, id]
   simp (disch := omega) only [go_sem, ↓reduceIte, Nat.reduceAdd, Nat.reduceEqDiff, Nat.reduceLeDiff, reduceCtorEq, ac_ref25_Events, h1, hC, a1, a3]
   refine loop_upto 4 (fun i => [(0, .t (.sl (l.map imT))), (1, .t (.int .i64 act)), (5, .sl 9000 0 (outE act l i).length), (6, .t (.int .i64 ((i + 1 : Nat) : Int)))]) (fun i => [(9000, .live 4 (((outE act l i).map evT).map V.t) true false)]) ?_ (fun i hi => ?_)
   · refine Weak.cv0 (hv := [(9000, .live 4 [] true false)]) (ho := []) id ?_ ?_ rfl rfl
     all_goals simp (disch := omega) only [go_sem, ↓reduceIte, Nat.reduceEqDiff, reduceCtorEq, id, outE]
   · rcases (show i = 0 ∨ i = 1 ∨ i = 2 ∨ i = 3 ∨ i = 4 by omega) with rfl | rfl | rfl | rfl | rfl
     · have hb : outE act l 0 = [] := rfl
       rw [hb]
       simp (disch := omega) only [go_sem, ↓reduceIte, Nat.reduceAdd, Nat.reduceEqDiff, Int.reduceLE, reduceCtorEq, ac_ref25_Events_L0]
       refine main 0 1 (by omega) rfl [] (by simp [outE]) (by simp) _ _ (Weak.rd id ?_ ?_ rfl)
       all_goals simp (disch := omega) only [go_sem, ↓reduceIte, Nat.reduceAdd, Nat.reduceEqDiff, reduceCtorEq, id]
     · have hb : outE act l 1 = evsR act 1 l := rfl
       rw [hb]
       simp (disch := omega) only [go_sem, ↓reduceIte, Nat.reduceEqDiff, Int.reduceLE, reduceCtorEq, ac_ref25_Events_L0]
       refine main 1 2 (by omega) rfl (evsR act 1 l) (by simp [outE]) (by omega) _ _ (Weak.rd id ?_ ?_ rfl)
       all_goals simp (disch := omega) only [go_sem, ↓reduceIte, Nat.reduceAdd, Nat.reduceEqDiff, reduceCtorEq, id]
     · have hb : outE act l 2 = evsR act 1 l ++ evsR act 2 l := rfl
       have h3' : outE act l 3 = ((evsR act 1 l ++ evsR act 2 l) ++ seps act) ++ evsR act 3 l := rfl
       have lb : (evsR act 1 l ++ evsR act 2 l).length ≤ 100 := by rw [List.length_append]; omega
       have hsp := sep_eq
       have l4 : sep4.length = 4 := rfl
       have t4 : List.take 4 sep4 = sep4 := rfl
       have hss : seps act = sepN act sep4 8 := rfl
       rw [hb]
       rw [hss] at h3'
       generalize evsR act 1 l ++ evsR act 2 l = S2 at *
       have hMk : ∀ k : Nat, _ := fun k => makeO (r := (k : Int)) (k := 2) (act := act) (d := sep4) ⟨ha, by rw [l4]; decide⟩
       generalize sep4 = P4 at *
       simp (disch := omega) only [go_sem, ↓reduceIte, Nat.reduceEqDiff, Int.reduceLE, reduceCtorEq, ac_ref25_Events_L0]
       refine loop_upto 8 (fun k => [(0, .t (.sl (l.map imT))), (1, .t (.int .i64 act)), (5, .sl 9000 0 (S2 ++ sepN act P4 k).length), (6, .t (.int .i64 3)), (7, .t (.int .i64 (k : Nat)))]) (fun k => [(9000, .live 4 (((S2 ++ sepN act P4 k).map evT).map V.t) true false)]) ?_ (fun k hk => ?_)
       · have e0 : S2 ++ sepN act P4 0 = S2 := by simp [sepN]
         simp only [e0]
         refine Weak.rd id ?_ ?_ rfl
         all_goals simp (disch := omega) only [go_sem, ↓reduceIte, Nat.reduceAdd, Nat.reduceEqDiff, reduceCtorEq, id]
       · have bk : (S2 ++ sepN act P4 k).length ≤ 200 := by rw [List.length_append, sepN_len]; omega
         by_cases hkl : k < 8
         · have hM := hMk k
           have hT : S2 ++ sepN act P4 (k + 1) = (S2 ++ sepN act P4 k) ++ [mkE (k : Int) 2 act P4] := by rw [sepN_s, List.append_assoc]
           generalize S2 ++ sepN act P4 k = M at *
           generalize mkE (k : Int) 2 act P4 = e at *
           simp (disch := omega) only [go_sem, ↓reduceIte, Nat.reduceAdd, Nat.reduceEqDiff, Nat.reduceLT, Nat.reduceLeDiff, reduceCtorEq, ac_ref25_Events_L1, h2, hsp, l4, t4, h3, hM, evT_c, evT_p]
           refine ⟨hkl, Weak.rd (fun j => if j = 9000 then 49248 else j) ?_ ?_ rfl⟩
           all_goals simp (disch := omega) only [go_sem, ↓reduceIte, Nat.reduceAdd, Nat.reduceEqDiff, reduceCtorEq, id, hT]
           all_goals (have hq := congrArg List.length hT; simp only [List.length_append, List.length_cons, List.length_nil, List.length_map, List.length_take, sepN_len] at hq ⊢; omega)
         · have e : k = 8 := by omega
           subst e
           simp (disch := omega) only [go_sem, ↓reduceIte, Nat.reduceAdd, Nat.reduceEqDiff, Int.reduceLT, reduceCtorEq, ac_ref25_Events_L1]
           refine main 2 3 (by omega) rfl _ h3' bk _ _ (Weak.rd id ?_ ?_ rfl)
           all_goals simp (disch := omega) only [go_sem, ↓reduceIte, Nat.reduceAdd, Nat.reduceEqDiff, reduceCtorEq, id]
     · have hb : outE act l 3 = (evsR act 1 l ++ evsR act 2 l) ++ seps act ++ evsR act 3 l := rfl
       have h4' : outE act l 4 = ((evsR act 1 l ++ evsR act 2 l) ++ seps act ++ evsR act 3 l) ++ evsR act 4 l := by simp [outE, evsC]
       have lb : ((evsR act 1 l ++ evsR act 2 l) ++ seps act ++ evsR act 3 l).length ≤ 200 := by simp only [List.length_append]; omega
       rw [hb]
       generalize (evsR act 1 l ++ evsR act 2 l) ++ seps act ++ evsR act 3 l = S3 at *
       simp (disch := omega) only [go_sem, ↓reduceIte, Nat.reduceEqDiff, Int.reduceLE, reduceCtorEq, ac_ref25_Events_L0]
       refine main 3 4 (by omega) rfl S3 h4' lb _ _ (Weak.rd id ?_ ?_ rfl)
       all_goals simp (disch := omega) only [go_sem, ↓reduceIte, Nat.reduceAdd, Nat.reduceEqDiff, reduceCtorEq, id]
     · have hb : outE act l 4 = evsC act l := rfl
       rw [hb]
       simp (disch := omega) only [go_sem, ↓reduceIte, Nat.reduceEqDiff, Nat.reduceLeDiff, Int.reduceLE, reduceCtorEq, ac_ref25_Events_L0, List.take_length]
 · have hr : evsI l act = [] := if_pos (.inl hz)
   rw [hr]
   have hz' : (chkC l != 0) = true := by simpa using hz
   simp (disch := omega) only [go_sem, ↓reduceIte, Nat.reduceAdd, Nat.reduceEqDiff, Nat.reduceLeDiff, reduceCtorEq, ac_ref25_Events, h1, hC, hz', List.map_nil]
end Go.Eng
end
section
namespace Go.Eng
def ac_replay_Registers_L0 (n_event_Check n_registers_Extend : Nat) : AC :=
 (.seq
 (rG 24576 [bT 24 .lss 23 22])
 (.seq
 (.cond (.tmp 24)
 .skip
 (.exit 0))
 (.seq
 (.block 1
 (.seq
 (rG 28672 [oO 25 (.iaddr 4) [.tmp 21, .tmp 23],oO 26 (.load 4 true) [.tmp 25],oO 6 (.new 4 [(.agg [(.t (.int .i64 0)), (.t (.int .i64 0)), .nil, .nil])]) [],oS 4 6 26])
 (.seq
 (rG 32768 [oO 27 (.load 4 true) [.tmp 6],oO 28 (.faddr 0) [.tmp 1],oO 29 (.load 1 false) [.tmp 28],cL 30 n_event_Check false [.tmp 27, .tmp 29],mv 7 30])
 (.seq
 (.seq
 (rG 36864 [mv 31 7,bN 32 .eql 31 0,mv 33 32,oG 34 33 (.faddr 1) [.tmp 6],oG 35 33 (.load 1 false) [.tmp 34],oG 36 33 (.bin .neq) [.tmp 35, .cst (.t (.int .i64 5))],oO 37 .pick [.tmp 33, .tmp 36, .cst (.t (.bool false))]])
 (.cond (.tmp 37)
 (rG 40960 [oO 39 (.load 2 true) [.tmp 4],oO 40 (.faddr 0) [.tmp 6],oO 41 (.load 1 false) [.tmp 40],oO 42 (.faddr 2) [.tmp 6],oO 43 (.load 1 false) [.tmp 42],cL 44 n_registers_Extend true [.tmp 39, .cst (.t (.int .i64 0)), .tmp 41, .tmp 43],mv 38 44,oO 45 (.extract 0) [.tmp 38],oO 46 (.extract 1) [.tmp 38],oS 2 4 45,mv 7 46])
 .skip))
 (.seq
 (rG 45056 [mv 47 7,bN 48 .neq 47 0])
 (.cond (.tmp 48)
 (.seq
 (rG 49152 [oO 49 (.build [.nil, (.t (.int .i64 0))] []) [],mv 50 7,oS 2 2 49,mv 3 50])
 .ret)
 .skip))))))
 (rG 53248 [bN 51 .add 23 1,mv 23 51]))))
def ac_replay_Registers (n_registers_New n_event_Check n_registers_Extend : Nat) : AC :=
 (.seq
 (rG 4096 [oO 1 .box [.tmp 0],oO 2 (.new 2 [(.agg [.nil, (.t (.int .i64 0))])]) [],mC 3 (.t (.int .i64 0))])
 (.seq
 (.seq
 (rG 8192 [oO 8 (.faddr 0) [.tmp 1],oO 9 (.load 1 false) [.tmp 8],bN 10 .lss 9 1,mv 11 10,oF 12 11 (.faddr 0) [.tmp 1],oF 13 11 (.load 1 false) [.tmp 12],oF 14 11 (.bin .gtr) [.tmp 13, .cst (.t (.int .i64 3))],oO 15 .pick [.tmp 11, .cst (.t (.bool true)), .tmp 14]])
 (.cond (.tmp 15)
 (.seq
 (rG 12288 [oO 16 (.build [.nil, (.t (.int .i64 0))] []) [],oS 2 2 16,mC 3 (.t (.int .i64 1))])
 .ret)
 .skip))
 (.seq
 (rG 16384 [oO 17 (.faddr 0) [.tmp 1],oO 18 (.load 1 false) [.tmp 17],cL 19 n_registers_New true [.tmp 18],oO 4 (.new 2 [(.agg [.nil, (.t (.int .i64 0))])]) [],oS 2 4 19])
 (.seq
 (.seq
 (rG 20480 [oO 20 (.faddr 2) [.tmp 1],oO 21 (.load 1 false) [.tmp 20],oO 22 .len [.tmp 21],mC 23 (.t (.int .i64 0))])
 (.block 0
 (.loop (ac_replay_Registers_L0 n_event_Check n_registers_Extend))))
 (.seq
 (rG 57344 [oO 52 (.load 2 true) [.tmp 4],oS 2 2 52,mC 3 (.t (.int .i64 0))])
 .ret)))))
def hints_replay_Registers : List (Nat × List Nat) := [(3, [2]), (9, [5])]
def ac_replay_same_L0 (n_registers_Value n_bytes_Equal : Nat) : AC :=
 (.seq
 (rG 16384 [bN 16 .lss 15 2])
 (.seq
 (.cond (.tmp 16)
 .skip
 (.exit 0))
 (.seq
 (.block 1
 (.seq
 (rG 20480 [mv 17 15,mv 11 17])
 (.seq
 (.seq
 (rG 24576 [mv 18 2,mv 19 11,bT 20 .shr 18 19,bN 21 .and 20 1,bN 22 .eql 21 0])
 (.cond (.tmp 22)
 (.exit 1)
 .skip))
 (.seq
 (rG 28672 [oO 24 (.load 2 true) [.tmp 5],mv 25 11,mv 26 3,cL 27 n_registers_Value true [.tmp 24, .tmp 25, .tmp 26],mv 23 27,oO 28 (.extract 0) [.tmp 23],oO 29 (.extract 1) [.tmp 23],mv 12 28,mv 13 29])
 (.seq
 (.seq
 (rG 32768 [mv 30 13,bN 31 .neq 30 0])
 (.cond (.tmp 31)
 (.seq
 (rG 36864 [mv 32 13,mC 8 (.t (.bool false)),mv 9 32])
 .ret)
 .skip))
 (.seq
 (rG 40960 [oO 34 (.load 2 true) [.tmp 4],mv 35 11,mv 36 3,cL 37 n_registers_Value true [.tmp 34, .tmp 35, .tmp 36],mv 33 37,oO 38 (.extract 0) [.tmp 33],oO 39 (.extract 1) [.tmp 33],mv 14 38,mv 13 39])
 (rG 45056 [mv 40 10,mv 41 40,mG 42 13 41,oG 43 41 (.bin .eql) [.tmp 42, .cst (.t (.int .i64 0))],oO 44 .pick [.tmp 41, .tmp 43, .cst (.t (.bool false))],mv 45 44,mG 46 12 45,mG 47 14 45,cG 48 45 n_bytes_Equal false [.tmp 46, .tmp 47],oO 49 .pick [.tmp 45, .tmp 48, .cst (.t (.bool false))],mv 10 49])))))))
 (rG 49152 [bN 50 .add 15 1,mv 15 50]))))
def ac_replay_same (n_registers_Value n_bytes_Equal : Nat) : AC :=
 (.seq
 (rG 4096 [oO 4 .box [.tmp 0],oO 5 .box [.tmp 1],mC 8 (.t (.bool false)),mC 9 (.t (.int .i64 0))])
 (.seq
 (rG 8192 [mC 10 (.t (.bool true))])
 (.seq
 (.seq
 (rG 12288 [mC 15 (.t (.int .i64 0))])
 (.block 0
 (.loop (ac_replay_same_L0 n_registers_Value n_bytes_Equal))))
 (.seq
 (rG 53248 [mv 51 10,mv 8 51,mC 9 (.t (.int .i64 0))])
 .ret))))
def hints_replay_same : List (Nat × List Nat) := [(6, [3]), (9, [3])]
def ac_replay_reached_L0 (n_registers_Extend n_replay_same : Nat) : AC :=
 (.seq
 (.seq
 (rG 32768 [mv 27 8,oO 28 (.un .not) [.tmp 27],mv 29 28,mG 30 11 29,oG 31 29 (.faddr 2) [.tmp 3],oG 32 29 (.load 1 false) [.tmp 31],oG 33 29 .len [.tmp 32],oG 34 29 (.bin .lss) [.tmp 30, .tmp 33],oO 35 .pick [.tmp 29, .tmp 34, .cst (.t (.bool false))]])
 (.cond (.tmp 35)
 .skip
 (.exit 0)))
 (.seq
 (.block 1
 (.seq
 (rG 40960 [oO 38 (.faddr 2) [.tmp 3],oO 39 (.load 1 false) [.tmp 38],mv 40 11,oO 41 (.iaddr 4) [.tmp 39, .tmp 40],oO 42 (.load 4 true) [.tmp 41],oO 12 (.new 4 [(.agg [(.t (.int .i64 0)), (.t (.int .i64 0)), .nil, .nil])]) [],oS 4 12 42])
 (.seq
 (rG 45056 [oO 43 (.faddr 1) [.tmp 12],oO 44 (.load 1 false) [.tmp 43],bN 45 .neq 44 5,mv 46 45,oG 47 46 (.faddr 0) [.tmp 12],oG 48 46 (.load 1 false) [.tmp 47],mG 49 2 46,oG 50 46 (.bin .eql) [.tmp 48, .tmp 49],oO 51 .pick [.tmp 46, .tmp 50, .cst (.t (.bool false))]])
 (.cond (.tmp 51)
 (.seq
 (rG 49152 [oO 53 (.load 2 true) [.tmp 7],mv 54 2,oO 55 (.faddr 2) [.tmp 12],oO 56 (.load 1 false) [.tmp 55],cL 57 n_registers_Extend true [.tmp 53, .cst (.t (.int .i64 0)), .tmp 54, .tmp 56],mv 52 57,oO 58 (.extract 0) [.tmp 52],oO 59 (.extract 1) [.tmp 52],oS 2 7 58])
 (.seq
 (rG 53248 [mv 60 10,bN 61 .add 60 1,mv 10 61])
 (rG 57344 [oO 63 (.load 2 true) [.tmp 7],oO 64 (.load 2 true) [.tmp 4],oO 65 (.faddr 0) [.tmp 3],oO 66 (.load 1 false) [.tmp 65],mv 67 2,cL 68 n_replay_same false [.tmp 63, .tmp 64, .tmp 66, .tmp 67],mv 62 68,oO 69 (.extract 0) [.tmp 62],oO 70 (.extract 1) [.tmp 62],mv 8 69])))
 .skip))))
 (rG 36864 [mv 36 11,bN 37 .add 36 1,mv 11 37])))
def ac_replay_reached (n_registers_New n_replay_same n_registers_Extend : Nat) : AC :=
 (.seq
 (rG 4096 [oO 3 .box [.tmp 0],oO 4 .box [.tmp 1],mC 6 (.t (.int .i64 0))])
 (.seq
 (rG 8192 [oO 13 (.faddr 0) [.tmp 3],oO 14 (.load 1 false) [.tmp 13],cL 15 n_registers_New true [.tmp 14],oO 7 (.new 2 [(.agg [.nil, (.t (.int .i64 0))])]) [],oS 2 7 15])
 (.seq
 (rG 12288 [oO 17 (.load 2 true) [.tmp 7],oO 18 (.load 2 true) [.tmp 4],oO 19 (.faddr 0) [.tmp 3],oO 20 (.load 1 false) [.tmp 19],mv 21 2,cL 22 n_replay_same false [.tmp 17, .tmp 18, .tmp 20, .tmp 21],mv 16 22,oO 23 (.extract 0) [.tmp 16],oO 24 (.extract 1) [.tmp 16],mv 8 23,mv 9 24])
 (.seq
 (.seq
 (rG 16384 [mv 25 9,bN 26 .neq 25 0])
 (.cond (.tmp 26)
 (.seq
 (rG 20480 [mC 6 (.t (.int .i64 (-1)))])
 .ret)
 .skip))
 (.seq
 (rG 24576 [mC 10 (.t (.int .i64 0))])
 (.seq
 (.seq
 (rG 28672 [mC 11 (.t (.int .i64 0))])
 (.block 0
 (.loop (ac_replay_reached_L0 n_registers_Extend n_replay_same))))
 (.seq
 (.seq
 (rG 61440 [mv 71 8,oO 72 (.un .not) [.tmp 71]])
 (.cond (.tmp 72)
 (.seq
 (rG 65536 [mC 6 (.t (.int .i64 (-1)))])
 .ret)
 .skip))
 (.seq
 (rG 69632 [mv 73 10,mv 6 73])
 .ret))))))))
def hints_replay_reached : List (Nat × List Nat) := [(1, [2]), (11, [4])]
def ac_replay_Reached (n_replay_Registers n_replay_reached : Nat) : AC :=
 (.seq
 (rG 4096 [oO 3 .box [.tmp 0],oO 4 .box [.tmp 1],mC 6 (.t (.int .i64 0))])
 (.seq
 (.seq
 (rG 8192 [oO 10 (.load 3 true) [.tmp 3],cL 11 n_replay_Registers true [.tmp 10],mv 9 11,oO 12 (.extract 0) [.tmp 9],oO 13 (.extract 1) [.tmp 9],oO 7 (.new 2 [(.agg [.nil, (.t (.int .i64 0))])]) [],oS 2 7 12,mv 8 13])
 (.seq
 (rG 12288 [mv 14 8,bN 15 .neq 14 0,mv 16 15,mF 17 2 16,oF 18 16 (.bin .lss) [.tmp 17, .cst (.t (.int .i64 0))],oO 19 .pick [.tmp 16, .cst (.t (.bool true)), .tmp 18],mv 20 19,mF 21 2 20,oF 22 20 (.bin .geq) [.tmp 21, .cst (.t (.int .i64 12))],oO 23 .pick [.tmp 20, .cst (.t (.bool true)), .tmp 22]])
 (.cond (.tmp 23)
 (.seq
 (rG 16384 [mC 6 (.t (.int .i64 (-1)))])
 .ret)
 .skip)))
 (.seq
 (rG 20480 [oO 24 (.load 3 true) [.tmp 3],oO 25 (.load 2 true) [.tmp 4],mv 26 2,cL 27 n_replay_reached false [.tmp 24, .tmp 25, .tmp 26],mv 6 27])
 .ret)))
def hints_replay_Reached : List (Nat × List Nat) := [(1, [1])]
def ac_replay_First_L0 (n_replay_reached : Nat) : AC :=
 (.seq
 (rG 28672 [bN 20 .lss 19 12])
 (.seq
 (.cond (.tmp 20)
 .skip
 (.exit 0))
 (.seq
 (.block 1
 (.seq
 (rG 32768 [mv 21 19,mv 9 21])
 (rG 36864 [mv 22 9,oO 23 (.load 3 true) [.tmp 2],oO 24 (.load 2 true) [.tmp 3],mv 25 9,cL 26 n_replay_reached false [.tmp 23, .tmp 24, .tmp 25],oO 27 (.aaddr 12 1) [.tmp 7, .tmp 22],oS 1 27 26])))
 (rG 40960 [bN 28 .add 19 1,mv 19 28]))))
def ac_replay_First_L1 : AC :=
 (.seq
 (rG 49152 [bT 33 .lss 32 31])
 (.seq
 (.cond (.tmp 33)
 .skip
 (.exit 2))
 (.seq
 (.block 3
 (.seq
 (rG 53248 [mv 34 32,oO 35 (.iaddr 4) [.tmp 30, .tmp 32],oO 36 (.load 4 true) [.tmp 35],oO 11 (.new 4 [(.agg [(.t (.int .i64 0)), (.t (.int .i64 0)), .nil, .nil])]) [],mv 10 34,oS 4 11 36])
 (.seq
 (.seq
 (rG 57344 [oO 37 (.faddr 1) [.tmp 11],oO 38 (.load 1 false) [.tmp 37],bN 39 .eql 38 5])
 (.cond (.tmp 39)
 (.exit 3)
 .skip))
 (.seq
 (.seq
 (.reg 61440 (some [0, 1, 3, 7, 0, 16, 48, 112, 255]) [oO 40 (.faddr 0) [.tmp 11],oO 41 (.load 1 false) [.tmp 40],oO 42 (.aaddr 12 1) [.tmp 8, .tmp 41],oO 43 (.load 1 false) [.tmp 42],oO 44 (.faddr 0) [.tmp 11],oO 45 (.load 1 false) [.tmp 44],oO 46 (.aaddr 12 1) [.tmp 7, .tmp 45],oO 47 (.load 1 false) [.tmp 46],bT 48 .geq 43 47])
 (.cond (.tmp 48)
 (.seq
 (rG 65536 [mv 49 10,mv 4 49])
 .ret)
 .skip))
 (rG 69632 [oO 50 (.faddr 0) [.tmp 11],oO 51 (.load 1 false) [.tmp 50],oO 52 (.aaddr 12 1) [.tmp 8, .tmp 51],oO 53 (.load 1 false) [.tmp 52],bN 54 .add 53 1,oO 55 (.aaddr 12 1) [.tmp 8, .tmp 51],oS 1 55 54])))))
 (rG 73728 [bN 56 .add 32 1,mv 32 56]))))
def ac_replay_First (n_replay_Registers n_replay_reached : Nat) : AC :=
 (.seq
 (rG 4096 [oO 2 .box [.tmp 0],oO 3 .box [.tmp 1],mC 4 (.t (.int .i64 0))])
 (.seq
 (.seq
 (rG 8192 [oO 13 (.load 3 true) [.tmp 2],cL 14 n_replay_Registers true [.tmp 13],mv 12 14,oO 15 (.extract 0) [.tmp 12],oO 16 (.extract 1) [.tmp 12],oO 5 (.new 2 [(.agg [.nil, (.t (.int .i64 0))])]) [],oS 2 5 15,mv 6 16])
 (.seq
 (rG 12288 [mv 17 6,bN 18 .neq 17 0])
 (.cond (.tmp 18)
 (.seq
 (rG 16384 [mC 4 (.t (.int .i64 0))])
 .ret)
 .skip)))
 (.seq
 (rG 20480 [oO 7 (.new 1 (List.replicate 12 (.t (.int .i64 0)))) [],oO 8 (.new 1 (List.replicate 12 (.t (.int .i64 0)))) []])
 (.seq
 (.seq
 (rG 24576 [mC 19 (.t (.int .i64 0))])
 (.block 0
 (.loop (ac_replay_First_L0 n_replay_reached))))
 (.seq
 (.seq
 (rG 45056 [oO 29 (.faddr 2) [.tmp 2],oO 30 (.load 1 false) [.tmp 29],oO 31 .len [.tmp 30],mC 32 (.t (.int .i64 0))])
 (.block 2
 (.loop ac_replay_First_L1)))
 (.seq
 (.seq
 (rG 77824 [oO 57 (.load 12 true) [.tmp 8],oO 58 (.load 12 true) [.tmp 7],oO 59 (.aeq 12 .i64 true) [.tmp 57, .tmp 58]])
 (.cond (.tmp 59)
 (.seq
 (rG 81920 [oO 60 (.faddr 2) [.tmp 2],oO 61 (.load 1 false) [.tmp 60],oO 62 .len [.tmp 61],mv 4 62])
 .ret)
 .skip))
 (.seq
 (rG 86016 [mC 4 (.t (.int .i64 (-1)))])
 .ret)))))))
def hints_replay_First : List (Nat × List Nat) := [(1, [1])]
end Go.Eng
end
section
set_option maxRecDepth 20000
set_option maxHeartbeats 64000000
namespace Go.Eng
theorem nat_and2 (n : Nat) : n &&& 2 = n / 2 % 2 * 2 := by
 have h1 : (n &&& 2) / 2 = n / 2 % 2 := by
   rw [Nat.and_div_two]; exact Nat.and_one_is_mod _
 have h2 : (n &&& 2) % 2 = 0 := by
   have := Nat.and_mod_two_pow (a := n) (b := 2) (n := 1)
   simpa using this
 omega
theorem and2 {x : Int} : binI .and .i64 x .i64 2 = some (.int .i64 (x / 2 % 2 * 2)) := by
 have h2 : ((BitVec.ofInt 64 x &&& BitVec.ofInt 64 2).toNat : Int) = x / 2 % 2 * 2 := by
   rw [BitVec.toNat_and, BitVec.toNat_ofInt]
   have e2 : (BitVec.ofInt 64 2).toNat = 2 := by decide
   rw [e2, nat_and2]
   have e3 : ((2 ^ 64 : Nat) : Int) = 18446744073709551616 := by decide
   rw [e3]
   omega
 change some (T.int IntKind.i64 (IntKind.i64.wrap ((BitVec.ofInt 64 x &&& BitVec.ofInt 64 2).toNat : Int))) = _
 rw [h2, wrap_i64_id (by omega)]
attribute [go_sem ↓] and2
theorem rpl_eq {act rs : Int} {es : List Ev} (h : esM es) : ct_rpl.fs [.t (.agg [.int .i64 act, .int .i64 rs, .sl (es.map evT)])] [] = some (.tup [.t (.agg [.sl ((rpG act es).1.map bankT), .int .i64 (rpG act es).2]), .t (.int .i64 (rpE act es))], []) := ct_rpl.eq (act, rs, es) h
def rpP (act : Int) (es : List Ev) (i : Nat) : Rg := (es.take i).foldl rpS (rp0 act)
theorem rpP_s {act : Int} {es : List Ev} {i : Nat} {e : Ev} (h : es[i]? = some e) : rpP act es (i + 1) = rpS (rpP act es i) e := by
 unfold rpP
 rw [List.take_add_one, h, List.foldl_append]; rfl
theorem rpP_rq {act : Int} (ha : 1 ≤ act ∧ act ≤ 3) {es : List Ev} {i : Nat} : RQ act i (rpP act es i) := by
 have := RQ.fold ha (es := es.take i) (RQ.zero ha)
 rw [Nat.zero_add] at this
 exact this.up (by rw [List.length_take]; omega)
theorem new2 {act : Int} (ha : 1 ≤ act ∧ act ≤ 3) : ∃ b0 b1 : Bank, newBk act = [b0, b1] ∧ List.length b0 ≤ 16 ∧ List.length b1 ≤ 16 ∧ ct_new.fs [.t (.int .i64 act)] [] = some (.agg [.sl 0 0 2, .t (.int .i64 0)], [.live 1 [.sl 1 0 b0.length, .sl 2 0 b1.length] true false, .live 1 ((b0.map bsT).map V.t) true false, .live 1 ((b1.map bsT).map V.t) true false]) := by
 rcases new_casesX act with ⟨e, _⟩ | ⟨b0, b1, e, g0, g1, hn⟩
 · obtain ⟨b0, b1, e2, _⟩ := ShA.new ha
   rw [e] at e2; cases e2
 · exact ⟨b0, b1, e, by rcases g0 with h | h <;> omega, by rcases g1 with h | h <;> omega, hn⟩
theorem ext_val0 {act : Int} {x : Rg} {n : Nat} {r k : Int} {ds : List (List UInt8)} {d : List UInt8} (hx : RQ act n x) (hn : n < 1000000) (hm : evX (r, k, ds, d)) (hl : ds.length < 1000000000) (hc : chkE (r, k, ds, d) act = 0) (h5 : k ≠ 5) :
   ct_ext.fs [.t (.agg [.sl (x.1.map bankT), .int .i64 x.2]), .t (.int .i64 0), .t (.int .i64 r), .t (.sl (ds.map bsT))] [] = some (.tup [.t (.agg [.sl ((rpS x (r, k, ds, d)).1.map bankT), .int .i64 (rpS x (r, k, ds, d)).2]), .t (.int .i64 0)], []) := by
 have hE := ct_ext.eq (x.1, x.2, 0, r, ds) ⟨hx.1.rv, ⟨hx.2.1, by show x.2 < 1000000000; have := hx.2.2; omega⟩, hl, fun y hy => by have := hm.2.1 y hy; omega⟩
 have h0 := ext_ok hx.1 hc h5
 have hr : extR x.1 x.2 0 r ds = .tup [.t (regT (extBk x.1 r.toNat ds) (x.2 + 1)), .t (.int .i64 0)] := if_pos h0
 rw [rpS_ext hx.1 hc h5]
 exact hE.trans (by show some (extR x.1 x.2 0 r ds, ([] : List Ob)) = _; rw [hr]; rfl)
theorem chk_len {r k act : Int} {ds : List (List UInt8)} {d : List UInt8} (hc : chkE (r, k, ds, d) act = 0) : ds.length = 2 := by
 unfold chkE at hc
 simp only at hc
 split at hc
 · simp at hc
 · split at hc
   · simp at hc
   · split at hc
     · rename_i hf
       unfold fitE at hf
       simp only [Bool.and_eq_true, decide_eq_true_eq] at hf
       exact hf.1.1
     · simp at hc
theorem rpV_bad {act : Int} {es : List Ev} {c : Int} (h : rpE act es = c) (hc : c ≠ 0) : rpV act es = .tup [.t (.agg [.sl [], .int .i64 0]), .t (.int .i64 c)] := by
 unfold rpV rpG
 rw [h, if_neg hc]; rfl
theorem rpV_good {act : Int} {es : List Ev} (h : rpE act es = 0) : rpV act es = .tup [.t (.agg [.sl ((rpP act es es.length).1.map bankT), .int .i64 (rpP act es es.length).2]), .t (.int .i64 0)] := by
 unfold rpV rpG
 rw [h, if_pos rfl]
 unfold rpP rpF
 rw [List.take_length]; rfl
theorem take_all {act : Int} {es : List Ev} {i : Nat} {e : Ev} (h : es[i]? = some e) (hP : ∀ x ∈ es.take i, chkE x act = 0) (he : chkE e act = 0) : ∀ x ∈ es.take (i + 1), chkE x act = 0 := by
 intro x hx
 rw [List.take_add_one, h] at hx
 simp only [Option.toList_some, List.mem_append, List.mem_cons, List.not_mem_nil, or_false] at hx
 rcases hx with hx | rfl
 · exact hP x hx
 · exact he
theorem first_bad {act : Int} {es : List Ev} {i : Nat} {e : Ev} (ha : 1 ≤ act ∧ act ≤ 3) (h : es[i]? = some e) (hP : ∀ x ∈ es.take i, chkE x act = 0) (he : chkE e act ≠ 0) : rpE act es = chkE e act := by
 have hlt : i < es.length := (List.getElem?_eq_some_iff.1 h).1
 have hg : es.getD i ev0 = e := by simp [List.getD, h]
 unfold rpE
 rw [if_neg (by omega), firstE_at (i := i) hlt hP (by rw [hg]; exact he), hg]
theorem first_good {act : Int} {es : List Ev} (ha : 1 ≤ act ∧ act ≤ 3) (hP : ∀ x ∈ es, chkE x act = 0) : rpE act es = 0 := by
 unfold rpE
 rw [if_neg (by omega)]
 exact firstE_all hP
theorem w_replay_Registers (tab : Tab) (gl : Gl) (n1 n2 n3 : Nat) (h1 : tab.look n1 = some ct_new.fs) (h2 : tab.look n2 = some ct_chkX.fs) (h3 : tab.look n3 = some ct_ext.fs) (act rs : Int) (es : List Ev) (hm : esM es) :
   (ac_replay_Registers n1 n2 n3).wp tab gl (zipF 0 [.t (lgT (act, rs, es))]) (zipF 0 []) (resW [(2, some (2, true)), (3, none)] 0 (fun r o => r = rpV act es ∧ o = [])) := by
 by_cases a1 : act < 1
 · rw [rpV_bad (c := 1) (if_pos (.inl a1)) (by decide)]
   simp (disch := omega) only [go_sem, ↓reduceIte, Nat.reduceAdd, Nat.reduceEqDiff, Nat.reduceLeDiff, ac_replay_Registers, lgT_def, a1]
 by_cases a3 : 3 < act
 · rw [rpV_bad (c := 1) (if_pos (.inr a3)) (by decide)]
   simp (disch := omega) only [go_sem, ↓reduceIte, Nat.reduceAdd, Nat.reduceEqDiff, Nat.reduceLeDiff, ac_replay_Registers, lgT_def, a1, a3]
 have ha : 1 ≤ act ∧ act ≤ 3 := by omega
 obtain ⟨b0, b1, hb, hl0, hl1, hN⟩ := new2 ha
 have hlen := hm.1
 have hx0 : rpP act es 0 = ([b0, b1], 0) := by rw [← hb]; rfl
 simp (disch := omega) only [go_sem, ↓reduceIte, Nat.reduceAdd, Nat.reduceEqDiff, Nat.reduceLeDiff, reduceCtorEq, ac_replay_Registers, lgT_def, a1, a3, h1, hN]
 refine loop_uptoP es.length (fun i => ∀ e ∈ es.take i, chkE e act = 0) (fun i => [(1, .ref 4096 0 0), (2, .ref 4112 0 0), (4, .ref 16432 0 0), (21, .t (.sl (es.map evT))), (22, .t (.int .i64 es.length)), (23, .t (.int .i64 (i : Nat)))])
   (fun i => [(16432, .live 2 [.t (.agg [.sl ((rpP act es i).1.map bankT), .int .i64 (rpP act es i).2])] true true), (4112, .live 2 [.agg [.nil, .t (.int .i64 0)]] true true), (4096, .live 3 [.t (.agg [.int .i64 act, .int .i64 rs, .sl (es.map evT)])] true true)]) (by simp) ?_ (fun i hi hP => ?_)
 · refine Weak.cv (hv := []) [16417, 16418, 16416] id ?_ rfl
   simp (disch := omega) only [go_sem, ↓reduceIte, Nat.reduceAdd, Nat.reduceEqDiff, Nat.reduceLeDiff, Nat.reduceBEq, id, hx0, List.map_nil, List.map_cons]
   all_goals rfl
 · by_cases hlt : i < es.length
   · obtain ⟨⟨r, k, ds, d⟩, he⟩ : ∃ e, es[i]? = some e := ⟨es[i], by simp [hlt]⟩
     have hx := hm.2 _ (List.mem_of_getElem? he)
     have hC := chkX_eq (act := act) hx
     have hs := rpP_s (act := act) he
     have hq := rpP_rq ha (es := es) (i := i)
     by_cases hz : chkE (r, k, ds, d) act = 0
     · have hP' := take_all he hP hz
       have hE := fun h5 => ext_val0 hq (by omega) hx (by rw [chk_len hz]; omega) hz h5
       rw [hz] at hC
       rw [← hs] at hE
       by_cases h5 : k = 5
       · subst h5
         have hs' : rpP act es (i + 1) = rpP act es i := hs.trans (if_pos rfl)
         generalize rpP act es i = X at *
         simp (disch := omega) only [go_sem, ↓reduceIte, Nat.reduceAdd, Nat.reduceEqDiff, Nat.reduceLeDiff, reduceCtorEq, ac_replay_Registers_L0, evT_def, he, h2, hC]
         refine ⟨hlt, hP', Weak.rd id ?_ ?_ rfl⟩
         all_goals simp (disch := omega) only [go_sem, ↓reduceIte, Nat.reduceEqDiff, Nat.reduceBEq, id, hs']
       · have h5b : (k != 5) = true := by simpa using h5
         have hE := hE h5
         generalize hY : rpP act es (i + 1) = Y at *
         generalize rpP act es i = X at *
         simp (disch := omega) only [go_sem, ↓reduceIte, Nat.reduceAdd, Nat.reduceEqDiff, Nat.reduceLeDiff, reduceCtorEq, ac_replay_Registers_L0, evT_def, he, h2, hC, h5b, h3, hE]
         refine ⟨hlt, hP', Weak.rd id ?_ ?_ rfl⟩
         all_goals simp (disch := omega) only [go_sem, ↓reduceIte, Nat.reduceEqDiff, Nat.reduceBEq, id, hY]
     · have hz' : (chkE (r, k, ds, d) act == 0) = false := by simpa using hz
       have hz2 : (chkE (r, k, ds, d) act != 0) = true := by simpa using hz
       rw [rpV_bad (first_bad ha he hP hz) hz]
       generalize chkE (r, k, ds, d) act = c at *
       generalize rpP act es i = X at *
       simp (disch := omega) only [go_sem, ↓reduceIte, Nat.reduceAdd, Nat.reduceEqDiff, Nat.reduceLeDiff, ac_replay_Registers_L0, evT_def, he, h2, hC, hz', hz2]
   · have e : i = es.length := by omega
     subst e
     rw [List.take_length] at hP
     rw [rpV_good (first_good ha hP)]
     generalize rpP act es es.length = X at *
     simp (disch := omega) only [go_sem, ↓reduceIte, Nat.reduceAdd, Nat.reduceEqDiff, Nat.reduceLeDiff, ac_replay_Registers_L0]
theorem ext_valO {act : Int} {bk : List Bank} (h : ShA act bk) {i g : Nat} (hne : g ≠ i) (ds : List (List UInt8)) (a : Nat) : valL (extBk bk i ds) a g = valL bk a g := by
 obtain ⟨b0, b1, rfl, -, -, -, -⟩ := h
 rw [extBk_two]
 match a with
 | 0 => exact ext1_val hne
 | 1 => exact ext1_val hne
 | a + 2 => rfl
theorem ext_valS {act : Int} {bk : List Bank} (h : ShA act bk) {g : Nat} (hg : g < 16) (ds : List (List UInt8)) {a : Nat} (ha : a < 2) : valL (extBk bk g ds) a g = if act / 2 ^ a % 2 = 1 then sumA a (valL bk a g ++ ds.getD a []) else valL bk a g := by
 obtain ⟨b0, b1, rfl, h0, h1, -, -⟩ := h
 rw [extBk_two]
 have key : ∀ (a : Nat) (b : Bank) (d : List UInt8) (q : Prop) [Decidable q], List.length b = (if q then 16 else 0) → (ext1 a b g d).getD g [] = if q then sumA a (b.getD g [] ++ d) else b.getD g [] := by
   intro a b d q _ hb
   unfold ext1
   by_cases hq : q
   · rw [if_pos hq] at hb ⊢
     rw [if_pos hb]
     exact getD_set_eq (by omega)
   · rw [if_neg hq] at hb ⊢
     rw [if_neg (by omega)]
 rcases (show a = 0 ∨ a = 1 by omega) with rfl | rfl
 · have := key 0 b0 (ds.getD 0 []) _ h0
   simpa [valL] using this
 · have := key 1 b1 (ds.getD 1 []) _ h1
   simpa [valL] using this
def eqv (x y : Rg) (g : Nat) : Prop := valL x.1 0 g = valL y.1 0 g ∧ valL x.1 1 g = valL y.1 1 g
instance {x y : Rg} {g : Nat} : Decidable (eqv x y g) := by unfold eqv; infer_instance
theorem eqv_refl {x : Rg} {g : Nat} : eqv x x g := ⟨rfl, rfl⟩
theorem eqv.symm {x y : Rg} {g : Nat} (h : eqv x y g) : eqv y x g := ⟨h.1.symm, h.2.symm⟩
theorem eqv.trans {x y z : Rg} {g : Nat} (h : eqv x y g) (k : eqv y z g) : eqv x z g := ⟨h.1.trans k.1, h.2.trans k.2⟩
def isG (g : Nat) (e : Ev) : Prop := e.2.1 ≠ 5 ∧ e.1 = g
instance {g : Nat} {e : Ev} : Decidable (isG g e) := by unfold isG; infer_instance
def gS (g : Nat) (x : Rg) (e : Ev) : Rg := if isG g e then extP x 0 g e.2.2.1 else x
def gF (act : Int) (g : Nat) (es : List Ev) : Rg := es.foldl (gS g) (rp0 act)
theorem RQ.gS {act : Int} {n g : Nat} {x : Rg} {e : Ev} (h : RQ act n x) : RQ act (n + 1) (gS g x e) := by
 unfold Eng.gS
 split
 · exact h.ext _ _ _
 · exact h.up (by omega)
theorem evV_reg {act : Int} {e : Ev} (h : evV act e) : 0 ≤ e.1 ∧ e.1 ≤ 11 := by
 obtain ⟨h, -⟩ := h
 unfold chkE at h
 split at h
 · simp at h
 · rename_i hb
   exact ⟨by have := (goodE hb).2.1; omega, by have := (goodE hb).2.1; omega⟩
theorem ext_eqv {act : Int} {x y : Rg} {g : Nat} (hx : ShA act x.1) (hy : ShA act y.1) (hg : g < 16) (h : eqv x y g) {e : Ev} (hv : evV act e) (he : isG g e) : eqv (extP x 0 g e.2.2.1) (extP y 0 g e.2.2.1) g := by
 obtain ⟨h5, hr⟩ := he
 have e1 := ext_ok hx hv.1 h5
 have e2 := ext_ok hy hv.1 h5
 rw [hr] at e1 e2
 unfold extP
 rw [if_pos e1, if_pos e2, Int.toNat_natCast]
 refine ⟨?_, ?_⟩
 · simp only; rw [ext_valS hx hg _ (by omega), ext_valS hy hg _ (by omega), h.1]
 · simp only; rw [ext_valS hx hg _ (by omega), ext_valS hy hg _ (by omega), h.2]
theorem rpS_other {act : Int} {x : Rg} {g : Nat} (hx : ShA act x.1) {e : Ev} (hv : evV act e) (he : ¬ isG g e) : eqv (rpS x e) x g := by
 unfold rpS
 split
 · exact eqv_refl
 · rename_i h5
   have hr := evV_reg hv
   have hne : g ≠ e.1.toNat := fun h => he ⟨h5, by omega⟩
   unfold extP
   split
   · exact ⟨ext_valO hx hne _ _, ext_valO hx hne _ _⟩
   · exact eqv_refl
theorem rpS_this {x : Rg} {g : Nat} {e : Ev} (he : isG g e) : rpS x e = extP x 0 g e.2.2.1 := by
 unfold rpS
 rw [if_neg he.1, he.2]
theorem fold_eqv {act : Int} {g : Nat} (hg : g < 16) : ∀ {es : List Ev} {n m : Nat} {x y : Rg}, (∀ e ∈ es, evV act e) → RQ act n x → RQ act m y → eqv x y g → eqv (es.foldl (gS g) x) (es.foldl rpS y) g
 | [], _, _, _, _, _, _, _, h => h
 | e :: es, n, m, x, y, hv, hx, hy, h => by
   have he := hv e (by simp)
   refine fold_eqv hg (es := es) (fun e h => hv e (by simp [h])) (hx.gS (g := g) (e := e)) (hy.step (e := e)) ?_
   by_cases hi : isG g e
   · rw [rpS_this hi]
     unfold Eng.gS
     rw [if_pos hi]
     exact ext_eqv hx.1 hy.1 hg h he hi
   · have := rpS_other hy.1 he hi
     unfold Eng.gS
     rw [if_neg hi]
     exact h.trans this.symm
theorem gF_eqv {act : Int} (ha : 1 ≤ act ∧ act ≤ 3) {g : Nat} (hg : g < 16) {es : List Ev} (hv : ∀ e ∈ es, evV act e) : eqv (gF act g es) (rpF act es) g := fold_eqv hg hv (RQ.zero ha) (RQ.zero ha) eqv_refl
theorem ag_eqv {act : Int} {x r : Rg} {g : Nat} (hx : ShA act x.1) (hr : ShA act r.1) : agB x.1 r.1 act g = decide (eqv x r g) := by
 obtain ⟨x, u⟩ := x
 obtain ⟨r, v⟩ := r
 obtain ⟨b0, b1, rfl, h0, h1, -, -⟩ := hx
 obtain ⟨c0, c1, rfl, k0, k1, -, -⟩ := hr
 have o0 : onB [c0, c1] 0 = decide (act % 2 = 1) := by
   unfold onB
   show decide (List.length c0 = 16) = _
   rw [k0]; by_cases q : act % 2 = 1 <;> simp [q]
 have o1 : onB [c0, c1] 1 = decide (act / 2 % 2 = 1) := by
   unfold onB
   show decide (List.length c1 = 16) = _
   rw [k1]; by_cases q : act / 2 % 2 = 1 <;> simp [q]
 have z : ∀ {b c : Bank} {q : Prop} [Decidable q], List.length b = (if q then 16 else 0) → List.length c = (if q then 16 else 0) → ¬ q → b.getD g [] = c.getD g [] := by
   intro b c q _ hb hc hq
   rw [if_neg hq] at hb hc
   rw [List.length_eq_zero_iff.1 hb, List.length_eq_zero_iff.1 hc]
 unfold agB ag1 eqv
 rw [o0, o1]
 have e0 : act / 2 ^ 0 % 2 = act % 2 := by simp
 have e1 : act / 2 ^ 1 % 2 = act / 2 % 2 := by simp
 rw [e0, e1]
 simp only [valL, List.getD_cons_zero, List.getD_cons_succ]
 by_cases q0 : act % 2 = 1 <;> by_cases q1 : act / 2 % 2 = 1
 · simp [q0, q1]
 · have t := z h1 k1 q1
   simp only [List.getD_eq_getElem?_getD] at t ⊢
   simp [q0, q1, t]
 · have t := z h0 k0 q0
   simp only [List.getD_eq_getElem?_getD] at t ⊢
   simp [q0, q1, t]
 · have t := z h0 k0 q0
   have t' := z h1 k1 q1
   simp only [List.getD_eq_getElem?_getD] at t t' ⊢
   simp [q0, q1, t, t']
def agS (g : Nat) : List Ev → Rg → List Rg → Bool
 | [], _, _ => false
 | e :: es, x, seen => if isG g e then (if seen.any (fun s => decide (eqv s (extP x 0 g e.2.2.1) g)) then true else agS g es (extP x 0 g e.2.2.1) (seen ++ [extP x 0 g e.2.2.1])) else agS g es x seen
def agI (act : Int) (es : List Ev) : Bool := (List.range 12).any fun g => agS g es (rp0 act) [rp0 act]
theorem cntG_nil {g : Nat} : cntG g [] = 0 := rfl
theorem cntG_cons {g : Nat} {e : Ev} {es : List Ev} : cntG g (e :: es) = (if isG g e then 1 else 0) + cntG g es := by
 unfold cntG isG
 by_cases h1 : e.2.1 ≠ 5 <;> by_cases h2 : e.1 = g <;> simp [List.filter_cons, h1, h2, Nat.add_comm]
theorem cntG_app {g : Nat} {es fs : List Ev} : cntG g (es ++ fs) = cntG g es + cntG g fs := by simp [cntG, List.filter_append]
theorem cntG_zero {g : Nat} : ∀ {es : List Ev} {x : Rg}, cntG g es = 0 → es.foldl (gS g) x = x
 | [], _, _ => rfl
 | e :: es, x, h => by
   rw [cntG_cons] at h
   split at h
   · omega
   · rename_i he
     rw [List.foldl_cons]
     unfold Eng.gS
     rw [if_neg he]
     exact cntG_zero (es := es) (by omega)
theorem agS_ne {g : Nat} : ∀ {p q : List Ev} {z : Rg} {seen : List Rg} {w : Rg}, agS g (p ++ q) z seen = false → w ∈ seen → 1 ≤ cntG g p → ¬ eqv w (p.foldl (gS g) z) g
 | [], _, _, _, _, _, _, h => by simp [cntG_nil] at h
 | e :: p, q, z, seen, w, ha, hw, hc => by
   rw [cntG_cons] at hc
   rw [List.cons_append, agS] at ha
   rw [List.foldl_cons]
   unfold Eng.gS
   by_cases he : isG g e
   · rw [if_pos he] at ha hc ⊢
     split at ha
     · cases ha
     · rename_i hs
       have hs' : ¬ eqv w (extP z 0 g e.2.2.1) g := fun h => hs (List.any_eq_true.2 ⟨w, hw, decide_eq_true h⟩)
       by_cases hp : cntG g p = 0
       · rw [show List.foldl (fun x e => if isG g e then extP x 0 g e.2.2.1 else x) (extP z 0 g e.2.2.1) p = p.foldl (Eng.gS g) (extP z 0 g e.2.2.1) from rfl, cntG_zero hp]; exact hs'
       · exact agS_ne (p := p) (q := q) ha (by simp [hw]) (by omega)
   · rw [if_neg he] at ha hc ⊢
     exact agS_ne (p := p) (q := q) ha hw (by omega)
theorem RQ.gfold {act : Int} {g : Nat} : ∀ {es : List Ev} {n : Nat} {x : Rg}, RQ act n x → RQ act (n + es.length) (es.foldl (Eng.gS g) x)
 | [], n, x, h => h
 | e :: es, n, x, h => by
   have := RQ.gfold (g := g) (es := es) (h.gS (g := g) (e := e))
   rw [List.length_cons, show n + (es.length + 1) = n + 1 + es.length by omega]
   exact this
theorem rcN_cnt {act : Int} {g : Nat} {r : Rg} (hr : ShA act r.1) : ∀ {p q : List Ev} {x : Rg} {k : Nat} {seen : List Rg} {n : Nat}, agS g (p ++ q) x seen = false → RQ act k x → eqv (p.foldl (Eng.gS g) x) r g → 1 ≤ cntG g p → rcN r.1 act g (p ++ q) x n = ((n + cntG g p : Nat) : Int)
 | [], _, _, _, _, _, _, _, _, h => by simp [cntG_nil] at h
 | e :: p, q, x, k, seen, n, ha, hx, hE, hc => by
   rw [cntG_cons] at hc ⊢
   rw [List.cons_append, agS] at ha
   rw [List.foldl_cons] at hE
   rw [List.cons_append, rcN]
   by_cases he : isG g e
   · have hgs : Eng.gS g x e = extP x 0 g e.2.2.1 := if_pos he
     rw [hgs] at hE
     rw [if_pos he] at ha hc ⊢
     rw [if_pos (show e.2.1 ≠ 5 ∧ e.1 = (g : Int) from he)]
     split at ha
     · cases ha
     · have hx' := hx.ext 0 g e.2.2.1
       rw [ag_eqv hx'.1 hr]
       by_cases hp : cntG g p = 0
       · rw [cntG_zero hp] at hE
         rw [decide_eq_true hE, if_pos rfl, hp]
       · have hne := agS_ne (p := p) (q := q) (w := extP x 0 g e.2.2.1) ha (by simp) (by omega)
         rw [decide_eq_false (fun h => hne (h.trans hE.symm)), if_neg (by decide), rcN_cnt hr (p := p) (q := q) ha hx' hE (by omega)]
         congr 1; omega
   · have hgs : Eng.gS g x e = x := if_neg he
     rw [hgs] at hE
     rw [if_neg he] at ha hc ⊢
     rw [if_neg (show ¬ (e.2.1 ≠ 5 ∧ e.1 = (g : Int)) from he), rcN_cnt hr (p := p) (q := q) ha hx hE (by omega)]
     congr 1; omega
theorem rcV_cnt {act : Int} (ha : 1 ≤ act ∧ act ≤ 3) {g : Nat} (hg : g < 12) {p q : List Ev} (hv : ∀ e ∈ p, evV act e) (h : agI act (p ++ q) = false) : rcV (rpF act p).1 act g (p ++ q) = cntG g p := by
 have h1 : agS g (p ++ q) (rp0 act) [rp0 act] = false := by
   unfold agI at h
   have := List.any_eq_false.1 h g (List.mem_range.2 hg)
   simpa using this
 have hr := (rpF_rq ha (es := p)).1
 have hE := gF_eqv ha (g := g) (by omega) hv
 have h0 : agB (newBk act) (rpF act p).1 act g = decide (eqv (rp0 act) (rpF act p) g) := ag_eqv (x := rp0 act) (r := rpF act p) (RQ.zero ha).1 hr
 unfold rcV
 rw [h0]
 by_cases hp : cntG g p = 0
 · have : gF act g p = rp0 act := cntG_zero hp
   rw [this] at hE
   rw [decide_eq_true hE, if_pos rfl, hp]; rfl
 · have hne := agS_ne (p := p) (q := q) (w := rp0 act) h1 (by simp) (by omega)
   rw [decide_eq_false (fun h => hne (h.trans hE.symm)), if_neg (by decide), rcN_cnt hr (p := p) (q := q) h1 (RQ.zero ha) hE (by omega)]
   congr 1; omega
theorem fsN_pre {most : Nat → Int} : ∀ {p q : List Ev} {cs : Nat → Nat} {i : Nat}, (∀ e ∈ p, 0 ≤ e.1) → (∀ (k : Nat) (e : Ev) , p[k]? = some e → e.2.1 ≠ 5 → ((cs e.1.toNat + cntG e.1.toNat (p.take k) : Nat) : Int) < most e.1.toNat) → fsN most (p ++ q) cs i = fsN most q (fun g => cs g + cntG g p) (i + p.length)
 | [], q, cs, i, _, _ => by simp [cntG_nil]
 | e :: p, q, cs, i, h0, h => by
   have e0 := h0 e (by simp)
   rw [List.cons_append, fsN]
   by_cases h5 : e.2.1 = 5
   · rw [if_pos h5, fsN_pre (p := p) (fun e he => h0 e (by simp [he])) (fun k f hk hf => by
       have := h (k + 1) f (by simpa using hk) hf
       rw [List.take_succ_cons, cntG_cons, if_neg (fun q => q.1 h5), Nat.zero_add] at this
       exact this)]
     congr 1
     · funext g; rw [cntG_cons, if_neg (fun q => q.1 h5), Nat.zero_add]
     · simp; omega
   · have hz := h 0 e rfl h5
     simp only [List.take_zero, cntG_nil, Nat.add_zero] at hz
     have hi : ∀ g : Nat, isG g e ↔ g = e.1.toNat := fun g => ⟨fun q => by have := q.2; omega, fun q => ⟨h5, by omega⟩⟩
     rw [if_neg h5, if_neg (by omega), fsN_pre (p := p) (fun e he => h0 e (by simp [he])) (fun k f hk hf => by
       have := h (k + 1) f (by simpa using hk) hf
       rw [List.take_succ_cons, cntG_cons] at this
       by_cases hg : f.1.toNat = e.1.toNat
       · rw [if_pos ((hi _).2 hg)] at this
         rw [if_pos hg]; omega
       · rw [if_neg (fun q => hg ((hi _).1 q))] at this
         rw [if_neg hg]; omega)]
     congr 1
     · funext g; rw [cntG_cons]
       by_cases hg : g = e.1.toNat
       · rw [if_pos hg, if_pos ((hi _).2 hg)]; omega
       · rw [if_neg hg, if_neg (fun q => hg ((hi _).1 q))]; omega
     · simp; omega
theorem fsN_le {most : Nat → Int} : ∀ {q : List Ev} {cs : Nat → Nat} {i k : Nat}, fsN most q cs i = some k → i ≤ k
 | [], _, _, _, h => by simp [fsN] at h
 | e :: q, cs, i, k, h => by
   rw [fsN] at h
   split at h
   · have := fsN_le h; omega
   · split at h
     · simp at h; omega
     · have := fsN_le h; omega
theorem cntG_lt {g : Nat} {p : List Ev} {k : Nat} {e : Ev} (hk : p[k]? = some e) (he : isG g e) : cntG g (p.take k) < cntG g p := by
 have hlt : k < p.length := (List.getElem?_eq_some_iff.1 hk).1
 have e2 : p = p.take k ++ (e :: p.drop (k + 1)) := by
   have := (List.getElem?_eq_some_iff.1 hk).2
   rw [← this, ← List.drop_eq_getElem_cons hlt, List.take_append_drop]
 conv => rhs; rw [e2]
 rw [cntG_app, cntG_cons, if_pos he]; omega
theorem fs_part {act : Int} (ha : 1 ≤ act ∧ act ≤ 3) {p q : List Ev} (hv : ∀ e ∈ p ++ q, evV act e) (h : agI act (p ++ q) = false) :
   fsN (fun g => rcV (rpF act p).1 act g (p ++ q)) (p ++ q) (fun _ => 0) 0 = fsN (fun g => rcV (rpF act p).1 act g (p ++ q)) q (fun g => cntG g p) p.length := by
 have hp : ∀ e ∈ p, evV act e := fun e he => hv e (by simp [he])
 rw [fsN_pre (fun e he => (evV_reg (hp e he)).1) (fun k e hk h5 => ?_)]
 · congr 1
   · funext g; omega
   · omega
 · have hm : e ∈ p := List.mem_of_getElem? hk
   have hr := evV_reg (hp e hm)
   rw [rcV_cnt ha (by omega) hp h, Nat.zero_add]
   have := cntG_lt (g := e.1.toNat) hk ⟨h5, by omega⟩
   omega
theorem rpE_ok {act : Int} (ha : 1 ≤ act ∧ act ≤ 3) {es : List Ev} (hv : ∀ e ∈ es, evV act e) : rpE act es = 0 := by
 unfold rpE
 rw [if_neg (by omega)]
 exact firstE_all (fun e he => (hv e he).1)
theorem all12 {most : Nat → Int} {c : Nat → Nat} (h : ∀ g, g < 12 → most g = c g) : ((List.range 12).all fun g => decide (most g = c g)) = true := List.all_eq_true.2 fun g hg => decide_eq_true (h g (List.mem_range.1 hg))
theorem fs_all {act : Int} (ha : 1 ≤ act ∧ act ≤ 3) {l : List Ev} (hv : ∀ e ∈ l, evV act e) (h : agI act l = false) : fsI (rpF act l).1 act l = -1 := by
 have h' : agI act (l ++ []) = false := by rwa [List.append_nil]
 have hf := fs_part ha (p := l) (q := []) (by simpa using hv) h'
 rw [List.append_nil, fsN] at hf
 unfold fsI
 rw [if_neg (by rw [rpE_ok ha hv]; decide), hf]
 simp only
 rw [all12 (fun g hg => by have := rcV_cnt ha hg hv h'; rwa [List.append_nil] at this), if_pos rfl]
theorem fs_more {act : Int} (ha : 1 ≤ act ∧ act ≤ 3) {l : List Ev} {x : Ev} (hv : ∀ e ∈ l ++ [x], evV act e) (h : agI act (l ++ [x]) = false) : fsI (rpF act l).1 act (l ++ [x]) = if x.2.1 = 5 then -1 else (l.length : Int) := by
 have hl : ∀ e ∈ l, evV act e := fun e he => hv e (by simp [he])
 have hx := evV_reg (hv x (by simp))
 have hf := fs_part ha hv h
 unfold fsI
 rw [if_neg (by rw [rpE_ok ha hv]; decide), hf, fsN]
 by_cases h5 : x.2.1 = 5
 · rw [if_pos h5, if_pos h5, fsN]
   simp only
   rw [all12 (fun g hg => by rw [rcV_cnt ha hg hl h, cntG_app, cntG_cons, if_neg (fun q => q.1 h5), cntG_nil]; omega), if_pos rfl]
 · rw [if_neg h5, if_neg h5]
   rw [rcV_cnt ha (by omega) hl h, if_pos (by omega)]
theorem fs_from {act : Int} (ha : 1 ≤ act ∧ act ≤ 3) {p q : List Ev} (hv : ∀ e ∈ p ++ q, evV act e) (h : agI act (p ++ q) = false) : fsI (rpF act p).1 act (p ++ q) = -1 ∨ (p.length : Int) ≤ fsI (rpF act p).1 act (p ++ q) := by
 have hf := fs_part ha hv h
 unfold fsI
 rw [if_neg (by rw [rpE_ok ha hv]; decide), hf]
 cases hs : fsN (fun g => rcV (rpF act p).1 act g (p ++ q)) q (fun g => cntG g p) p.length with
 | some k =>
   have := fsN_le hs
   right; simp only; omega
 | none =>
   simp only
   split
   · left; rfl
   · right; rw [List.length_append]; omega
theorem agI_pre {act : Int} {p q : List Ev} (h : agI act (p ++ q) = false) : agI act p = false := by
 have key : ∀ {g : Nat} {p q : List Ev} {x : Rg} {seen : List Rg}, agS g (p ++ q) x seen = false → agS g p x seen = false := by
   intro g p
   induction p with
   | nil => intro _ _ _ _; rfl
   | cons e p ih =>
     intro q x seen h
     rw [List.cons_append, agS] at h
     rw [agS]
     split
     · rename_i he
       rw [if_pos he] at h
       split
       · rename_i hs; rw [if_pos hs] at h; cases h
       · rename_i hs; rw [if_neg hs] at h; exact ih h
     · rename_i he
       rw [if_neg he] at h; exact ih h
 unfold agI at *
 refine List.any_eq_false.2 fun g hg => ?_
 have := List.any_eq_false.1 h g hg
 simp only [Bool.not_eq_true] at this ⊢
 exact key this
theorem rpS_note {x : Rg} {e : Ev} (h : e.2.1 = 5) : rpS x e = x := if_pos h
theorem rpS_comm {act : Int} {n : Nat} {x : Rg} (hx : RQ act n x) {e f : Ev} (he : evV act e) (hf : evV act f) (h : e.1 ≠ f.1) : rpS (rpS x e) f = rpS (rpS x f) e := by
 by_cases e5 : e.2.1 = 5
 · rw [rpS_note e5, rpS_note e5]
 by_cases f5 : f.2.1 = 5
 · rw [rpS_note f5, rpS_note f5]
 have re := evV_reg he
 have rf := evV_reg hf
 rw [rpS_ext hx.1 he.1 e5, rpS_ext hx.1 hf.1 f5, rpS_ext (hx.1.ext _ _) hf.1 f5, rpS_ext (hx.1.ext _ _) he.1 e5]
 obtain ⟨b0, b1, hb, -⟩ := hx.1
 rw [hb]
 simp only [extBk_two]
 rw [ext1_comm (show e.1.toNat ≠ f.1.toNat by omega), ext1_comm (show e.1.toNat ≠ f.1.toNat by omega)]
theorem rpF_swap {act : Int} (ha : 1 ≤ act ∧ act ≤ 3) {p q : List Ev} {e f : Ev} (hv : ∀ x ∈ p ++ e :: f :: q, evV act x) (h : e.1 ≠ f.1) : rpF act (p ++ f :: e :: q) = rpF act (p ++ e :: f :: q) := by
 have h2 : RQ act p.length (p.foldl rpS (rp0 act)) := rpF_rq ha
 unfold rpF
 rw [List.foldl_append, List.foldl_append, List.foldl_cons, List.foldl_cons, List.foldl_cons, List.foldl_cons]
 rw [rpS_comm h2 (hv e (by simp)) (hv f (by simp)) h]
theorem rpF_note {act : Int} {p q : List Ev} {e : Ev} (h : e.2.1 = 5) : rpF act (p ++ e :: q) = rpF act (p ++ q) := by
 unfold rpF
 rw [List.foldl_append, List.foldl_append, List.foldl_cons, rpS_note h]
theorem valL_le {bk : List Bank} (h : RV bk) {a g : Nat} : (valL bk a g).length ≤ 64 := by
 unfold valL
 by_cases ha : a < bk.length
 · have e : bk.getD a [] = bk[a] := by simp [List.getD, ha]
   rw [e]
   exact getD_le (h.2 _ (List.getElem_mem ha))
 · have e : bk.getD a [] = [] := by simp [List.getD, List.getElem?_eq_none (Nat.le_of_not_lt ha)]
   rw [e]; simp
theorem ShA.on {act : Int} {bk : List Bank} (h : ShA act bk) {a : Nat} (ha : a < 2) (hb : act / 2 ^ a % 2 = 1) : onB bk a = true := by
 obtain ⟨b0, b1, rfl, h0, h1, -, -⟩ := h
 rcases (show a = 0 ∨ a = 1 by omega) with rfl | rfl
 · rw [if_pos (by simpa using hb)] at h0
   unfold onB; exact decide_eq_true h0
 · rw [if_pos (by simpa using hb)] at h1
   unfold onB; exact decide_eq_true h1
theorem ag1_off {x r : List Bank} {act : Int} {g a : Nat} (h : ¬ act / 2 ^ a % 2 = 1) : ag1 x r act g a = true := by unfold ag1; rw [decide_eq_true h]; rfl
theorem ag1_on {x r : List Bank} {act : Int} {g a : Nat} (h : act / 2 ^ a % 2 = 1) : ag1 x r act g a = (onB r a && decide (valL x a g = valL r a g)) := by unfold ag1; rw [decide_eq_false (by simpa using h)]; rfl
def ct_rsm2 : Ct where
 α := Rg × Rg × Int × Nat
 as x := [.t (regT x.1.1 x.1.2), .t (regT x.2.1.1 x.2.1.2), .t (.int .i64 x.2.2.1), .t (.int .i64 x.2.2.2)]
 ins _ := []
 pre x := (ShA x.2.2.1 x.1.1 ∧ RV x.2.1.1) ∧ (1 ≤ x.2.2.1 ∧ x.2.2.1 ≤ 3) ∧ x.2.2.2 < 12
 r x := if hasB x.2.1.1 x.2.2.1 then .tup [.t (.bool (agB x.1.1 x.2.1.1 x.2.2.1 x.2.2.2)), .t (.int .i64 0)] else .tup [.t (.bool false), .t (.int .i64 27)]
 outs _ := []
 inj := by
   rintro ⟨⟨a, u⟩, ⟨b, v⟩, s, g⟩ ⟨⟨a', u'⟩, ⟨b', v'⟩, s', g'⟩ h _
   simp only [List.cons.injEq, V.t.injEq, T.int.injEq, true_and, and_true, Int.natCast_inj] at h
   obtain ⟨h1, h2, rfl, rfl⟩ := h
   obtain ⟨rfl, rfl⟩ := regT_inj h1
   obtain ⟨rfl, rfl⟩ := regT_inj h2
   exact ⟨rfl, rfl⟩
theorem rsm2_eq {x r : Rg} {act : Int} {g : Nat} (h : (ShA act x.1 ∧ RV r.1) ∧ (1 ≤ act ∧ act ≤ 3) ∧ g < 12) (hb : hasB r.1 act = true) : ct_rsm2.fs [.t (.agg [.sl (x.1.map bankT), .int .i64 x.2]), .t (.agg [.sl (r.1.map bankT), .int .i64 r.2]), .t (.int .i64 act), .t (.int .i64 g)] [] = some (.tup [.t (.bool (agB x.1 r.1 act g)), .t (.int .i64 0)], []) :=
 (ct_rsm2.eq (x, r, act, g) h).trans (by show some ((if hasB r.1 act = true then _ else _ : V), ([] : List Ob)) = _; rw [if_pos hb])
theorem rsm2_no {x r : Rg} {act : Int} {g : Nat} (h : (ShA act x.1 ∧ RV r.1) ∧ (1 ≤ act ∧ act ≤ 3) ∧ g < 12) (hb : hasB r.1 act = false) : ct_rsm2.fs [.t (.agg [.sl (x.1.map bankT), .int .i64 x.2]), .t (.agg [.sl (r.1.map bankT), .int .i64 r.2]), .t (.int .i64 act), .t (.int .i64 g)] [] = some (.tup [.t (.bool false), .t (.int .i64 27)], []) :=
 (ct_rsm2.eq (x, r, act, g) h).trans (by show some ((if hasB r.1 act = true then _ else _ : V), ([] : List Ob)) = _; rw [if_neg (by rw [hb]; decide)])
def smE (x r : List Bank) (act : Int) (g : Nat) : Nat → Bool
 | 0 => true
 | 1 => ag1 x r act g 0
 | _ => agB x r act g
theorem fdiv1 {x : Int} : x.fdiv 1 = x := by rw [Int.fdiv_eq_ediv_of_nonneg _ (by decide)]; omega
theorem fdiv2 {x : Int} : x.fdiv 2 = x / 2 := Int.fdiv_eq_ediv_of_nonneg _ (by decide)
def smP (r : List Bank) (act : Int) (i : Nat) : Prop := (1 ≤ i → (decide (act / 2 ^ 0 % 2 ≠ 1) || onB r 0) = true) ∧ (2 ≤ i → (decide (act / 2 ^ 1 % 2 ≠ 1) || onB r 1) = true)
theorem w_replay_same (tab : Tab) (gl : Gl) (n1 n2 : Nat) (h1 : tab.look n1 = some ct_val.fs) (h2 : tab.look n2 = some ct_eqB.fs) (x r : Rg) (act : Int) (g : Nat) (hx : ShA act x.1) (hr : RV r.1) (ha : 1 ≤ act ∧ act ≤ 3) (hg : g < 12) :
   (ac_replay_same n1 n2).wp tab gl (zipF 0 [.t (regT x.1 x.2), .t (regT r.1 r.2), .t (.int .i64 act), .t (.int .i64 g)]) (zipF 0 []) (resW [(8, none), (9, none)] 0 (fun r' o => r' = ct_rsm2.r (x, r, act, g) ∧ o = [])) := by
 have hv := hx.rv
 obtain ⟨x, u⟩ := x
 obtain ⟨r, v⟩ := r
 simp only at hx hr hv
 have hres : ct_rsm2.r ((x, u), (r, v), act, g) = if hasB r act then .tup [.t (.bool (agB x r act g)), .t (.int .i64 0)] else .tup [.t (.bool false), .t (.int .i64 27)] := rfl
 rw [hres]
 have p0 : act / 2 ^ 0 = act := by simp
 have p1 : act / 2 ^ 1 = act / 2 := by simp
 simp (disch := omega) only [go_sem, ↓reduceIte, Nat.reduceAdd, Nat.reduceEqDiff, reduceCtorEq, ac_replay_same]
 refine loop_uptoP 2 (fun i => smP r act i) (fun i => [(2, .t (.int .i64 act)), (3, .t (.int .i64 g)), (4, .ref 4096 0 0), (5, .ref 4112 0 0), (10, .t (.bool (smE x r act g i))), (15, .t (.int .i64 (i : Nat)))])
   (fun _ => [(4112, .live 2 [.t (.agg [.sl (r.map bankT), .int .i64 v])] true true), (4096, .live 2 [.t (.agg [.sl (x.map bankT), .int .i64 u])] true true)]) ⟨by omega, by omega⟩ ?_ (fun i hi hP => ?_)
 · have e0 : smE x r act g 0 = true := rfl
   refine Weak.rd id ?_ ?_ rfl
   all_goals simp (disch := omega) only [go_sem, ↓reduceIte, Nat.reduceEqDiff, Nat.reduceBEq, reduceCtorEq, id, e0]
 · rcases (show i = 0 ∨ i = 1 ∨ i = 2 by omega) with rfl | rfl | rfl
   · have s0 : smE x r act g 0 = true := rfl
     have s1 : smE x r act g 1 = ag1 x r act g 0 := rfl
     by_cases hb : act / 2 ^ 0 % 2 = 1
     · have o1 := hx.on (by omega) hb
       have hX : ct_val.fs [.t (.agg [.sl (x.map bankT), .int .i64 u]), .t (.int .i64 0), .t (.int .i64 g)] [] = _ := val_on (u := u) hv.rm (a := 0) (by omega) (show g < 16 by omega) o1
       have lX := valL_le hv (a := 0) (g := g)
       have lR := valL_le hr (a := 0) (g := g)
       have hag := ag1_on (x := x) (r := r) (g := g) hb
       have hbb : (act % 2 == 0) = false := by rw [p0] at hb; rw [hb]; rfl
       cases o2 : onB r 0
       · have hR : ct_val.fs [.t (.agg [.sl (r.map bankT), .int .i64 v]), .t (.int .i64 0), .t (.int .i64 g)] [] = _ := val_off (u := v) hr.rm (a := 0) (by omega) (show g < 16 by omega) o2
         have hn : hasB r act = false := by unfold hasB; rw [o2, decide_eq_false (by simpa using hb)]; rfl
         rw [hn]
         simp (disch := omega) only [go_sem, ↓reduceIte, Nat.reduceAdd, Nat.reduceEqDiff, Nat.reduceLeDiff, Int.reduceLT, Int.reducePow, ac_replay_same_L0, s0, fdiv1, and1, hbb, h1, hR]
       · rw [o2, Bool.true_and] at hag
         have hR : ct_val.fs [.t (.agg [.sl (r.map bankT), .int .i64 v]), .t (.int .i64 0), .t (.int .i64 g)] [] = _ := val_on (u := v) hr.rm (a := 0) (by omega) (show g < 16 by omega) o2
         have hP' : smP r act 1 := ⟨fun _ => by rw [o2]; simp, by omega⟩
         rw [hag] at s1
         generalize valL x 0 g = A at *
         generalize valL r 0 g = B at *
         have hS := eqB_eq (a := B) (b := A)
         have tA : List.take A.length A = A := List.take_length
         have tB : List.take B.length B = B := List.take_length
         have hc : decide (A = B) = decide (B = A) := decide_eq_decide.2 ⟨Eq.symm, Eq.symm⟩
         rw [hc] at s1
         generalize decide (B = A) = q at *
         simp (disch := omega) only [go_sem, ↓reduceIte, Nat.reduceAdd, Nat.reduceEqDiff, Nat.reduceLT, Nat.reduceLeDiff, Int.reduceLT, Int.reduceAdd, Int.reducePow, ac_replay_same_L0, s0, fdiv1, and1, hbb, h1, hR, hX, tA, tB, h2, hS]
         refine ⟨hP', Weak.rd id ?_ ?_ rfl⟩
         all_goals simp (disch := omega) only [go_sem, ↓reduceIte, Nat.reduceEqDiff, Nat.reduceBEq, id, s1]
     · have hbb : (act % 2 == 0) = true := by rw [p0] at hb; simpa using (show act % 2 = 0 by omega)
       rw [ag1_off hb] at s1
       have hP' : smP r act 1 := ⟨fun _ => by rw [decide_eq_true (by simpa using hb)]; rfl, by omega⟩
       simp (disch := omega) only [go_sem, ↓reduceIte, Nat.reduceAdd, Nat.reduceEqDiff, Nat.reduceLT, Int.reduceLT, Int.reduceAdd, Int.reducePow, ac_replay_same_L0, s0, fdiv1, and1, hbb]
       refine ⟨hP', Weak.rd id ?_ ?_ rfl⟩
       all_goals simp (disch := omega) only [go_sem, ↓reduceIte, Nat.reduceEqDiff, Nat.reduceBEq, id, s1]
   · have s1 : smE x r act g 1 = ag1 x r act g 0 := rfl
     have s2 : smE x r act g 2 = (ag1 x r act g 0 && ag1 x r act g 1) := rfl
     have hP0 := hP.1 (by omega)
     by_cases hb : act / 2 ^ 1 % 2 = 1
     · have o1 := hx.on (by omega) hb
       have hX : ct_val.fs [.t (.agg [.sl (x.map bankT), .int .i64 u]), .t (.int .i64 1), .t (.int .i64 g)] [] = _ := val_on (u := u) hv.rm (a := 1) (by omega) (show g < 16 by omega) o1
       have lX := valL_le hv (a := 1) (g := g)
       have lR := valL_le hr (a := 1) (g := g)
       have hag := ag1_on (x := x) (r := r) (g := g) hb
       have hbb : (act / 2 % 2 == 0) = false := by rw [p1] at hb; rw [hb]; rfl
       cases o2 : onB r 1
       · have hR : ct_val.fs [.t (.agg [.sl (r.map bankT), .int .i64 v]), .t (.int .i64 1), .t (.int .i64 g)] [] = _ := val_off (u := v) hr.rm (a := 1) (by omega) (show g < 16 by omega) o2
         have hn : hasB r act = false := by unfold hasB; rw [o2, decide_eq_false (p := act / 2 ^ 1 % 2 ≠ 1) (by simpa using hb)]; simp
         rw [hn]
         simp (disch := omega) only [go_sem, ↓reduceIte, Nat.reduceAdd, Nat.reduceEqDiff, Nat.reduceLeDiff, Int.reduceLT, Int.reducePow, ac_replay_same_L0, s1, fdiv2, and1, hbb, h1, hR]
       · rw [o2, Bool.true_and] at hag
         have hR : ct_val.fs [.t (.agg [.sl (r.map bankT), .int .i64 v]), .t (.int .i64 1), .t (.int .i64 g)] [] = _ := val_on (u := v) hr.rm (a := 1) (by omega) (show g < 16 by omega) o2
         have hP' : smP r act 2 := ⟨fun _ => hP0, fun _ => by rw [o2]; simp⟩
         rw [hag] at s2
         generalize valL x 1 g = A at *
         generalize valL r 1 g = B at *
         have hS := eqB_eq (a := B) (b := A)
         have tA : List.take A.length A = A := List.take_length
         have tB : List.take B.length B = B := List.take_length
         have hc : decide (A = B) = decide (B = A) := decide_eq_decide.2 ⟨Eq.symm, Eq.symm⟩
         rw [hc] at s2
         generalize decide (B = A) = q at *
         cases hE : ag1 x r act g 0
         · rw [hE] at s1 s2
           rw [Bool.false_and] at s2
           simp (disch := omega) only [go_sem, ↓reduceIte, Nat.reduceAdd, Nat.reduceEqDiff, Nat.reduceLT, Nat.reduceLeDiff, Int.reduceLT, Int.reduceAdd, Int.reducePow, ac_replay_same_L0, s1, fdiv2, and1, hbb, h1, hR, hX, tA, tB, h2, hS]
           refine ⟨hP', Weak.rd id ?_ ?_ rfl⟩
           all_goals simp (disch := omega) only [go_sem, ↓reduceIte, Nat.reduceEqDiff, Nat.reduceBEq, id, s2]
         · rw [hE] at s1 s2
           rw [Bool.true_and] at s2
           simp (disch := omega) only [go_sem, ↓reduceIte, Nat.reduceAdd, Nat.reduceEqDiff, Nat.reduceLT, Nat.reduceLeDiff, Int.reduceLT, Int.reduceAdd, Int.reducePow, ac_replay_same_L0, s1, fdiv2, and1, hbb, h1, hR, hX, tA, tB, h2, hS]
           refine ⟨hP', Weak.rd id ?_ ?_ rfl⟩
           all_goals simp (disch := omega) only [go_sem, ↓reduceIte, Nat.reduceEqDiff, Nat.reduceBEq, id, s2]
     · have hbb : (act / 2 % 2 == 0) = true := by rw [p1] at hb; simpa using (show act / 2 % 2 = 0 by omega)
       rw [ag1_off hb, Bool.and_true] at s2
       have hP' : smP r act 2 := ⟨fun _ => hP0, fun _ => by rw [decide_eq_true (p := act / 2 ^ 1 % 2 ≠ 1) (by simpa using hb)]; rfl⟩
       generalize ag1 x r act g 0 = E at *
       simp (disch := omega) only [go_sem, ↓reduceIte, Nat.reduceAdd, Nat.reduceEqDiff, Nat.reduceLT, Int.reduceLT, Int.reduceAdd, Int.reducePow, ac_replay_same_L0, s1, fdiv2, and1, hbb]
       refine ⟨hP', Weak.rd id ?_ ?_ rfl⟩
       all_goals simp (disch := omega) only [go_sem, ↓reduceIte, Nat.reduceEqDiff, Nat.reduceBEq, id, s2]
   · have s2 : smE x r act g 2 = agB x r act g := rfl
     have hn : hasB r act = true := by unfold hasB; rw [hP.1 (by omega), hP.2 (by omega)]; rfl
     rw [hn]
     simp (disch := omega) only [go_sem, ↓reduceIte, Nat.reduceAdd, Nat.reduceEqDiff, Int.reduceLT, ac_replay_same_L0, s2]
theorem rcN_no {r : List Bank} {act : Int} {g : Nat} (h : hasB r act = false) : ∀ {es : List Ev} {x : Rg} {n : Nat}, rcN r act g es x n = -1
 | [], _, _ => rfl
 | e :: es, x, n => by
   unfold rcN
   rw [agB_has h, rcN_no h, rcN_no h]
   split <;> simp
theorem rcV_no {r : List Bank} {act : Int} {g : Nat} {es : List Ev} (h : hasB r act = false) : rcV r act g es = -1 := by
 unfold rcV
 rw [agB_has h, if_neg (by decide), rcN_no h]
def esV (act : Int) (es : List Ev) : Prop := esM es ∧ ∀ e ∈ es, chkE e act = 0
def ct_rch : Ct where
 α := Lg × Rg × Nat
 as x := [.t (lgT x.1), .t (regT x.2.1.1 x.2.1.2), .t (.int .i64 x.2.2)]
 ins _ := []
 pre x := (esV x.1.1 x.1.2.2 ∧ 1 ≤ x.1.1 ∧ x.1.1 ≤ 3) ∧ RV x.2.1.1 ∧ x.2.2 < 12
 r x := .t (.int .i64 (rcV x.2.1.1 x.1.1 x.2.2 x.1.2.2))
 outs _ := []
 inj := by
   rintro ⟨l, ⟨a, u⟩, g⟩ ⟨m, ⟨b, v⟩, g'⟩ h _
   simp only [List.cons.injEq, V.t.injEq, T.int.injEq, true_and, and_true, Int.natCast_inj] at h
   obtain ⟨h1, h2, rfl⟩ := h
   cases lgT_inj h1
   obtain ⟨rfl, rfl⟩ := regT_inj h2
   exact ⟨rfl, rfl⟩
theorem rch_eq {act rs : Int} {es : List Ev} {r : Rg} {g : Nat} (h : (esV act es ∧ 1 ≤ act ∧ act ≤ 3) ∧ RV r.1 ∧ g < 12) : ct_rch.fs [.t (.agg [.int .i64 act, .int .i64 rs, .sl (es.map evT)]), .t (.agg [.sl (r.1.map bankT), .int .i64 r.2]), .t (.int .i64 g)] [] = some (.t (.int .i64 (rcV r.1 act g es)), []) := ct_rch.eq ((act, rs, es), r, g) h
theorem ext_valG {act : Int} {x : Rg} {n g : Nat} {k : Int} {ds : List (List UInt8)} {d : List UInt8} (hx : RQ act n x) (hn : n < 1000000) (hm : evX ((g : Int), k, ds, d)) (hc : chkE ((g : Int), k, ds, d) act = 0) (h5 : k ≠ 5) :
   ct_ext.fs [.t (.agg [.sl (x.1.map bankT), .int .i64 x.2]), .t (.int .i64 0), .t (.int .i64 g), .t (.sl (ds.map bsT))] [] = some (.tup [.t (.agg [.sl ((extP x 0 g ds).1.map bankT), .int .i64 (extP x 0 g ds).2]), .t (.int .i64 0)], []) := by
 have := ext_val0 hx hn hm (by rw [chk_len hc]; omega) hc h5
 have e : rpS x ((g : Int), k, ds, d) = extP x 0 g ds := if_neg h5
 rw [e] at this
 exact this
theorem drop_at {es : List Ev} {i : Nat} {e : Ev} (h : es[i]? = some e) : es.drop i = e :: es.drop (i + 1) := by
 obtain ⟨hl, he⟩ := List.getElem?_eq_some_iff.1 h
 rw [List.drop_eq_getElem_cons hl, he]
theorem w_replay_reached (tab : Tab) (gl : Gl) (n1 n2 n3 : Nat) (h1 : tab.look n1 = some ct_new.fs) (h2 : tab.look n2 = some ct_rsm2.fs) (h3 : tab.look n3 = some ct_ext.fs) (act rs : Int) (es : List Ev) (r : Rg) (g : Nat) (hV : esV act es) (ha : 1 ≤ act ∧ act ≤ 3) (hr : RV r.1) (hg : g < 12) :
   (ac_replay_reached n1 n2 n3).wp tab gl (zipF 0 [.t (lgT (act, rs, es)), .t (regT r.1 r.2), .t (.int .i64 g)]) (zipF 0 []) (resW [(6, none)] 0 (fun r' o => r' = .t (.int .i64 (rcV r.1 act g es)) ∧ o = [])) := by
 obtain ⟨b0, b1, hb, hl0, hl1, hN⟩ := new2 ha
 obtain ⟨hm, hc⟩ := hV
 have hlen := hm.1
 have t0 : List.take b0.length b0 = b0 := List.take_length
 have t1 : List.take b1.length b1 = b1 := List.take_length
 have hq0 := RQ.zero ha
 have hS0 := fun h => rsm2_eq (x := rp0 act) (r := r) (act := act) (g := g) ⟨⟨hq0.1, hr⟩, ha, hg⟩ h
 have hS0n := fun h => rsm2_no (x := rp0 act) (r := r) (act := act) (g := g) ⟨⟨hq0.1, hr⟩, ha, hg⟩ h
 have e0 : rp0 act = ([b0, b1], 0) := by rw [← hb]; rfl
 have eb : bankT b0 = .sl (b0.map bsT) ∧ bankT b1 = .sl (b1.map bsT) := ⟨rfl, rfl⟩
 simp only [e0, List.map_cons, List.map_nil, eb.1, eb.2] at hS0 hS0n
 have hrv : rcV r.1 act g es = if agB (newBk act) r.1 act g then 0 else rcN r.1 act g es (rp0 act) 0 := rfl
 rw [hb] at hrv
 cases hh : hasB r.1 act
 · rw [rcV_no hh]
   have hS := hS0n hh
   simp (disch := omega) only [go_sem, ↓reduceIte, Nat.reduceAdd, Nat.reduceEqDiff, Nat.reduceLeDiff, Int.reduceNeg, reduceCtorEq, ac_replay_reached, lgT_def, h1, hN, h2, hS, t0, t1]
 · have hS := hS0 hh
   generalize hR : rcV r.1 act g es = R at *
   simp (disch := omega) only [go_sem, ↓reduceIte, Nat.reduceAdd, Nat.reduceEqDiff, Nat.reduceLeDiff, Int.reduceNeg, reduceCtorEq, ac_replay_reached, lgT_def, h1, hN, h2, hS, t0, t1]
   refine loop_inv (σ := Nat × Rg × Nat × Bool) (fun s => s.1 ≤ es.length ∧ RQ act s.1 s.2.1 ∧ s.2.2.1 ≤ s.1 ∧ (if s.2.2.2 then R = s.2.2.1 else R = rcN r.1 act g (es.drop s.1) s.2.1 s.2.2.1)) (fun s => es.length - s.1)
     (fun s => [(2, .t (.int .i64 g)), (3, .ref 4096 0 0), (4, .ref 4112 0 0), (7, .ref 8240 0 0), (8, .t (.bool s.2.2.2)), (10, .t (.int .i64 (s.2.2.1 : Nat))), (11, .t (.int .i64 (s.1 : Nat)))])
     (fun s => [(8240, .live 2 [.t (.agg [.sl (s.2.1.1.map bankT), .int .i64 s.2.1.2])] true true), (4112, .live 2 [.t (.agg [.sl (r.1.map bankT), .int .i64 r.2])] true true), (4096, .live 3 [.t (.agg [.int .i64 act, .int .i64 rs, .sl (es.map evT)])] true true)]) (0, rp0 act, 0, agB [b0, b1] r.1 act g) ⟨Nat.zero_le _, hq0, Nat.le_refl _, ?_⟩ ?_ ?_
   · simp only
     cases hA : agB [b0, b1] r.1 act g
     · rw [hA, if_neg (by decide)] at hrv
       rw [if_neg (by decide)]; exact hrv
     · rw [hA, if_pos rfl] at hrv
       rw [if_pos rfl]; exact hrv
   · refine Weak.cv (hv := []) [8225, 8226, 8224] id ?_ rfl
     simp (disch := omega) only [go_sem, ↓reduceIte, Nat.reduceAdd, Nat.reduceEqDiff, Nat.reduceLeDiff, Nat.reduceBEq, reduceCtorEq, id, e0, List.map_nil, List.map_cons]
     all_goals rfl
   · rintro ⟨i, x, n, q⟩ ⟨hi, hx, hn, hE⟩
     simp only at hi hx hn hE ⊢
     cases q
     · rw [if_neg (by decide)] at hE
       by_cases hlt : i < es.length
       · obtain ⟨⟨er, k, ds, d⟩, he⟩ : ∃ e, es[i]? = some e := ⟨es[i], by simp [hlt]⟩
         have hmx := hm.2 _ (List.mem_of_getElem? he)
         have hcx := hc _ (List.mem_of_getElem? he)
         rw [drop_at he, rcN] at hE
         simp only at hE
         by_cases h5 : k = 5
         · subst h5
           rw [if_neg (fun h => h.1 rfl)] at hE
           simp (disch := omega) only [go_sem, ↓reduceIte, Nat.reduceAdd, Nat.reduceEqDiff, Nat.reduceLeDiff, Int.reduceNeg, reduceCtorEq, ac_replay_reached_L0, evT_def, he]
           repeat refine And.intro rfl ?_
           refine invG.of (i + 1, x, n, false) ⟨by simp only; omega, hx.up (by omega), by simp only; omega, hE⟩ (by simp only; omega) (Weak.rd id ?_ ?_ rfl)
           all_goals simp (disch := omega) only [go_sem, ↓reduceIte, Nat.reduceEqDiff, Nat.reduceBEq, id]
         · have h5b : (k != 5) = true := by simpa using h5
           by_cases hk : er = (g : Int)
           · subst hk
             rw [if_pos ⟨h5, rfl⟩] at hE
             have hX := ext_valG hx (by omega) hmx hcx h5
             have hqx := hx.ext 0 g ds
             have hS2 := rsm2_eq (x := extP x 0 g ds) (r := r) (act := act) (g := g) ⟨⟨hqx.1, hr⟩, ha, hg⟩ hh
             generalize extP x 0 g ds = Y at *
             simp (disch := omega) only [go_sem, ↓reduceIte, Nat.reduceAdd, Nat.reduceEqDiff, Nat.reduceLeDiff, Int.reduceNeg, reduceCtorEq, ac_replay_reached_L0, evT_def, he, h5b, beq_self_eq_true, h3, hX, h2, hS2]
             repeat refine And.intro rfl ?_
             refine invG.of (i + 1, Y, n + 1, agB Y.1 r.1 act g) ⟨by simp only; omega, hqx, by simp only; omega, ?_⟩ (by simp only; omega) (Weak.rd id ?_ ?_ rfl)
             · simp only
               cases hA : agB Y.1 r.1 act g
               · rw [hA, if_neg (by decide)] at hE
                 rw [if_neg (by decide)]; exact hE
               · rw [hA, if_pos rfl] at hE
                 rw [if_pos rfl]; exact hE
             all_goals simp (disch := omega) only [go_sem, ↓reduceIte, Nat.reduceEqDiff, Nat.reduceBEq, id]
           · have hkb : (er == (g : Int)) = false := by simpa using hk
             rw [if_neg (fun h => hk h.2)] at hE
             simp (disch := omega) only [go_sem, ↓reduceIte, Nat.reduceAdd, Nat.reduceEqDiff, Nat.reduceLeDiff, Int.reduceNeg, reduceCtorEq, ac_replay_reached_L0, evT_def, he, h5b, hkb]
             repeat refine And.intro rfl ?_
             refine invG.of (i + 1, x, n, false) ⟨by simp only; omega, hx.up (by omega), by simp only; omega, hE⟩ (by simp only; omega) (Weak.rd id ?_ ?_ rfl)
             all_goals simp (disch := omega) only [go_sem, ↓reduceIte, Nat.reduceEqDiff, Nat.reduceBEq, id]
       · have e : es.drop i = [] := List.drop_eq_nil_of_le (by omega)
         rw [e] at hE
         have hE' : R = -1 := hE
         simp (disch := omega) only [go_sem, ↓reduceIte, Nat.reduceAdd, Nat.reduceEqDiff, Nat.reduceLeDiff, Int.reduceNeg, reduceCtorEq, ac_replay_reached_L0, hE']
     · rw [if_pos rfl] at hE
       simp (disch := omega) only [go_sem, ↓reduceIte, Nat.reduceAdd, Nat.reduceEqDiff, Int.reduceNeg, ac_replay_reached_L0, hE]
def ct_rcI : Ct where
 α := Lg × Rg × Int
 as x := [.t (lgT x.1), .t (regT x.2.1.1 x.2.1.2), .t (.int .i64 x.2.2)]
 ins _ := []
 pre x := esM x.1.2.2 ∧ RV x.2.1.1
 r x := .t (.int .i64 (rcI x.2.1.1 x.1.1 x.1.2.2 x.2.2))
 outs _ := []
 inj := by
   rintro ⟨l, ⟨a, u⟩, g⟩ ⟨m, ⟨b, v⟩, g'⟩ h _
   simp only [List.cons.injEq, V.t.injEq, T.int.injEq, true_and, and_true] at h
   obtain ⟨h1, h2, rfl⟩ := h
   cases lgT_inj h1
   obtain ⟨rfl, rfl⟩ := regT_inj h2
   exact ⟨rfl, rfl⟩
theorem rcI_eq {act rs : Int} {es : List Ev} {r : Rg} {g : Int} (h : esM es ∧ RV r.1) : ct_rcI.fs [.t (.agg [.int .i64 act, .int .i64 rs, .sl (es.map evT)]), .t (.agg [.sl (r.1.map bankT), .int .i64 r.2]), .t (.int .i64 g)] [] = some (.t (.int .i64 (rcI r.1 act es g)), []) := ct_rcI.eq ((act, rs, es), r, g) h
theorem rpE_good {act : Int} {es : List Ev} (h : rpE act es = 0) : (1 ≤ act ∧ act ≤ 3) ∧ ∀ e ∈ es, chkE e act = 0 := by
 unfold rpE at h
 split at h
 · simp at h
 · exact ⟨by omega, firstE_ok h⟩
theorem w_replay_Reached (tab : Tab) (gl : Gl) (n1 n2 : Nat) (h1 : tab.look n1 = some ct_rpl.fs) (h2 : tab.look n2 = some ct_rch.fs) (act rs : Int) (es : List Ev) (r : Rg) (g : Int) (hm : esM es) (hr : RV r.1) :
   (ac_replay_Reached n1 n2).wp tab gl (zipF 0 [.t (lgT (act, rs, es)), .t (regT r.1 r.2), .t (.int .i64 g)]) (zipF 0 []) (resW [(6, none)] 0 (fun r' o => r' = .t (.int .i64 (rcI r.1 act es g)) ∧ o = [])) := by
 have hR := rpl_eq (act := act) (rs := rs) hm
 by_cases z : rpE act es = 0
 · obtain ⟨ha, hc⟩ := rpE_good z
   rw [z] at hR
   by_cases g0 : g < 0
   · have hr' : rcI r.1 act es g = -1 := if_pos (.inr (.inl g0))
     rw [hr']
     generalize rpG act es = X at *
     simp (disch := omega) only [go_sem, ↓reduceIte, Nat.reduceAdd, Nat.reduceEqDiff, Nat.reduceLeDiff, Int.reduceNeg, reduceCtorEq, ac_replay_Reached, lgT_def, h1, hR, g0]
   by_cases g1 : 12 ≤ g
   · have hr' : rcI r.1 act es g = -1 := if_pos (.inr (.inr g1))
     rw [hr']
     generalize rpG act es = X at *
     simp (disch := omega) only [go_sem, ↓reduceIte, Nat.reduceAdd, Nat.reduceEqDiff, Nat.reduceLeDiff, Int.reduceNeg, reduceCtorEq, ac_replay_Reached, lgT_def, h1, hR, g0, g1]
   obtain ⟨n, rfl⟩ := Int.eq_ofNat_of_zero_le (show 0 ≤ g by omega)
   have hr' : rcI r.1 act es n = rcV r.1 act n es := if_neg (by omega)
   have hC := rch_eq (rs := rs) (g := n) ⟨⟨⟨hm, hc⟩, ha⟩, hr, by omega⟩
   rw [hr']
   generalize rpG act es = X at *
   simp (disch := omega) only [go_sem, ↓reduceIte, Nat.reduceAdd, Nat.reduceEqDiff, Nat.reduceLeDiff, Int.reduceNeg, reduceCtorEq, ac_replay_Reached, lgT_def, h1, hR, g0, g1, h2, hC]
 · have z' : (rpE act es != 0) = true := by simpa using z
   have hr' : rcI r.1 act es g = -1 := if_pos (.inl z)
   rw [hr']
   generalize rpE act es = c at *
   generalize rpG act es = X at *
   simp (disch := omega) only [go_sem, ↓reduceIte, Nat.reduceAdd, Nat.reduceEqDiff, Nat.reduceLeDiff, Int.reduceNeg, reduceCtorEq, ac_replay_Reached, lgT_def, h1, hR, z']
theorem intsOf_map {k : IntKind} : ∀ {l : List Int}, intsOf k (l.map (T.int k)) = some l
 | [] => rfl
 | n :: l => by simp only [List.map_cons, intsOf, if_true, intsOf_map, Option.map_some]
theorem ones_ints {k : IntKind} {l : List Int} : ones (List.map V.t (List.map (T.int k) l)) = true := by
 unfold ones
 refine List.all_eq_true.2 fun x hx => ?_
 obtain ⟨y, hy, rfl⟩ := List.mem_map.1 hx
 obtain ⟨n, -, rfl⟩ := List.mem_map.1 hy
 rfl
def arL (f : Nat → Int) : List Int := (List.range 12).map f
theorem arL_len {f : Nat → Int} : (arL f).length = 12 := by simp [arL]
theorem arL_get {f : Nat → Int} {g : Nat} (h : g < 12) : (arL f)[g]? = some (f g) := by simp [arL, h]
theorem arL_set {f : Nat → Int} {g : Nat} {v : Int} : (arL f).set g v = arL (fun h => if h = g then v else f h) := by
 refine List.ext_getElem (by simp [arL]) (fun i h1 h2 => ?_)
 simp only [arL, List.getElem_set, List.getElem_map, List.getElem_range]
 by_cases h : g = i
 · subst h; simp
 · rw [if_neg h, if_neg (fun e => h e.symm)]
theorem arL_beq {f h : Nat → Int} : (arL f == arL h) = (List.range 12).all fun g => decide (h g = f g) := by
 rw [Bool.eq_iff_iff]
 simp only [beq_iff_eq, List.all_eq_true, List.mem_range, decide_eq_true_eq]
 constructor
 · intro e g hg
   have := congrArg (fun l => l[g]?) e
   simp only [arL_get hg, Option.some.injEq] at this
   exact this.symm
 · intro e
   exact List.map_congr_left (fun g hg => (e g (List.mem_range.1 hg)).symm)
theorem chk_reg {r k act : Int} {ds : List (List UInt8)} {d : List UInt8} (hc : chkE (r, k, ds, d) act = 0) : 0 ≤ r ∧ r ≤ 11 := by
 unfold chkE at hc
 split at hc
 · simp at hc
 · rename_i hb
   have := (goodE hb).2.1
   simp only at this
   omega
def mostI (r : List Bank) (act : Int) (es : List Ev) (i g : Nat) : Int := if g < i then rcV r act g es else 0
theorem mostI_s {r : List Bank} {act : Int} {es : List Ev} {i : Nat} : arL (fun h => if h = i then rcV r act i es else mostI r act es i h) = arL (mostI r act es (i + 1)) := by
 congr 1
 funext h
 unfold mostI
 by_cases e : h = i
 · subst e; rw [if_pos rfl, if_pos (by omega)]
 · rw [if_neg e]
   by_cases l : h < i
   · rw [if_pos l, if_pos (by omega)]
   · rw [if_neg l, if_neg (by omega)]
theorem mostI_12 {r : List Bank} {act : Int} {es : List Ev} : arL (mostI r act es 12) = arL (fun g => rcV r act g es) := by
 refine List.map_congr_left (fun g hg => ?_)
 exact if_pos (List.mem_range.1 hg)
def cntF (es : List Ev) (i : Nat) : Nat → Int := fun g => (cntG g (es.take i) : Int)
theorem cntG_take {es : List Ev} {i g : Nat} {e : Ev} (h : es[i]? = some e) : cntG g (es.take (i + 1)) = cntG g (es.take i) + if isG g e then 1 else 0 := by
 rw [List.take_add_one, h, Option.toList_some, cntG_app, cntG_cons, cntG_nil, Nat.add_zero]
def fsC (most : Nat → Int) (es : List Ev) (i : Nat) : Option Nat := fsN most (es.drop i) (fun g => cntG g (es.take i)) i
theorem fsC_0 {most : Nat → Int} {es : List Ev} : fsC most es 0 = fsN most es (fun _ => 0) 0 := rfl
theorem fsC_note {most : Nat → Int} {es : List Ev} {i : Nat} {e : Ev} (h : es[i]? = some e) (h5 : e.2.1 = 5) : fsC most es i = fsC most es (i + 1) ∧ arL (cntF es (i + 1)) = arL (cntF es i) := by
 have hc : ∀ g, cntG g (es.take (i + 1)) = cntG g (es.take i) := fun g => by rw [cntG_take h, if_neg (fun q => q.1 h5)]; rfl
 refine ⟨?_, ?_⟩
 · unfold fsC
   rw [drop_at h, fsN, if_pos h5]
   congr 1
   funext g; exact (hc g).symm
 · congr 1
   funext g; unfold cntF; rw [hc]
theorem fsC_stop {most : Nat → Int} {es : List Ev} {i g : Nat} {e : Ev} (h : es[i]? = some e) (h5 : e.2.1 ≠ 5) (hg : e.1.toNat = g) (hm : most g ≤ cntF es i g) : fsC most es i = some i := by
 unfold fsC
 rw [drop_at h, fsN, if_neg h5, hg]
 exact if_pos hm
theorem fsC_go {most : Nat → Int} {es : List Ev} {i g : Nat} {e : Ev} (h : es[i]? = some e) (h5 : e.2.1 ≠ 5) (hg : e.1 = (g : Int)) (hm : ¬ most g ≤ cntF es i g) : fsC most es i = fsC most es (i + 1) ∧ arL (fun k => if k = g then cntF es i g + 1 else cntF es i k) = arL (cntF es (i + 1)) := by
 have hi : ∀ k : Nat, isG k e ↔ k = g := fun k => ⟨fun q => by have := q.2; omega, fun q => ⟨h5, by omega⟩⟩
 have hgn : e.1.toNat = g := by omega
 refine ⟨?_, ?_⟩
 · unfold fsC
   rw [drop_at h, fsN, if_neg h5, hgn]
   refine (if_neg hm).trans ?_
   congr 1
   funext k
   rw [cntG_take h]
   by_cases e2 : k = g
   · rw [if_pos e2, if_pos ((hi k).2 e2)]
   · rw [if_neg e2, if_neg (fun q => e2 ((hi k).1 q))]; rfl
 · congr 1
   funext k
   unfold cntF
   rw [cntG_take h]
   by_cases e2 : k = g
   · subst e2
     rw [if_pos rfl, if_pos ((hi k).2 rfl)]; omega
   · rw [if_neg e2, if_neg (fun q => e2 ((hi k).1 q))]; omega
theorem fsC_end {most : Nat → Int} {es : List Ev} : fsC most es es.length = none := by
 unfold fsC
 rw [List.drop_length]; rfl
theorem fsI_some {r : List Bank} {act : Int} {es : List Ev} {k : Nat} (h : rpE act es = 0) (hf : fsC (fun g => rcV r act g es) es 0 = some k) : fsI r act es = k := by
 unfold fsI
 rw [if_neg (by omega), ← fsC_0, hf]
theorem fsI_none {r : List Bank} {act : Int} {es : List Ev} (h : rpE act es = 0) (hf : fsC (fun g => rcV r act g es) es 0 = none) : fsI r act es = if ((List.range 12).all fun g => decide (rcV r act g es = cntF es es.length g)) = true then (-1 : Int) else (es.length : Int) := by
 unfold fsI
 rw [if_neg (by omega), ← fsC_0, hf]
 simp only
 unfold cntF
 rw [List.take_length]
theorem cntF_le {es : List Ev} {i g : Nat} : 0 ≤ cntF es i g ∧ cntF es i g ≤ i := by
 unfold cntF cntG
 have := List.length_filter_le (fun (e : Ev) => decide (e.2.1 ≠ 5) && decide (e.1 = (g : Int))) (es.take i)
 rw [List.length_take] at this
 omega
def ct_fsI : Ct where
 α := Lg × Rg
 as x := [.t (lgT x.1), .t (regT x.2.1 x.2.2)]
 ins _ := []
 pre x := esM x.1.2.2 ∧ RV x.2.1
 r x := .t (.int .i64 (fsI x.2.1 x.1.1 x.1.2.2))
 outs _ := []
 inj := by
   rintro ⟨l, a, u⟩ ⟨m, b, v⟩ h _
   simp only [List.cons.injEq, V.t.injEq, and_true] at h
   obtain ⟨h1, h2⟩ := h
   cases lgT_inj h1
   obtain ⟨rfl, rfl⟩ := regT_inj h2
   exact ⟨rfl, rfl⟩
theorem fsI_eq {act rs : Int} {es : List Ev} {r : Rg} (h : esM es ∧ RV r.1) : ct_fsI.fs [.t (.agg [.int .i64 act, .int .i64 rs, .sl (es.map evT)]), .t (.agg [.sl (r.1.map bankT), .int .i64 r.2])] [] = some (.t (.int .i64 (fsI r.1 act es)), []) := ct_fsI.eq ((act, rs, es), r) h
theorem w_replay_First (tab : Tab) (gl : Gl) (n1 n2 : Nat) (h1 : tab.look n1 = some ct_rpl.fs) (h2 : tab.look n2 = some ct_rch.fs) (act rs : Int) (es : List Ev) (r : Rg) (hm : esM es) (hr : RV r.1) :
   (ac_replay_First n1 n2).wp tab gl (zipF 0 [.t (lgT (act, rs, es)), .t (regT r.1 r.2)]) (zipF 0 []) (resW [(4, none)] 0 (fun r' o => r' = .t (.int .i64 (fsI r.1 act es)) ∧ o = [])) := by
 have hR := rpl_eq (act := act) (rs := rs) hm
 have hlen := hm.1
 by_cases z : rpE act es = 0
 · obtain ⟨ha, hc⟩ := rpE_good z
   have hfs := fsI_some (r := r.1) (k := 0) z
   rw [z] at hR
   generalize rpG act es = X at *
   simp (disch := omega) only [go_sem, ↓reduceIte, Nat.reduceAdd, Nat.reduceEqDiff, Nat.reduceLeDiff, Int.reduceNeg, reduceCtorEq, ac_replay_First, lgT_def, h1, hR]
   refine loop_upto 12 (fun i => [(2, .ref 4096 0 0), (3, .ref 4112 0 0), (7, .ref 20480 0 0), (8, .ref 20496 0 0), (19, .t (.int .i64 (i : Nat)))])
     (fun i => [(20496, .live 1 (((arL (cntF es 0)).map (T.int .i64)).map V.t) true true), (20480, .live 1 (((arL (mostI r.1 act es i)).map (T.int .i64)).map V.t) true true), (4112, .live 2 [.t (.agg [.sl (r.1.map bankT), .int .i64 r.2])] true true), (4096, .live 3 [.t (.agg [.int .i64 act, .int .i64 rs, .sl (es.map evT)])] true true)]) ?_ (fun i hi => ?_)
   · have z1 : (arL (cntF es 0)).map (T.int .i64) = List.replicate 12 (T.int .i64 0) := rfl
     have z2 : (arL (mostI r.1 act es 0)).map (T.int .i64) = List.replicate 12 (T.int .i64 0) := rfl
     refine Weak.rd id ?_ ?_ rfl
     all_goals simp (disch := omega) only [go_sem, ↓reduceIte, Nat.reduceEqDiff, Nat.reduceBEq, id, z1, z2]
   · by_cases hlt : i < 12
     · have hC := rch_eq (rs := rs) (g := i) ⟨⟨⟨hm, hc⟩, ha⟩, hr, hlt⟩
       have hg := arL_get (f := mostI r.1 act es i) hlt
       have hl := arL_len (f := mostI r.1 act es i)
       have hs : (arL (mostI r.1 act es i)).set i (rcV r.1 act i es) = arL (mostI r.1 act es (i + 1)) := by rw [arL_set]; exact mostI_s
       generalize hA : arL (mostI r.1 act es i) = A at *
       generalize rcV r.1 act i es = v at *
       generalize mostI r.1 act es i i = v0 at *
       simp (disch := omega) only [go_sem, ↓reduceIte, Nat.reduceAdd, Nat.reduceEqDiff, Nat.reduceLeDiff, Int.reduceNeg, ac_replay_First_L0, h2, hC, hg, hl]
       refine ⟨hlt, Weak.rd id ?_ ?_ rfl⟩
       all_goals simp (disch := omega) only [go_sem, ↓reduceIte, Nat.reduceEqDiff, Nat.reduceBEq, id, hs]
     · have e : i = 12 := by omega
       subst e
       rw [mostI_12]
       have hml := arL_len (f := fun g => rcV r.1 act g es)
       simp (disch := omega) only [go_sem, ↓reduceIte, Nat.reduceAdd, Nat.reduceEqDiff, Nat.reduceLeDiff, Int.reduceLT, Int.reduceNeg, reduceCtorEq, ac_replay_First_L0]
       refine loop_uptoP es.length (fun j => fsC (fun g => rcV r.1 act g es) es 0 = fsC (fun g => rcV r.1 act g es) es j) (fun j => [(2, .ref 4096 0 0), (7, .ref 20480 0 0), (8, .ref 20496 0 0), (30, .t (.sl (es.map evT))), (31, .t (.int .i64 es.length)), (32, .t (.int .i64 (j : Nat)))])
         (fun j => [(20496, .live 1 (((arL (cntF es j)).map (T.int .i64)).map V.t) true true), (20480, .live 1 (((arL (fun g => rcV r.1 act g es)).map (T.int .i64)).map V.t) true true), (4096, .live 3 [.t (.agg [.int .i64 act, .int .i64 rs, .sl (es.map evT)])] true true)]) rfl ?_ (fun j hj hP => ?_)
       · refine Weak.rd id ?_ ?_ rfl
         all_goals simp (disch := omega) only [go_sem, ↓reduceIte, Nat.reduceEqDiff, Nat.reduceBEq, id]
       · have hcl := arL_len (f := cntF es j)
         by_cases hlt : j < es.length
         · obtain ⟨⟨er, k, ds, d⟩, he⟩ : ∃ e, es[j]? = some e := ⟨es[j], by simp [hlt]⟩
           have hcx := hc _ (List.mem_of_getElem? he)
           have hreg := chk_reg hcx
           by_cases h5 : k = 5
           · subst h5
             obtain ⟨q1, q2⟩ := fsC_note (most := fun g => rcV r.1 act g es) he rfl
             have hP' := hP.trans q1
             generalize arL (cntF es j) = C at *
             simp (disch := omega) only [go_sem, ↓reduceIte, Nat.reduceAdd, Nat.reduceEqDiff, Nat.reduceLeDiff, Int.reduceNeg, reduceCtorEq, ac_replay_First_L1, evT_def, he]
             refine ⟨hlt, hP', Weak.rd id ?_ ?_ rfl⟩
             all_goals simp (disch := omega) only [go_sem, ↓reduceIte, Nat.reduceEqDiff, Nat.reduceBEq, id, q2]
           · have h5b : (k == 5) = false := by simpa using h5
             obtain ⟨g, rfl⟩ := Int.eq_ofNat_of_zero_le hreg.1
             have hg : g < 12 := by omega
             have g1 := arL_get (f := cntF es j) hg
             have g2 := arL_get (f := fun g => rcV r.1 act g es) hg
             have hcb := cntF_le (es := es) (i := j) (g := g)
             have hrb := rcV_le (r := r.1) (act := act) (g := g) (es := es)
             by_cases hst : rcV r.1 act g es ≤ cntF es j g
             · have hF := fsC_stop (most := fun g => rcV r.1 act g es) he h5 (g := g) (by simp) hst
               rw [fsI_some z (hP.trans hF)]
               generalize arL (cntF es j) = C at *
               generalize arL (fun g => rcV r.1 act g es) = M at *
               generalize rcV r.1 act g es = vm at *
               generalize cntF es j g = vc at *
               simp (disch := omega) only [go_sem, ↓reduceIte, Nat.reduceAdd, Nat.reduceEqDiff, Nat.reduceLeDiff, Int.reduceNeg, reduceCtorEq, ac_replay_First_L1, evT_def, he, h5b, g1, g2, hcl, hml, hst]
               all_goals rfl
             · obtain ⟨q1, q2⟩ := fsC_go (most := fun g => rcV r.1 act g es) he h5 (g := g) rfl hst
               have hP' := hP.trans q1
               have hs : (arL (cntF es j)).set g (cntF es j g + 1) = arL (cntF es (j + 1)) := by rw [arL_set]; exact q2
               generalize arL (cntF es j) = C at *
               generalize arL (fun g => rcV r.1 act g es) = M at *
               generalize rcV r.1 act g es = vm at *
               generalize cntF es j g = vc at *
               simp (disch := omega) only [go_sem, ↓reduceIte, Nat.reduceAdd, Nat.reduceEqDiff, Nat.reduceLeDiff, Int.reduceNeg, reduceCtorEq, ac_replay_First_L1, evT_def, he, h5b, g1, g2, hcl, hml, hst]
               repeat refine And.intro rfl ?_
               refine ⟨hlt, hP', Weak.rd id ?_ ?_ rfl⟩
               all_goals simp (disch := omega) only [go_sem, ↓reduceIte, Nat.reduceEqDiff, Nat.reduceBEq, id, hs]
         · have e : j = es.length := by omega
           subst e
           have hF := fsI_none z (hP.trans fsC_end)
           have hbe := arL_beq (f := cntF es es.length) (h := fun g => rcV r.1 act g es)
           rw [← hbe] at hF
           rw [hF]
           have c0 := arL_get (f := cntF es es.length) (g := 0) (by omega)
           have m0 := arL_get (f := fun g => rcV r.1 act g es) (g := 0) (by omega)
           generalize cntF es es.length 0 = w0 at *
           generalize arL (cntF es es.length) = C at *
           generalize arL (fun g => rcV r.1 act g es) = M at *
           have tC : List.take 12 C = C := List.take_of_length_le (by omega)
           have tM : List.take 12 M = M := List.take_of_length_le (by omega)
           cases hq : (C == M)
           · simp (disch := omega) only [go_sem, ↓reduceIte, Nat.reduceAdd, Nat.reduceEqDiff, Nat.reduceLeDiff, Int.reduceNeg, reduceCtorEq, ac_replay_First_L1, tC, tM, c0, m0, ones_ints, intsOf_map, hcl, hml, hq]
           · simp (disch := omega) only [go_sem, ↓reduceIte, Nat.reduceAdd, Nat.reduceEqDiff, Nat.reduceLeDiff, Int.reduceNeg, ac_replay_First_L1, tC, tM, c0, m0, ones_ints, intsOf_map, hcl, hml, hq]
 · have z' : (rpE act es != 0) = true := by simpa using z
   have hr' : fsI r.1 act es = 0 := if_pos z
   rw [hr']
   generalize rpE act es = c at *
   generalize rpG act es = X at *
   simp (disch := omega) only [go_sem, ↓reduceIte, Nat.reduceAdd, Nat.reduceEqDiff, Nat.reduceLeDiff, Int.reduceNeg, reduceCtorEq, ac_replay_First, lgT_def, h1, hR, z']
def ct_dlg : Ct where
 α := List UInt8 × Int × Int
 as x := [.t (.sl (x.1.map byteT)), .t (.int .i64 x.2.1), .t (.int .i64 x.2.2)]
 ins _ := []
 pre x := x.1.length ≤ 9223372036854775807 ∧ (1 ≤ x.2.1 ∧ x.2.1 ≤ 3) ∧ rI x.2.2
 r x := .t (lgT (x.2.1, modI x.2.2 1000, lgG x.1 x.2.1))
 outs _ := []
 inj := by
   rintro ⟨a, b, c⟩ ⟨a', b', c'⟩ h _
   simp only [List.cons.injEq, V.t.injEq, T.sl.injEq, T.int.injEq, true_and, and_true, mapB_inj] at h
   obtain ⟨rfl, rfl, rfl⟩ := h
   exact ⟨rfl, rfl⟩
theorem dlg_eq {b : List UInt8} {act n : Int} (h : b.length ≤ 9223372036854775807 ∧ (1 ≤ act ∧ act ≤ 3) ∧ rI n) : ct_dlg.fs [.t (.sl (b.map byteT)), .t (.int .i64 act), .t (.int .i64 n)] [] = some (.t (.agg [.int .i64 act, .int .i64 (modI n 1000), .sl ((lgG b act).map evT)]), []) := ct_dlg.eq (b, act, n) h
theorem zE {l : List Ev} : zOkT 4 (List.map evT l) = true := by
 unfold zOkT
 refine List.all_eq_true.2 fun x hx => ?_
 obtain ⟨e, -, rfl⟩ := List.mem_map.1 hx
 rfl
theorem lgS0 {act : Int} {es : List Ev} {c c1 c2 : Cd} {i : Nat} (e1 : nx c es.length = (i, c1)) (e2 : nx c1 5 = (0, c2)) : lgS act (es, c) = (es.take i ++ es.drop (i + 1), c2) := by simp [lgS, e1, e2]
theorem lgS1 {act : Int} {es : List Ev} {c c1 c2 : Cd} {i : Nat} {e : Ev} (e1 : nx c es.length = (i, c1)) (e2 : nx c1 5 = (1, c2)) (he : es[i]? = some e) : lgS act (es, c) = (es.take i ++ [e] ++ es.drop i, c2) := by simp [lgS, e1, e2, he]
theorem lgS2 {act : Int} {es : List Ev} {c c1 c2 c3 : Cd} {i j : Nat} {e f : Ev} (e1 : nx c es.length = (i, c1)) (e2 : nx c1 5 = (2, c2)) (e3 : nx c2 es.length = (j, c3)) (he : es[i]? = some e) (hf : es[j]? = some f) : lgS act (es, c) = ((es.set i f).set j e, c3) := by simp [lgS, e1, e2, e3, he, hf]
theorem lgS3 {act : Int} {es : List Ev} {c c1 c2 : Cd} {i : Nat} (e1 : nx c es.length = (i, c1)) (e2 : nx c1 5 = (3, c2)) : lgS act (es, c) = (es.take i ++ [(evG c2 act).1] ++ es.drop i, (evG c2 act).2) := by simp [lgS, e1, e2]
theorem lgS4 {act : Int} {es : List Ev} {c c1 c2 : Cd} {i : Nat} (e1 : nx c es.length = (i, c1)) (e2 : nx c1 5 = (4, c2)) : lgS act (es, c) = (es.take i ++ [mkE 3 5 act noteL] ++ es.drop i, c2) := by simp [lgS, e1, e2]
theorem lgG_e {b : List UInt8} {act : Int} {c : Cd} (h : nx (b.take 240, 0) 3 = (0, c)) : lgG b act = (evN 14 c act []).1 := by simp [lgG, h]
theorem lgG_c {b : List UInt8} {act : Int} {i : Nat} {c : Cd} (h : nx (b.take 240, 0) 3 = (i, c)) (hi : i ≠ 0) {n : Nat} {c1 : Cd} (h4 : nx c 4 = (n, c1)) : lgG b act = (lgN act n (evsI (chG (c.1.drop c.2)) act, c1)).1 := by simp [lgG, h, hi, h4]
theorem w_draw_Log (tab : Tab) (gl : Gl) (n1 n2 n3 n4 n5 n6 n7 n8 : Nat) (h1 : tab.look n1 = some ct_dnew.fs) (h2 : tab.look n2 = some ct_mod.fs) (h3 : tab.look n3 = some ct_next.fs) (h4 : tab.look n4 = some ct_dvs.fs) (h5 : tab.look n5 = some ct_dch.fs) (h6 : tab.look n6 = some ct_evI.fs) (h7 : tab.look n7 = some ct_devt.fs) (h8 : tab.look n8 = some ct_make.fs)
   (b : List UInt8) (act rs : Int) (hb : b.length ≤ 9223372036854775807) (ha : 1 ≤ act ∧ act ≤ 3) (hrs : rI rs) :
   (ac_draw_Log n1 n2 n3 n4 n5 n6 n7 n8).wp tab gl (zipF 0 [.t (.sl (b.map byteT)), .t (.int .i64 act), .t (.int .i64 rs)]) (zipF 0 []) (resW [(6, some (3, true))] 0 (fun r o => r = .t (lgT (act, modI rs 1000, lgG b act)) ∧ o = [])) := by
 have hN : ct_dnew.fs [.t (.sl (b.map byteT)), .t (.int .i64 240)] [] = _ := dnew_eq (b := b) (n := 240) ⟨hb, by omega⟩
 have okN : cdOk (b.take 240, 0) := ⟨Nat.zero_le _, by simp only [List.length_take]; omega⟩
 have hM := mod_eq (a := rs) (b := 1000) ⟨hrs, by omega⟩
 obtain ⟨i3, b3, a3, e3, l3, ok3, hX3⟩ := nxF 3 okN (by omega) (by omega)
 simp only [show ((3 : Nat) : Int) = 3 from rfl, Int.natCast_zero] at hX3
 simp only [cdO, Int.natCast_zero] at hN
 generalize hR : modI rs 1000 = R at *
 by_cases z3 : i3 = 0
 · subst z3
   rw [lgG_e e3]
   have hV := dvs_eq (c := (b3, a3)) (act := act) (n := 14) ⟨ok3, ha, by omega⟩
   simp only [show ((14 : Nat) : Int) = 14 from rfl, cdO] at hV
   generalize b.take 240 = b0 at *
   generalize evN 14 (b3, a3) act [] = q at *
   obtain ⟨L, c'⟩ := q
   simp only [Int.natCast_zero] at hX3 hV
   simp (disch := omega) only [go_sem, ↓reduceIte, Nat.reduceAdd, Nat.reduceEqDiff, Nat.reduceSub, Nat.reduceLeDiff, reduceCtorEq, ac_draw_Log, lgT_def, h1, hN, h2, hM, h3, hX3, h4, hV]
 · have z3b : ((i3 : Int) == 0) = false := by simpa using (by omega : ¬ (i3 : Int) = 0)
   obtain ⟨n, bn, an, en, ln, okn, hXn⟩ := nxF 4 ok3 (by omega) (by omega)
   simp only [show ((4 : Nat) : Int) = 4 from rfl] at hXn
   rw [lgG_c e3 z3 en]
   simp only
   have hdl : (b3.drop a3).length ≤ 9223372036854775807 := by have := ok3.2; simp only at this; rw [List.length_drop]; omega
   have hC := dch_eq hdl
   obtain ⟨g1, g2, g3⟩ := chG_ok (b := b3.drop a3)
   have hI := evI_eq (l := chG (b3.drop a3)) (act := act) ⟨by omega, fun x hx => chkI_m (g2 x hx)⟩
   have hE := evsI_G (b := b3.drop a3) ha
   obtain ⟨q1, q2⟩ := evsC_len (act := act) (l := chG (b3.drop a3))
   have q3 := evsC_ok ha g2
   rw [← hE] at q1 q2 q3
   have l3' : a3 ≤ b3.length := ok3.1
   have htd : List.take (b3.length - a3) (List.drop a3 b3) = List.drop a3 b3 := List.take_of_length_le (by simp)
   generalize b.take 240 = b0 at *
   generalize evsI (chG (b3.drop a3)) act = E0 at *
   generalize chG (b3.drop a3) = ch at *
   generalize hP : lgN act n (E0, (bn, an)) = P
   simp (disch := omega) only [go_sem, ↓reduceIte, Nat.reduceAdd, Nat.reduceEqDiff, Nat.reduceSub, Nat.reduceLeDiff, reduceCtorEq, ac_draw_Log, lgT_def, h1, hN, h2, hM, h3, hX3, z3b, htd, h5, hC, h6, hI, hXn]
   repeat refine And.intro rfl ?_
   refine loop_inv (σ := Nat × List Ev × Cd) (fun s => cdOk s.2.2 ∧ (∀ e ∈ s.2.1, evV act e) ∧ s.1 < s.2.1.length ∧ s.2.1.length + s.1 ≤ 300 ∧ lgN act s.1 s.2 = P) (fun s => s.1)
     (fun s => [(1, .t (.int .i64 act)), (6, .ref 4096 0 0), (7, .ref 8208 0 0), (8, .ref 12352 0 0), (10, .t (.int .i64 (s.1 : Nat)))])
     (fun s => [(12352, .live 3 [.t (.agg [.int .i64 act, .int .i64 R, .sl (s.2.1.map evT)])] true true), (8208, cdO s.2.2), (4096, .live 3 [.agg [.t (.int .i64 0), .t (.int .i64 0), .nil]] true true)]) (n, E0, (bn, an)) ⟨okn, q3, by simp only; omega, by simp only; omega, hP⟩ ?_ ?_
   · refine Weak.rd id ?_ ?_ rfl
     all_goals simp (disch := omega) only [go_sem, ↓reduceIte, Nat.reduceEqDiff, Nat.reduceBEq, reduceCtorEq, id]
   · rintro ⟨k, es, ⟨b1, a1⟩⟩ ⟨ok1, hv, hk, hl, hp⟩
     simp only at ok1 hv hk hl hp ⊢
     cases k with
     | zero =>
       have hp' : P = (es, (b1, a1)) := hp.symm
       rw [hp']
       simp (disch := omega) only [go_sem, ↓reduceIte, Nat.reduceAdd, Nat.reduceEqDiff, Nat.reduceLeDiff, ac_draw_Log_L0, lgT_def]
     | succ k =>
       obtain ⟨i, bi, ai, ei, li, oki, hXi⟩ := nxF es.length ok1 (by omega) (by omega)
       obtain ⟨w, bw, aw, ew, lw, okw, hXw⟩ := nxF 5 oki (by omega) (by omega)
       simp only [show ((5 : Nat) : Int) = 5 from rfl] at hXw
       have hS := lgS_ok ha (s := (es, (b1, a1))) hv (by simp only; omega)
       have hp' : lgN act k (lgS act (es, (b1, a1))) = P := hp
       have hkk : ((k + 1 : Nat) : Int) - 1 = k := by omega
       obtain ⟨e, he⟩ : ∃ e, es[i]? = some e := ⟨es[i], by simp [li]⟩
       have td : ∀ m, List.take (es.length - m) (List.drop m es) = List.drop m es := fun m => List.take_of_length_le (by simp)
       have td0 := td i
       have td1 := td (i + 1)
       rcases (show w = 0 ∨ w = 1 ∨ w = 2 ∨ w = 3 ∨ w = 4 by omega) with rfl | rfl | rfl | rfl | rfl
       · rw [lgS0 ei ew] at hS hp'
         simp only [Int.natCast_zero] at hXw
         obtain ⟨s1, s2, s3⟩ := hS
         simp (disch := omega) only [go_sem, ↓reduceIte, Nat.reduceAdd, Nat.reduceEqDiff, Nat.reduceSub, Nat.reduceLeDiff, Int.reduceLE, reduceCtorEq, ac_draw_Log_L0, h3, hXi, hXw, hkk, td1, zE]
         repeat refine And.intro rfl ?_
         refine invG.of (k, es.take i ++ es.drop (i + 1), (bw, aw)) ⟨okw, s1, by simp only at s2; simp only; omega, by simp only at s3; simp only; omega, hp'⟩ (by simp) ?_
         have tA : List.take (i + (es.length - (i + 1))) (es.take i ++ es.drop (i + 1)) = es.take i ++ es.drop (i + 1) := List.take_of_length_le (by simp; omega)
         refine Weak.cv (hv := []) (ho := [(12352, .live 3 [.t (.agg [.int .i64 act, .int .i64 R, .sl ((es.take i ++ es.drop (i + 1)).map evT)])] true true), (8208, cdO (bw, aw)), (4096, .live 3 [.agg [.t (.int .i64 0), .t (.int .i64 0), .nil]] true true)]) [65712] id ?_ rfl
         simp (disch := omega) only [go_sem, ↓reduceIte, Nat.reduceAdd, Nat.reduceEqDiff, Nat.reduceLeDiff, Nat.reduceBEq, id, tA]
         all_goals rfl
       · rw [lgS1 ei ew he] at hS hp'
         simp only [Int.natCast_one] at hXw
         obtain ⟨s1, s2, s3⟩ := hS
         simp (disch := omega) only [go_sem, ↓reduceIte, Nat.reduceAdd, Nat.reduceEqDiff, Nat.reduceSub, Nat.reduceLT, Nat.reduceLeDiff, Int.reduceLE, reduceCtorEq, ac_draw_Log_L0, h3, hXi, hXw, hkk, td0, zE, he, evT_c, evT_p, evT_tc, evT_agg]
         repeat refine And.intro rfl ?_
         refine invG.of (k, es.take i ++ [e] ++ es.drop i, (bw, aw)) ⟨okw, s1, by simp only at s2; simp only; omega, by simp only at s3; simp only; omega, hp'⟩ (by simp) ?_
         have tA : List.take (i + 1 + (es.length - i)) (es.take i ++ [e] ++ es.drop i) = es.take i ++ [e] ++ es.drop i := List.take_of_length_le (by simp; omega)
         refine Weak.cv (hv := []) (ho := [(12352, .live 3 [.t (.agg [.int .i64 act, .int .i64 R, .sl ((es.take i ++ [e] ++ es.drop i).map evT)])] true true), (8208, cdO (bw, aw)), (4096, .live 3 [.agg [.t (.int .i64 0), .t (.int .i64 0), .nil]] true true)]) [74000] id ?_ rfl
         simp (disch := omega) only [go_sem, ↓reduceIte, Nat.reduceAdd, Nat.reduceEqDiff, Nat.reduceLeDiff, Nat.reduceBEq, id, tA]
         all_goals rfl
       · obtain ⟨j, bj, aj, ej, lj, okj, hXj⟩ := nxF es.length okw (by omega) (by omega)
         obtain ⟨f, hf⟩ : ∃ f, es[j]? = some f := ⟨es[j], by simp [lj]⟩
         obtain ⟨f', hf'⟩ : ∃ x, (es.set i f)[j]? = some x := ⟨(es.set i f)[j]'(by simp [lj]), by simp [lj]⟩
         rw [lgS2 ei ew ej he hf] at hS hp'
         simp only [show ((2 : Nat) : Int) = 2 from rfl] at hXw
         obtain ⟨s1, s2, s3⟩ := hS
         simp (disch := omega) only [go_sem, ↓reduceIte, Nat.reduceAdd, Nat.reduceEqDiff, Nat.reduceSub, Nat.reduceLeDiff, reduceCtorEq, ac_draw_Log_L0, h3, hXi, hXw, hXj, hkk, zE, he, hf, hf', evT_c, evT_p, evT_tc, evT_agg, evT_all, List.take_length]
         repeat refine And.intro rfl ?_
         refine invG.of (k, (es.set i f).set j e, (bj, aj)) ⟨okj, s1, by simp only at s2; simp only; omega, by simp only at s3; simp only; omega, hp'⟩ (by simp) ?_
         have tA : List.take es.length ((es.set i f).set j e) = (es.set i f).set j e := List.take_of_length_le (by simp)
         refine Weak.cv (hv := []) (ho := [(12352, .live 3 [.t (.agg [.int .i64 act, .int .i64 R, .sl (((es.set i f).set j e).map evT)])] true true), (8208, cdO (bj, aj)), (4096, .live 3 [.agg [.t (.int .i64 0), .t (.int .i64 0), .nil]] true true)]) [86064] id ?_ rfl
         simp (disch := omega) only [go_sem, ↓reduceIte, Nat.reduceAdd, Nat.reduceEqDiff, Nat.reduceLeDiff, Nat.reduceBEq, id, tA]
         all_goals rfl
       · have hE := devt_eq (c := (bw, aw)) (act := act) ⟨okw, ha⟩
         have okE := evG_cd (act := act) okw
         rw [lgS3 ei ew] at hS hp'
         simp only [show ((3 : Nat) : Int) = 3 from rfl] at hXw
         obtain ⟨s1, s2, s3⟩ := hS
         generalize evG (bw, aw) act = q at *
         obtain ⟨g, bg, ag⟩ := q
         simp only [cdO] at *
         simp (disch := omega) only [go_sem, ↓reduceIte, Nat.reduceAdd, Nat.reduceEqDiff, Nat.reduceSub, Nat.reduceLT, Nat.reduceLeDiff, Int.reduceLE, reduceCtorEq, ac_draw_Log_L0, h3, hXi, hXw, hkk, td0, zE, h7, hE, evT_c, evT_p, evT_tc, evT_agg]
         repeat refine And.intro rfl ?_
         refine invG.of (k, es.take i ++ [g] ++ es.drop i, (bg, ag)) ⟨okE, s1, (by first | omega | (simp only; omega)), (by first | omega | (simp only; omega)), hp'⟩ (by simp) ?_
         have tA : List.take (i + 1 + (es.length - i)) (es.take i ++ [g] ++ es.drop i) = es.take i ++ [g] ++ es.drop i := List.take_of_length_le (by simp; omega)
         refine Weak.cv (hv := []) (ho := [(12352, .live 3 [.t (.agg [.int .i64 act, .int .i64 R, .sl ((es.take i ++ [g] ++ es.drop i).map evT)])] true true), (8208, cdO (bg, ag)), (4096, .live 3 [.agg [.t (.int .i64 0), .t (.int .i64 0), .nil]] true true)]) [98544] id ?_ rfl
         simp (disch := omega) only [go_sem, ↓reduceIte, Nat.reduceAdd, Nat.reduceEqDiff, Nat.reduceLeDiff, Nat.reduceBEq, id, tA]
         all_goals rfl
       · have hK : ct_make.fs [.t (.int .i64 3), .t (.int .i64 5), .t (.int .i64 act), .t (.sl [byteT 110, byteT 111, byteT 116, byteT 101])] [] = some (.t (evT (mkE 3 5 act noteL)), []) := makeO (r := 3) (k := 5) (act := act) (d := noteL) ⟨by omega, by decide⟩
         rw [lgS4 ei ew] at hS hp'
         simp only [show ((4 : Nat) : Int) = 4 from rfl] at hXw
         obtain ⟨s1, s2, s3⟩ := hS
         generalize mkE 3 5 act noteL = g at *
         simp (disch := omega) only [go_sem, ↓reduceIte, Nat.reduceAdd, Nat.reduceEqDiff, Nat.reduceSub, Nat.reduceLT, Nat.reduceLeDiff, Int.reduceLE, reduceCtorEq, ac_draw_Log_L0, h3, hXi, hXw, hkk, td0, zE, h8, hK, evT_c, evT_p, evT_tc, evT_agg]
         repeat refine And.intro rfl ?_
         refine invG.of (k, es.take i ++ [g] ++ es.drop i, (bw, aw)) ⟨okw, s1, by simp only at s2; simp only; omega, by simp only at s3; simp only; omega, hp'⟩ (by simp) ?_
         have tA : List.take (i + 1 + (es.length - i)) (es.take i ++ [g] ++ es.drop i) = es.take i ++ [g] ++ es.drop i := List.take_of_length_le (by simp; omega)
         refine Weak.cv (hv := []) (ho := [(12352, .live 3 [.t (.agg [.int .i64 act, .int .i64 R, .sl ((es.take i ++ [g] ++ es.drop i).map evT)])] true true), (8208, cdO (bw, aw)), (4096, .live 3 [.agg [.t (.int .i64 0), .t (.int .i64 0), .nil]] true true)]) [57600] id ?_ rfl
         simp (disch := omega) only [go_sem, ↓reduceIte, Nat.reduceAdd, Nat.reduceEqDiff, Nat.reduceLeDiff, Nat.reduceBEq, id, tA]
         all_goals rfl
end Go.Eng
end
section
namespace Go.Eng
def ac_law28_awake (n_event_Make n_replay_Registers n_replay_Reached n_replay_First : Nat) : AC :=
 (.seq
 (rG 4096 [mC 0 (.t (.bool false))])
 (.seq
 (rG 8192 [oO 7 (.bslice 1 1 (.t (byteT 0)) [0]) [.cst (.t (byteT 97))],oO 8 .idsl [.tmp 7],cL 9 n_event_Make true [.cst (.t (.int .i64 0)), .cst (.t (.int .i64 3)), .cst (.t (.int .i64 2)), .tmp 8],oO 10 (.bslice 1 1 (.t (byteT 0)) [0]) [.cst (.t (byteT 98))],oO 11 .idsl [.tmp 10],cL 12 n_event_Make true [.cst (.t (.int .i64 0)), .cst (.t (.int .i64 3)), .cst (.t (.int .i64 2)), .tmp 11],oO 13 (.bslice 1 1 (.t (byteT 0)) [0]) [.cst (.t (byteT 99))],oO 14 .idsl [.tmp 13],cL 15 n_event_Make true [.cst (.t (.int .i64 4)), .cst (.t (.int .i64 3)), .cst (.t (.int .i64 2)), .tmp 14],oO 1 (.new 4 [(.agg [(.t (.int .i64 0)), (.t (.int .i64 0)), .nil, .nil])]) [],oO 2 (.new 4 [(.agg [(.t (.int .i64 0)), (.t (.int .i64 0)), .nil, .nil])]) [],oO 3 (.new 4 [(.agg [(.t (.int .i64 0)), (.t (.int .i64 0)), .nil, .nil])]) [],oS 4 1 9,oS 4 2 12,oS 4 3 15])
 (.seq
 (rG 12288 [oO 17 (.load 4 true) [.tmp 3],oO 18 (.load 4 true) [.tmp 1],oO 19 (.bslice 4 2 (.agg [(.t (.int .i64 0)), (.t (.int .i64 0)), .nil, .nil]) [0, 1]) [.tmp 17, .tmp 18],oO 20 (.build [(.t (.int .i64 0)), (.t (.int .i64 0)), .nil] [(0, 1), (2, 1)]) [.cst (.t (.int .i64 2)), .tmp 19],cL 21 n_replay_Registers true [.tmp 20],mv 16 21,oO 22 (.extract 0) [.tmp 16],oO 23 (.extract 1) [.tmp 16],oO 4 (.new 2 [(.agg [.nil, (.t (.int .i64 0))])]) [],oS 2 4 22,mv 5 23])
 (.seq
 (rG 16384 [oO 24 (.load 4 true) [.tmp 1],oO 25 (.load 4 true) [.tmp 2],oO 26 (.load 4 true) [.tmp 3],oO 27 (.bslice 4 3 (.agg [(.t (.int .i64 0)), (.t (.int .i64 0)), .nil, .nil]) [0, 1, 2]) [.tmp 24, .tmp 25, .tmp 26],oO 28 (.build [(.t (.int .i64 0)), (.t (.int .i64 0)), .nil] [(0, 1), (2, 1)]) [.cst (.t (.int .i64 2)), .tmp 27],oO 6 (.new 3 [(.agg [(.t (.int .i64 0)), (.t (.int .i64 0)), .nil])]) [],oS 3 6 28])
 (.seq
 (rG 20480 [mv 29 5,bN 30 .eql 29 0,mv 31 30,oG 32 31 (.faddr 1) [.tmp 4],oG 33 31 (.load 1 false) [.tmp 32],oG 34 31 (.bin .eql) [.tmp 33, .cst (.t (.int .i64 2))],oO 35 .pick [.tmp 31, .tmp 34, .cst (.t (.bool false))],mv 36 35,oG 37 36 (.load 3 true) [.tmp 6],oG 38 36 (.load 2 true) [.tmp 4],cG 39 36 n_replay_Reached false [.tmp 37, .tmp 38, .cst (.t (.int .i64 0))],oG 40 36 (.bin .eql) [.tmp 39, .cst (.t (.int .i64 1))],oO 41 .pick [.tmp 36, .tmp 40, .cst (.t (.bool false))],mv 42 41,oG 43 42 (.load 3 true) [.tmp 6],oG 44 42 (.load 2 true) [.tmp 4],cG 45 42 n_replay_Reached false [.tmp 43, .tmp 44, .cst (.t (.int .i64 4))],oG 46 42 (.bin .eql) [.tmp 45, .cst (.t (.int .i64 1))],oO 47 .pick [.tmp 42, .tmp 46, .cst (.t (.bool false))],mv 48 47,oG 49 48 (.load 3 true) [.tmp 6],oG 50 48 (.load 2 true) [.tmp 4],cG 51 48 n_replay_First false [.tmp 49, .tmp 50],oG 52 48 (.bin .eql) [.tmp 51, .cst (.t (.int .i64 1))],oO 53 .pick [.tmp 48, .tmp 52, .cst (.t (.bool false))],mv 0 53])
 .ret)))))
def hints_law28_awake : List (Nat × List Nat) := [(1, [2, 5, 8]), (2, [4])]
def ac_law28_again_L2 (n_law28_equal : Nat) : AC :=
 (.seq
 (.seq
 (rG 53248 [mv 53 7,mv 54 5,oO 55 .len [.tmp 54],bT 56 .lss 53 55])
 (.cond (.tmp 56)
 .skip
 (.exit 4)))
 (.seq
 (.block 5
 (.seq
 (.reg 61440 (some [0, 0, 3, 7, 0, 0, 63]) [mv 59 5,mv 60 7,oO 61 (.iaddr 2) [.tmp 59, .tmp 60],oO 62 (.load 2 true) [.tmp 61],oO 63 (.load 2 true) [.tmp 4],mv 64 3,cL 65 n_law28_equal false [.tmp 62, .tmp 63, .tmp 64]])
 (.cond (.tmp 65)
 (.seq
 (rG 65536 [mC 2 (.t (.bool true))])
 .ret)
 .skip)))
 (rG 57344 [mv 57 7,bN 58 .add 57 1,mv 7 58])))
def ac_law28_again_L1 (n_ref8_Extend n_law28_equal : Nat) : AC :=
 (.seq
 (.seq
 (rG 32768 [mv 17 6,oO 18 (.faddr 2) [.tmp 1],oO 19 (.load 1 false) [.tmp 18],oO 20 .len [.tmp 19],bT 21 .lss 17 20])
 (.cond (.tmp 21)
 .skip
 (.exit 2)))
 (.seq
 (.block 3
 (.seq
 (.seq
 (rG 40960 [oO 24 (.faddr 2) [.tmp 1],oO 25 (.load 1 false) [.tmp 24],mv 26 6,oO 27 (.iaddr 4) [.tmp 25, .tmp 26],oO 28 (.faddr 0) [.tmp 27],oO 29 (.load 1 false) [.tmp 28],mv 30 3,bT 31 .neq 29 30,mv 32 31,oF 33 32 (.faddr 2) [.tmp 1],oF 34 32 (.load 1 false) [.tmp 33],mF 35 6 32,oF 36 32 (.iaddr 4) [.tmp 34, .tmp 35],oF 37 32 (.faddr 1) [.tmp 36],oF 38 32 (.load 1 false) [.tmp 37],oF 39 32 (.bin .eql) [.tmp 38, .cst (.t (.int .i64 5))],oO 40 .pick [.tmp 32, .cst (.t (.bool true)), .tmp 39]])
 (.cond (.tmp 40)
 (.exit 3)
 .skip))
 (.seq
 (.reg 45056 (some [0, 0, 0, 4, 0, 28, 60, 124, 255, 511, 1023, 1023, 2047]) [oO 42 (.load 2 true) [.tmp 4],mv 43 3,oO 44 (.faddr 2) [.tmp 1],oO 45 (.load 1 false) [.tmp 44],mv 46 6,oO 47 (.iaddr 4) [.tmp 45, .tmp 46],oO 48 (.faddr 2) [.tmp 47],oO 49 (.load 1 false) [.tmp 48],cL 50 n_ref8_Extend true [.tmp 42, .cst (.t (.int .i64 0)), .tmp 43, .tmp 49],mv 41 50,oO 51 (.extract 0) [.tmp 41],oO 52 (.extract 1) [.tmp 41],oS 2 4 51])
 (.seq
 (.seq
 (rG 49152 [mC 7 (.t (.int .i64 0))])
 (.block 4
 (.loop (ac_law28_again_L2 n_law28_equal))))
 (rG 69632 [mv 66 5,oO 67 (.load 2 true) [.tmp 4],oO 68 (.bslice 2 1 (.agg [.nil, (.t (.int .i64 0))]) [0]) [.tmp 67],oO 69 (.append 2 32) [.tmp 66, .tmp 68],mv 5 69])))))
 (rG 36864 [mv 22 6,bN 23 .add 22 1,mv 6 23])))
def ac_law28_again_L0 (n_ref8_New n_ref8_Extend n_law28_equal : Nat) : AC :=
 (.seq
 (.seq
 (rG 12288 [mv 8 3,bN 9 .lss 8 12])
 (.cond (.tmp 9)
 .skip
 (.exit 0)))
 (.seq
 (.block 1
 (.seq
 (rG 20480 [oO 12 (.faddr 0) [.tmp 1],oO 13 (.load 1 false) [.tmp 12],cL 14 n_ref8_New true [.tmp 13],oO 4 (.new 2 [(.agg [.nil, (.t (.int .i64 0))])]) [],oS 2 4 14])
 (.seq
 (rG 24576 [oO 15 (.load 2 true) [.tmp 4],oO 16 (.bslice 2 1 (.agg [.nil, (.t (.int .i64 0))]) [0]) [.tmp 15],mv 5 16])
 (.seq
 (rG 28672 [mC 6 (.t (.int .i64 0))])
 (.block 2
 (.loop (ac_law28_again_L1 n_ref8_Extend n_law28_equal)))))))
 (rG 16384 [mv 10 3,bN 11 .add 10 1,mv 3 11])))
def ac_law28_again (n_ref8_New n_ref8_Extend n_law28_equal : Nat) : AC :=
 (.seq
 (rG 4096 [oO 1 .box [.tmp 0],mC 2 (.t (.bool false))])
 (.seq
 (.seq
 (rG 8192 [mC 3 (.t (.int .i64 0))])
 (.block 0
 (.loop (ac_law28_again_L0 n_ref8_New n_ref8_Extend n_law28_equal))))
 (.seq
 (rG 73728 [mC 2 (.t (.bool false))])
 .ret)))
def hints_law28_again : List (Nat × List Nat) := [(4, [2]), (10, [8])]
def ac_law28_equal_L0 (n_ref8_Value n_ref1_Same : Nat) : AC :=
 (.seq
 (.seq
 (rG 12288 [mv 12 7,bN 13 .lss 12 2])
 (.cond (.tmp 13)
 .skip
 (.exit 0)))
 (.seq
 (.block 1
 (.seq
 (rG 20480 [oO 17 (.load 2 true) [.tmp 3],mv 18 7,mv 19 2,cL 20 n_ref8_Value false [.tmp 17, .tmp 18, .tmp 19],mv 16 20,oO 21 (.extract 0) [.tmp 16],oO 22 (.extract 1) [.tmp 16],mv 8 21,mv 9 22])
 (.seq
 (rG 24576 [oO 24 (.load 2 true) [.tmp 4],mv 25 7,mv 26 2,cL 27 n_ref8_Value false [.tmp 24, .tmp 25, .tmp 26],mv 23 27,oO 28 (.extract 0) [.tmp 23],oO 29 (.extract 1) [.tmp 23],mv 10 28,mv 11 29])
 (.seq
 (rG 28672 [mv 30 9,mv 31 11,bT 32 .neq 30 31,mv 33 32,mF 34 8 33,mF 35 10 33,cF 36 33 n_ref1_Same false [.tmp 34, .tmp 35],oF 37 33 (.un .not) [.tmp 36],oO 38 .pick [.tmp 33, .cst (.t (.bool true)), .tmp 37]])
 (.cond (.tmp 38)
 (.seq
 (rG 32768 [mC 6 (.t (.bool false))])
 .ret)
 .skip)))))
 (rG 16384 [mv 14 7,bN 15 .add 14 1,mv 7 15])))
def ac_law28_equal (n_ref8_Value n_ref1_Same : Nat) : AC :=
 (.seq
 (rG 4096 [oO 3 .box [.tmp 0],oO 4 .box [.tmp 1],mC 6 (.t (.bool false))])
 (.seq
 (.seq
 (rG 8192 [mC 7 (.t (.int .i64 0))])
 (.block 0
 (.loop (ac_law28_equal_L0 n_ref8_Value n_ref1_Same))))
 (.seq
 (rG 36864 [mC 6 (.t (.bool true))])
 .ret)))
def hints_law28_equal : List (Nat × List Nat) := []
def ac_law28_ReplayWhole (n_law28_awake n_draw_Active n_draw_Log n_draw_New n_draw_Codes_Event n_law28_again n_replay_Registers n_replay_First n_draw_Mod : Nat) : AC :=
 (.seq
 (rG 4096 [mC 8 (.t (.bool false))])
 (.seq
 (.seq
 (rG 8192 [cL 18 n_law28_awake false [],oO 19 (.un .not) [.tmp 18]])
 (.cond (.tmp 19)
 (.seq
 (rG 12288 [mC 8 (.t (.bool false))])
 .ret)
 .skip))
 (.seq
 (rG 16384 [mv 20 0,mv 21 2,cL 22 n_draw_Active false [.tmp 21],cL 23 n_draw_Log true [.tmp 20, .tmp 22, .cst (.t (.int .i64 0))],oO 9 (.new 3 [(.agg [(.t (.int .i64 0)), (.t (.int .i64 0)), .nil])]) [],oS 3 9 23])
 (.seq
 (.reg 20480 (some [0, 1, 0, 4, 15, 0, 63]) [mv 24 1,cL 25 n_draw_New true [.tmp 24, .cst (.t (.int .i64 20))],oO 26 (.faddr 0) [.tmp 9],oO 27 (.load 1 false) [.tmp 26],cL 28 n_draw_Codes_Event true [.tmp 25, .tmp 27],oO 10 (.new 4 [(.agg [(.t (.int .i64 0)), (.t (.int .i64 0)), .nil, .nil])]) [],oS 4 10 28])
 (.seq
 (.reg 24576 (some [0, 1, 0, 0, 8, 28, 0, 64, 252, 511, 0, 2047]) [oO 29 (.faddr 0) [.tmp 9],oO 30 (.load 1 false) [.tmp 29],oO 31 (.bslice 4 0 (.agg [(.t (.int .i64 0)), (.t (.int .i64 0)), .nil, .nil]) []) [],oO 32 (.faddr 2) [.tmp 9],oO 33 (.load 1 false) [.tmp 32],oO 34 (.append 4 64) [.tmp 31, .tmp 33],oO 35 (.load 4 true) [.tmp 10],oO 36 (.bslice 4 1 (.agg [(.t (.int .i64 0)), (.t (.int .i64 0)), .nil, .nil]) [0]) [.tmp 35],oO 37 (.append 4 64) [.tmp 34, .tmp 36],oO 38 (.build [(.t (.int .i64 0)), (.t (.int .i64 0)), .nil] [(0, 1), (2, 1)]) [.tmp 30, .tmp 37],oO 11 (.new 3 [(.agg [(.t (.int .i64 0)), (.t (.int .i64 0)), .nil])]) [],oS 3 11 38])
 (.seq
 (.seq
 (rG 28672 [oO 39 (.load 3 true) [.tmp 11],cL 40 n_law28_again false [.tmp 39]])
 (.cond (.tmp 40)
 (.seq
 (rG 32768 [mC 8 (.t (.bool true))])
 .ret)
 .skip))
 (.seq
 (rG 36864 [oO 42 (.load 3 true) [.tmp 9],cL 43 n_replay_Registers true [.tmp 42],mv 41 43,oO 44 (.extract 0) [.tmp 41],oO 45 (.extract 1) [.tmp 41],oO 12 (.new 2 [(.agg [.nil, (.t (.int .i64 0))])]) [],oS 2 12 44,mv 13 45])
 (.seq
 (.seq
 (rG 40960 [mv 46 13,bN 47 .neq 46 0,mv 48 47,oF 49 48 (.load 3 true) [.tmp 9],oF 50 48 (.load 2 true) [.tmp 12],cF 51 48 n_replay_First false [.tmp 49, .tmp 50],oF 52 48 (.bin .neq) [.tmp 51, .cst (.t (.int .i64 (-1)))],oO 53 .pick [.tmp 48, .cst (.t (.bool true)), .tmp 52]])
 (.cond (.tmp 53)
 (.seq
 (rG 45056 [mC 8 (.t (.bool false))])
 .ret)
 .skip))
 (.seq
 (rG 49152 [oO 54 (.faddr 2) [.tmp 9],oO 55 (.load 1 false) [.tmp 54],oO 56 .len [.tmp 55],mv 14 56])
 (.seq
 (.seq
 (rG 53248 [oO 57 (.faddr 1) [.tmp 10],oO 58 (.load 1 false) [.tmp 57],bN 59 .eql 58 5])
 (.cond (.tmp 59)
 (rG 57344 [mC 14 (.t (.int .i64 (-1)))])
 .skip))
 (.seq
 (rG 61440 [mv 60 3,oO 61 (.faddr 2) [.tmp 9],oO 62 (.load 1 false) [.tmp 61],oO 63 .len [.tmp 62],bN 64 .add 63 1,cL 65 n_draw_Mod false [.tmp 60, .tmp 64],mv 3 65])
 (.seq
 (.reg 65536 (some [0, 1, 0, 4, 0, 28, 63, 127, 255, 511, 511, 0, 3071, 8191]) [oO 67 (.faddr 0) [.tmp 9],oO 68 (.load 1 false) [.tmp 67],oO 69 (.faddr 2) [.tmp 9],oO 70 (.load 1 false) [.tmp 69],mv 71 3,oO 72 (.slice 4 false true false) [.tmp 70, .tmp 71],oO 73 (.build [(.t (.int .i64 0)), (.t (.int .i64 0)), .nil] [(0, 1), (2, 1)]) [.tmp 68, .tmp 72],cL 74 n_replay_Registers true [.tmp 73],mv 66 74,oO 75 (.extract 0) [.tmp 66],oO 76 (.extract 1) [.tmp 66],oO 15 (.new 2 [(.agg [.nil, (.t (.int .i64 0))])]) [],oS 2 15 75,mv 16 76])
 (.seq
 (rG 69632 [oO 77 (.load 3 true) [.tmp 9],oO 78 (.load 2 true) [.tmp 15],cL 79 n_replay_First false [.tmp 77, .tmp 78],mv 17 79])
 (.seq
 (rG 73728 [mv 80 16,bN 81 .eql 80 0,mv 82 81,oG 83 82 (.load 3 true) [.tmp 11],oG 84 82 (.load 2 true) [.tmp 12],cG 85 82 n_replay_First false [.tmp 83, .tmp 84],mG 86 14 82,oG 87 82 (.bin .eql) [.tmp 85, .tmp 86],oO 88 .pick [.tmp 82, .tmp 87, .cst (.t (.bool false))],mv 89 88,mG 90 17 89,oG 91 89 (.bin .eql) [.tmp 90, .cst (.t (.int .i64 (-1)))],mG 92 91 89,mF 93 17 92,mF 94 3 92,oF 95 92 (.bin .geq) [.tmp 93, .tmp 94],oG 96 89 .pick [.tmp 92, .cst (.t (.bool true)), .tmp 95],oO 97 .pick [.tmp 89, .tmp 96, .cst (.t (.bool false))],mv 8 97])
 .ret))))))))))))))
def hints_law28_ReplayWhole : List (Nat × List Nat) := [(3, [3]), (4, [1, 4]), (8, [1]), (15, [7])]
def ac_law28_ReplayOrder (n_law28_awake n_draw_Active n_draw_Log n_replay_Registers n_draw_Mod n_draw_Cut n_ref25_Make n_ref8_Same : Nat) : AC :=
 (.seq
 (rG 4096 [mC 8 (.t (.bool false))])
 (.seq
 (.seq
 (rG 8192 [cL 16 n_law28_awake false [],oO 17 (.un .not) [.tmp 16]])
 (.cond (.tmp 17)
 (.seq
 (rG 12288 [mC 8 (.t (.bool false))])
 .ret)
 .skip))
 (.seq
 (rG 16384 [mv 18 0,mv 19 1,cL 20 n_draw_Active false [.tmp 19],cL 21 n_draw_Log true [.tmp 18, .tmp 20, .cst (.t (.int .i64 0))],oO 9 (.new 3 [(.agg [(.t (.int .i64 0)), (.t (.int .i64 0)), .nil])]) [],oS 3 9 21])
 (.seq
 (.seq
 (rG 20480 [oO 22 (.faddr 2) [.tmp 9],oO 23 (.load 1 false) [.tmp 22],oO 24 .len [.tmp 23],bN 25 .lss 24 2])
 (.cond (.tmp 25)
 (.seq
 (rG 24576 [mC 8 (.t (.bool true))])
 .ret)
 .skip))
 (.seq
 (rG 28672 [oO 27 (.load 3 true) [.tmp 9],cL 28 n_replay_Registers true [.tmp 27],mv 26 28,oO 29 (.extract 0) [.tmp 26],oO 30 (.extract 1) [.tmp 26],oO 10 (.new 2 [(.agg [.nil, (.t (.int .i64 0))])]) [],oS 2 10 29,mv 11 30])
 (.seq
 (rG 32768 [mv 31 2,oO 32 (.faddr 2) [.tmp 9],oO 33 (.load 1 false) [.tmp 32],oO 34 .len [.tmp 33],bN 35 .sub 34 1,cL 36 n_draw_Mod false [.tmp 31, .tmp 35],mv 12 36])
 (.seq
 (rG 36864 [oO 37 (.bslice 4 0 (.agg [(.t (.int .i64 0)), (.t (.int .i64 0)), .nil, .nil]) []) [],oO 38 (.faddr 2) [.tmp 9],oO 39 (.load 1 false) [.tmp 38],oO 40 (.append 4 64) [.tmp 37, .tmp 39],mv 13 40])
 (.seq
 (.seq
 (.reg 40960 (some [0, 0, 3, 7, 15, 0, 0, 64, 224, 480, 992, 2047]) [mv 41 13,mv 42 12,oO 43 (.iaddr 4) [.tmp 41, .tmp 42],oO 44 (.faddr 0) [.tmp 43],oO 45 (.load 1 false) [.tmp 44],mv 46 13,mv 47 12,bN 48 .add 47 1,oO 49 (.iaddr 4) [.tmp 46, .tmp 48],oO 50 (.faddr 0) [.tmp 49],oO 51 (.load 1 false) [.tmp 50],bT 52 .neq 45 51])
 (.cond (.tmp 52)
 (.reg 45056 (some [0, 0, 0, 0, 8, 0, 0, 64, 224, 480, 0, 0, 3072, 7168, 16355, 32739, 65535, 131071]) [mv 53 13,mv 54 12,mv 55 13,mv 56 12,bN 57 .add 56 1,mv 58 13,mv 59 12,bN 60 .add 59 1,oO 61 (.iaddr 4) [.tmp 58, .tmp 60],oO 62 (.load 4 true) [.tmp 61],mv 63 13,mv 64 12,oO 65 (.iaddr 4) [.tmp 63, .tmp 64],oO 66 (.load 4 true) [.tmp 65],oO 67 (.iaddr 4) [.tmp 53, .tmp 54],oS 4 67 62,oO 68 (.iaddr 4) [.tmp 55, .tmp 57],oS 4 68 66])
 .skip))
 (.seq
 (.reg 49152 (some [0, 0, 0, 6, 15, 0, 32, 0, 159, 511, 1023, 2047, 0, 0, 12288, 32767, 65535]) [oO 69 (.bslice 4 0 (.agg [(.t (.int .i64 0)), (.t (.int .i64 0)), .nil, .nil]) []) [],mv 70 13,mv 71 12,oO 72 (.slice 4 false true false) [.tmp 70, .tmp 71],oO 73 (.append 4 64) [.tmp 69, .tmp 72],oO 74 (.faddr 0) [.tmp 9],oO 75 (.load 1 false) [.tmp 74],mv 76 3,cL 77 n_draw_Cut true [.tmp 76, .cst (.t (.int .i64 64))],cL 78 n_ref25_Make true [.cst (.t (.int .i64 2)), .cst (.t (.int .i64 5)), .tmp 75, .tmp 77],oO 79 (.bslice 4 1 (.agg [(.t (.int .i64 0)), (.t (.int .i64 0)), .nil, .nil]) [0]) [.tmp 78],oO 80 (.append 4 64) [.tmp 73, .tmp 79],mv 81 13,mv 82 12,oO 83 (.slice 4 true false false) [.tmp 81, .tmp 82],oO 84 (.append 4 64) [.tmp 80, .tmp 83],mv 13 84])
 (.seq
 (rG 53248 [oO 86 (.faddr 0) [.tmp 9],oO 87 (.load 1 false) [.tmp 86],mv 88 13,oO 89 (.build [(.t (.int .i64 0)), (.t (.int .i64 0)), .nil] [(0, 1), (2, 1)]) [.tmp 87, .tmp 88],cL 90 n_replay_Registers true [.tmp 89],mv 85 90,oO 91 (.extract 0) [.tmp 85],oO 92 (.extract 1) [.tmp 85],oO 14 (.new 2 [(.agg [.nil, (.t (.int .i64 0))])]) [],oS 2 14 91,mv 15 92])
 (.seq
 (rG 57344 [mv 93 11,bN 94 .eql 93 0,mv 95 94,mG 96 15 95,oG 97 95 (.bin .eql) [.tmp 96, .cst (.t (.int .i64 0))],oO 98 .pick [.tmp 95, .tmp 97, .cst (.t (.bool false))],mv 99 98,oG 100 99 (.load 2 true) [.tmp 10],oG 101 99 (.load 2 true) [.tmp 14],cG 102 99 n_ref8_Same false [.tmp 100, .tmp 101],oO 103 .pick [.tmp 99, .tmp 102, .cst (.t (.bool false))],mv 8 103])
 .ret)))))))))))
def hints_law28_ReplayOrder : List (Nat × List Nat) := [(3, [3]), (6, [1]), (11, [8, 9]), (12, [4])]
def ac_law28_ReplayLast_L0 (n_registers_Extend : Nat) : AC :=
 (.seq
 (.seq
 (rG 32768 [mv 30 9,oO 31 (.faddr 2) [.tmp 7],oO 32 (.load 1 false) [.tmp 31],oO 33 .len [.tmp 32],bT 34 .lss 30 33])
 (.cond (.tmp 34)
 .skip
 (.exit 0)))
 (.seq
 (.block 1
 (.seq
 (.seq
 (rG 40960 [oO 37 (.faddr 2) [.tmp 7],oO 38 (.load 1 false) [.tmp 37],mv 39 9,oO 40 (.iaddr 4) [.tmp 38, .tmp 39],oO 41 (.faddr 1) [.tmp 40],oO 42 (.load 1 false) [.tmp 41],bN 43 .eql 42 5,mv 44 43,oF 45 44 (.faddr 2) [.tmp 7],oF 46 44 (.load 1 false) [.tmp 45],mF 47 9 44,oF 48 44 (.iaddr 4) [.tmp 46, .tmp 47],oF 49 44 (.faddr 0) [.tmp 48],oF 50 44 (.load 1 false) [.tmp 49],mF 51 2 44,oF 52 44 (.bin .neq) [.tmp 50, .tmp 51],oO 53 .pick [.tmp 44, .cst (.t (.bool true)), .tmp 52]])
 (.cond (.tmp 53)
 (.exit 1)
 .skip))
 (.seq
 (.reg 45056 (some [0, 0, 0, 4, 0, 28, 60, 124, 255, 511, 1023, 1023, 0, 6143, 16383]) [oO 55 (.load 2 true) [.tmp 8],mv 56 2,oO 57 (.faddr 2) [.tmp 7],oO 58 (.load 1 false) [.tmp 57],mv 59 9,oO 60 (.iaddr 4) [.tmp 58, .tmp 59],oO 61 (.faddr 2) [.tmp 60],oO 62 (.load 1 false) [.tmp 61],cL 63 n_registers_Extend true [.tmp 55, .cst (.t (.int .i64 0)), .tmp 56, .tmp 62],mv 54 63,oO 64 (.extract 0) [.tmp 54],oO 65 (.extract 1) [.tmp 54],oO 10 (.new 2 [(.agg [.nil, (.t (.int .i64 0))])]) [],oS 2 10 64,mv 11 65])
 (.seq
 (.seq
 (rG 49152 [mv 66 11,bN 67 .neq 66 0])
 (.cond (.tmp 67)
 (.seq
 (rG 53248 [mC 6 (.t (.bool false))])
 .ret)
 .skip))
 (rG 57344 [oO 68 (.load 2 true) [.tmp 10],oS 2 8 68])))))
 (rG 36864 [mv 35 9,bN 36 .add 35 1,mv 9 36])))
def ac_law28_ReplayLast_L1 (n_registers_Value n_ref1_Same : Nat) : AC :=
 (.seq
 (.seq
 (rG 77824 [mv 76 14,bN 77 .lss 76 2])
 (.cond (.tmp 77)
 .skip
 (.exit 2)))
 (.seq
 (.block 3
 (.seq
 (rG 86016 [oO 81 (.load 2 true) [.tmp 8],mv 82 14,mv 83 2,cL 84 n_registers_Value true [.tmp 81, .tmp 82, .tmp 83],mv 80 84,oO 85 (.extract 0) [.tmp 80],oO 86 (.extract 1) [.tmp 80],mv 15 85,mv 16 86])
 (.seq
 (rG 90112 [oO 88 (.load 2 true) [.tmp 12],mv 89 14,mv 90 2,cL 91 n_registers_Value true [.tmp 88, .tmp 89, .tmp 90],mv 87 91,oO 92 (.extract 0) [.tmp 87],oO 93 (.extract 1) [.tmp 87],mv 17 92,mv 18 93])
 (.seq
 (rG 94208 [mv 94 16,mv 95 18,bT 96 .neq 94 95,mv 97 96,mF 98 15 97,mF 99 17 97,cF 100 97 n_ref1_Same false [.tmp 98, .tmp 99],oF 101 97 (.un .not) [.tmp 100],oO 102 .pick [.tmp 97, .cst (.t (.bool true)), .tmp 101]])
 (.cond (.tmp 102)
 (.seq
 (rG 98304 [mC 6 (.t (.bool false))])
 .ret)
 .skip)))))
 (rG 81920 [mv 78 14,bN 79 .add 78 1,mv 14 79])))
def ac_law28_ReplayLast (n_law28_awake n_draw_Active n_draw_Log n_draw_Mod n_registers_New n_registers_Extend n_replay_Registers n_registers_Value n_ref1_Same : Nat) : AC :=
 (.seq
 (rG 4096 [mC 6 (.t (.bool false))])
 (.seq
 (.seq
 (rG 8192 [cL 19 n_law28_awake false [],oO 20 (.un .not) [.tmp 19]])
 (.cond (.tmp 20)
 (.seq
 (rG 12288 [mC 6 (.t (.bool false))])
 .ret)
 .skip))
 (.seq
 (rG 16384 [mv 21 0,mv 22 1,cL 23 n_draw_Active false [.tmp 22],cL 24 n_draw_Log true [.tmp 21, .tmp 23, .cst (.t (.int .i64 0))],oO 7 (.new 3 [(.agg [(.t (.int .i64 0)), (.t (.int .i64 0)), .nil])]) [],oS 3 7 24])
 (.seq
 (rG 20480 [mv 25 2,cL 26 n_draw_Mod false [.tmp 25, .cst (.t (.int .i64 12))],mv 2 26])
 (.seq
 (rG 24576 [oO 27 (.faddr 0) [.tmp 7],oO 28 (.load 1 false) [.tmp 27],cL 29 n_registers_New true [.tmp 28],oO 8 (.new 2 [(.agg [.nil, (.t (.int .i64 0))])]) [],oS 2 8 29])
 (.seq
 (.seq
 (rG 28672 [mC 9 (.t (.int .i64 0))])
 (.block 0
 (.loop (ac_law28_ReplayLast_L0 n_registers_Extend))))
 (.seq
 (rG 61440 [oO 70 (.load 3 true) [.tmp 7],cL 71 n_replay_Registers true [.tmp 70],mv 69 71,oO 72 (.extract 0) [.tmp 69],oO 73 (.extract 1) [.tmp 69],oO 12 (.new 2 [(.agg [.nil, (.t (.int .i64 0))])]) [],oS 2 12 72,mv 13 73])
 (.seq
 (.seq
 (rG 65536 [mv 74 13,bN 75 .neq 74 0])
 (.cond (.tmp 75)
 (.seq
 (rG 69632 [mC 6 (.t (.bool false))])
 .ret)
 .skip))
 (.seq
 (.seq
 (rG 73728 [mC 14 (.t (.int .i64 0))])
 (.block 2
 (.loop (ac_law28_ReplayLast_L1 n_registers_Value n_ref1_Same))))
 (.seq
 (rG 102400 [mC 6 (.t (.bool true))])
 .ret))))))))))
def hints_law28_ReplayLast : List (Nat × List Nat) := [(3, [3]), (5, [2]), (10, [8]), (14, [1]), (20, [3]), (21, [3])]
end Go.Eng
end
section
set_option maxRecDepth 20000
set_option maxHeartbeats 64000000
namespace Go.Eng
def lgX (es : List Ev) : Prop := es.length ≤ 9223372036854775807 ∧ ∀ e ∈ es, evX e
def aA : Ev := mkE 0 3 2 [97]
def aB : Ev := mkE 0 3 2 [98]
def aC : Ev := mkE 4 3 2 [99]
theorem aw_facts : rpE 2 [aC, aA] = 0 ∧ (rpG 2 [aC, aA]).2 = 2 ∧ rcI (rpG 2 [aC, aA]).1 2 [aA, aB, aC] 0 = 1 ∧ rcI (rpG 2 [aC, aA]).1 2 [aA, aB, aC] 4 = 1 ∧ fsI (rpG 2 [aC, aA]).1 2 [aA, aB, aC] = 1 := by decide +kernel
theorem w_awake28 (tab : Tab) (gl : Gl) (n1 n2 n3 n4 : Nat) (h1 : tab.look n1 = some ct_make.fs) (h2 : tab.look n2 = some ct_rpl.fs) (h3 : tab.look n3 = some ct_rcI.fs) (h4 : tab.look n4 = some ct_fsI.fs) :
   (ac_law28_awake n1 n2 n3 n4).wp tab gl (zipF 0 []) (zipF 0 []) (resW [(0, none)] 0 (fun r o => r = .t (.bool true) ∧ o = [])) := by
 have mA : ct_make.fs [.t (.int .i64 0), .t (.int .i64 3), .t (.int .i64 2), .t (.sl [byteT 97])] [] = some (.t (evT aA), []) := makeO (r := 0) (k := 3) (act := 2) (d := [97]) ⟨by omega, by decide⟩
 have mB : ct_make.fs [.t (.int .i64 0), .t (.int .i64 3), .t (.int .i64 2), .t (.sl [byteT 98])] [] = some (.t (evT aB), []) := makeO (r := 0) (k := 3) (act := 2) (d := [98]) ⟨by omega, by decide⟩
 have mC : ct_make.fs [.t (.int .i64 4), .t (.int .i64 3), .t (.int .i64 2), .t (.sl [byteT 99])] [] = some (.t (evT aC), []) := makeO (r := 4) (k := 3) (act := 2) (d := [99]) ⟨by omega, by decide⟩
 have vA : evX aA := (mkE_m (r := 0) (k := 3) (act := 2) (d := [97]) (by decide)).x
 have vB : evX aB := (mkE_m (r := 0) (k := 3) (act := 2) (d := [98]) (by decide)).x
 have vC : evX aC := (mkE_m (r := 4) (k := 3) (act := 2) (d := [99]) (by decide)).x
 obtain ⟨f1, f2, f3, f4, f5⟩ := aw_facts
 have e1 : esM [aC, aA] := ⟨by simp, fun e he => by
   simp only [List.mem_cons, List.not_mem_nil, or_false] at he
   rcases he with rfl | rfl
   · exact vC
   · exact vA⟩
 have e2 : esM [aA, aB, aC] := ⟨by simp, fun e he => by
   simp only [List.mem_cons, List.not_mem_nil, or_false] at he
   rcases he with rfl | rfl | rfl
   · exact vA
   · exact vB
   · exact vC⟩
 have hv := (rpG_rv (act := 2) (es := [aC, aA])).1
 have hR := rpl_eq (act := 2) (rs := 0) e1
 rw [f1, f2] at hR
 have hr0 := rcI_eq (act := 2) (rs := 0) (g := 0) (r := rpG 2 [aC, aA]) ⟨e2, hv⟩
 have hr4 := rcI_eq (act := 2) (rs := 0) (g := 4) (r := rpG 2 [aC, aA]) ⟨e2, hv⟩
 have hf := fsI_eq (act := 2) (rs := 0) (r := rpG 2 [aC, aA]) ⟨e2, hv⟩
 rw [f2, f3] at hr0
 rw [f2, f4] at hr4
 rw [f2, f5] at hf
 simp only [List.map_cons, List.map_nil] at hR hr0 hr4 hf
 clear f1 f2 f3 f4 f5 e1 e2 hv vA vB vC
 generalize rpG 2 [aC, aA] = X at *
 generalize aA = eA at *
 generalize aB = eB at *
 generalize aC = eC at *
 simp (config := { maxSteps := 2000000 }) (disch := (first | omega | (simp only [lens, lenm]; omega))) only [go_sem, ↓reduceIte, Nat.reduceAdd, Nat.reduceEqDiff, Nat.reduceLT, Nat.reduceLeDiff, reduceCtorEq, ac_law28_awake, h1, mA, mB, mC, evT_c, evT_p, evT_tc, evT_agg, evT_all, h2, hR, h3, hr0, hr4, h4, hf]
theorem lgG_facts {cs : List UInt8} {A : Int} (hA : 1 ≤ A ∧ A ≤ 3) : (∀ e ∈ lgG cs A, evV A e) ∧ (lgG cs A).length ≤ 200 ∧ esM (lgG cs A) := by
 obtain ⟨h1, h2⟩ := lgG_ok (b := cs) hA
 exact ⟨h1, h2, by omega, fun e he => (h1 e he).2.x⟩
theorem evT_r0 {e : Ev} : (V.t (evT e)).cells[0]? = some (.t (.int .i64 e.1)) := rfl
theorem split2 {L : List Ev} {k : Nat} {f g : Ev} (hf : L[k]? = some f) (hg : L[k + 1]? = some g) : L = L.take k ++ f :: g :: L.drop (k + 2) := by
 have h1 := drop_at hf
 have h2 := drop_at hg
 conv => lhs; rw [← List.take_append_drop k L, h1, h2]
theorem swap2 {L : List Ev} {k : Nat} {f g : Ev} (hf : L[k]? = some f) (hg : L[k + 1]? = some g) : (L.set k g).set (k + 1) f = L.take k ++ g :: f :: L.drop (k + 2) := by
 have hl := (List.getElem?_eq_some_iff.1 hf).1
 have h0 : (L.take k).length = k := by rw [List.length_take]; omega
 conv => lhs; rw [split2 hf hg]
 rw [List.set_append_right _ _ (by omega), h0, Nat.sub_self, List.set_cons_zero, List.set_append_right _ _ (by omega), h0, show k + 1 - k = 1 by omega]
 rfl
theorem rpG_ok {act : Int} (ha : 1 ≤ act ∧ act ≤ 3) {es : List Ev} (hv : ∀ e ∈ es, evV act e) : rpG act es = rpF act es := if_pos (rpE_ok ha hv)
theorem w_ReplayOrder (tab : Tab) (gl : Gl) (n1 n2 n3 n4 n5 n6 n7 n8 : Nat) (h1 : tab.look n1 = some ct_awake.fs) (h2 : tab.look n2 = some ct_dact.fs) (h3 : tab.look n3 = some ct_dlg.fs) (h4 : tab.look n4 = some ct_rpl.fs) (h5 : tab.look n5 = some ct_mod.fs) (h6 : tab.look n6 = some ct_cut.fs) (h7 : tab.look n7 = some ct_make.fs) (h8 : tab.look n8 = some ct_eqR.fs)
   (cs : List UInt8) (hcs : cs.length ≤ 9223372036854775807) (a p : Int) (ha : rI a) (hp : rI p) (nt : List UInt8) (hnt : nt.length ≤ 9223372036854775807) :
   (ac_law28_ReplayOrder n1 n2 n3 n4 n5 n6 n7 n8).wp tab gl (zipF 0 [.t (.sl (cs.map byteT)), .t (.int .i64 a), .t (.int .i64 p), .t (.sl (nt.map byteT))]) (zipF 0 []) (resW [(8, none)] 0 (fun r' o => r' = .t (.bool true) ∧ o = [])) := by
 have lA := modI_lt (a := a) (m := 3) (by omega)
 have hA := dact_eq ha
 obtain ⟨A, hAe⟩ : ∃ A, 1 + modI a 3 = A := ⟨_, rfl⟩
 rw [hAe] at hA
 have lA2 : 1 ≤ A ∧ A ≤ 3 := by omega
 have hL := dlg_eq (b := cs) (act := A) (n := 0) ⟨hcs, lA2, by unfold rI; omega⟩
 obtain ⟨vL, lL, mL⟩ := lgG_facts (cs := cs) lA2
 generalize lgG cs A = L at *
 generalize modI 0 1000 = R at *
 by_cases l2 : L.length < 2
 · simp (config := { maxSteps := 2000000 }) (disch := (first | omega | (simp only [lens, lenm]; omega))) only [go_sem, ↓reduceIte, Nat.reduceAdd, Nat.reduceEqDiff, Nat.reduceSub, Nat.reduceMul, Nat.reduceLT, Nat.reduceLeDiff, Nat.reduceBEq, Int.reduceEq, Int.reduceLT, Int.reduceLE, Int.reduceToNat, Int.reduceNeg, Int.reduceAdd, Int.reduceSub, Int.reduceMul, Int.reduceMod, Int.reduceDiv, reduceCtorEq, Nat.reducePow, Int.reducePow, ac_law28_ReplayOrder, h1, awake_eq, h2, hA, h3, hL, l2]
 have hE := rpE_ok lA2 vL
 have hR := rpl_eq (act := A) (rs := R) mL
 rw [hE] at hR
 have hM := mod_eq (a := p) (b := ((L.length - 1 : Nat) : Int)) ⟨hp, by omega⟩
 have lM := modI_lt (a := p) (m := ((L.length - 1 : Nat) : Int)) (by omega)
 obtain ⟨k, hk⟩ : ∃ k : Nat, modI p ((L.length - 1 : Nat) : Int) = k := ⟨(modI p ((L.length - 1 : Nat) : Int)).toNat, by omega⟩
 rw [hk] at hM lM
 have hk1 : k + 1 < L.length := by omega
 have hln : ((L.length : Int) - 1) = ((L.length - 1 : Nat) : Int) := by omega
 obtain ⟨f, hf⟩ : ∃ f, L[k]? = some f := ⟨L[k]'(by omega), by simp⟩
 obtain ⟨g, hg⟩ : ∃ g, L[k + 1]? = some g := ⟨L[k + 1], by simp [hk1]⟩
 have hc : ct_cut.fs [.t (.sl (nt.map byteT)), .t (.int .i64 64)] [] = _ := cut_eq (b := nt) (n := 64) ⟨hnt, by omega⟩
 have lc : (nt.take 64).length ≤ 64 := by rw [List.length_take]; omega
 have hK := makeO (r := 2) (k := 5) (act := A) (d := nt.take 64) ⟨by omega, by omega⟩
 have vK : evV A (mkE 2 5 A (nt.take 64)) := mkE_v (by omega) (by omega) lA2 lc
 have kK : (mkE 2 5 A (nt.take 64)).2.1 = 5 := rfl
 generalize nt.take 64 = N at *
 generalize mkE 2 5 A N = x at *
 have gf : L.getD k ev0 = f := by simp [List.getD, hf]
 have vf := vL f (List.mem_of_getElem? hf)
 have vg := vL g (List.mem_of_getElem? hg)
 have fin : ∀ (M : List Ev), M.length = L.length → (∀ e ∈ M, evV A e) → rpF A M = rpF A L →
     ct_rpl.fs [.t (.agg [.int .i64 A, .int .i64 0, .sl ((M.take k ++ [x] ++ M.drop k).map evT)])] [] = some (.tup [.t (.agg [.sl ((rpG A L).1.map bankT), .int .i64 (rpG A L).2]), .t (.int .i64 0)], []) := by
   intro M hl hv hr
   have hv' : ∀ e ∈ M.take k ++ [x] ++ M.drop k, evV A e := fun e he => by
     simp only [List.mem_append, List.mem_cons, List.not_mem_nil, or_false] at he
     rcases he with (he | rfl) | he
     · exact hv e (List.mem_of_mem_take he)
     · exact vK
     · exact hv e (List.mem_of_mem_drop he)
   have h := rpl_eq (act := A) (rs := 0) (es := M.take k ++ [x] ++ M.drop k) ⟨by simp; omega, fun e he => (hv' e he).2.x⟩
   rw [rpE_ok lA2 hv', rpG_ok lA2 hv'] at h
   rw [rpG_ok lA2 vL]
   have e1 : rpF A (M.take k ++ [x] ++ M.drop k) = rpF A L := by
     rw [List.append_assoc, List.singleton_append, rpF_note kK, List.take_append_drop]; exact hr
   rw [e1] at h
   exact h
 have hv := (rpG_rv (act := A) (es := L)).1
 have hq := eqR_eq (u := (rpG A L).2) hv.rm
 by_cases hne : f.1 = g.1
 · have hneb : (f.1 != g.1) = false := by simpa using hne
   have hF := fin L rfl vL rfl
   have td : List.take (L.length - k) (List.drop k L) = List.drop k L := List.take_of_length_le (by simp)
   have tA : List.take (k + 1 + (L.length - k)) (L.take k ++ [x] ++ L.drop k) = L.take k ++ [x] ++ L.drop k := List.take_of_length_le (by simp; omega)
   clear fin
   generalize rpG A L = X at *
   simp (config := { maxSteps := 2000000 }) (disch := (first | omega | (simp only [lens, lenm]; omega))) only [go_sem, ↓reduceIte, Nat.reduceAdd, Nat.reduceEqDiff, Nat.reduceSub, Nat.reduceMul, Nat.reduceLT, Nat.reduceLeDiff, Nat.reduceBEq, Int.reduceEq, Int.reduceLT, Int.reduceLE, Int.reduceToNat, Int.reduceNeg, Int.reduceAdd, Int.reduceSub, Int.reduceMul, Int.reduceMod, Int.reduceDiv, reduceCtorEq, Nat.reducePow, Int.reducePow, ac_law28_ReplayOrder, h1, awake_eq, h2, hA, h3, hL, l2, h4, hR, hln, h5, hM, zE, hf, hg, evT_c, evT_p, evT_tc, evT_agg, evT_all, evT_r0, hneb, h6, hc, h7, hK, List.take_length, td, tA, hF, h8, hq]
   all_goals repeat refine And.intro rfl ?_
   all_goals rfl
 · have hneb : (f.1 != g.1) = true := by simpa using hne
   have hMv : ∀ e ∈ (L.set k g).set (k + 1) f, evV A e := fun e he => by
     rcases List.mem_or_eq_of_mem_set he with he | rfl
     · rcases List.mem_or_eq_of_mem_set he with he | rfl
       · exact vL e he
       · exact vg
     · exact vf
   have hr : rpF A ((L.set k g).set (k + 1) f) = rpF A L := by
     rw [swap2 hf hg]
     have hs := split2 hf hg
     conv => rhs; rw [hs]
     exact rpF_swap lA2 (by rw [← hs]; exact vL) hne
   have hF := fin ((L.set k g).set (k + 1) f) (by simp) hMv hr
   have hM1 : ((L.set k g).set (k + 1) f).length = L.length := by simp
   obtain ⟨g', hg'⟩ : ∃ y, (L.set k g)[k + 1]? = some y := ⟨(L.set k g)[k + 1]'(by simp [hk1]), by simp [hk1]⟩
   generalize hMM : (L.set k g).set (k + 1) f = M at *
   have td : List.take (L.length - k) (List.drop k M) = List.drop k M := List.take_of_length_le (by simp; omega)
   have tA : List.take (k + 1 + (L.length - k)) (M.take k ++ [x] ++ M.drop k) = M.take k ++ [x] ++ M.drop k := List.take_of_length_le (by simp; omega)
   clear fin
   generalize rpG A L = X at *
   simp (config := { maxSteps := 2000000 }) (disch := (first | omega | (simp only [lens, lenm]; omega))) only [go_sem, ↓reduceIte, Nat.reduceAdd, Nat.reduceEqDiff, Nat.reduceSub, Nat.reduceMul, Nat.reduceLT, Nat.reduceLeDiff, Nat.reduceBEq, Int.reduceEq, Int.reduceLT, Int.reduceLE, Int.reduceToNat, Int.reduceNeg, Int.reduceAdd, Int.reduceSub, Int.reduceMul, Int.reduceMod, Int.reduceDiv, reduceCtorEq, Nat.reducePow, Int.reducePow, ac_law28_ReplayOrder, h1, awake_eq, h2, hA, h3, hL, l2, h4, hR, hln, h5, hM, zE, hf, hg, hg', evT_c, evT_p, evT_tc, evT_agg, evT_all, evT_r0, hneb, hMM, hM1, h6, hc, h7, hK, List.take_length, td, tA, hF, h8, hq]
   all_goals repeat refine And.intro rfl ?_
   all_goals rfl
theorem ShA.onB_eq {act : Int} {bk : List Bank} (h : ShA act bk) {a : Nat} (ha : a < 2) : onB bk a = decide (act / 2 ^ a % 2 = 1) := by
 obtain ⟨b0, b1, rfl, h0, h1, -, -⟩ := h
 rcases (show a = 0 ∨ a = 1 by omega) with rfl | rfl
 · unfold onB
   show decide (List.length b0 = 16) = _
   rw [h0]; by_cases q : act % 2 = 1 <;> simp [q]
 · unfold onB
   show decide (List.length b1 = 16) = _
   rw [h1]; by_cases q : act / 2 % 2 = 1 <;> simp [q]
def gP (act : Int) (g : Nat) (es : List Ev) (i : Nat) : Rg := (es.take i).foldl (gS g) (rp0 act)
theorem gP_s {act : Int} {g : Nat} {es : List Ev} {i : Nat} {e : Ev} (h : es[i]? = some e) : gP act g es (i + 1) = gS g (gP act g es i) e := by
 unfold gP
 rw [List.take_add_one, h, List.foldl_append]; rfl
theorem gP_rq {act : Int} (ha : 1 ≤ act ∧ act ≤ 3) {g : Nat} {es : List Ev} {i : Nat} : RQ act i (gP act g es i) := by
 have := RQ.gfold (g := g) (es := es.take i) (RQ.zero ha)
 rw [Nat.zero_add] at this
 exact this.up (by rw [List.length_take]; omega)
theorem w_ReplayLast (tab : Tab) (gl : Gl) (n1 n2 n3 n4 n5 n6 n7 n8 n9 : Nat) (h1 : tab.look n1 = some ct_awake.fs) (h2 : tab.look n2 = some ct_dact.fs) (h3 : tab.look n3 = some ct_dlg.fs) (h4 : tab.look n4 = some ct_mod.fs) (h5 : tab.look n5 = some ct_new.fs) (h6 : tab.look n6 = some ct_ext.fs) (h7 : tab.look n7 = some ct_rpl.fs) (h8 : tab.look n8 = some ct_val.fs) (h9 : tab.look n9 = some ct_same.fs)
   (cs : List UInt8) (hcs : cs.length ≤ 9223372036854775807) (a p : Int) (ha : rI a) (hp : rI p) :
   (ac_law28_ReplayLast n1 n2 n3 n4 n5 n6 n7 n8 n9).wp tab gl (zipF 0 [.t (.sl (cs.map byteT)), .t (.int .i64 a), .t (.int .i64 p)]) (zipF 0 []) (resW [(6, none)] 0 (fun r' o => r' = .t (.bool true) ∧ o = [])) := by
 have lA := modI_lt (a := a) (m := 3) (by omega)
 have hA := dact_eq ha
 obtain ⟨A, hAe⟩ : ∃ A, 1 + modI a 3 = A := ⟨_, rfl⟩
 rw [hAe] at hA
 have lA2 : 1 ≤ A ∧ A ≤ 3 := by omega
 have hL := dlg_eq (b := cs) (act := A) (n := 0) ⟨hcs, lA2, by unfold rI; omega⟩
 obtain ⟨vL, lL, mL⟩ := lgG_facts (cs := cs) lA2
 have hM := mod_eq (a := p) (b := 12) ⟨hp, by omega⟩
 have lM := modI_lt (a := p) (m := 12) (by omega)
 obtain ⟨g, hg⟩ : ∃ g : Nat, modI p 12 = g := ⟨(modI p 12).toNat, by omega⟩
 rw [hg] at hM lM
 have hg12 : g < 12 := by omega
 generalize lgG cs A = L at *
 generalize modI 0 1000 = R at *
 obtain ⟨b0, b1, hb, hl0, hl1, hN⟩ := new2 lA2
 have hx0 : gP A g L 0 = ([b0, b1], 0) := by rw [← hb]; rfl
 have hE := rpE_ok lA2 vL
 have hR := rpl_eq (act := A) (rs := R) mL
 rw [hE, rpG_ok lA2 vL] at hR
 simp (config := { maxSteps := 2000000 }) (disch := (first | omega | (simp only [lens, lenm]; omega))) only [go_sem, ↓reduceIte, Nat.reduceAdd, Nat.reduceEqDiff, Nat.reduceSub, Nat.reduceMul, Nat.reduceLT, Nat.reduceLeDiff, Nat.reduceBEq, Int.reduceEq, Int.reduceLT, Int.reduceLE, Int.reduceToNat, Int.reduceNeg, Int.reduceAdd, Int.reduceSub, Int.reduceMul, Int.reduceMod, Int.reduceDiv, reduceCtorEq, Nat.reducePow, Int.reducePow, ac_law28_ReplayLast, h1, awake_eq, h2, hA, h3, hL, h4, hM, h5, hN]
 refine loop_upto L.length (fun i => [(2, .t (.int .i64 g)), (7, .ref 16448 0 0), (8, .ref 24624 0 0), (9, .t (.int .i64 (i : Nat)))])
   (fun i => [(24624, .live 2 [.t (.agg [.sl ((gP A g L i).1.map bankT), .int .i64 (gP A g L i).2])] true true), (16448, .live 3 [.t (.agg [.int .i64 A, .int .i64 R, .sl (L.map evT)])] true true)]) ?_ (fun i hi => ?_)
 · refine Weak.cv (hv := []) [24609, 24610, 24608] id ?_ rfl
   simp (config := { maxSteps := 2000000 }) (disch := (first | omega | (simp only [lens, lenm]; omega))) only [go_sem, ↓reduceIte, Nat.reduceAdd, Nat.reduceEqDiff, Nat.reduceSub, Nat.reduceMul, Nat.reduceLT, Nat.reduceLeDiff, Nat.reduceBEq, Int.reduceEq, Int.reduceLT, Int.reduceLE, Int.reduceToNat, Int.reduceNeg, Int.reduceAdd, Int.reduceSub, Int.reduceMul, Int.reduceMod, Int.reduceDiv, reduceCtorEq, Nat.reducePow, Int.reducePow, id, hx0, List.map_nil, List.map_cons]
   all_goals rfl
 · by_cases hlt : i < L.length
   · obtain ⟨⟨er, k, ds, d⟩, he⟩ : ∃ e, L[i]? = some e := ⟨L[i], by simp [hlt]⟩
     have hv := vL _ (List.mem_of_getElem? he)
     have hs := gP_s (act := A) (g := g) he
     have hq := gP_rq lA2 (g := g) (es := L) (i := i)
     by_cases h5' : k = 5
     · subst h5'
       have hs' : gP A g L (i + 1) = gP A g L i := hs.trans (if_neg (fun h => h.1 rfl))
       generalize gP A g L i = X at *
       simp (config := { maxSteps := 2000000 }) (disch := (first | omega | (simp only [lens, lenm]; omega))) only [go_sem, ↓reduceIte, Nat.reduceAdd, Nat.reduceEqDiff, Nat.reduceSub, Nat.reduceMul, Nat.reduceLT, Nat.reduceLeDiff, Nat.reduceBEq, Int.reduceEq, Int.reduceLT, Int.reduceLE, Int.reduceToNat, Int.reduceNeg, Int.reduceAdd, Int.reduceSub, Int.reduceMul, Int.reduceMod, Int.reduceDiv, reduceCtorEq, Nat.reducePow, Int.reducePow, ac_law28_ReplayLast_L0, evT_def, he]
       repeat refine And.intro rfl ?_
       refine ⟨hlt, Weak.rd id ?_ ?_ rfl⟩
       all_goals simp (config := { maxSteps := 2000000 }) (disch := (first | omega | (simp only [lens, lenm]; omega))) only [go_sem, ↓reduceIte, Nat.reduceAdd, Nat.reduceEqDiff, Nat.reduceSub, Nat.reduceMul, Nat.reduceLT, Nat.reduceLeDiff, Nat.reduceBEq, Int.reduceEq, Int.reduceLT, Int.reduceLE, Int.reduceToNat, Int.reduceNeg, Int.reduceAdd, Int.reduceSub, Int.reduceMul, Int.reduceMod, Int.reduceDiv, reduceCtorEq, Nat.reducePow, Int.reducePow, id, hs']
     · have h5b : (k == 5) = false := by simpa using h5'
       by_cases hr : er = (g : Int)
       · subst hr
         have hs' : gP A g L (i + 1) = extP (gP A g L i) 0 g ds := hs.trans (if_pos ⟨h5', rfl⟩)
         have hX := ext_valG hq (by omega) hv.2.x hv.1 h5'
         rw [← hs'] at hX
         generalize hY : gP A g L (i + 1) = Y at *
         generalize gP A g L i = X at *
         simp (config := { maxSteps := 2000000 }) (disch := (first | omega | (simp only [lens, lenm]; omega))) only [go_sem, ↓reduceIte, Nat.reduceAdd, Nat.reduceEqDiff, Nat.reduceSub, Nat.reduceMul, Nat.reduceLT, Nat.reduceLeDiff, Nat.reduceBEq, Int.reduceEq, Int.reduceLT, Int.reduceLE, Int.reduceToNat, Int.reduceNeg, Int.reduceAdd, Int.reduceSub, Int.reduceMul, Int.reduceMod, Int.reduceDiv, reduceCtorEq, Nat.reducePow, Int.reducePow, ac_law28_ReplayLast_L0, evT_def, he, h5b, bne_self_eq_false, h6, hX]
         repeat refine And.intro rfl ?_
         refine ⟨hlt, Weak.rd id ?_ ?_ rfl⟩
         all_goals simp (config := { maxSteps := 2000000 }) (disch := (first | omega | (simp only [lens, lenm]; omega))) only [go_sem, ↓reduceIte, Nat.reduceAdd, Nat.reduceEqDiff, Nat.reduceSub, Nat.reduceMul, Nat.reduceLT, Nat.reduceLeDiff, Nat.reduceBEq, Int.reduceEq, Int.reduceLT, Int.reduceLE, Int.reduceToNat, Int.reduceNeg, Int.reduceAdd, Int.reduceSub, Int.reduceMul, Int.reduceMod, Int.reduceDiv, reduceCtorEq, Nat.reducePow, Int.reducePow, id, hY]
       · have hrb : (er != (g : Int)) = true := by simpa using hr
         have hs' : gP A g L (i + 1) = gP A g L i := hs.trans (if_neg (fun h => hr h.2))
         generalize gP A g L i = X at *
         simp (config := { maxSteps := 2000000 }) (disch := (first | omega | (simp only [lens, lenm]; omega))) only [go_sem, ↓reduceIte, Nat.reduceAdd, Nat.reduceEqDiff, Nat.reduceSub, Nat.reduceMul, Nat.reduceLT, Nat.reduceLeDiff, Nat.reduceBEq, Int.reduceEq, Int.reduceLT, Int.reduceLE, Int.reduceToNat, Int.reduceNeg, Int.reduceAdd, Int.reduceSub, Int.reduceMul, Int.reduceMod, Int.reduceDiv, reduceCtorEq, Nat.reducePow, Int.reducePow, ac_law28_ReplayLast_L0, evT_def, he, h5b, hrb]
         repeat refine And.intro rfl ?_
         refine ⟨hlt, Weak.rd id ?_ ?_ rfl⟩
         all_goals simp (config := { maxSteps := 2000000 }) (disch := (first | omega | (simp only [lens, lenm]; omega))) only [go_sem, ↓reduceIte, Nat.reduceAdd, Nat.reduceEqDiff, Nat.reduceSub, Nat.reduceMul, Nat.reduceLT, Nat.reduceLeDiff, Nat.reduceBEq, Int.reduceEq, Int.reduceLT, Int.reduceLE, Int.reduceToNat, Int.reduceNeg, Int.reduceAdd, Int.reduceSub, Int.reduceMul, Int.reduceMod, Int.reduceDiv, reduceCtorEq, Nat.reducePow, Int.reducePow, id, hs']
   · have e : i = L.length := by omega
     subst e
     have hgf : gP A g L L.length = gF A g L := by unfold gP gF; rw [List.take_length]
     have hq := (gP_rq lA2 (g := g) (es := L) (i := L.length)).1
     have hy := (rpF_rq lA2 (es := L)).1
     have heq := gF_eqv lA2 (g := g) (by omega) vL
     rw [hgf] at hq ⊢
     generalize gF A g L = X at *
     generalize rpF A L = Y at *
     obtain ⟨x, u⟩ := X
     obtain ⟨y, v⟩ := Y
     simp only at hq hy hR ⊢
     simp (config := { maxSteps := 2000000 }) (disch := (first | omega | (simp only [lens, lenm]; omega))) only [go_sem, ↓reduceIte, Nat.reduceAdd, Nat.reduceEqDiff, Nat.reduceSub, Nat.reduceMul, Nat.reduceLT, Nat.reduceLeDiff, Nat.reduceBEq, Int.reduceEq, Int.reduceLT, Int.reduceLE, Int.reduceToNat, Int.reduceNeg, Int.reduceAdd, Int.reduceSub, Int.reduceMul, Int.reduceMod, Int.reduceDiv, reduceCtorEq, Nat.reducePow, Int.reducePow, ac_law28_ReplayLast_L0, h7, hR]
     refine loop_upto 2 (fun k => [(2, .t (.int .i64 g)), (8, .ref 24624 0 0), (12, .ref 61520 0 0), (14, .t (.int .i64 (k : Nat)))])
       (fun k => [(61520, .live 2 [.t (.agg [.sl (y.map bankT), .int .i64 v])] true true), (24624, .live 2 [.t (.agg [.sl (x.map bankT), .int .i64 u])] true true)]) ?_ (fun k hk => ?_)
     · refine Weak.rd id ?_ ?_ rfl
       all_goals simp (config := { maxSteps := 2000000 }) (disch := (first | omega | (simp only [lens, lenm]; omega))) only [go_sem, ↓reduceIte, Nat.reduceAdd, Nat.reduceEqDiff, Nat.reduceSub, Nat.reduceMul, Nat.reduceLT, Nat.reduceLeDiff, Nat.reduceBEq, Int.reduceEq, Int.reduceLT, Int.reduceLE, Int.reduceToNat, Int.reduceNeg, Int.reduceAdd, Int.reduceSub, Int.reduceMul, Int.reduceMod, Int.reduceDiv, reduceCtorEq, Nat.reducePow, Int.reducePow, id]
     · by_cases hlt : k < 2
       · have ox := hq.onB_eq hlt
         have oy := hy.onB_eq hlt
         have hvv : valL x k g = valL y k g := by
           rcases (show k = 0 ∨ k = 1 by omega) with rfl | rfl
           · exact heq.1
           · exact heq.2
         have lx := valL_le hq.rv (a := k) (g := g)
         by_cases hbt : A / 2 ^ k % 2 = 1
         · rw [decide_eq_true hbt] at ox oy
           have vx := val_on (u := u) hq.rv.rm hlt (show g < 16 by omega) ox
           have vy := val_on (u := v) hy.rv.rm hlt (show g < 16 by omega) oy
           rw [← hvv] at vy
           generalize valL x k g = B at *
           have hS := same_refl (a := B) (by omega)
           have tB : List.take B.length B = B := List.take_length
           simp (config := { maxSteps := 2000000 }) (disch := (first | omega | (simp only [lens, lenm]; omega))) only [go_sem, ↓reduceIte, Nat.reduceAdd, Nat.reduceEqDiff, Nat.reduceSub, Nat.reduceMul, Nat.reduceLT, Nat.reduceLeDiff, Nat.reduceBEq, Int.reduceEq, Int.reduceLT, Int.reduceLE, Int.reduceToNat, Int.reduceNeg, Int.reduceAdd, Int.reduceSub, Int.reduceMul, Int.reduceMod, Int.reduceDiv, reduceCtorEq, Nat.reducePow, Int.reducePow, ac_law28_ReplayLast_L1, h8, vx, vy, tB, h9, hS]
           repeat refine And.intro rfl ?_
           refine ⟨hlt, Weak.rd id ?_ ?_ rfl⟩
           all_goals simp (config := { maxSteps := 2000000 }) (disch := (first | omega | (simp only [lens, lenm]; omega))) only [go_sem, ↓reduceIte, Nat.reduceAdd, Nat.reduceEqDiff, Nat.reduceSub, Nat.reduceMul, Nat.reduceLT, Nat.reduceLeDiff, Nat.reduceBEq, Int.reduceEq, Int.reduceLT, Int.reduceLE, Int.reduceToNat, Int.reduceNeg, Int.reduceAdd, Int.reduceSub, Int.reduceMul, Int.reduceMod, Int.reduceDiv, reduceCtorEq, Nat.reducePow, Int.reducePow, id]
         · rw [decide_eq_false hbt] at ox oy
           have vx := val_off (u := u) hq.rv.rm hlt (show g < 16 by omega) ox
           have vy := val_off (u := v) hy.rv.rm hlt (show g < 16 by omega) oy
           have hS : ct_same.fs [.t (.sl []), .t (.sl [])] [] = some (.t (.bool true), []) := same_refl (a := []) (by simp)
           simp (config := { maxSteps := 2000000 }) (disch := (first | omega | (simp only [lens, lenm]; omega))) only [go_sem, ↓reduceIte, Nat.reduceAdd, Nat.reduceEqDiff, Nat.reduceSub, Nat.reduceMul, Nat.reduceLT, Nat.reduceLeDiff, Nat.reduceBEq, Int.reduceEq, Int.reduceLT, Int.reduceLE, Int.reduceToNat, Int.reduceNeg, Int.reduceAdd, Int.reduceSub, Int.reduceMul, Int.reduceMod, Int.reduceDiv, reduceCtorEq, Nat.reducePow, Int.reducePow, ac_law28_ReplayLast_L1, h8, vx, vy, h9, hS]
           repeat refine And.intro rfl ?_
           refine ⟨hlt, Weak.rd id ?_ ?_ rfl⟩
           all_goals simp (config := { maxSteps := 2000000 }) (disch := (first | omega | (simp only [lens, lenm]; omega))) only [go_sem, ↓reduceIte, Nat.reduceAdd, Nat.reduceEqDiff, Nat.reduceSub, Nat.reduceMul, Nat.reduceLT, Nat.reduceLeDiff, Nat.reduceBEq, Int.reduceEq, Int.reduceLT, Int.reduceLE, Int.reduceToNat, Int.reduceNeg, Int.reduceAdd, Int.reduceSub, Int.reduceMul, Int.reduceMod, Int.reduceDiv, reduceCtorEq, Nat.reducePow, Int.reducePow, id]
       · have e : k = 2 := by omega
         subst e
         simp (config := { maxSteps := 2000000 }) (disch := (first | omega | (simp only [lens, lenm]; omega))) only [go_sem, ↓reduceIte, Nat.reduceAdd, Nat.reduceEqDiff, Nat.reduceSub, Nat.reduceMul, Nat.reduceLT, Nat.reduceLeDiff, Nat.reduceBEq, Int.reduceEq, Int.reduceLT, Int.reduceLE, Int.reduceToNat, Int.reduceNeg, Int.reduceAdd, Int.reduceSub, Int.reduceMul, Int.reduceMod, Int.reduceDiv, reduceCtorEq, Nat.reducePow, Int.reducePow, ac_law28_ReplayLast_L1]
def ct_leq : Ct where
 α := Rg × Rg × Nat
 as x := [.t (regT x.1.1 x.1.2), .t (regT x.2.1.1 x.2.1.2), .t (.int .i64 x.2.2)]
 ins _ := []
 pre x := (∃ act, ShA act x.1.1 ∧ ShA act x.2.1.1) ∧ x.2.2 < 12
 r x := .t (.bool (decide (eqv x.1 x.2.1 x.2.2)))
 outs _ := []
 inj := by
   rintro ⟨⟨a, u⟩, ⟨b, v⟩, g⟩ ⟨⟨a', u'⟩, ⟨b', v'⟩, g'⟩ h _
   simp only [List.cons.injEq, V.t.injEq, T.int.injEq, true_and, and_true, Int.natCast_inj] at h
   obtain ⟨h1, h2, rfl⟩ := h
   obtain ⟨rfl, rfl⟩ := regT_inj h1
   obtain ⟨rfl, rfl⟩ := regT_inj h2
   exact ⟨rfl, rfl⟩
theorem leq_eq {x r : Rg} {act : Int} {g : Nat} (hx : ShA act x.1) (hr : ShA act r.1) (hg : g < 12) : ct_leq.fs [.t (.agg [.sl (x.1.map bankT), .int .i64 x.2]), .t (.agg [.sl (r.1.map bankT), .int .i64 r.2]), .t (.int .i64 g)] [] = some (.t (.bool (decide (eqv x r g))), []) := ct_leq.eq (x, r, g) ⟨⟨act, hx, hr⟩, hg⟩
theorem w_law28_equal (tab : Tab) (gl : Gl) (n1 n2 : Nat) (h1 : tab.look n1 = some ct_val.fs) (h2 : tab.look n2 = some ct_same.fs) (x r : Rg) (act : Int) (g : Nat) (hx : ShA act x.1) (hr : ShA act r.1) (hg : g < 12) :
   (ac_law28_equal n1 n2).wp tab gl (zipF 0 [.t (regT x.1 x.2), .t (regT r.1 r.2), .t (.int .i64 g)]) (zipF 0 []) (resW [(6, none)] 0 (fun r' o => r' = .t (.bool (decide (eqv x r g))) ∧ o = [])) := by
 have hv := hx.rv
 have hw := hr.rv
 obtain ⟨x, u⟩ := x
 obtain ⟨r, v⟩ := r
 simp only at hx hr hv hw ⊢
 generalize hD : decide (eqv (x, u) (r, v) g) = D
 simp (config := { maxSteps := 2000000 }) (disch := (first | omega | (simp only [lens, lenm]; omega))) only [go_sem, ↓reduceIte, Nat.reduceAdd, Nat.reduceEqDiff, Nat.reduceSub, Nat.reduceMul, Nat.reduceLT, Nat.reduceLeDiff, Nat.reduceBEq, Int.reduceEq, Int.reduceLT, Int.reduceLE, Int.reduceToNat, Int.reduceNeg, Int.reduceAdd, Int.reduceSub, Int.reduceMul, Int.reduceMod, Int.reduceDiv, reduceCtorEq, Nat.reducePow, Int.reducePow, ac_law28_equal]
 refine loop_uptoP 2 (fun i => ∀ a, a < i → valL x a g = valL r a g) (fun i => [(2, .t (.int .i64 g)), (3, .ref 4096 0 0), (4, .ref 4112 0 0), (7, .t (.int .i64 (i : Nat)))])
   (fun _ => [(4112, .live 2 [.t (.agg [.sl (r.map bankT), .int .i64 v])] true true), (4096, .live 2 [.t (.agg [.sl (x.map bankT), .int .i64 u])] true true)]) (by intro a h; omega) ?_ (fun i hi hP => ?_)
 · refine Weak.rd id ?_ ?_ rfl
   all_goals simp (config := { maxSteps := 2000000 }) (disch := (first | omega | (simp only [lens, lenm]; omega))) only [go_sem, ↓reduceIte, Nat.reduceAdd, Nat.reduceEqDiff, Nat.reduceSub, Nat.reduceMul, Nat.reduceLT, Nat.reduceLeDiff, Nat.reduceBEq, Int.reduceEq, Int.reduceLT, Int.reduceLE, Int.reduceToNat, Int.reduceNeg, Int.reduceAdd, Int.reduceSub, Int.reduceMul, Int.reduceMod, Int.reduceDiv, reduceCtorEq, Nat.reducePow, Int.reducePow, id]
 · by_cases hlt : i < 2
   · have ox := hx.onB_eq hlt
     have oy := hr.onB_eq hlt
     have lx := valL_le hv (a := i) (g := g)
     have ly := valL_le hw (a := i) (g := g)
     have up : valL x i g = valL r i g → ∀ a, a < i + 1 → valL x a g = valL r a g := fun h a h' => by
       by_cases e : a = i
       · subst e; exact h
       · exact hP a (by omega)
     by_cases hbt : act / 2 ^ i % 2 = 1
     · rw [decide_eq_true hbt] at ox oy
       have vx := val_on (u := u) hv.rm hlt (show g < 16 by omega) ox
       have vy := val_on (u := v) hw.rm hlt (show g < 16 by omega) oy
       generalize hA : valL x i g = A at *
       generalize hB : valL r i g = B at *
       have hS := same_eq (a := A) (b := B) ⟨by omega, by omega⟩
       have tA : List.take A.length A = A := List.take_length
       have tB : List.take B.length B = B := List.take_length
       by_cases q : A = B
       · rw [decide_eq_true q] at hS
         simp (config := { maxSteps := 2000000 }) (disch := (first | omega | (simp only [lens, lenm]; omega))) only [go_sem, ↓reduceIte, Nat.reduceAdd, Nat.reduceEqDiff, Nat.reduceSub, Nat.reduceMul, Nat.reduceLT, Nat.reduceLeDiff, Nat.reduceBEq, Int.reduceEq, Int.reduceLT, Int.reduceLE, Int.reduceToNat, Int.reduceNeg, Int.reduceAdd, Int.reduceSub, Int.reduceMul, Int.reduceMod, Int.reduceDiv, reduceCtorEq, Nat.reducePow, Int.reducePow, ac_law28_equal_L0, h1, vx, vy, tA, tB, h2, hS]
         repeat refine And.intro rfl ?_
         refine ⟨hlt, up q, Weak.rd id ?_ ?_ rfl⟩
         all_goals simp (config := { maxSteps := 2000000 }) (disch := (first | omega | (simp only [lens, lenm]; omega))) only [go_sem, ↓reduceIte, Nat.reduceAdd, Nat.reduceEqDiff, Nat.reduceSub, Nat.reduceMul, Nat.reduceLT, Nat.reduceLeDiff, Nat.reduceBEq, Int.reduceEq, Int.reduceLT, Int.reduceLE, Int.reduceToNat, Int.reduceNeg, Int.reduceAdd, Int.reduceSub, Int.reduceMul, Int.reduceMod, Int.reduceDiv, reduceCtorEq, Nat.reducePow, Int.reducePow, id]
       · have hd : D = false := by
           rw [← hD]
           refine decide_eq_false fun h => q ?_
           rw [← hA, ← hB]
           rcases (show i = 0 ∨ i = 1 by omega) with rfl | rfl
           · exact h.1
           · exact h.2
         rw [decide_eq_false q] at hS
         rw [hd]
         simp (config := { maxSteps := 2000000 }) (disch := (first | omega | (simp only [lens, lenm]; omega))) only [go_sem, ↓reduceIte, Nat.reduceAdd, Nat.reduceEqDiff, Nat.reduceSub, Nat.reduceMul, Nat.reduceLT, Nat.reduceLeDiff, Nat.reduceBEq, Int.reduceEq, Int.reduceLT, Int.reduceLE, Int.reduceToNat, Int.reduceNeg, Int.reduceAdd, Int.reduceSub, Int.reduceMul, Int.reduceMod, Int.reduceDiv, reduceCtorEq, Nat.reducePow, Int.reducePow, ac_law28_equal_L0, h1, vx, vy, tA, tB, h2, hS]
         all_goals rfl
     · rw [decide_eq_false hbt] at ox oy
       have vx := val_off (u := u) hv.rm hlt (show g < 16 by omega) ox
       have vy := val_off (u := v) hw.rm hlt (show g < 16 by omega) oy
       have hS : ct_same.fs [.t (.sl []), .t (.sl [])] [] = some (.t (.bool true), []) := same_refl (a := []) (by simp)
       have hz : ∀ {bk : List Bank}, ShA act bk → valL bk i g = [] := by
         rintro bk ⟨b0, b1, rfl, h0, h1, -, -⟩
         rcases (show i = 0 ∨ i = 1 by omega) with rfl | rfl
         · rw [if_neg (by simpa using hbt)] at h0
           rw [List.length_eq_zero_iff.1 h0]; rfl
         · rw [if_neg (by simpa using hbt)] at h1
           rw [List.length_eq_zero_iff.1 h1]; rfl
       have q : valL x i g = valL r i g := (hz hx).trans (hz hr).symm
       simp (config := { maxSteps := 2000000 }) (disch := (first | omega | (simp only [lens, lenm]; omega))) only [go_sem, ↓reduceIte, Nat.reduceAdd, Nat.reduceEqDiff, Nat.reduceSub, Nat.reduceMul, Nat.reduceLT, Nat.reduceLeDiff, Nat.reduceBEq, Int.reduceEq, Int.reduceLT, Int.reduceLE, Int.reduceToNat, Int.reduceNeg, Int.reduceAdd, Int.reduceSub, Int.reduceMul, Int.reduceMod, Int.reduceDiv, reduceCtorEq, Nat.reducePow, Int.reducePow, ac_law28_equal_L0, h1, vx, vy, h2, hS]
       repeat refine And.intro rfl ?_
       refine ⟨hlt, up q, Weak.rd id ?_ ?_ rfl⟩
       all_goals simp (config := { maxSteps := 2000000 }) (disch := (first | omega | (simp only [lens, lenm]; omega))) only [go_sem, ↓reduceIte, Nat.reduceAdd, Nat.reduceEqDiff, Nat.reduceSub, Nat.reduceMul, Nat.reduceLT, Nat.reduceLeDiff, Nat.reduceBEq, Int.reduceEq, Int.reduceLT, Int.reduceLE, Int.reduceToNat, Int.reduceNeg, Int.reduceAdd, Int.reduceSub, Int.reduceMul, Int.reduceMod, Int.reduceDiv, reduceCtorEq, Nat.reducePow, Int.reducePow, id]
   · have e : i = 2 := by omega
     subst e
     have hd : D = true := by rw [← hD]; exact decide_eq_true ⟨hP 0 (by omega), hP 1 (by omega)⟩
     rw [hd]
     simp (config := { maxSteps := 2000000 }) (disch := (first | omega | (simp only [lens, lenm]; omega))) only [go_sem, ↓reduceIte, Nat.reduceAdd, Nat.reduceEqDiff, Nat.reduceSub, Nat.reduceMul, Nat.reduceLT, Nat.reduceLeDiff, Nat.reduceBEq, Int.reduceEq, Int.reduceLT, Int.reduceLE, Int.reduceToNat, Int.reduceNeg, Int.reduceAdd, Int.reduceSub, Int.reduceMul, Int.reduceMod, Int.reduceDiv, reduceCtorEq, Nat.reducePow, Int.reducePow, ac_law28_equal_L0]
def rgT (x : Rg) : T := regT x.1 x.2
theorem rgT_def {a : List Bank} {u : Int} : rgT (a, u) = .agg [.sl (a.map bankT), .int .i64 u] := Eq.trans (Eq.refl _) rfl
def ct_agn : Ct where
 α := Lg
 as l := [.t (lgT l)]
 ins _ := []
 pre l := (esM l.2.2 ∧ ∀ e ∈ l.2.2, evV l.1 e) ∧ 1 ≤ l.1 ∧ l.1 ≤ 3
 r l := .t (.bool (agI l.1 l.2.2))
 outs _ := []
 inj := by
   intro l m h _
   simp only [List.cons.injEq, V.t.injEq, and_true] at h
   cases lgT_inj h
   exact ⟨rfl, rfl⟩
theorem agn_eq {act rs : Int} {es : List Ev} (h : (esM es ∧ ∀ e ∈ es, evV act e) ∧ 1 ≤ act ∧ act ≤ 3) : ct_agn.fs [.t (.agg [.int .i64 act, .int .i64 rs, .sl (es.map evT)])] [] = some (.t (.bool (agI act es)), []) := ct_agn.eq (act, rs, es) h
theorem w_law28_again (tab : Tab) (gl : Gl) (n1 n2 n3 : Nat) (h1 : tab.look n1 = some ct_new.fs) (h2 : tab.look n2 = some ct_ext.fs) (h3 : tab.look n3 = some ct_leq.fs) (act rs : Int) (es : List Ev) (hm : esM es) (hv : ∀ e ∈ es, evV act e) (ha : 1 ≤ act ∧ act ≤ 3) :
   (ac_law28_again n1 n2 n3).wp tab gl (zipF 0 [.t (lgT (act, rs, es))]) (zipF 0 []) (resW [(2, none)] 0 (fun r' o => r' = .t (.bool (agI act es)) ∧ o = [])) := by
 obtain ⟨b0, b1, hb, hl0, hl1, hN⟩ := new2 ha
 have hlen := hm.1
 have hq0 := RQ.zero ha
 have e0 : rp0 act = ([b0, b1], 0) := by rw [← hb]; rfl
 have t0 : List.take b0.length b0 = b0 := List.take_length
 have t1 : List.take b1.length b1 = b1 := List.take_length
 have hT : ∀ g, g < 12 → agS g es (rp0 act) [rp0 act] = true → agI act es = true := fun g hg h => List.any_eq_true.2 ⟨g, List.mem_range.2 hg, h⟩
 have hF : (∀ g, g < 12 → agS g es (rp0 act) [rp0 act] = false) → agI act es = false := fun h => List.any_eq_false.2 fun g hg => by simpa using h g (List.mem_range.1 hg)
 generalize agI act es = R at *
 simp (config := { maxSteps := 2000000 }) (disch := (first | omega | (simp only [lens, lenm]; omega))) only [go_sem, ↓reduceIte, Nat.reduceAdd, Nat.reduceEqDiff, Nat.reduceSub, Nat.reduceMul, Nat.reduceLT, Nat.reduceLeDiff, Nat.reduceBEq, Int.reduceEq, Int.reduceLT, Int.reduceLE, Int.reduceToNat, Int.reduceNeg, Int.reduceAdd, Int.reduceSub, Int.reduceMul, Int.reduceMod, Int.reduceDiv, reduceCtorEq, Nat.reducePow, Int.reducePow, ac_law28_again, lgT_def]
 refine loop_uptoP 12 (fun g => ∀ g', g' < g → agS g' es (rp0 act) [rp0 act] = false) (fun g => [(1, .ref 4096 0 0), (3, .t (.int .i64 (g : Nat)))])
   (fun _ => [(4096, .live 3 [.t (.agg [.int .i64 act, .int .i64 rs, .sl (es.map evT)])] true true)]) (by intro a h; omega) ?_ (fun g hg hP => ?_)
 · refine Weak.rd id ?_ ?_ rfl
   all_goals simp (config := { maxSteps := 2000000 }) (disch := (first | omega | (simp only [lens, lenm]; omega))) only [go_sem, ↓reduceIte, Nat.reduceAdd, Nat.reduceEqDiff, Nat.reduceSub, Nat.reduceMul, Nat.reduceLT, Nat.reduceLeDiff, Nat.reduceBEq, Int.reduceEq, Int.reduceLT, Int.reduceLE, Int.reduceToNat, Int.reduceNeg, Int.reduceAdd, Int.reduceSub, Int.reduceMul, Int.reduceMod, Int.reduceDiv, reduceCtorEq, Nat.reducePow, Int.reducePow, id]
 · by_cases hlt : g < 12
   · have hTg := hT g hlt
     have hPg : agS g es (rp0 act) [rp0 act] = false → ∀ g', g' < g + 1 → agS g' es (rp0 act) [rp0 act] = false := fun h g' h' => by
       by_cases e : g' = g
       · subst e; exact h
       · exact hP g' (by omega)
     generalize hS : agS g es (rp0 act) [rp0 act] = S at *
     simp (config := { maxSteps := 2000000 }) (disch := (first | omega | (simp only [lens, lenm]; omega))) only [go_sem, ↓reduceIte, Nat.reduceAdd, Nat.reduceEqDiff, Nat.reduceSub, Nat.reduceMul, Nat.reduceLT, Nat.reduceLeDiff, Nat.reduceBEq, Int.reduceEq, Int.reduceLT, Int.reduceLE, Int.reduceToNat, Int.reduceNeg, Int.reduceAdd, Int.reduceSub, Int.reduceMul, Int.reduceMod, Int.reduceDiv, reduceCtorEq, Nat.reducePow, Int.reducePow, ac_law28_again_L0, h1, hN, t0, t1]
     refine loop_inv (σ := Nat × Rg × List Rg) (fun s => s.1 ≤ es.length ∧ RQ act s.1 s.2.1 ∧ (∀ y ∈ s.2.2, ShA act y.1) ∧ s.2.2.length ≤ s.1 + 1 ∧ agS g (es.drop s.1) s.2.1 s.2.2 = S) (fun s => es.length - s.1)
       (fun s => [(1, .ref 4096 0 0), (3, .t (.int .i64 g)), (4, .ref 20528 0 0), (5, .sl 9000 0 s.2.2.length), (6, .t (.int .i64 (s.1 : Nat)))])
       (fun s => [(9000, .live 2 ((s.2.2.map rgT).map V.t) true false), (20528, .live 2 [.t (.agg [.sl (s.2.1.1.map bankT), .int .i64 s.2.1.2])] true true), (4096, .live 3 [.t (.agg [.int .i64 act, .int .i64 rs, .sl (es.map evT)])] true true)]) (0, rp0 act, [rp0 act]) ⟨Nat.zero_le _, hq0, ?_, by simp, hS⟩ ?_ ?_
     · intro y hy
       simp only [List.mem_singleton] at hy
       subst hy; exact hq0.1
     · refine Weak.cv (hv := []) (ho := [(9000, .live 2 (([rp0 act].map rgT).map V.t) true false), (20528, .live 2 [.t (.agg [.sl ((rp0 act).1.map bankT), .int .i64 (rp0 act).2])] true true), (4096, .live 3 [.t (.agg [.int .i64 act, .int .i64 rs, .sl (es.map evT)])] true true)]) [20513, 20514, 20512] (fun j => if j = 9000 then 24592 else j) ?_ rfl
       simp (config := { maxSteps := 2000000 }) (disch := (first | omega | (simp only [lens, lenm]; omega))) only [go_sem, ↓reduceIte, Nat.reduceAdd, Nat.reduceEqDiff, Nat.reduceSub, Nat.reduceMul, Nat.reduceLT, Nat.reduceLeDiff, Nat.reduceBEq, Int.reduceEq, Int.reduceLT, Int.reduceLE, Int.reduceToNat, Int.reduceNeg, Int.reduceAdd, Int.reduceSub, Int.reduceMul, Int.reduceMod, Int.reduceDiv, reduceCtorEq, Nat.reducePow, Int.reducePow, e0, rgT_def, List.map_nil, List.map_cons]
       all_goals rfl
     · rintro ⟨i, x, seen⟩ ⟨hi, hx, hsn, hsl, hE⟩
       simp only at hi hx hsn hsl hE ⊢
       by_cases hli : i < es.length
       · obtain ⟨⟨er, k, ds, d⟩, he⟩ : ∃ e, es[i]? = some e := ⟨es[i], by simp [hli]⟩
         have hmx := hm.2 _ (List.mem_of_getElem? he)
         have hcx := (hv _ (List.mem_of_getElem? he)).1
         rw [drop_at he, agS] at hE
         by_cases hk : er = (g : Int)
         · subst hk
           by_cases h5 : k = 5
           · subst h5
             rw [if_neg (fun h => h.1 rfl)] at hE
             simp (config := { maxSteps := 2000000 }) (disch := (first | omega | (simp only [lens, lenm]; omega))) only [go_sem, ↓reduceIte, Nat.reduceAdd, Nat.reduceEqDiff, Nat.reduceSub, Nat.reduceMul, Nat.reduceLT, Nat.reduceLeDiff, Nat.reduceBEq, Int.reduceEq, Int.reduceLT, Int.reduceLE, Int.reduceToNat, Int.reduceNeg, Int.reduceAdd, Int.reduceSub, Int.reduceMul, Int.reduceMod, Int.reduceDiv, reduceCtorEq, Nat.reducePow, Int.reducePow, ac_law28_again_L1, evT_def, he, bne_self_eq_false]
             repeat refine And.intro rfl ?_
             refine invG.of (i + 1, x, seen) ⟨by simp only; omega, hx.up (by omega), hsn, by simp only; omega, hE⟩ (by simp only; omega) (Weak.rd id ?_ ?_ rfl)
             all_goals simp (config := { maxSteps := 2000000 }) (disch := (first | omega | (simp only [lens, lenm]; omega))) only [go_sem, ↓reduceIte, Nat.reduceAdd, Nat.reduceEqDiff, Nat.reduceSub, Nat.reduceMul, Nat.reduceLT, Nat.reduceLeDiff, Nat.reduceBEq, Int.reduceEq, Int.reduceLT, Int.reduceLE, Int.reduceToNat, Int.reduceNeg, Int.reduceAdd, Int.reduceSub, Int.reduceMul, Int.reduceMod, Int.reduceDiv, reduceCtorEq, Nat.reducePow, Int.reducePow, id]
           · have h5b : (k == 5) = false := by simpa using h5
             rw [if_pos ⟨h5, rfl⟩] at hE
             have hX := ext_valG hx (by omega) hmx hcx h5
             have hqx := hx.ext 0 g ds
             simp only at hE
             generalize extP x 0 g ds = Y at *
             obtain ⟨y, v⟩ := Y
             simp (config := { maxSteps := 2000000 }) (disch := (first | omega | (simp only [lens, lenm]; omega))) only [go_sem, ↓reduceIte, Nat.reduceAdd, Nat.reduceEqDiff, Nat.reduceSub, Nat.reduceMul, Nat.reduceLT, Nat.reduceLeDiff, Nat.reduceBEq, Int.reduceEq, Int.reduceLT, Int.reduceLE, Int.reduceToNat, Int.reduceNeg, Int.reduceAdd, Int.reduceSub, Int.reduceMul, Int.reduceMod, Int.reduceDiv, reduceCtorEq, Nat.reducePow, Int.reducePow, ac_law28_again_L1, evT_def, he, bne_self_eq_false, h5b, h2, hX]
             repeat refine And.intro rfl ?_
             refine loop_uptoP seen.length (fun j => (seen.take j).any (fun s => decide (eqv s (y, v) g)) = false) (fun j => [(1, .ref 4096 0 0), (3, .t (.int .i64 g)), (4, .ref 20528 0 0), (5, .sl 9000 0 seen.length), (6, .t (.int .i64 (i : Nat))), (7, .t (.int .i64 (j : Nat)))])
               (fun _ => [(9000, .live 2 ((seen.map rgT).map V.t) true false), (20528, .live 2 [.t (.agg [.sl (y.map bankT), .int .i64 v])] true true), (4096, .live 3 [.t (.agg [.int .i64 act, .int .i64 rs, .sl (es.map evT)])] true true)]) rfl ?_ (fun j hj hQ => ?_)
             · refine Weak.rd id ?_ ?_ rfl
               all_goals simp (config := { maxSteps := 2000000 }) (disch := (first | omega | (simp only [lens, lenm]; omega))) only [go_sem, ↓reduceIte, Nat.reduceAdd, Nat.reduceEqDiff, Nat.reduceSub, Nat.reduceMul, Nat.reduceLT, Nat.reduceLeDiff, Nat.reduceBEq, Int.reduceEq, Int.reduceLT, Int.reduceLE, Int.reduceToNat, Int.reduceNeg, Int.reduceAdd, Int.reduceSub, Int.reduceMul, Int.reduceMod, Int.reduceDiv, reduceCtorEq, Nat.reducePow, Int.reducePow, id]
             · by_cases hlj : j < seen.length
               · obtain ⟨⟨z, w⟩, hz⟩ : ∃ y, seen[j]? = some y := ⟨seen[j], by simp [hlj]⟩
                 have hzs := hsn _ (List.mem_of_getElem? hz)
                 have hL := leq_eq (x := (z, w)) (r := (y, v)) hzs hqx.1 hlt
                 have hst : (seen.take (j + 1)).any (fun s => decide (eqv s (y, v) g)) = decide (eqv (z, w) (y, v) g) := by
                   rw [List.take_add_one, hz, List.any_append, hQ]; simp
                 cases q : decide (eqv (z, w) (y, v) g)
                 · rw [q] at hL hst
                   simp (config := { maxSteps := 2000000 }) (disch := (first | omega | (simp only [lens, lenm]; omega))) only [go_sem, ↓reduceIte, Nat.reduceAdd, Nat.reduceEqDiff, Nat.reduceSub, Nat.reduceMul, Nat.reduceLT, Nat.reduceLeDiff, Nat.reduceBEq, Int.reduceEq, Int.reduceLT, Int.reduceLE, Int.reduceToNat, Int.reduceNeg, Int.reduceAdd, Int.reduceSub, Int.reduceMul, Int.reduceMod, Int.reduceDiv, reduceCtorEq, Nat.reducePow, Int.reducePow, ac_law28_again_L2, rgT_def, hz, h3, hL]
                   repeat refine And.intro rfl ?_
                   refine ⟨hlj, hst, Weak.rd id ?_ ?_ rfl⟩
                   all_goals simp (config := { maxSteps := 2000000 }) (disch := (first | omega | (simp only [lens, lenm]; omega))) only [go_sem, ↓reduceIte, Nat.reduceAdd, Nat.reduceEqDiff, Nat.reduceSub, Nat.reduceMul, Nat.reduceLT, Nat.reduceLeDiff, Nat.reduceBEq, Int.reduceEq, Int.reduceLT, Int.reduceLE, Int.reduceToNat, Int.reduceNeg, Int.reduceAdd, Int.reduceSub, Int.reduceMul, Int.reduceMod, Int.reduceDiv, reduceCtorEq, Nat.reducePow, Int.reducePow, id]
                 · rw [q] at hL
                   have hany : seen.any (fun s => decide (eqv s (y, v) g)) = true := List.any_eq_true.2 ⟨(z, w), List.mem_of_getElem? hz, q⟩
                   rw [hany, if_pos rfl] at hE
                   have hR := hTg hE.symm
                   rw [hR]
                   simp (config := { maxSteps := 2000000 }) (disch := (first | omega | (simp only [lens, lenm]; omega))) only [go_sem, ↓reduceIte, Nat.reduceAdd, Nat.reduceEqDiff, Nat.reduceSub, Nat.reduceMul, Nat.reduceLT, Nat.reduceLeDiff, Nat.reduceBEq, Int.reduceEq, Int.reduceLT, Int.reduceLE, Int.reduceToNat, Int.reduceNeg, Int.reduceAdd, Int.reduceSub, Int.reduceMul, Int.reduceMod, Int.reduceDiv, reduceCtorEq, Nat.reducePow, Int.reducePow, ac_law28_again_L2, rgT_def, hz, h3, hL]
                   all_goals rfl
               · have ej : j = seen.length := by omega
                 subst ej
                 rw [List.take_length] at hQ
                 rw [hQ, if_neg (by decide)] at hE
                 simp (config := { maxSteps := 2000000 }) (disch := (first | omega | (simp only [lens, lenm]; omega))) only [go_sem, ↓reduceIte, Nat.reduceAdd, Nat.reduceEqDiff, Nat.reduceSub, Nat.reduceMul, Nat.reduceLT, Nat.reduceLeDiff, Nat.reduceBEq, Int.reduceEq, Int.reduceLT, Int.reduceLE, Int.reduceToNat, Int.reduceNeg, Int.reduceAdd, Int.reduceSub, Int.reduceMul, Int.reduceMod, Int.reduceDiv, reduceCtorEq, Nat.reducePow, Int.reducePow, ac_law28_again_L2]
                 repeat refine And.intro rfl ?_
                 refine invG.of (i + 1, (y, v), seen ++ [(y, v)]) ⟨by simp only; omega, hqx, ?_, by simp; omega, hE⟩ (by simp only; omega) (Weak.cv (hv := []) (ho := [(9000, .live 2 (((seen ++ [(y, v)]).map rgT).map V.t) true false), (20528, .live 2 [.t (.agg [.sl (y.map bankT), .int .i64 v])] true true), (4096, .live 3 [.t (.agg [.int .i64 act, .int .i64 rs, .sl (es.map evT)])] true true)]) [] (fun j => if j = 9000 then 69680 else j) ?_ rfl)
                 · intro s hs
                   simp only [List.mem_append, List.mem_singleton] at hs
                   rcases hs with hs | rfl
                   · exact hsn s hs
                   · exact hqx.1
                 · simp (config := { maxSteps := 2000000 }) (disch := (first | omega | (simp only [lens, lenm]; omega))) only [go_sem, ↓reduceIte, Nat.reduceAdd, Nat.reduceEqDiff, Nat.reduceSub, Nat.reduceMul, Nat.reduceLT, Nat.reduceLeDiff, Nat.reduceBEq, Int.reduceEq, Int.reduceLT, Int.reduceLE, Int.reduceToNat, Int.reduceNeg, Int.reduceAdd, Int.reduceSub, Int.reduceMul, Int.reduceMod, Int.reduceDiv, reduceCtorEq, Nat.reducePow, Int.reducePow, rgT_def]
                   exact ⟨by simp only [List.map_append, List.map_cons, List.map_nil, rgT_def], rfl⟩
         · have hkb : (er != (g : Int)) = true := by simpa using hk
           rw [if_neg (fun h => hk h.2)] at hE
           simp (config := { maxSteps := 2000000 }) (disch := (first | omega | (simp only [lens, lenm]; omega))) only [go_sem, ↓reduceIte, Nat.reduceAdd, Nat.reduceEqDiff, Nat.reduceSub, Nat.reduceMul, Nat.reduceLT, Nat.reduceLeDiff, Nat.reduceBEq, Int.reduceEq, Int.reduceLT, Int.reduceLE, Int.reduceToNat, Int.reduceNeg, Int.reduceAdd, Int.reduceSub, Int.reduceMul, Int.reduceMod, Int.reduceDiv, reduceCtorEq, Nat.reducePow, Int.reducePow, ac_law28_again_L1, evT_def, he, hkb]
           repeat refine And.intro rfl ?_
           refine invG.of (i + 1, x, seen) ⟨by simp only; omega, hx.up (by omega), hsn, by simp only; omega, hE⟩ (by simp only; omega) (Weak.rd id ?_ ?_ rfl)
           all_goals simp (config := { maxSteps := 2000000 }) (disch := (first | omega | (simp only [lens, lenm]; omega))) only [go_sem, ↓reduceIte, Nat.reduceAdd, Nat.reduceEqDiff, Nat.reduceSub, Nat.reduceMul, Nat.reduceLT, Nat.reduceLeDiff, Nat.reduceBEq, Int.reduceEq, Int.reduceLT, Int.reduceLE, Int.reduceToNat, Int.reduceNeg, Int.reduceAdd, Int.reduceSub, Int.reduceMul, Int.reduceMod, Int.reduceDiv, reduceCtorEq, Nat.reducePow, Int.reducePow, id]
       · have e : es.drop i = [] := List.drop_eq_nil_of_le (by omega)
         rw [e] at hE
         have hE' : S = false := hE.symm
         simp (config := { maxSteps := 2000000 }) (disch := (first | omega | (simp only [lens, lenm]; omega))) only [go_sem, ↓reduceIte, Nat.reduceAdd, Nat.reduceEqDiff, Nat.reduceSub, Nat.reduceMul, Nat.reduceLT, Nat.reduceLeDiff, Nat.reduceBEq, Int.reduceEq, Int.reduceLT, Int.reduceLE, Int.reduceToNat, Int.reduceNeg, Int.reduceAdd, Int.reduceSub, Int.reduceMul, Int.reduceMod, Int.reduceDiv, reduceCtorEq, Nat.reducePow, Int.reducePow, ac_law28_again_L1]
         repeat refine And.intro rfl ?_
         refine ⟨hlt, hPg hE', Weak.rd id ?_ ?_ rfl⟩
         all_goals simp (config := { maxSteps := 2000000 }) (disch := (first | omega | (simp only [lens, lenm]; omega))) only [go_sem, ↓reduceIte, Nat.reduceAdd, Nat.reduceEqDiff, Nat.reduceSub, Nat.reduceMul, Nat.reduceLT, Nat.reduceLeDiff, Nat.reduceBEq, Int.reduceEq, Int.reduceLT, Int.reduceLE, Int.reduceToNat, Int.reduceNeg, Int.reduceAdd, Int.reduceSub, Int.reduceMul, Int.reduceMod, Int.reduceDiv, reduceCtorEq, Nat.reducePow, Int.reducePow, id]
   · have e : g = 12 := by omega
     subst e
     have hR := hF hP
     rw [hR]
     simp (config := { maxSteps := 2000000 }) (disch := (first | omega | (simp only [lens, lenm]; omega))) only [go_sem, ↓reduceIte, Nat.reduceAdd, Nat.reduceEqDiff, Nat.reduceSub, Nat.reduceMul, Nat.reduceLT, Nat.reduceLeDiff, Nat.reduceBEq, Int.reduceEq, Int.reduceLT, Int.reduceLE, Int.reduceToNat, Int.reduceNeg, Int.reduceAdd, Int.reduceSub, Int.reduceMul, Int.reduceMod, Int.reduceDiv, reduceCtorEq, Nat.reducePow, Int.reducePow, ac_law28_again_L0]
theorem w_ReplayWhole (tab : Tab) (gl : Gl) (n1 n2 n3 n4 n5 n6 n7 n8 n9 : Nat) (h1 : tab.look n1 = some ct_awake.fs) (h2 : tab.look n2 = some ct_dact.fs) (h3 : tab.look n3 = some ct_dlg.fs) (h4 : tab.look n4 = some ct_dnew.fs) (h5 : tab.look n5 = some ct_devt.fs) (h6 : tab.look n6 = some ct_agn.fs) (h7 : tab.look n7 = some ct_rpl.fs) (h8 : tab.look n8 = some ct_fsI.fs) (h9 : tab.look n9 = some ct_mod.fs)
   (cs xs : List UInt8) (hcs : cs.length ≤ 9223372036854775807) (hxs : xs.length ≤ 9223372036854775807) (a p : Int) (ha : rI a) (hp : rI p) :
   (ac_law28_ReplayWhole n1 n2 n3 n4 n5 n6 n7 n8 n9).wp tab gl (zipF 0 [.t (.sl (cs.map byteT)), .t (.sl (xs.map byteT)), .t (.int .i64 a), .t (.int .i64 p)]) (zipF 0 []) (resW [(8, none)] 0 (fun r' o => r' = .t (.bool true) ∧ o = [])) := by
 have lA := modI_lt (a := a) (m := 3) (by omega)
 have hA := dact_eq ha
 obtain ⟨A, hAe⟩ : ∃ A, 1 + modI a 3 = A := ⟨_, rfl⟩
 rw [hAe] at hA
 have lA2 : 1 ≤ A ∧ A ≤ 3 := by omega
 have hL := dlg_eq (b := cs) (act := A) (n := 0) ⟨hcs, lA2, by unfold rI; omega⟩
 obtain ⟨vL, lL, mL⟩ := lgG_facts (cs := cs) lA2
 have hN : ct_dnew.fs [.t (.sl (xs.map byteT)), .t (.int .i64 20)] [] = _ := dnew_eq (b := xs) (n := 20) ⟨hxs, by omega⟩
 have okN : cdOk (xs.take 20, 0) := ⟨Nat.zero_le _, by simp only [List.length_take]; omega⟩
 have hE := devt_eq (act := A) ⟨okN, lA2⟩
 have vx := evG_v (c := (xs.take 20, 0)) lA2
 simp only [cdO, Int.natCast_zero] at hN hE
 generalize xs.take 20 = x0 at *
 generalize (evG (x0, 0) A).2 = c2 at *
 generalize (evG (x0, 0) A).1 = x at *
 generalize lgG cs A = L at *
 generalize modI 0 1000 = R at *
 have vLx : ∀ e ∈ L ++ [x], evV A e := fun e he => by
   simp only [List.mem_append, List.mem_singleton] at he
   rcases he with he | rfl
   · exact vL e he
   · exact vx
 have mLx : esM (L ++ [x]) := ⟨by simp; omega, fun e he => (vLx e he).2.x⟩
 have hG := agn_eq (act := A) (rs := 0) (es := L ++ [x]) ⟨⟨mLx, vLx⟩, lA2⟩
 have hM := mod_eq (a := p) (b := ((L.length + 1 : Nat) : Int)) ⟨hp, by omega⟩
 have lM := modI_lt (a := p) (m := ((L.length + 1 : Nat) : Int)) (by omega)
 obtain ⟨k, hk⟩ : ∃ k : Nat, modI p ((L.length + 1 : Nat) : Int) = k := ⟨(modI p ((L.length + 1 : Nat) : Int)).toNat, by omega⟩
 rw [hk] at hM lM
 have hk1 : k ≤ L.length := by omega
 have hln : ((L.length : Int) + 1) = ((L.length + 1 : Nat) : Int) := by omega
 have vP : ∀ e ∈ L.take k, evV A e := fun e he => vL e (List.mem_of_mem_take he)
 have mP : esM (L.take k) := ⟨by rw [List.length_take]; omega, fun e he => mL.2 e (List.mem_of_mem_take he)⟩
 have hR1 := rpl_eq (act := A) (rs := R) mL
 have hR2 := rpl_eq (act := A) (rs := 0) mP
 rw [rpE_ok lA2 vL, rpG_ok lA2 vL] at hR1
 rw [rpE_ok lA2 vP, rpG_ok lA2 vP] at hR2
 have r1 := (rpF_rq lA2 (es := L)).1.rv
 have r2 := (rpF_rq lA2 (es := L.take k)).1.rv
 have hF1 := fsI_eq (act := A) (rs := R) (es := L) (r := rpF A L) ⟨mL, r1⟩
 have hF2 := fsI_eq (act := A) (rs := R) (es := L) (r := rpF A (L.take k)) ⟨mL, r2⟩
 have hF3 := fsI_eq (act := A) (rs := 0) (es := L ++ [x]) (r := rpF A L) ⟨mLx, r1⟩
 have tA : ∀ xr xk xd xp, List.take (L.length + 1) (L.map evT ++ [T.agg [.int .i64 xr, .int .i64 xk, .sl (xd.map bsT), .sl (xp.map byteT)]]) = (L ++ [((xr, xk, xd, xp) : Ev)]).map evT := fun _ _ _ _ => by rw [List.take_of_length_le (by simp), List.map_append]; rfl
 cases hq : agI A (L ++ [x])
 · rw [hq] at hG
   have hqL := agI_pre hq
   have f1 := fs_all lA2 vL hqL
   have f3 := fs_more lA2 vLx hq
   have f2 := fs_from lA2 (p := L.take k) (q := L.drop k) (by rw [List.take_append_drop]; exact vL) (by rw [List.take_append_drop]; exact hqL)
   rw [List.take_append_drop, show (L.take k).length = k by rw [List.length_take]; omega] at f2
   rw [f1] at hF1
   rw [f3] at hF3
   generalize fsI (rpF A (L.take k)).1 A L = f at *
   generalize rpF A L = X at *
   generalize rpF A (L.take k) = Y at *
   obtain ⟨xr, xk, xd, xp⟩ := x
   by_cases k5 : xk = 5
   · subst k5
     have hF3' : ct_fsI.fs [.t (.agg [.int .i64 A, .int .i64 0, .sl ((L ++ [(xr, 5, xd, xp)]).map evT)]), .t (.agg [.sl (X.1.map bankT), .int .i64 X.2])] [] = some (.t (.int .i64 (-1)), []) := hF3
     by_cases hf : f = -1
     · subst hf
       simp (config := { maxSteps := 2000000 }) (disch := (first | omega | (simp only [lens, lenm]; omega))) only [go_sem, ↓reduceIte, Nat.reduceAdd, Nat.reduceEqDiff, Nat.reduceSub, Nat.reduceMul, Nat.reduceLT, Nat.reduceLeDiff, Nat.reduceBEq, Int.reduceEq, Int.reduceLT, Int.reduceLE, Int.reduceToNat, Int.reduceNeg, Int.reduceAdd, Int.reduceSub, Int.reduceMul, Int.reduceMod, Int.reduceDiv, reduceCtorEq, Nat.reducePow, Int.reducePow, ac_law28_ReplayWhole, h1, awake_eq, h2, hA, h3, hL, h4, hN, h5, hE, h6, tA, hG, h7, hR1, hR2, h8, hF1, hF2, hF3', h9, hM, hln, zE, evT_def]
       all_goals repeat refine And.intro rfl ?_
       all_goals rfl
     · have hfb : (f == -1) = false := by simpa using hf
       have hfk : decide ((k : Int) ≤ f) = true := decide_eq_true (by omega)
       simp (config := { maxSteps := 2000000 }) (disch := (first | omega | (simp only [lens, lenm]; omega))) only [go_sem, ↓reduceIte, Nat.reduceAdd, Nat.reduceEqDiff, Nat.reduceSub, Nat.reduceMul, Nat.reduceLT, Nat.reduceLeDiff, Nat.reduceBEq, Int.reduceEq, Int.reduceLT, Int.reduceLE, Int.reduceToNat, Int.reduceNeg, Int.reduceAdd, Int.reduceSub, Int.reduceMul, Int.reduceMod, Int.reduceDiv, reduceCtorEq, Nat.reducePow, Int.reducePow, ac_law28_ReplayWhole, h1, awake_eq, h2, hA, h3, hL, h4, hN, h5, hE, h6, tA, hG, h7, hR1, hR2, h8, hF1, hF2, hF3', h9, hM, hln, zE, evT_def, hfb, hfk]
       all_goals repeat refine And.intro rfl ?_
       all_goals rfl
   · have h5b : (xk == 5) = false := by simpa using k5
     have hF3' : ct_fsI.fs [.t (.agg [.int .i64 A, .int .i64 0, .sl ((L ++ [(xr, xk, xd, xp)]).map evT)]), .t (.agg [.sl (X.1.map bankT), .int .i64 X.2])] [] = some (.t (.int .i64 L.length), []) := by
       rw [if_neg k5] at hF3; exact hF3
     by_cases hf : f = -1
     · subst hf
       simp (config := { maxSteps := 2000000 }) (disch := (first | omega | (simp only [lens, lenm]; omega))) only [go_sem, ↓reduceIte, Nat.reduceAdd, Nat.reduceEqDiff, Nat.reduceSub, Nat.reduceMul, Nat.reduceLT, Nat.reduceLeDiff, Nat.reduceBEq, Int.reduceEq, Int.reduceLT, Int.reduceLE, Int.reduceToNat, Int.reduceNeg, Int.reduceAdd, Int.reduceSub, Int.reduceMul, Int.reduceMod, Int.reduceDiv, reduceCtorEq, Nat.reducePow, Int.reducePow, ac_law28_ReplayWhole, h1, awake_eq, h2, hA, h3, hL, h4, hN, h5, hE, h6, tA, hG, h7, hR1, hR2, h8, hF1, hF2, hF3', h9, hM, hln, zE, evT_def, h5b]
       all_goals repeat refine And.intro rfl ?_
       all_goals rfl
     · have hfb : (f == -1) = false := by simpa using hf
       have hfk : decide ((k : Int) ≤ f) = true := decide_eq_true (by omega)
       simp (config := { maxSteps := 2000000 }) (disch := (first | omega | (simp only [lens, lenm]; omega))) only [go_sem, ↓reduceIte, Nat.reduceAdd, Nat.reduceEqDiff, Nat.reduceSub, Nat.reduceMul, Nat.reduceLT, Nat.reduceLeDiff, Nat.reduceBEq, Int.reduceEq, Int.reduceLT, Int.reduceLE, Int.reduceToNat, Int.reduceNeg, Int.reduceAdd, Int.reduceSub, Int.reduceMul, Int.reduceMod, Int.reduceDiv, reduceCtorEq, Nat.reducePow, Int.reducePow, ac_law28_ReplayWhole, h1, awake_eq, h2, hA, h3, hL, h4, hN, h5, hE, h6, tA, hG, h7, hR1, hR2, h8, hF1, hF2, hF3', h9, hM, hln, zE, evT_def, h5b, hfb, hfk]
       all_goals repeat refine And.intro rfl ?_
       all_goals rfl
 · rw [hq] at hG
   obtain ⟨xr, xk, xd, xp⟩ := x
   simp (config := { maxSteps := 2000000 }) (disch := (first | omega | (simp only [lens, lenm]; omega))) only [go_sem, ↓reduceIte, Nat.reduceAdd, Nat.reduceEqDiff, Nat.reduceSub, Nat.reduceMul, Nat.reduceLT, Nat.reduceLeDiff, Nat.reduceBEq, Int.reduceEq, Int.reduceLT, Int.reduceLE, Int.reduceToNat, Int.reduceNeg, Int.reduceAdd, Int.reduceSub, Int.reduceMul, Int.reduceMod, Int.reduceDiv, reduceCtorEq, Nat.reducePow, Int.reducePow, ac_law28_ReplayWhole, h1, awake_eq, h2, hA, h3, hL, h4, hN, h5, hE, h6, tA, hG, zE, evT_def]
   all_goals repeat refine And.intro rfl ?_
   all_goals rfl
end Go.Eng
end
section
set_option maxRecDepth 20000
namespace Go.Eng
open Go.MuLone
theorem tieW {P : Program} {G : Gl} {tab : Tab} {f : FuncId} {fn : Func} {c : Code} {ac : AC} {hints : List (Nat × List Nat)} {rs : List (Nat × Option (Nat × Bool))} (hf : P.funcs[f]? = some fn) (hname : (fn.name == "runtime.NumGoroutine") = false) (hb : fn.body = some c) (hann : ann P fn.ntmps hints c = some ac) (hmx : P.follows .mixedOrders = true)
   (ht : TabOk P G tab) (hrs : resOf P fn.results.toList = some rs) (ct : Ct) (hn : ∀ x, (ct.as x).length ≤ fn.ntmps) (hi : ∀ x, (ct.ins x).length ≤ 100)
   (h : ∀ x, ct.pre x → ac.wp tab G (zipF 0 (ct.as x)) (zipF 0 (ct.ins x)) (resW rs (ct.ins x).length (fun r' o' => r' = ct.r x ∧ o' = ct.outs x))) : FOk P G f ct.fs :=
 ct.ok (fun args w => run_callFunc_enter hf hname hb args w) (fun x hx => spec_of hf hb hann hmx ht hrs (hn x) (hi x) (h x hx))
theorem tieF {P : Program} {G : Gl} {tab : Tab} {f : FuncId} {fn : Func} {c : Code} {ac : AC} {hints : List (Nat × List Nat)} {rs : List (Nat × Option (Nat × Bool))} (fz : List Nat) (hf : P.funcs[f]? = some fn) (hname : (fn.name == "runtime.NumGoroutine") = false) (hb : fn.body = some c) (hann : ann P fn.ntmps hints c = some ac) (hmx : P.follows .mixedOrders = true)
   (ht : TabOk P G tab) (hrs : resOf P fn.results.toList = some rs) (ct : Ct) (hn : ∀ x, (ct.as x).length ≤ fn.ntmps) (hi : ∀ x, (ct.ins x).length ≤ 100)
   (h : ∀ x, ct.pre x → ac.wp tab G (zipF 0 (ct.as x)) (zipF 0 (ct.ins x)) (resF fz rs (ct.ins x).length (fun r' o' => r' = ct.r x ∧ o' = ct.outs x))) : FOk P G f ct.fs :=
 ct.ok (fun args w => run_callFunc_enter hf hname hb args w) (fun x hx => spec_live fz hf hb hann hmx ht hrs (hn x) (hi x) (h x hx))
theorem tieL {P : Program} {G : Gl} {tab : Tab} {f : FuncId} {fn : Func} {c : Code} {ac : AC} {hints : List (Nat × List Nat)} {rs : List (Nat × Option (Nat × Bool))} (hf : P.funcs[f]? = some fn) (hb : fn.body = some c) (hann : ann P fn.ntmps hints c = some ac) (hmx : P.follows .mixedOrders = true)
   (ht : TabOk P G tab) (hrs : resOf P fn.results.toList = some rs) {as : List V} (hn : as.length ≤ fn.ntmps)
   (h : ac.wp tab G (zipF 0 as) (zipF 0 []) (resW rs 0 (fun r o => r = .t (.bool true) ∧ o = []))) : Spec P G f as [] (.t (.bool true)) [] :=
 spec_of hf hb hann hmx ht hrs hn (Nat.zero_le _) h
theorem tieW' {P : Program} {G : Gl} {tab : Tab} {f : FuncId} (fn : Func) (hints : List (Nat × List Nat)) (ac : AC) (rs : List (Nat × Option (Nat × Bool))) (ht : TabOk P G tab) (ct : Ct)
   (h : ∀ x, ct.pre x → ac.wp tab G (zipF 0 (ct.as x)) (zipF 0 (ct.ins x)) (resW rs (ct.ins x).length (fun r' o' => r' = ct.r x ∧ o' = ct.outs x)))
   (hf : P.funcs[f]? = some fn := by kernel_rfl) (hname : (fn.name == "runtime.NumGoroutine") = false := by kernel_rfl) (hb : fn.body = some (fn.body.getD .skip) := by kernel_rfl) (hann : ann P fn.ntmps hints (fn.body.getD .skip) = some ac := by kernel_rfl) (hmx : P.follows .mixedOrders = true := by kernel_rfl)
   (hrs : resOf P fn.results.toList = some rs := by kernel_rfl) (hn : ∀ x, (ct.as x).length ≤ fn.ntmps := by exact fun _ => Nat.le_of_ble_eq_true (by kernel_rfl)) (hi : ∀ x, (ct.ins x).length ≤ 100 := by exact fun _ => Nat.le_of_ble_eq_true (by kernel_rfl)) : FOk P G f ct.fs := tieW hf hname hb hann hmx ht hrs ct hn hi h
theorem tieF' {P : Program} {G : Gl} {tab : Tab} {f : FuncId} (fz : List Nat) (fn : Func) (hints : List (Nat × List Nat)) (ac : AC) (rs : List (Nat × Option (Nat × Bool))) (ht : TabOk P G tab) (ct : Ct)
   (h : ∀ x, ct.pre x → ac.wp tab G (zipF 0 (ct.as x)) (zipF 0 (ct.ins x)) (resF fz rs (ct.ins x).length (fun r' o' => r' = ct.r x ∧ o' = ct.outs x)))
   (hf : P.funcs[f]? = some fn := by kernel_rfl) (hname : (fn.name == "runtime.NumGoroutine") = false := by kernel_rfl) (hb : fn.body = some (fn.body.getD .skip) := by kernel_rfl) (hann : ann P fn.ntmps hints (fn.body.getD .skip) = some ac := by kernel_rfl) (hmx : P.follows .mixedOrders = true := by kernel_rfl)
   (hrs : resOf P fn.results.toList = some rs := by kernel_rfl) (hn : ∀ x, (ct.as x).length ≤ fn.ntmps := by exact fun _ => Nat.le_of_ble_eq_true (by kernel_rfl)) (hi : ∀ x, (ct.ins x).length ≤ 100 := by exact fun _ => Nat.le_of_ble_eq_true (by kernel_rfl)) : FOk P G f ct.fs := tieF fz hf hname hb hann hmx ht hrs ct hn hi h
theorem tieL' {P : Program} {G : Gl} {tab : Tab} {f : FuncId} (fn : Func) (hints : List (Nat × List Nat)) (ac : AC) (rs : List (Nat × Option (Nat × Bool))) (ht : TabOk P G tab) {as : List V}
   (h : ac.wp tab G (zipF 0 as) (zipF 0 []) (resW rs 0 (fun r o => r = .t (.bool true) ∧ o = [])))
   (hf : P.funcs[f]? = some fn := by kernel_rfl) (hb : fn.body = some (fn.body.getD .skip) := by kernel_rfl) (hann : ann P fn.ntmps hints (fn.body.getD .skip) = some ac := by kernel_rfl) (hmx : P.follows .mixedOrders = true := by kernel_rfl)
   (hrs : resOf P fn.results.toList = some rs := by kernel_rfl) (hn : as.length ≤ fn.ntmps := by exact Nat.le_of_ble_eq_true (by kernel_rfl)) : Spec P G f as [] (.t (.bool true)) [] := tieL hf hb hann hmx ht hrs hn h
end Go.Eng
end
section
set_option maxRecDepth 20000
namespace Go.Eng
theorem ok_mnz {P : Program} {G : Nat → Option (List T)} {f : FuncId} {fn : Func} {ps : Array TypeId} {t e : TypeId} (hf : P.funcs[f]? = some fn) (hname : (fn.name == "runtime.NumGoroutine") = false) (hb : fn.body.isNone = true) (hn : Extern.findNext fn = none)
   (he : Extern.find fn = some (Extern.BytealgMakeNoZero.makeNoZero ps #[t])) (ht : P.underlying t = some (.slice e)) : FOk P G f ct_mnz.fs := by
 intro as ins r outs hs
 have key : ∃ n : Nat, (n = 20 ∨ n = 32) ∧ as = [.t (.int .i64 n)] ∧ ins = [] ∧ r = .sl 0 0 n ∧ outs = [.live 1 [] true false] := by
   unfold Ct.fs at hs
   split at hs
   · rename_i hx
     cases hs
     have h1 := hx.choose_spec
     generalize hx.choose = y at h1 ⊢
     obtain ⟨⟨rfl, rfl⟩, h3⟩ := h1
     have h4 : (show Int from y) = 20 ∨ (show Int from y) = 32 := h3
     rcases h4 with h4 | h4
     · refine ⟨20, .inl rfl, ?_⟩
       have h5 : y = (20 : Int) := h4
       subst h5
       exact ⟨rfl, rfl, rfl, rfl⟩
     · refine ⟨32, .inr rfl, ?_⟩
       have h5 : y = (32 : Int) := h4
       subst h5
       exact ⟨rfl, rfl, rfl, rfl⟩
   · cases hs
 obtain ⟨n, hn2, rfl, rfl, rfl, rfl⟩ := key
 intro w β F vals env fits hargs
 have hvals : vals = #[.int .i64 n] := by
   obtain ⟨l⟩ := vals
   cases hargs with
   | cons h1 h2 =>
     cases h2
     cases h1 with
     | t h => cases h; rfl
 subst hvals
 obtain ⟨cs, hrun, hle, hmx⟩ := Lib.run_makeNoZero (P := P) w ps t e ht n (by omega)
 refine .inr ⟨.slice (some ⟨w.heap.size, 0, none⟩) n cs.size, w.drew.drew.alloc (.cells cs e), ?_, .slice (some ⟨w.heap.size, 0, none⟩) n cs.size, fun k => if k = 0 then some ⟨some w.heap.size, 1, cs.size⟩ else none, F, rfl, ?_⟩
 · rw [run_callFunc_extern hf hname hb hn he, hrun]; rfl
 · have hsz : (w.drew.drew.alloc (.cells cs e)).heap.size = w.heap.size + 1 := by
     show (w.heap.push _).size = _
     exact Array.size_push _
   have hnew : (w.drew.drew.alloc (.cells cs e)).heap[w.heap.size]? = some (.cells cs e) := by
     show (w.heap.push _)[w.heap.size]? = _
     simp
   have hold : ∀ b, b < w.heap.size → (w.drew.drew.alloc (.cells cs e)).heap[b]? = w.heap[b]? := by
     intro b hb
     show (w.heap.push _)[b]? = _
     rw [Array.getElem?_push, if_neg (by omega)]
   have hFb : ¬ F w.heap.size := fun h => absurd (env.Fw _ h) (by omega)
   have mx : n ≤ maxLen := by have : (32 : Nat) ≤ maxLen := by decide
                              omega
   refine ⟨⟨fun k o hk => ?_, fun k hk => ?_, fun i j bi bj b h1 h2 h3 h4 => ?_, fun k bi b h1 h2 => ?_⟩, ?_, fun k hk => ?_, fun k bi b _ h1 h2 => ?_, fun b _ => Iff.rfl, fun b hb => ?_, rfl, rfl, rfl, ?_, fun b hb _ => hold b hb⟩
   · cases k with
     | succ k => simp at hk
     | zero =>
       simp only [List.getElem?_cons_zero, Option.some.injEq] at hk
       subst hk
       refine ⟨_, if_pos rfl, ⟨rfl, by simp, cs, e, (0, 0), hnew, by omega, by simp, by simp, hmx mx, fun i x h => by simp at h, ?_⟩, 1, [], false, rfl⟩
       simpa using hFb
   · have : k ≠ 0 := by simp at hk; omega
     exact if_neg this
   · split at h1 <;> split at h2 <;> simp_all
   · split at h1
     · cases h1
       cases h2
       exact ⟨by rw [hsz]; omega, hFb⟩
     · cases h1
   · exact .sl 0 0 n cs.size w.heap.size 1 cs.size _ (if_pos rfl) hle (by omega) (fun _ => by simp) rfl
   · simp at hk
   · split at h1
     · cases h1
       cases h2
       exact Nat.le_refl _
     · cases h1
   · have := env.Fw b hb
     rw [hsz]; omega
   · rw [hsz]; omega
end Go.Eng
end
