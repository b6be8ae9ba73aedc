/- My own text: an abstract machine, its walks over the functions reached, and their tie to the program. -/
import Derived.Test.YtgchkbhfajopnaaDoorS3
import Derived.Conc.MuLone
import Derived.KernelRfl
import Derived.Lib.MakeNoZero
import Derived.Laws.Externs
set_option linter.unusedSimpArgs false
set_option linter.unusedVariables false
section
namespace Go.Eng
def ac_draw_Seed : AC :=
 (.seq
 (rG 4096 [mC 2 .nil])
 (.seq
 (rG 8192 [oO 4 (.mkslice 1 1 (.t (byteT 0))) [.cst (.t (.int .i64 32)), .cst (.t (.int .i64 32))],mv 3 4])
 (.seq
 (rG 12288 [mv 5 3,mv 6 0,oO 7 (.copy 1) [.tmp 5, .tmp 6]])
 (.seq
 (rG 16384 [mv 8 3,mv 2 8])
 .ret))))
def hints_draw_Seed : List (Nat × List Nat) := []
def ac_lockout_New : AC :=
 (.seq
 (rG 4096 [oO 0 (.new 6 [(.t (.agg [(.int .i64 0), (.int .i64 0), (.int .i64 0), (.int .i64 0), (.int .i64 0), (.int .i64 0)]))]) []])
 (.seq
 (rG 8192 [oO 1 (.build [(.t (.int .i64 0)), (.t (.int .i64 0)), (.t (.int .i64 0)), (.t (.int .i64 0)), (.t (.int .i64 0)), (.t (.int .i64 0))] [(1, 1), (2, 1), (5, 1)]) [.cst (.t (.int .i64 5)), .cst (.t (.int .i64 100)), .cst (.t (.int .i64 1000))],oS 6 0 1])
 .ret))
def hints_lockout_New : List (Nat × List Nat) := []
def ac_ref13_New : AC :=
 (.seq
 (rG 4096 [oO 0 (.new 6 [(.t (.agg [(.int .i64 0), (.int .i64 0), (.int .i64 0), (.int .i64 0), (.int .i64 0), (.int .i64 0)]))]) []])
 (.seq
 (rG 8192 [oO 1 (.build [(.t (.int .i64 0)), (.t (.int .i64 0)), (.t (.int .i64 0)), (.t (.int .i64 0)), (.t (.int .i64 0)), (.t (.int .i64 0))] [(1, 1), (2, 1), (5, 1)]) [.cst (.t (.int .i64 5)), .cst (.t (.int .i64 100)), .cst (.t (.int .i64 1000))],oS 6 0 1])
 .ret))
def hints_ref13_New : List (Nat × List Nat) := []
def ac_state_New_L0 (n_mac_Derive : Nat) : AC :=
 (.seq
 (rG 24576 [bN 25 .lss 24 3])
 (.seq
 (.cond (.tmp 25)
 .skip
 (.exit 0))
 (.seq
 (.block 1
 (.seq
 (rG 28672 [mv 26 24,mv 7 26])
 (.reg 32768 (some [0, 1, 0, 0, 8, 24, 60, 124, 255, 511, 1023]) [oO 27 (.faddr 0) [.tmp 6],oO 28 (.load 1 false) [.tmp 27],mv 29 0,mv 30 7,oO 31 (.conv .u8) [.tmp 30],oO 32 (.bslice 1 1 (.t (byteT 0)) [0]) [.tmp 31],cL 33 n_mac_Derive true [.tmp 29, .cst (.t (strT [115, 101, 101, 100])), .tmp 32, .cst (.t (.int .i64 32))],oO 34 (.bslice 1 1 .nil [0]) [.tmp 33],oO 35 (.append 1 24) [.tmp 28, .tmp 34],oO 36 (.faddr 0) [.tmp 6],oS 1 36 35])))
 (rG 36864 [bN 37 .add 24 1,mv 24 37]))))
def ac_state_New (n_lockout_New n_mac_Derive : Nat) : AC :=
 (.seq
 (rG 4096 [oO 4 (.new 19 [(.agg [.nil, .nil, .nil, (.t (.int .i64 0)), (.t (.int .i64 0)), (.t (.int .i64 0)), (.t (.int .i64 0)), (.t (.bool false)), .nil, (.t (.int .i64 0)), (.t (.int .i64 0)), .nil, (.t (.int .i64 0)), (.t (.int .i64 0)), (.t (.int .i64 0)), (.t (.int .i64 0)), (.t (.int .i64 0)), (.t (.int .i64 0)), .nil])]) [],mC 5 (.t (.int .i64 0))])
 (.seq
 (.seq
 (rG 8192 [mv 8 0,oO 9 .len [.tmp 8],bN 10 .neq 9 32,mv 11 10,mF 12 1 11,oF 13 11 (.bin .lss) [.tmp 12, .cst (.t (.int .i64 0))],oO 14 .pick [.tmp 11, .cst (.t (.bool true)), .tmp 13],mv 15 14,mF 16 1 15,oF 17 15 (.bin .gtr) [.tmp 16, .cst (.t (.int .i64 3))],oO 18 .pick [.tmp 15, .cst (.t (.bool true)), .tmp 17]])
 (.cond (.tmp 18)
 (.seq
 (rG 12288 [oO 19 (.build [.nil, .nil, .nil, (.t (.int .i64 0)), (.t (.int .i64 0)), (.t (.int .i64 0)), (.t (.int .i64 0)), (.t (.bool false)), .nil, (.t (.int .i64 0)), (.t (.int .i64 0)), .nil, (.t (.int .i64 0)), (.t (.int .i64 0)), (.t (.int .i64 0)), (.t (.int .i64 0)), (.t (.int .i64 0)), (.t (.int .i64 0)), .nil] []) [],oS 19 4 19,mC 5 (.t (.int .i64 1))])
 .ret)
 .skip))
 (.seq
 (.reg 16384 (some [0, 0, 0, 7, 0, 31]) [oO 20 (.mkslice 1 24 .nil) [.cst (.t (.int .i64 4)), .cst (.t (.int .i64 4))],mv 21 1,cL 22 n_lockout_New false [],oO 23 (.build [.nil, .nil, .nil, (.t (.int .i64 0)), (.t (.int .i64 0)), (.t (.int .i64 0)), (.t (.int .i64 0)), (.t (.bool false)), .nil, (.t (.int .i64 0)), (.t (.int .i64 0)), .nil, (.t (.int .i64 0)), (.t (.int .i64 0)), (.t (.int .i64 0)), (.t (.int .i64 0)), (.t (.int .i64 0)), (.t (.int .i64 0)), .nil] [(1, 1), (3, 1), (7, 1), (12, 6)]) [.tmp 20, .tmp 21, .cst (.t (.bool true)), .tmp 22],oO 6 (.new 19 [(.agg [.nil, .nil, .nil, (.t (.int .i64 0)), (.t (.int .i64 0)), (.t (.int .i64 0)), (.t (.int .i64 0)), (.t (.bool false)), .nil, (.t (.int .i64 0)), (.t (.int .i64 0)), .nil, (.t (.int .i64 0)), (.t (.int .i64 0)), (.t (.int .i64 0)), (.t (.int .i64 0)), (.t (.int .i64 0)), (.t (.int .i64 0)), .nil])]) [],oS 19 6 23])
 (.seq
 (.seq
 (rG 20480 [mC 24 (.t (.int .i64 0))])
 (.block 0
 (.loop (ac_state_New_L0 n_mac_Derive))))
 (.seq
 (rG 40960 [mv 38 0,cL 39 n_mac_Derive true [.tmp 38, .cst (.t (strT [101, 110, 116, 114, 111, 112, 121])), .cst .nil, .cst (.t (.int .i64 32))],oO 40 (.faddr 2) [.tmp 6],oS 1 40 39])
 (.seq
 (rG 45056 [oO 41 (.load 19 true) [.tmp 6],oS 19 4 41,mC 5 (.t (.int .i64 0))])
 .ret))))))
def hints_state_New : List (Nat × List Nat) := [(7, [6]), (9, [1])]
def ac_ref17_New_L0 (n_ref2_Derive : Nat) : AC :=
 (.seq
 (.seq
 (rG 24576 [mv 26 7,bN 27 .lss 26 3])
 (.cond (.tmp 27)
 .skip
 (.exit 0)))
 (.seq
 (.block 1
 (.reg 32768 (some [0, 1, 0, 0, 8, 24, 60, 124, 255, 511, 1023]) [oO 30 (.faddr 0) [.tmp 6],oO 31 (.load 1 false) [.tmp 30],mv 32 0,mv 33 7,oO 34 (.conv .u8) [.tmp 33],oO 35 (.bslice 1 1 (.t (byteT 0)) [0]) [.tmp 34],cL 36 n_ref2_Derive true [.tmp 32, .cst (.t (strT [115, 101, 101, 100])), .tmp 35, .cst (.t (.int .i64 32))],oO 37 (.bslice 1 1 .nil [0]) [.tmp 36],oO 38 (.append 1 24) [.tmp 31, .tmp 37],oO 39 (.faddr 0) [.tmp 6],oS 1 39 38]))
 (rG 28672 [mv 28 7,bN 29 .add 28 1,mv 7 29])))
def ac_ref17_New (n_ref2_Derive n_ref13_New : Nat) : AC :=
 (.seq
 (rG 4096 [oO 4 (.new 19 [(.agg [.nil, .nil, .nil, (.t (.int .i64 0)), (.t (.int .i64 0)), (.t (.int .i64 0)), (.t (.int .i64 0)), (.t (.bool false)), .nil, (.t (.int .i64 0)), (.t (.int .i64 0)), .nil, (.t (.int .i64 0)), (.t (.int .i64 0)), (.t (.int .i64 0)), (.t (.int .i64 0)), (.t (.int .i64 0)), (.t (.int .i64 0)), .nil])]) [],mC 5 (.t (.int .i64 0))])
 (.seq
 (.seq
 (rG 8192 [mv 8 0,oO 9 .len [.tmp 8],bN 10 .neq 9 32,mv 11 10,mF 12 1 11,oF 13 11 (.bin .lss) [.tmp 12, .cst (.t (.int .i64 0))],oO 14 .pick [.tmp 11, .cst (.t (.bool true)), .tmp 13],mv 15 14,mF 16 1 15,oF 17 15 (.bin .gtr) [.tmp 16, .cst (.t (.int .i64 3))],oO 18 .pick [.tmp 15, .cst (.t (.bool true)), .tmp 17]])
 (.cond (.tmp 18)
 (.seq
 (rG 12288 [oO 19 (.build [.nil, .nil, .nil, (.t (.int .i64 0)), (.t (.int .i64 0)), (.t (.int .i64 0)), (.t (.int .i64 0)), (.t (.bool false)), .nil, (.t (.int .i64 0)), (.t (.int .i64 0)), .nil, (.t (.int .i64 0)), (.t (.int .i64 0)), (.t (.int .i64 0)), (.t (.int .i64 0)), (.t (.int .i64 0)), (.t (.int .i64 0)), .nil] []) [],oS 19 4 19,mC 5 (.t (.int .i64 1))])
 .ret)
 .skip))
 (.seq
 (.reg 16384 (some [0, 0, 2, 0, 6, 31, 0, 127]) [oO 20 (.mkslice 1 24 .nil) [.cst (.t (.int .i64 4)), .cst (.t (.int .i64 4))],mv 21 0,cL 22 n_ref2_Derive true [.tmp 21, .cst (.t (strT [101, 110, 116, 114, 111, 112, 121])), .cst .nil, .cst (.t (.int .i64 32))],mv 23 1,cL 24 n_ref13_New false [],oO 25 (.build [.nil, .nil, .nil, (.t (.int .i64 0)), (.t (.int .i64 0)), (.t (.int .i64 0)), (.t (.int .i64 0)), (.t (.bool false)), .nil, (.t (.int .i64 0)), (.t (.int .i64 0)), .nil, (.t (.int .i64 0)), (.t (.int .i64 0)), (.t (.int .i64 0)), (.t (.int .i64 0)), (.t (.int .i64 0)), (.t (.int .i64 0)), .nil] [(1, 1), (2, 1), (3, 1), (7, 1), (12, 6)]) [.tmp 20, .tmp 22, .tmp 23, .cst (.t (.bool true)), .tmp 24],oO 6 (.new 19 [(.agg [.nil, .nil, .nil, (.t (.int .i64 0)), (.t (.int .i64 0)), (.t (.int .i64 0)), (.t (.int .i64 0)), (.t (.bool false)), .nil, (.t (.int .i64 0)), (.t (.int .i64 0)), .nil, (.t (.int .i64 0)), (.t (.int .i64 0)), (.t (.int .i64 0)), (.t (.int .i64 0)), (.t (.int .i64 0)), (.t (.int .i64 0)), .nil])]) [],oS 19 6 25])
 (.seq
 (.seq
 (rG 20480 [mC 7 (.t (.int .i64 0))])
 (.block 0
 (.loop (ac_ref17_New_L0 n_ref2_Derive))))
 (.seq
 (rG 36864 [oO 40 (.load 19 true) [.tmp 6],oS 19 4 40,mC 5 (.t (.int .i64 0))])
 .ret)))))
def hints_ref17_New : List (Nat × List Nat) := [(3, [2]), (7, [6])]
def ac_ref17_SameStable_L0 (n_ref12_Same : Nat) : AC :=
 (.seq
 (.seq
 (rG 20480 [mv 104 5,oO 105 (.faddr 11) [.tmp 2],oO 106 (.load 1 false) [.tmp 105],oO 107 .len [.tmp 106],bT 108 .lss 104 107])
 (.cond (.tmp 108)
 .skip
 (.exit 0)))
 (.seq
 (.block 1
 (.seq
 (.reg 28672 (some [0, 1, 0, 7, 15, 0, 32, 0, 224, 480, 1023, 2047]) [oO 111 (.faddr 11) [.tmp 2],oO 112 (.load 1 false) [.tmp 111],mv 113 5,oO 114 (.iaddr 8) [.tmp 112, .tmp 113],oO 115 (.load 8 true) [.tmp 114],oO 116 (.faddr 11) [.tmp 3],oO 117 (.load 1 false) [.tmp 116],mv 118 5,oO 119 (.iaddr 8) [.tmp 117, .tmp 118],oO 120 (.load 8 true) [.tmp 119],cL 121 n_ref12_Same false [.tmp 115, .tmp 120],oO 122 (.un .not) [.tmp 121]])
 (.cond (.tmp 122)
 (.seq
 (rG 32768 [mC 4 (.t (.bool false))])
 .ret)
 .skip)))
 (rG 24576 [mv 109 5,bN 110 .add 109 1,mv 5 110])))
def ac_ref17_SameStable_L1 (n_ref1_Same : Nat) : AC :=
 (.seq
 (.seq
 (rG 40960 [mv 123 6,oO 124 (.faddr 18) [.tmp 2],oO 125 (.load 1 false) [.tmp 124],oO 126 .len [.tmp 125],bT 127 .lss 123 126])
 (.cond (.tmp 127)
 .skip
 (.exit 2)))
 (.seq
 (.block 3
 (.seq
 (.reg 49152 (some [0, 1, 0, 7, 15, 31, 0, 64, 0, 448, 960, 1984, 4095, 8191, 16383, 32767, 65535, 32767, 262143, 524287, 1048575, 32767, 2129919, 32767, 14712831, 31490047, 65044479, 134217727, 268435455]) [oO 130 (.faddr 18) [.tmp 2],oO 131 (.load 1 false) [.tmp 130],mv 132 6,oO 133 (.iaddr 2) [.tmp 131, .tmp 132],oO 134 (.faddr 0) [.tmp 133],oO 135 (.load 1 false) [.tmp 134],oO 136 (.faddr 18) [.tmp 3],oO 137 (.load 1 false) [.tmp 136],mv 138 6,oO 139 (.iaddr 2) [.tmp 137, .tmp 138],oO 140 (.faddr 0) [.tmp 139],oO 141 (.load 1 false) [.tmp 140],cL 142 n_ref1_Same false [.tmp 135, .tmp 141],oO 143 (.un .not) [.tmp 142],mv 144 143,oF 145 144 (.faddr 18) [.tmp 2],oF 146 144 (.load 1 false) [.tmp 145],mF 147 6 144,oF 148 144 (.iaddr 2) [.tmp 146, .tmp 147],oF 149 144 (.faddr 1) [.tmp 148],oF 150 144 (.load 1 false) [.tmp 149],oF 151 144 (.faddr 18) [.tmp 3],oF 152 144 (.load 1 false) [.tmp 151],mF 153 6 144,oF 154 144 (.iaddr 2) [.tmp 152, .tmp 153],oF 155 144 (.faddr 1) [.tmp 154],oF 156 144 (.load 1 false) [.tmp 155],oF 157 144 (.bin .neq) [.tmp 150, .tmp 156],oO 158 .pick [.tmp 144, .cst (.t (.bool true)), .tmp 157]])
 (.cond (.tmp 158)
 (.seq
 (rG 53248 [mC 4 (.t (.bool false))])
 .ret)
 .skip)))
 (rG 45056 [mv 128 6,bN 129 .add 128 1,mv 6 129])))
def ac_ref17_SameStable (n_ref1_Lists n_ref1_Same n_ref8_Same n_ref12_Same : Nat) : AC :=
 (.seq
 (rG 4096 [oO 2 .box [.tmp 0],oO 3 .box [.tmp 1],mC 4 (.t (.bool false))])
 (.seq
 (.seq
 (rG 8192 [oO 7 (.faddr 0) [.tmp 2],oO 8 (.load 1 false) [.tmp 7],oO 9 (.faddr 0) [.tmp 3],oO 10 (.load 1 false) [.tmp 9],cL 11 n_ref1_Lists false [.tmp 8, .tmp 10],oO 12 (.un .not) [.tmp 11],mv 13 12,oF 14 13 (.faddr 1) [.tmp 2],oF 15 13 (.load 1 false) [.tmp 14],oF 16 13 (.faddr 1) [.tmp 3],oF 17 13 (.load 1 false) [.tmp 16],cF 18 13 n_ref1_Lists false [.tmp 15, .tmp 17],oF 19 13 (.un .not) [.tmp 18],oO 20 .pick [.tmp 13, .cst (.t (.bool true)), .tmp 19],mv 21 20,oF 22 21 (.faddr 2) [.tmp 2],oF 23 21 (.load 1 false) [.tmp 22],oF 24 21 (.faddr 2) [.tmp 3],oF 25 21 (.load 1 false) [.tmp 24],cF 26 21 n_ref1_Same false [.tmp 23, .tmp 25],oF 27 21 (.un .not) [.tmp 26],oO 28 .pick [.tmp 21, .cst (.t (.bool true)), .tmp 27],mv 29 28,oF 30 29 (.faddr 3) [.tmp 2],oF 31 29 (.load 1 false) [.tmp 30],oF 32 29 (.faddr 3) [.tmp 3],oF 33 29 (.load 1 false) [.tmp 32],oF 34 29 (.bin .neq) [.tmp 31, .tmp 33],oO 35 .pick [.tmp 29, .cst (.t (.bool true)), .tmp 34],mv 36 35,oF 37 36 (.faddr 4) [.tmp 2],oF 38 36 (.load 1 false) [.tmp 37],oF 39 36 (.faddr 4) [.tmp 3],oF 40 36 (.load 1 false) [.tmp 39],oF 41 36 (.bin .neq) [.tmp 38, .tmp 40],oO 42 .pick [.tmp 36, .cst (.t (.bool true)), .tmp 41],mv 43 42,oF 44 43 (.faddr 5) [.tmp 2],oF 45 43 (.load 1 false) [.tmp 44],oF 46 43 (.faddr 5) [.tmp 3],oF 47 43 (.load 1 false) [.tmp 46],oF 48 43 (.bin .neq) [.tmp 45, .tmp 47],oO 49 .pick [.tmp 43, .cst (.t (.bool true)), .tmp 48],mv 50 49,oF 51 50 (.faddr 6) [.tmp 2],oF 52 50 (.load 1 false) [.tmp 51],oF 53 50 (.faddr 6) [.tmp 3],oF 54 50 (.load 1 false) [.tmp 53],oF 55 50 (.bin .neq) [.tmp 52, .tmp 54],oO 56 .pick [.tmp 50, .cst (.t (.bool true)), .tmp 55],mv 57 56,oF 58 57 (.faddr 7) [.tmp 2],oF 59 57 (.load 1 false) [.tmp 58],oF 60 57 (.faddr 7) [.tmp 3],oF 61 57 (.load 1 false) [.tmp 60],oF 62 57 (.beq true) [.tmp 59, .tmp 61],oO 63 .pick [.tmp 57, .cst (.t (.bool true)), .tmp 62],mv 64 63,oF 65 64 (.faddr 8) [.tmp 2],oF 66 64 (.load 2 true) [.tmp 65],oF 67 64 (.faddr 8) [.tmp 3],oF 68 64 (.load 2 true) [.tmp 67],cF 69 64 n_ref8_Same false [.tmp 66, .tmp 68],oF 70 64 (.un .not) [.tmp 69],oO 71 .pick [.tmp 64, .cst (.t (.bool true)), .tmp 70],mv 72 71,oF 73 72 (.faddr 10) [.tmp 2],oF 74 72 (.load 1 false) [.tmp 73],oF 75 72 (.faddr 10) [.tmp 3],oF 76 72 (.load 1 false) [.tmp 75],oF 77 72 (.bin .neq) [.tmp 74, .tmp 76],oO 78 .pick [.tmp 72, .cst (.t (.bool true)), .tmp 77],mv 79 78,oF 80 79 (.faddr 12) [.tmp 2],oF 81 79 (.load 6 true) [.tmp 80],oF 82 79 (.faddr 12) [.tmp 3],oF 83 79 (.load 6 true) [.tmp 82],oF 84 79 (.aeq 6 .i64 true) [.tmp 81, .tmp 83],oO 85 .pick [.tmp 79, .cst (.t (.bool true)), .tmp 84],mv 86 85,oF 87 86 (.faddr 11) [.tmp 2],oF 88 86 (.load 1 false) [.tmp 87],oF 89 86 .len [.tmp 88],oF 90 86 (.faddr 11) [.tmp 3],oF 91 86 (.load 1 false) [.tmp 90],oF 92 86 .len [.tmp 91],oF 93 86 (.bin .neq) [.tmp 89, .tmp 92],oO 94 .pick [.tmp 86, .cst (.t (.bool true)), .tmp 93],mv 95 94,oF 96 95 (.faddr 18) [.tmp 2],oF 97 95 (.load 1 false) [.tmp 96],oF 98 95 .len [.tmp 97],oF 99 95 (.faddr 18) [.tmp 3],oF 100 95 (.load 1 false) [.tmp 99],oF 101 95 .len [.tmp 100],oF 102 95 (.bin .neq) [.tmp 98, .tmp 101],oO 103 .pick [.tmp 95, .cst (.t (.bool true)), .tmp 102]])
 (.cond (.tmp 103)
 (.seq
 (rG 12288 [mC 4 (.t (.bool false))])
 .ret)
 .skip))
 (.seq
 (.seq
 (rG 16384 [mC 5 (.t (.int .i64 0))])
 (.block 0
 (.loop (ac_ref17_SameStable_L0 n_ref12_Same))))
 (.seq
 (.seq
 (rG 36864 [mC 6 (.t (.int .i64 0))])
 (.block 2
 (.loop (ac_ref17_SameStable_L1 n_ref1_Same))))
 (.seq
 (rG 57344 [mC 4 (.t (.bool true))])
 .ret)))))
def hints_ref17_SameStable : List (Nat × List Nat) := []
def ac_state_Boot : AC :=
 (.seq
 (rG 4096 [oO 1 .box [.tmp 0],oO 2 (.new 30 [(.agg [.nil, .nil, .nil, (.t (.int .i64 0)), (.t (.int .i64 0)), (.t (.int .i64 0)), (.t (.int .i64 0)), (.t (.bool false)), .nil, (.t (.int .i64 0)), (.t (.int .i64 0)), .nil, (.t (.int .i64 0)), (.t (.int .i64 0)), (.t (.int .i64 0)), (.t (.int .i64 0)), (.t (.int .i64 0)), (.t (.int .i64 0)), .nil, (.t (.bool false)), (.t (.bool false)), .nil, (.t (.int .i64 0)), (.t (.int .i64 0)), (.t (.bool false)), (.t (.int .i64 0)), .nil, .nil, .nil, .nil])]) []])
 (.seq
 (.reg 8192 (some [0, 0, 0, 6, 15, 31]) [oO 3 (.load 19 true) [.tmp 1],oO 4 (.mkslice 8 96 (.agg [(.t (.int .i64 0)), .nil, .nil, (.t (.int .i64 0)), (.t (.int .i64 0)), (.t (.int .i64 0)), (.t (.int .i64 0)), (.t (.bool false))])) [.cst (.t (.int .i64 3)), .cst (.t (.int .i64 3))],oO 5 (.mkslice 9 152 (.agg [(.t (.int .i64 0)), (.t (.int .i64 0)), (.t (.int .i64 0)), .nil, .nil, .nil, .nil, .nil, (.t (.int .i64 0))])) [.cst (.t (.int .i64 3)), .cst (.t (.int .i64 3))],oO 6 (.build [(.t (.bool false)), (.t (.bool false)), .nil, (.t (.int .i64 0)), (.t (.int .i64 0)), (.t (.bool false)), (.t (.int .i64 0)), .nil, .nil, .nil, .nil] [(7, 1), (8, 1)]) [.tmp 4, .tmp 5],oO 7 (.build [.nil, .nil, .nil, (.t (.int .i64 0)), (.t (.int .i64 0)), (.t (.int .i64 0)), (.t (.int .i64 0)), (.t (.bool false)), .nil, (.t (.int .i64 0)), (.t (.int .i64 0)), .nil, (.t (.int .i64 0)), (.t (.int .i64 0)), (.t (.int .i64 0)), (.t (.int .i64 0)), (.t (.int .i64 0)), (.t (.int .i64 0)), .nil, (.t (.bool false)), (.t (.bool false)), .nil, (.t (.int .i64 0)), (.t (.int .i64 0)), (.t (.bool false)), (.t (.int .i64 0)), .nil, .nil, .nil, .nil] [(0, 19), (19, 11)]) [.tmp 3, .tmp 6],oS 30 2 7])
 .ret))
def hints_state_Boot : List (Nat × List Nat) := []
def ac_state_Startup (n_registers_New n_registers_Resume : Nat) : AC :=
 (.seq
 (rG 4096 [oO 2 .box [.tmp 0],oO 4 (.new 30 [(.agg [.nil, .nil, .nil, (.t (.int .i64 0)), (.t (.int .i64 0)), (.t (.int .i64 0)), (.t (.int .i64 0)), (.t (.bool false)), .nil, (.t (.int .i64 0)), (.t (.int .i64 0)), .nil, (.t (.int .i64 0)), (.t (.int .i64 0)), (.t (.int .i64 0)), (.t (.int .i64 0)), (.t (.int .i64 0)), (.t (.int .i64 0)), .nil, (.t (.bool false)), (.t (.bool false)), .nil, (.t (.int .i64 0)), (.t (.int .i64 0)), (.t (.bool false)), (.t (.int .i64 0)), .nil, .nil, .nil, .nil])]) [],mC 5 (.t (.int .i64 0))])
 (.seq
 (.block 0
 (.seq
 (rG 8192 [oO 9 (.faddr 19) [.tmp 2],oO 10 (.faddr 0) [.tmp 9],oO 11 (.load 1 false) [.tmp 10],mv 12 11,oF 13 12 (.faddr 19) [.tmp 2],oF 14 12 (.faddr 1) [.tmp 13],oF 15 12 (.load 1 false) [.tmp 14],oO 16 .pick [.tmp 12, .cst (.t (.bool true)), .tmp 15],mv 8 16])
 (.cond (.tmp 8)
 (.seq
 (rG 12288 [oO 17 (.build [.nil, .nil, .nil, (.t (.int .i64 0)), (.t (.int .i64 0)), (.t (.int .i64 0)), (.t (.int .i64 0)), (.t (.bool false)), .nil, (.t (.int .i64 0)), (.t (.int .i64 0)), .nil, (.t (.int .i64 0)), (.t (.int .i64 0)), (.t (.int .i64 0)), (.t (.int .i64 0)), (.t (.int .i64 0)), (.t (.int .i64 0)), .nil, (.t (.bool false)), (.t (.bool false)), .nil, (.t (.int .i64 0)), (.t (.int .i64 0)), (.t (.bool false)), (.t (.int .i64 0)), .nil, .nil, .nil, .nil] []) [],oS 30 4 17,mC 5 (.t (.int .i64 28))])
 .ret)
 (.seq
 (rG 16384 [mv 19 1,bN 20 .neq 19 0,mv 21 20,mG 22 1 21,oG 23 21 (.bin .neq) [.tmp 22, .cst (.t (.int .i64 1))],oO 24 .pick [.tmp 21, .tmp 23, .cst (.t (.bool false))],mv 18 24])
 (.cond (.tmp 18)
 (.seq
 (rG 20480 [oO 25 (.build [.nil, .nil, .nil, (.t (.int .i64 0)), (.t (.int .i64 0)), (.t (.int .i64 0)), (.t (.int .i64 0)), (.t (.bool false)), .nil, (.t (.int .i64 0)), (.t (.int .i64 0)), .nil, (.t (.int .i64 0)), (.t (.int .i64 0)), (.t (.int .i64 0)), (.t (.int .i64 0)), (.t (.int .i64 0)), (.t (.int .i64 0)), .nil, (.t (.bool false)), (.t (.bool false)), .nil, (.t (.int .i64 0)), (.t (.int .i64 0)), (.t (.bool false)), (.t (.int .i64 0)), .nil, .nil, .nil, .nil] []) [],oS 30 4 25,mC 5 (.t (.int .i64 1))])
 .ret)
 (.seq
 (rG 24576 [mv 27 1,bN 28 .eql 27 1,mv 29 28,oG 30 29 (.faddr 0) [.tmp 2],oG 31 29 (.faddr 8) [.tmp 30],oG 32 29 (.faddr 0) [.tmp 31],oG 33 29 (.load 1 false) [.tmp 32],oG 34 29 .len [.tmp 33],oG 35 29 (.bin .eql) [.tmp 34, .cst (.t (.int .i64 0))],oO 36 .pick [.tmp 29, .tmp 35, .cst (.t (.bool false))],mv 26 36])
 (.cond (.tmp 26)
 (.seq
 (rG 28672 [oO 37 (.build [.nil, .nil, .nil, (.t (.int .i64 0)), (.t (.int .i64 0)), (.t (.int .i64 0)), (.t (.int .i64 0)), (.t (.bool false)), .nil, (.t (.int .i64 0)), (.t (.int .i64 0)), .nil, (.t (.int .i64 0)), (.t (.int .i64 0)), (.t (.int .i64 0)), (.t (.int .i64 0)), (.t (.int .i64 0)), (.t (.int .i64 0)), .nil, (.t (.bool false)), (.t (.bool false)), .nil, (.t (.int .i64 0)), (.t (.int .i64 0)), (.t (.bool false)), (.t (.int .i64 0)), .nil, .nil, .nil, .nil] []) [],oS 30 4 37,mC 5 (.t (.int .i64 16))])
 .ret)
 .skip)))))))
 (.seq
 (.reg 32768 (some [0, 1, 0, 4, 0, 0, 51, 127]) [oO 38 (.faddr 0) [.tmp 2],oO 39 (.load 19 true) [.tmp 38],oO 40 (.faddr 19) [.tmp 2],oO 41 (.load 11 true) [.tmp 40],oO 6 (.new 19 [(.agg [.nil, .nil, .nil, (.t (.int .i64 0)), (.t (.int .i64 0)), (.t (.int .i64 0)), (.t (.int .i64 0)), (.t (.bool false)), .nil, (.t (.int .i64 0)), (.t (.int .i64 0)), .nil, (.t (.int .i64 0)), (.t (.int .i64 0)), (.t (.int .i64 0)), (.t (.int .i64 0)), (.t (.int .i64 0)), (.t (.int .i64 0)), .nil])]) [],oO 7 (.new 11 [(.agg [(.t (.bool false)), (.t (.bool false)), .nil, (.t (.int .i64 0)), (.t (.int .i64 0)), (.t (.bool false)), (.t (.int .i64 0)), .nil, .nil, .nil, .nil])]) [],oS 19 6 39,oS 11 7 41])
 (.seq
 (.seq
 (rG 36864 [mv 42 1,bN 43 .eql 42 0])
 (.cond (.tmp 43)
 (.seq
 (rG 40960 [oO 44 (.faddr 4) [.tmp 6],oO 45 (.load 1 false) [.tmp 44],bN 46 .add 45 1,oO 47 (.faddr 4) [.tmp 6],oS 1 47 46])
 (.seq
 (rG 45056 [oO 48 (.faddr 5) [.tmp 6],⟨none, (.op (.store 1)), [.tmp 48, .cst (.t (.int .i64 0))], none⟩])
 (rG 49152 [oO 49 (.faddr 3) [.tmp 6],oO 50 (.load 1 false) [.tmp 49],cL 51 n_registers_New true [.tmp 50],oO 52 (.faddr 2) [.tmp 7],oS 2 52 51])))
 (.seq
 (rG 53248 [oO 53 (.faddr 5) [.tmp 6],oO 54 (.load 1 false) [.tmp 53],bN 55 .add 54 1,oO 56 (.faddr 5) [.tmp 6],oS 1 56 55])
 (rG 57344 [oO 57 (.faddr 8) [.tmp 6],oO 58 (.load 2 true) [.tmp 57],cL 59 n_registers_Resume true [.tmp 58],oO 60 (.faddr 2) [.tmp 7],oS 2 60 59]))))
 (.seq
 (rG 61440 [oO 61 (.faddr 0) [.tmp 7],⟨none, (.op (.store 1)), [.tmp 61, .cst (.t (.bool true))], none⟩])
 (.seq
 (rG 65536 [oO 62 (.faddr 6) [.tmp 6],oO 63 (.load 1 false) [.tmp 62],oO 64 (.faddr 4) [.tmp 7],oS 1 64 63])
 (.seq
 (rG 69632 [oO 65 (.faddr 7) [.tmp 6],oO 66 (.load 1 false) [.tmp 65],oO 67 (.faddr 5) [.tmp 7],oS 1 67 66])
 (.seq
 (rG 73728 [oO 68 (.faddr 7) [.tmp 6],⟨none, (.op (.store 1)), [.tmp 68, .cst (.t (.bool false))], none⟩])
 (.seq
 (rG 77824 [oO 69 (.build [.nil, (.t (.int .i64 0))] []) [],oO 70 (.faddr 8) [.tmp 6],oS 2 70 69])
 (.seq
 (rG 81920 [oO 71 (.load 19 true) [.tmp 6],oO 72 (.load 11 true) [.tmp 7],oO 73 (.build [.nil, .nil, .nil, (.t (.int .i64 0)), (.t (.int .i64 0)), (.t (.int .i64 0)), (.t (.int .i64 0)), (.t (.bool false)), .nil, (.t (.int .i64 0)), (.t (.int .i64 0)), .nil, (.t (.int .i64 0)), (.t (.int .i64 0)), (.t (.int .i64 0)), (.t (.int .i64 0)), (.t (.int .i64 0)), (.t (.int .i64 0)), .nil, (.t (.bool false)), (.t (.bool false)), .nil, (.t (.int .i64 0)), (.t (.int .i64 0)), (.t (.bool false)), (.t (.int .i64 0)), .nil, .nil, .nil, .nil] [(0, 19), (19, 11)]) [.tmp 71, .tmp 72],oS 30 4 73,mC 5 (.t (.int .i64 0))])
 .ret))))))))))
def hints_state_Startup : List (Nat × List Nat) := [(11, [2]), (13, [2])]
def ac_state_Shutdown (n_state_Boot : Nat) : AC :=
 (.seq
 (rG 4096 [oO 2 .box [.tmp 0],oO 4 (.new 30 [(.agg [.nil, .nil, .nil, (.t (.int .i64 0)), (.t (.int .i64 0)), (.t (.int .i64 0)), (.t (.int .i64 0)), (.t (.bool false)), .nil, (.t (.int .i64 0)), (.t (.int .i64 0)), .nil, (.t (.int .i64 0)), (.t (.int .i64 0)), (.t (.int .i64 0)), (.t (.int .i64 0)), (.t (.int .i64 0)), (.t (.int .i64 0)), .nil, (.t (.bool false)), (.t (.bool false)), .nil, (.t (.int .i64 0)), (.t (.int .i64 0)), (.t (.bool false)), (.t (.int .i64 0)), .nil, .nil, .nil, .nil])]) [],mC 5 (.t (.int .i64 0))])
 (.seq
 (.seq
 (rG 8192 [oO 8 (.faddr 19) [.tmp 2],oO 9 (.faddr 0) [.tmp 8],oO 10 (.load 1 false) [.tmp 9],oO 11 (.un .not) [.tmp 10]])
 (.cond (.tmp 11)
 (.seq
 (rG 12288 [oO 12 (.build [.nil, .nil, .nil, (.t (.int .i64 0)), (.t (.int .i64 0)), (.t (.int .i64 0)), (.t (.int .i64 0)), (.t (.bool false)), .nil, (.t (.int .i64 0)), (.t (.int .i64 0)), .nil, (.t (.int .i64 0)), (.t (.int .i64 0)), (.t (.int .i64 0)), (.t (.int .i64 0)), (.t (.int .i64 0)), (.t (.int .i64 0)), .nil, (.t (.bool false)), (.t (.bool false)), .nil, (.t (.int .i64 0)), (.t (.int .i64 0)), (.t (.bool false)), (.t (.int .i64 0)), .nil, .nil, .nil, .nil] []) [],oS 30 4 12,mC 5 (.t (.int .i64 28))])
 .ret)
 .skip))
 (.seq
 (.seq
 (rG 16384 [mv 13 1,bN 14 .neq 13 0,mv 15 14,mG 16 1 15,oG 17 15 (.bin .neq) [.tmp 16, .cst (.t (.int .i64 1))],oO 18 .pick [.tmp 15, .tmp 17, .cst (.t (.bool false))]])
 (.cond (.tmp 18)
 (.seq
 (rG 20480 [oO 19 (.build [.nil, .nil, .nil, (.t (.int .i64 0)), (.t (.int .i64 0)), (.t (.int .i64 0)), (.t (.int .i64 0)), (.t (.bool false)), .nil, (.t (.int .i64 0)), (.t (.int .i64 0)), .nil, (.t (.int .i64 0)), (.t (.int .i64 0)), (.t (.int .i64 0)), (.t (.int .i64 0)), (.t (.int .i64 0)), (.t (.int .i64 0)), .nil, (.t (.bool false)), (.t (.bool false)), .nil, (.t (.int .i64 0)), (.t (.int .i64 0)), (.t (.bool false)), (.t (.int .i64 0)), .nil, .nil, .nil, .nil] []) [],oS 30 4 19,mC 5 (.t (.int .i64 1))])
 .ret)
 .skip))
 (.seq
 (rG 24576 [oO 20 (.faddr 0) [.tmp 2],oO 21 (.load 19 true) [.tmp 20],oO 6 (.new 19 [(.agg [.nil, .nil, .nil, (.t (.int .i64 0)), (.t (.int .i64 0)), (.t (.int .i64 0)), (.t (.int .i64 0)), (.t (.bool false)), .nil, (.t (.int .i64 0)), (.t (.int .i64 0)), .nil, (.t (.int .i64 0)), (.t (.int .i64 0)), (.t (.int .i64 0)), (.t (.int .i64 0)), (.t (.int .i64 0)), (.t (.int .i64 0)), .nil])]) [],oS 19 6 21])
 (.seq
 (rG 28672 [oO 22 (.faddr 19) [.tmp 2],oO 23 (.faddr 5) [.tmp 22],oO 24 (.load 1 false) [.tmp 23],oO 25 (.faddr 7) [.tmp 6],oS 1 25 24])
 (.seq
 (rG 32768 [oO 26 (.faddr 19) [.tmp 2],oO 27 (.faddr 4) [.tmp 26],oO 28 (.load 1 false) [.tmp 27],oO 29 (.faddr 6) [.tmp 6],oS 1 29 28])
 (.seq
 (rG 36864 [oO 30 (.build [.nil, (.t (.int .i64 0))] []) [],oO 31 (.faddr 8) [.tmp 6],oS 2 31 30])
 (.seq
 (.seq
 (rG 40960 [mv 32 1,bN 33 .eql 32 1])
 (.cond (.tmp 33)
 (rG 45056 [oO 34 (.faddr 19) [.tmp 2],oO 35 (.faddr 2) [.tmp 34],oO 36 (.load 2 true) [.tmp 35],oO 37 (.faddr 8) [.tmp 6],oS 2 37 36])
 .skip))
 (.seq
 (rG 49152 [oO 38 (.load 19 true) [.tmp 6],cL 39 n_state_Boot true [.tmp 38],oO 7 (.new 30 [(.agg [.nil, .nil, .nil, (.t (.int .i64 0)), (.t (.int .i64 0)), (.t (.int .i64 0)), (.t (.int .i64 0)), (.t (.bool false)), .nil, (.t (.int .i64 0)), (.t (.int .i64 0)), .nil, (.t (.int .i64 0)), (.t (.int .i64 0)), (.t (.int .i64 0)), (.t (.int .i64 0)), (.t (.int .i64 0)), (.t (.int .i64 0)), .nil, (.t (.bool false)), (.t (.bool false)), .nil, (.t (.int .i64 0)), (.t (.int .i64 0)), (.t (.bool false)), (.t (.int .i64 0)), .nil, .nil, .nil, .nil])]) [],oS 30 7 39])
 (.seq
 (rG 53248 [oO 40 (.faddr 19) [.tmp 7],oO 41 (.faddr 1) [.tmp 40],⟨none, (.op (.store 1)), [.tmp 41, .cst (.t (.bool true))], none⟩])
 (.seq
 (rG 57344 [oO 42 (.load 30 true) [.tmp 7],oS 30 4 42,mC 5 (.t (.int .i64 0))])
 .ret)))))))))))
def hints_state_Shutdown : List (Nat × List Nat) := [(11, [1])]
def ac_state_Tick : AC :=
 (.seq
 (rG 4096 [oO 2 .box [.tmp 0],oO 4 (.new 30 [(.agg [.nil, .nil, .nil, (.t (.int .i64 0)), (.t (.int .i64 0)), (.t (.int .i64 0)), (.t (.int .i64 0)), (.t (.bool false)), .nil, (.t (.int .i64 0)), (.t (.int .i64 0)), .nil, (.t (.int .i64 0)), (.t (.int .i64 0)), (.t (.int .i64 0)), (.t (.int .i64 0)), (.t (.int .i64 0)), (.t (.int .i64 0)), .nil, (.t (.bool false)), (.t (.bool false)), .nil, (.t (.int .i64 0)), (.t (.int .i64 0)), (.t (.bool false)), (.t (.int .i64 0)), .nil, .nil, .nil, .nil])]) [],mC 5 (.t (.int .i64 0))])
 (.seq
 (.block 0
 (.seq
 (rG 8192 [oO 8 (.faddr 19) [.tmp 2],oO 9 (.faddr 0) [.tmp 8],oO 10 (.load 1 false) [.tmp 9],oO 11 (.un .not) [.tmp 10],mv 7 11])
 (.cond (.tmp 7)
 (.seq
 (rG 12288 [oO 12 (.build [.nil, .nil, .nil, (.t (.int .i64 0)), (.t (.int .i64 0)), (.t (.int .i64 0)), (.t (.int .i64 0)), (.t (.bool false)), .nil, (.t (.int .i64 0)), (.t (.int .i64 0)), .nil, (.t (.int .i64 0)), (.t (.int .i64 0)), (.t (.int .i64 0)), (.t (.int .i64 0)), (.t (.int .i64 0)), (.t (.int .i64 0)), .nil, (.t (.bool false)), (.t (.bool false)), .nil, (.t (.int .i64 0)), (.t (.int .i64 0)), (.t (.bool false)), (.t (.int .i64 0)), .nil, .nil, .nil, .nil] []) [],oS 30 4 12,mC 5 (.t (.int .i64 28))])
 .ret)
 (.seq
 (rG 16384 [mv 14 1,bN 15 .lss 14 1,mv 16 15,mF 17 1 16,oF 18 16 (.bin .gtr) [.tmp 17, .cst (.t (.int .i64 1048576))],oO 19 .pick [.tmp 16, .cst (.t (.bool true)), .tmp 18],mv 13 19])
 (.cond (.tmp 13)
 (.seq
 (rG 20480 [oO 20 (.build [.nil, .nil, .nil, (.t (.int .i64 0)), (.t (.int .i64 0)), (.t (.int .i64 0)), (.t (.int .i64 0)), (.t (.bool false)), .nil, (.t (.int .i64 0)), (.t (.int .i64 0)), .nil, (.t (.int .i64 0)), (.t (.int .i64 0)), (.t (.int .i64 0)), (.t (.int .i64 0)), (.t (.int .i64 0)), (.t (.int .i64 0)), .nil, (.t (.bool false)), (.t (.bool false)), .nil, (.t (.int .i64 0)), (.t (.int .i64 0)), (.t (.bool false)), (.t (.int .i64 0)), .nil, .nil, .nil, .nil] []) [],oS 30 4 20,mC 5 (.t (.int .i64 1))])
 .ret)
 (.seq
 (rG 24576 [oO 22 (.faddr 19) [.tmp 2],oO 23 (.faddr 4) [.tmp 22],oO 24 (.load 1 false) [.tmp 23],mv 25 1,oO 26 (.bin .sub) [.cst (.t (.int .i64 1099511627776)), .tmp 25],bT 27 .gtr 24 26,mv 21 27])
 (.cond (.tmp 21)
 (.seq
 (rG 28672 [oO 28 (.build [.nil, .nil, .nil, (.t (.int .i64 0)), (.t (.int .i64 0)), (.t (.int .i64 0)), (.t (.int .i64 0)), (.t (.bool false)), .nil, (.t (.int .i64 0)), (.t (.int .i64 0)), .nil, (.t (.int .i64 0)), (.t (.int .i64 0)), (.t (.int .i64 0)), (.t (.int .i64 0)), (.t (.int .i64 0)), (.t (.int .i64 0)), .nil, (.t (.bool false)), (.t (.bool false)), .nil, (.t (.int .i64 0)), (.t (.int .i64 0)), (.t (.bool false)), (.t (.int .i64 0)), .nil, .nil, .nil, .nil] []) [],oS 30 4 28,mC 5 (.t (.int .i64 31))])
 .ret)
 .skip)))))))
 (.seq
 (rG 32768 [oO 29 (.faddr 19) [.tmp 2],oO 30 (.faddr 4) [.tmp 29],oO 31 (.load 1 false) [.tmp 30],bN 32 .quo 31 64,mv 6 32])
 (.seq
 (rG 36864 [oO 33 (.faddr 19) [.tmp 2],oO 34 (.faddr 4) [.tmp 33],oO 35 (.load 1 false) [.tmp 34],mv 36 1,bT 37 .add 35 36,oO 38 (.faddr 19) [.tmp 2],oO 39 (.faddr 4) [.tmp 38],oS 1 39 37])
 (.seq
 (.seq
 (rG 40960 [oO 40 (.faddr 19) [.tmp 2],oO 41 (.faddr 4) [.tmp 40],oO 42 (.load 1 false) [.tmp 41],bN 43 .quo 42 64,mv 44 6,bT 45 .neq 43 44])
 (.cond (.tmp 45)
 (.seq
 (rG 45056 [oO 46 (.faddr 19) [.tmp 2],oO 47 (.faddr 5) [.tmp 46],⟨none, (.op (.store 1)), [.tmp 47, .cst (.t (.bool true))], none⟩])
 (rG 49152 [oO 48 (.faddr 19) [.tmp 2],oO 49 (.faddr 4) [.tmp 48],oO 50 (.load 1 false) [.tmp 49],oO 51 (.faddr 0) [.tmp 2],oO 52 (.faddr 6) [.tmp 51],oS 1 52 50]))
 .skip))
 (.seq
 (rG 53248 [oO 53 (.load 30 true) [.tmp 2],oS 30 4 53,mC 5 (.t (.int .i64 0))])
 .ret))))))
def hints_state_Tick : List (Nat × List Nat) := []
def ac_law17_awake (n_state_New n_state_Boot n_state_Startup : Nat) : AC :=
 (.seq
 (rG 4096 [mC 0 (.t (.bool false))])
 (.seq
 (rG 8192 [oO 6 (.mkslice 1 1 (.t (byteT 0))) [.cst (.t (.int .i64 32)), .cst (.t (.int .i64 32))],cL 7 n_state_New true [.tmp 6, .cst (.t (.int .i64 2))],mv 5 7,oO 8 (.extract 0) [.tmp 5],oO 9 (.extract 1) [.tmp 5],oO 1 (.new 19 [(.agg [.nil, .nil, .nil, (.t (.int .i64 0)), (.t (.int .i64 0)), (.t (.int .i64 0)), (.t (.int .i64 0)), (.t (.bool false)), .nil, (.t (.int .i64 0)), (.t (.int .i64 0)), .nil, (.t (.int .i64 0)), (.t (.int .i64 0)), (.t (.int .i64 0)), (.t (.int .i64 0)), (.t (.int .i64 0)), (.t (.int .i64 0)), .nil])]) [],oS 19 1 8,mv 2 9])
 (.seq
 (rG 12288 [oO 11 (.load 19 true) [.tmp 1],cL 12 n_state_Boot true [.tmp 11],cL 13 n_state_Startup true [.tmp 12, .cst (.t (.int .i64 0))],mv 10 13,oO 14 (.extract 0) [.tmp 10],oO 15 (.extract 1) [.tmp 10],oO 3 (.new 30 [(.agg [.nil, .nil, .nil, (.t (.int .i64 0)), (.t (.int .i64 0)), (.t (.int .i64 0)), (.t (.int .i64 0)), (.t (.bool false)), .nil, (.t (.int .i64 0)), (.t (.int .i64 0)), .nil, (.t (.int .i64 0)), (.t (.int .i64 0)), (.t (.int .i64 0)), (.t (.int .i64 0)), (.t (.int .i64 0)), (.t (.int .i64 0)), .nil, (.t (.bool false)), (.t (.bool false)), .nil, (.t (.int .i64 0)), (.t (.int .i64 0)), (.t (.bool false)), (.t (.int .i64 0)), .nil, .nil, .nil, .nil])]) [],oS 30 3 14,mv 4 15])
 (.seq
 (rG 16384 [mv 16 2,bN 17 .eql 16 0,mv 18 17,mG 19 4 18,oG 20 18 (.bin .eql) [.tmp 19, .cst (.t (.int .i64 0))],oO 21 .pick [.tmp 18, .tmp 20, .cst (.t (.bool false))],mv 22 21,oG 23 22 (.faddr 19) [.tmp 3],oG 24 22 (.faddr 0) [.tmp 23],oG 25 22 (.load 1 false) [.tmp 24],oO 26 .pick [.tmp 22, .tmp 25, .cst (.t (.bool false))],mv 27 26,oG 28 27 (.faddr 0) [.tmp 3],oG 29 27 (.faddr 4) [.tmp 28],oG 30 27 (.load 1 false) [.tmp 29],oG 31 27 (.bin .eql) [.tmp 30, .cst (.t (.int .i64 1))],oO 32 .pick [.tmp 27, .tmp 31, .cst (.t (.bool false))],mv 33 32,oG 34 33 (.faddr 19) [.tmp 3],oG 35 33 (.faddr 7) [.tmp 34],oG 36 33 (.load 1 false) [.tmp 35],oG 37 33 .len [.tmp 36],oG 38 33 (.bin .eql) [.tmp 37, .cst (.t (.int .i64 3))],oO 39 .pick [.tmp 33, .tmp 38, .cst (.t (.bool false))],mv 0 39])
 .ret))))
def hints_law17_awake : List (Nat × List Nat) := [(1, [1]), (2, [1, 2])]
def ac_law17_StateNew (n_law17_awake n_draw_Seed n_draw_Mod n_state_New n_ref17_New n_ref17_SameStable : Nat) : AC :=
 (.seq
 (rG 4096 [mC 6 (.t (.bool false))])
 (.seq
 (.seq
 (rG 8192 [cL 11 n_law17_awake false [],oO 12 (.un .not) [.tmp 11]])
 (.cond (.tmp 12)
 (.seq
 (rG 12288 [mC 6 (.t (.bool false))])
 .ret)
 .skip))
 (.seq
 (.seq
 (rG 16384 [mv 13 0,oO 14 .len [.tmp 13],bN 15 .gtr 14 60])
 (.cond (.tmp 15)
 (.seq
 (rG 20480 [mC 6 (.t (.bool true))])
 .ret)
 .skip))
 (.seq
 (.seq
 (rG 24576 [mv 16 2])
 (.cond (.tmp 16)
 (rG 28672 [mv 17 0,cL 18 n_draw_Seed false [.tmp 17],mv 19 1,cL 20 n_draw_Mod false [.tmp 19, .cst (.t (.int .i64 5))],mv 0 18,mv 1 20])
 .skip))
 (.seq
 (rG 32768 [mv 22 0,mv 23 1,cL 24 n_state_New true [.tmp 22, .tmp 23],mv 21 24,oO 25 (.extract 0) [.tmp 21],oO 26 (.extract 1) [.tmp 21],oO 7 (.new 19 [(.agg [.nil, .nil, .nil, (.t (.int .i64 0)), (.t (.int .i64 0)), (.t (.int .i64 0)), (.t (.int .i64 0)), (.t (.bool false)), .nil, (.t (.int .i64 0)), (.t (.int .i64 0)), .nil, (.t (.int .i64 0)), (.t (.int .i64 0)), (.t (.int .i64 0)), (.t (.int .i64 0)), (.t (.int .i64 0)), (.t (.int .i64 0)), .nil])]) [],oS 19 7 25,mv 8 26])
 (.seq
 (rG 36864 [mv 28 0,mv 29 1,cL 30 n_ref17_New true [.tmp 28, .tmp 29],mv 27 30,oO 31 (.extract 0) [.tmp 27],oO 32 (.extract 1) [.tmp 27],oO 9 (.new 19 [(.agg [.nil, .nil, .nil, (.t (.int .i64 0)), (.t (.int .i64 0)), (.t (.int .i64 0)), (.t (.int .i64 0)), (.t (.bool false)), .nil, (.t (.int .i64 0)), (.t (.int .i64 0)), .nil, (.t (.int .i64 0)), (.t (.int .i64 0)), (.t (.int .i64 0)), (.t (.int .i64 0)), (.t (.int .i64 0)), (.t (.int .i64 0)), .nil])]) [],oS 19 9 31,mv 10 32])
 (.seq
 (rG 40960 [mv 33 8,mv 34 10,bT 35 .eql 33 34,mv 36 35,oG 37 36 (.load 19 true) [.tmp 7],oG 38 36 (.load 19 true) [.tmp 9],cG 39 36 n_ref17_SameStable false [.tmp 37, .tmp 38],oO 40 .pick [.tmp 36, .tmp 39, .cst (.t (.bool false))],mv 6 40])
 .ret)))))))
def hints_law17_StateNew : List (Nat × List Nat) := [(7, [2]), (8, [2])]
def ac_law17_StateClock_L0 (n_state_Boot n_state_Startup n_state_Shutdown n_state_Tick : Nat) : AC :=
 (.seq
 (.seq
 (rG 49152 [mv 36 11,mv 37 0,oO 38 .len [.tmp 37],bT 39 .lss 36 38])
 (.cond (.tmp 39)
 .skip
 (.exit 0)))
 (.seq
 (.block 1
 (.seq
 (rG 57344 [mC 12 (.t (.int .i64 9))])
 (.seq
 (.seq
 (rG 61440 [mv 42 11,mv 43 1,oO 44 .len [.tmp 43],bT 45 .lss 42 44])
 (.cond (.tmp 45)
 (rG 65536 [mv 46 1,mv 47 11,oO 48 (.iaddr 1) [.tmp 46, .tmp 47],oO 49 (.load 1 false) [.tmp 48],oO 50 (.conv .i64) [.tmp 49],oO 51 (.bin .add) [.cst (.t (.int .i64 1)), .tmp 50],mv 12 51])
 .skip))
 (.seq
 (rG 69632 [mC 13 (.t (.int .i64 0))])
 (.seq
 (.seq
 (rG 73728 [mv 52 0,mv 53 11,oO 54 (.iaddr 1) [.tmp 52, .tmp 53],oO 55 (.load 1 false) [.tmp 54],oO 56 (.bin .rem) [.tmp 55, .cst (.t (byteT 8))]])
 (.block 2
 (.seq
 (rG 81920 [oO 64 (.bin .eql) [.tmp 56, .cst (.t (byteT 6))],mv 63 64])
 (.cond (.tmp 63)
 (rG 86016 [oO 66 (.faddr 0) [.tmp 7],oO 67 (.load 19 true) [.tmp 66],cL 68 n_state_Boot true [.tmp 67],cL 69 n_state_Startup true [.tmp 68, .cst (.t (.int .i64 0))],mv 65 69,oO 70 (.extract 0) [.tmp 65],oO 71 (.extract 1) [.tmp 65],oS 30 7 70,mv 13 71])
 (.seq
 (rG 90112 [oO 73 (.bin .eql) [.tmp 56, .cst (.t (byteT 7))],mv 72 73])
 (.cond (.tmp 72)
 (.seq
 (.reg 94208 (some [0, 0, 0, 6, 14, 30, 62, 126, 255, 511, 1023, 1023, 2047, 8191]) [oO 75 (.load 30 true) [.tmp 7],mv 76 0,mv 77 11,oO 78 (.iaddr 1) [.tmp 76, .tmp 77],oO 79 (.load 1 false) [.tmp 78],oO 80 (.bin .quo) [.tmp 79, .cst (.t (byteT 8))],oO 81 (.bin .rem) [.tmp 80, .cst (.t (byteT 2))],oO 82 (.conv .i64) [.tmp 81],cL 83 n_state_Shutdown true [.tmp 75, .tmp 82],mv 74 83,oO 84 (.extract 0) [.tmp 74],oO 85 (.extract 1) [.tmp 74],oS 30 7 84,mv 13 85])
 (.seq
 (rG 98304 [mv 86 13,bN 87 .eql 86 0])
 (.cond (.tmp 87)
 (.reg 102400 (some [0, 1, 3, 0, 0, 24, 56, 120, 248, 504, 1023, 2047, 4095, 4095, 8191, 32767]) [oO 89 (.faddr 0) [.tmp 7],oO 90 (.load 19 true) [.tmp 89],cL 91 n_state_Boot true [.tmp 90],mv 92 0,mv 93 11,oO 94 (.iaddr 1) [.tmp 92, .tmp 93],oO 95 (.load 1 false) [.tmp 94],oO 96 (.bin .quo) [.tmp 95, .cst (.t (byteT 8))],oO 97 (.bin .rem) [.tmp 96, .cst (.t (byteT 2))],oO 98 (.conv .i64) [.tmp 97],cL 99 n_state_Startup true [.tmp 91, .tmp 98],mv 88 99,oO 100 (.extract 0) [.tmp 88],oO 101 (.extract 1) [.tmp 88],oS 30 7 100,mv 13 101])
 .skip)))
 (rG 77824 [oO 58 (.load 30 true) [.tmp 7],mv 59 12,cL 60 n_state_Tick true [.tmp 58, .tmp 59],mv 57 60,oO 61 (.extract 0) [.tmp 57],oO 62 (.extract 1) [.tmp 57],oS 30 7 61,mv 13 62])))))))
 (.seq
 (.seq
 (rG 106496 [mv 102 13,bN 103 .neq 102 0,mv 104 103,oF 105 104 (.faddr 0) [.tmp 7],oF 106 104 (.faddr 6) [.tmp 105],oF 107 104 (.load 1 false) [.tmp 106],mF 108 10 104,oF 109 104 (.bin .lss) [.tmp 107, .tmp 108],oO 110 .pick [.tmp 104, .cst (.t (.bool true)), .tmp 109],mv 111 110,oF 112 111 (.faddr 19) [.tmp 7],oF 113 111 (.faddr 4) [.tmp 112],oF 114 111 (.load 1 false) [.tmp 113],oF 115 111 (.faddr 0) [.tmp 7],oF 116 111 (.faddr 6) [.tmp 115],oF 117 111 (.load 1 false) [.tmp 116],oF 118 111 (.bin .lss) [.tmp 114, .tmp 117],oO 119 .pick [.tmp 111, .cst (.t (.bool true)), .tmp 118],mv 120 119,oF 121 120 (.faddr 19) [.tmp 7],oF 122 120 (.faddr 5) [.tmp 121],oF 123 120 (.load 1 false) [.tmp 122],mF 124 123 120,oG 125 124 (.faddr 19) [.tmp 7],oG 126 124 (.faddr 4) [.tmp 125],oG 127 124 (.load 1 false) [.tmp 126],mG 128 9 124,oG 129 124 (.bin .lss) [.tmp 127, .tmp 128],oF 130 120 .pick [.tmp 124, .tmp 129, .cst (.t (.bool false))],oO 131 .pick [.tmp 120, .cst (.t (.bool true)), .tmp 130]])
 (.cond (.tmp 131)
 (.seq
 (rG 110592 [mC 4 (.t (.bool false))])
 .ret)
 .skip))
 (.seq
 (.reg 114688 (some [0, 1, 3, 0, 0, 16, 48, 120, 7, 511]) [oO 132 (.faddr 0) [.tmp 7],oO 133 (.faddr 6) [.tmp 132],oO 134 (.load 1 false) [.tmp 133],mv 135 9,oO 136 (.faddr 19) [.tmp 7],oO 137 (.faddr 4) [.tmp 136],oO 138 (.load 1 false) [.tmp 137],oO 139 .max [.tmp 135, .tmp 138],mv 10 134,mv 9 139])
 (.seq
 (rG 118784 [mv 140 9,mv 141 10,bN 142 .quo 141 64,bN 143 .add 142 1,bN 144 .mul 143 64,bT 145 .geq 140 144])
 (.cond (.tmp 145)
 (.seq
 (rG 122880 [mC 4 (.t (.bool false))])
 .ret)
 .skip)))))))))
 (rG 53248 [mv 40 11,bN 41 .add 40 1,mv 11 41])))
def ac_law17_StateClock (n_law17_awake n_state_New n_state_Boot n_state_Startup n_state_Shutdown n_state_Tick : Nat) : AC :=
 (.seq
 (rG 4096 [mC 4 (.t (.bool false))])
 (.seq
 (.seq
 (rG 8192 [cL 14 n_law17_awake false [],oO 15 (.un .not) [.tmp 14]])
 (.cond (.tmp 15)
 (.seq
 (rG 12288 [mC 4 (.t (.bool false))])
 .ret)
 .skip))
 (.seq
 (.seq
 (rG 16384 [mv 16 0,oO 17 .len [.tmp 16],bN 18 .gtr 17 40])
 (.cond (.tmp 18)
 (.seq
 (rG 20480 [mC 4 (.t (.bool true))])
 .ret)
 .skip))
 (.seq
 (rG 24576 [oO 20 (.mkslice 1 1 (.t (byteT 0))) [.cst (.t (.int .i64 32)), .cst (.t (.int .i64 32))],cL 21 n_state_New true [.tmp 20, .cst (.t (.int .i64 2))],mv 19 21,oO 22 (.extract 0) [.tmp 19],oO 23 (.extract 1) [.tmp 19],oO 5 (.new 19 [(.agg [.nil, .nil, .nil, (.t (.int .i64 0)), (.t (.int .i64 0)), (.t (.int .i64 0)), (.t (.int .i64 0)), (.t (.bool false)), .nil, (.t (.int .i64 0)), (.t (.int .i64 0)), .nil, (.t (.int .i64 0)), (.t (.int .i64 0)), (.t (.int .i64 0)), (.t (.int .i64 0)), (.t (.int .i64 0)), (.t (.int .i64 0)), .nil])]) [],oS 19 5 22,mv 6 23])
 (.seq
 (rG 28672 [oO 25 (.load 19 true) [.tmp 5],cL 26 n_state_Boot true [.tmp 25],cL 27 n_state_Startup true [.tmp 26, .cst (.t (.int .i64 0))],mv 24 27,oO 28 (.extract 0) [.tmp 24],oO 29 (.extract 1) [.tmp 24],oO 7 (.new 30 [(.agg [.nil, .nil, .nil, (.t (.int .i64 0)), (.t (.int .i64 0)), (.t (.int .i64 0)), (.t (.int .i64 0)), (.t (.bool false)), .nil, (.t (.int .i64 0)), (.t (.int .i64 0)), .nil, (.t (.int .i64 0)), (.t (.int .i64 0)), (.t (.int .i64 0)), (.t (.int .i64 0)), (.t (.int .i64 0)), (.t (.int .i64 0)), .nil, (.t (.bool false)), (.t (.bool false)), .nil, (.t (.int .i64 0)), (.t (.int .i64 0)), (.t (.bool false)), (.t (.int .i64 0)), .nil, .nil, .nil, .nil])]) [],oS 30 7 28,mv 8 29])
 (.seq
 (.seq
 (rG 32768 [mv 30 6,bN 31 .neq 30 0,mv 32 31,mF 33 8 32,oF 34 32 (.bin .neq) [.tmp 33, .cst (.t (.int .i64 0))],oO 35 .pick [.tmp 32, .cst (.t (.bool true)), .tmp 34]])
 (.cond (.tmp 35)
 (.seq
 (rG 36864 [mC 4 (.t (.bool false))])
 .ret)
 .skip))
 (.seq
 (rG 40960 [mC 9 (.t (.int .i64 0)),mC 10 (.t (.int .i64 0))])
 (.seq
 (.seq
 (rG 45056 [mC 11 (.t (.int .i64 0))])
 (.block 0
 (.loop (ac_law17_StateClock_L0 n_state_Boot n_state_Startup n_state_Shutdown n_state_Tick))))
 (.seq
 (rG 126976 [mC 4 (.t (.bool true))])
 .ret)))))))))
def hints_law17_StateClock : List (Nat × List Nat) := [(5, [1]), (6, [1, 2]), (20, [2, 3]), (22, [8]), (24, [2, 10]), (18, [2])]
end Go.Eng
end
section
set_option maxRecDepth 20000
set_option maxHeartbeats 64000000
namespace Go.Eng
structure Sb where
 sd : List (List UInt8)
 au : List (List UInt8)
 en : List UInt8
 act : Int
 res : Int
 rst : Int
 clk : Int
 ord : Bool
 bk : List Bank
 u : Int
 mc : Int
 l1 : Int
 l2 : Int
 l3 : Int
 l4 : Int
 l5 : Int
 l6 : Int
def stbL (s : Sb) : List T := [.sl (s.sd.map bsT), .sl (s.au.map bsT), .sl (s.en.map byteT), .int .i64 s.act, .int .i64 s.res, .int .i64 s.rst, .int .i64 s.clk, .bool s.ord, .sl (s.bk.map bankT), .int .i64 s.u, .int .i64 s.mc, .sl [], .int .i64 s.l1, .int .i64 s.l2, .int .i64 s.l3, .int .i64 s.l4, .int .i64 s.l5, .int .i64 s.l6, .sl []]
def stbT (s : Sb) : T := .agg (stbL s)
def sb0 : Sb := ⟨[], [], [], 0, 0, 0, 0, false, [], 0, 0, 0, 0, 0, 0, 0, 0⟩
def snewG (en : List UInt8) (act : Int) : Sb := if en.length ≠ 32 ∨ act < 0 ∨ 3 < act then sb0 else ⟨[drv en [115, 101, 101, 100] [0] 32, drv en [115, 101, 101, 100] [1] 32, drv en [115, 101, 101, 100] [2] 32], [[], [], [], []], drv en [101, 110, 116, 114, 111, 112, 121] [] 32, act, 0, 0, 0, true, [], 0, 0, 0, 5, 100, 0, 0, 1000⟩
def snewE (en : List UInt8) (act : Int) : Int := if en.length ≠ 32 ∨ act < 0 ∨ 3 < act then 1 else 0
def lckT : T := .agg [.int .i64 0, .int .i64 5, .int .i64 100, .int .i64 0, .int .i64 0, .int .i64 1000]
def ct_lck : Ct where
 α := Unit
 as _ := []
 ins _ := []
 pre _ := True
 r _ := .t lckT
 outs _ := []
 inj := fun _ _ _ _ => ⟨rfl, rfl⟩
theorem lck_eq : ct_lck.fs [] [] = some (.t (.agg [.int .i64 0, .int .i64 5, .int .i64 100, .int .i64 0, .int .i64 0, .int .i64 1000]), []) := ct_lck.eq () trivial
theorem w_lockout_New (tab : Tab) (gl : Gl) : ac_lockout_New.wp tab gl (zipF 0 []) (zipF 0 []) (resW [(0, some (6, true))] 0 (fun r o => r = .t lckT ∧ o = [])) := by
 simp (config := { maxSteps := 2000000 }) (disch := (first | omega | (simp only [lens, lenm]; omega))) only [go_sem, ↓reduceIte, Nat.reduceAdd, Nat.reduceEqDiff, Nat.reduceSub, Nat.reduceMul, Nat.reduceLT, Nat.reduceLeDiff, Nat.reduceBEq, Int.reduceEq, Int.reduceLT, Int.reduceLE, Int.reduceToNat, Int.reduceNeg, Int.reduceAdd, Int.reduceSub, Int.reduceMul, Int.reduceMod, Int.reduceDiv, reduceCtorEq, Nat.reducePow, Int.reducePow, ac_lockout_New, lckT]
theorem w_ref13_New (tab : Tab) (gl : Gl) : ac_ref13_New.wp tab gl (zipF 0 []) (zipF 0 []) (resW [(0, some (6, true))] 0 (fun r o => r = .t lckT ∧ o = [])) := by
 simp (config := { maxSteps := 2000000 }) (disch := (first | omega | (simp only [lens, lenm]; omega))) only [go_sem, ↓reduceIte, Nat.reduceAdd, Nat.reduceEqDiff, Nat.reduceSub, Nat.reduceMul, Nat.reduceLT, Nat.reduceLeDiff, Nat.reduceBEq, Int.reduceEq, Int.reduceLT, Int.reduceLE, Int.reduceToNat, Int.reduceNeg, Int.reduceAdd, Int.reduceSub, Int.reduceMul, Int.reduceMod, Int.reduceDiv, reduceCtorEq, Nat.reducePow, Int.reducePow, ac_ref13_New, lckT]
theorem snew_bad {en : List UInt8} {act : Int} (h : en.length ≠ 32 ∨ act < 0 ∨ 3 < act) : snewG en act = sb0 ∧ snewE en act = 1 := ⟨if_pos h, if_pos h⟩
def sedK (en : List UInt8) (i : Nat) : List UInt8 := drv en [115, 101, 101, 100] [UInt8.ofNat i] 32
theorem snew_ok {en : List UInt8} {act : Int} (h : ¬ (en.length ≠ 32 ∨ act < 0 ∨ 3 < act)) : snewG en act = ⟨(List.range 3).map (sedK en), [[], [], [], []], drv en [101, 110, 116, 114, 111, 112, 121] [] 32, act, 0, 0, 0, true, [], 0, 0, 0, 5, 100, 0, 0, 1000⟩ ∧ snewE en act = 0 := ⟨if_neg h, if_neg h⟩
theorem w_state_New (tab : Tab) (gl : Gl) (n1 n2 : Nat) (h1 : tab.look n1 = some ct_lck.fs) (h2 : tab.look n2 = some ct_drv.fs) (en : List UInt8) (act : Int) (hl : en.length ≤ 9223372036854775807) :
   (ac_state_New n1 n2).wp tab gl (zipF 0 [.t (.sl (en.map byteT)), .t (.int .i64 act)]) (zipF 0 []) (resW [(4, some (19, true)), (5, none)] 0 (fun r o => r = .tup [.t (stbT (snewG en act)), .t (.int .i64 (snewE en act))] ∧ o = [])) := by
 by_cases c1 : en.length = 32
 · by_cases c2 : act < 0
   · rw [(snew_bad (en := en) (.inr (.inl c2))).1, (snew_bad (en := en) (.inr (.inl c2))).2]
     simp (config := { maxSteps := 2000000 }) (disch := (first | omega | (simp only [lens, lenm]; omega))) only [go_sem, ↓reduceIte, Nat.reduceAdd, Nat.reduceEqDiff, Nat.reduceSub, Nat.reduceMul, Nat.reduceLT, Nat.reduceLeDiff, Nat.reduceBEq, Int.reduceEq, Int.reduceLT, Int.reduceLE, Int.reduceToNat, Int.reduceNeg, Int.reduceAdd, Int.reduceSub, Int.reduceMul, Int.reduceMod, Int.reduceDiv, reduceCtorEq, Nat.reducePow, Int.reducePow, ac_state_New, c1, c2]
     all_goals rfl
   · by_cases c3 : 3 < act
     · rw [(snew_bad (en := en) (.inr (.inr c3))).1, (snew_bad (en := en) (.inr (.inr c3))).2]
       simp (config := { maxSteps := 2000000 }) (disch := (first | omega | (simp only [lens, lenm]; omega))) only [go_sem, ↓reduceIte, Nat.reduceAdd, Nat.reduceEqDiff, Nat.reduceSub, Nat.reduceMul, Nat.reduceLT, Nat.reduceLeDiff, Nat.reduceBEq, Int.reduceEq, Int.reduceLT, Int.reduceLE, Int.reduceToNat, Int.reduceNeg, Int.reduceAdd, Int.reduceSub, Int.reduceMul, Int.reduceMod, Int.reduceDiv, reduceCtorEq, Nat.reducePow, Int.reducePow, ac_state_New, c1, c2, c3]
       all_goals rfl
     · have ok := snew_ok (en := en) (act := act) (by omega)
       rw [ok.1, ok.2]
       simp (config := { maxSteps := 2000000 }) (disch := (first | omega | (simp only [lens, lenm]; omega))) only [go_sem, ↓reduceIte, Nat.reduceAdd, Nat.reduceEqDiff, Nat.reduceSub, Nat.reduceMul, Nat.reduceLT, Nat.reduceLeDiff, Nat.reduceBEq, Int.reduceEq, Int.reduceLT, Int.reduceLE, Int.reduceToNat, Int.reduceNeg, Int.reduceAdd, Int.reduceSub, Int.reduceMul, Int.reduceMod, Int.reduceDiv, reduceCtorEq, Nat.reducePow, Int.reducePow, ac_state_New, c1, c2, c3, h1, h2, lck_eq]
       refine And.intro rfl ?_
       refine loop_upto 3 (fun k => [(0, .t (.sl (en.map byteT))), (4, .ref 4096 0 0), (6, .ref 16448 0 0), (24, .t (.int .i64 (k : Nat)))]) (fun k => [(9000, .live 1 ((((List.range k).map (sedK en)).map bsT).map V.t) true false),
         (16448, .live 19 [.agg [.sl 9000 0 k, .sl 16384 0 4, .nil, .t (.int .i64 act), .t (.int .i64 0), .t (.int .i64 0), .t (.int .i64 0), .t (.bool true), .nil, .t (.int .i64 0), .t (.int .i64 0), .nil, .t (.int .i64 0), .t (.int .i64 5), .t (.int .i64 100), .t (.int .i64 0), .t (.int .i64 0), .t (.int .i64 1000), .nil]] true true),
         (16384, .live 1 [.nil, .nil, .nil, .nil] true false), (4096, .live 19 [.agg [.nil, .nil, .nil, .t (.int .i64 0), .t (.int .i64 0), .t (.int .i64 0), .t (.int .i64 0), .t (.bool false), .nil, .t (.int .i64 0), .t (.int .i64 0), .nil, .t (.int .i64 0), .t (.int .i64 0), .t (.int .i64 0), .t (.int .i64 0), .t (.int .i64 0), .t (.int .i64 0), .nil]] true true)]) ?_ (fun k hk' => ?_)
       · refine Weak.cv0 (hv := [(9000, .live 1 [] true false)]) (ho := [(16448, .live 19 [.agg [.sl 9000 0 0, .sl 16384 0 4, .nil, .t (.int .i64 act), .t (.int .i64 0), .t (.int .i64 0), .t (.int .i64 0), .t (.bool true), .nil, .t (.int .i64 0), .t (.int .i64 0), .nil, .t (.int .i64 0), .t (.int .i64 5), .t (.int .i64 100), .t (.int .i64 0), .t (.int .i64 0), .t (.int .i64 1000), .nil]] true true),
         (16384, .live 1 [.nil, .nil, .nil, .nil] true false), (4096, .live 19 [.agg [.nil, .nil, .nil, .t (.int .i64 0), .t (.int .i64 0), .t (.int .i64 0), .t (.int .i64 0), .t (.bool false), .nil, .t (.int .i64 0), .t (.int .i64 0), .nil, .t (.int .i64 0), .t (.int .i64 0), .t (.int .i64 0), .t (.int .i64 0), .t (.int .i64 0), .t (.int .i64 0), .nil]] true true)]) id ?_ ?_ rfl rfl
         all_goals simp (config := { maxSteps := 2000000 }) (disch := (first | omega | (simp only [lens, lenm]; omega))) only [go_sem, ↓reduceIte, Nat.reduceAdd, Nat.reduceEqDiff, Nat.reduceSub, Nat.reduceMul, Nat.reduceLT, Nat.reduceLeDiff, Nat.reduceBEq, Int.reduceEq, Int.reduceLT, Int.reduceLE, Int.reduceToNat, Int.reduceNeg, Int.reduceAdd, Int.reduceSub, Int.reduceMul, Int.reduceMod, Int.reduceDiv, reduceCtorEq, Nat.reducePow, Int.reducePow, id]
         all_goals rfl
       · by_cases hlt : k < 3
         · have hD := drv_eq (k := en) (l := [115, 101, 101, 100]) (c := [UInt8.ofNat k]) (n := 32) ⟨by omega, by simp, by simp, by omega, by omega⟩
           rw [show ((32 : Nat) : Int) = 32 from rfl] at hD
           simp only [List.map_cons, List.map_nil] at hD
           rw [show drv en [115, 101, 101, 100] [UInt8.ofNat k] 32 = sedK en k from rfl] at hD
           have lr : (List.range k).length = k := List.length_range
           simp (config := { maxSteps := 2000000 }) (disch := (first | omega | (simp only [lens, lenm]; omega))) only [go_sem, ↓reduceIte, Nat.reduceAdd, Nat.reduceEqDiff, Nat.reduceSub, Nat.reduceMul, Nat.reduceLT, Nat.reduceLeDiff, Nat.reduceBEq, Int.reduceEq, Int.reduceLT, Int.reduceLE, Int.reduceToNat, Int.reduceNeg, Int.reduceAdd, Int.reduceSub, Int.reduceMul, Int.reduceMod, Int.reduceDiv, reduceCtorEq, Nat.reducePow, Int.reducePow, ac_state_New_L0, h2, hD, lr, List.map_nil, List.map_cons]
           refine ⟨rfl, hlt, Weak.rd (fun j => if j = 9000 then 32896 else j) ?_ ?_ rfl⟩
           all_goals simp (config := { maxSteps := 2000000 }) (disch := (first | omega | (simp only [lens, lenm]; omega))) only [go_sem, ↓reduceIte, Nat.reduceAdd, Nat.reduceEqDiff, Nat.reduceSub, Nat.reduceMul, Nat.reduceLT, Nat.reduceLeDiff, Nat.reduceBEq, Int.reduceEq, Int.reduceLT, Int.reduceLE, Int.reduceToNat, Int.reduceNeg, Int.reduceAdd, Int.reduceSub, Int.reduceMul, Int.reduceMod, Int.reduceDiv, reduceCtorEq, Nat.reducePow, Int.reducePow, id]
           all_goals first | omega | rfl
         · have e : k = 3 := by omega
           subst e
           have hD := drv_eq (k := en) (l := [101, 110, 116, 114, 111, 112, 121]) (c := []) (n := 32) ⟨by omega, by simp, by simp, by omega, by omega⟩
           rw [show ((32 : Nat) : Int) = 32 from rfl] at hD
           simp only [List.map_nil] at hD
           simp (config := { maxSteps := 2000000 }) (disch := (first | omega | (simp only [lens, lenm]; omega))) only [go_sem, ↓reduceIte, Nat.reduceAdd, Nat.reduceEqDiff, Nat.reduceSub, Nat.reduceMul, Nat.reduceLT, Nat.reduceLeDiff, Nat.reduceBEq, Int.reduceEq, Int.reduceLT, Int.reduceLE, Int.reduceToNat, Int.reduceNeg, Int.reduceAdd, Int.reduceSub, Int.reduceMul, Int.reduceMod, Int.reduceDiv, reduceCtorEq, Nat.reducePow, Int.reducePow, ac_state_New_L0, h2, hD]
           all_goals rfl
 · rw [(snew_bad (act := act) (.inl c1)).1, (snew_bad (act := act) (.inl c1)).2]
   simp (config := { maxSteps := 2000000 }) (disch := (first | omega | (simp only [lens, lenm]; omega))) only [go_sem, ↓reduceIte, Nat.reduceAdd, Nat.reduceEqDiff, Nat.reduceSub, Nat.reduceMul, Nat.reduceLT, Nat.reduceLeDiff, Nat.reduceBEq, Int.reduceEq, Int.reduceLT, Int.reduceLE, Int.reduceToNat, Int.reduceNeg, Int.reduceAdd, Int.reduceSub, Int.reduceMul, Int.reduceMod, Int.reduceDiv, reduceCtorEq, Nat.reducePow, Int.reducePow, ac_state_New, c1]
   all_goals rfl
theorem w_ref17_New (tab : Tab) (gl : Gl) (n1 n2 : Nat) (h2 : tab.look n1 = some ct_drv.fs) (h1 : tab.look n2 = some ct_lck.fs) (en : List UInt8) (act : Int) (hl : en.length ≤ 9223372036854775807) :
   (ac_ref17_New n1 n2).wp tab gl (zipF 0 [.t (.sl (en.map byteT)), .t (.int .i64 act)]) (zipF 0 []) (resW [(4, some (19, true)), (5, none)] 0 (fun r o => r = .tup [.t (stbT (snewG en act)), .t (.int .i64 (snewE en act))] ∧ o = [])) := by
 by_cases c1 : en.length = 32
 · by_cases c2 : act < 0
   · rw [(snew_bad (en := en) (.inr (.inl c2))).1, (snew_bad (en := en) (.inr (.inl c2))).2]
     simp (config := { maxSteps := 2000000 }) (disch := (first | omega | (simp only [lens, lenm]; omega))) only [go_sem, ↓reduceIte, Nat.reduceAdd, Nat.reduceEqDiff, Nat.reduceSub, Nat.reduceMul, Nat.reduceLT, Nat.reduceLeDiff, Nat.reduceBEq, Int.reduceEq, Int.reduceLT, Int.reduceLE, Int.reduceToNat, Int.reduceNeg, Int.reduceAdd, Int.reduceSub, Int.reduceMul, Int.reduceMod, Int.reduceDiv, reduceCtorEq, Nat.reducePow, Int.reducePow, ac_ref17_New, c1, c2]
     all_goals rfl
   · by_cases c3 : 3 < act
     · rw [(snew_bad (en := en) (.inr (.inr c3))).1, (snew_bad (en := en) (.inr (.inr c3))).2]
       simp (config := { maxSteps := 2000000 }) (disch := (first | omega | (simp only [lens, lenm]; omega))) only [go_sem, ↓reduceIte, Nat.reduceAdd, Nat.reduceEqDiff, Nat.reduceSub, Nat.reduceMul, Nat.reduceLT, Nat.reduceLeDiff, Nat.reduceBEq, Int.reduceEq, Int.reduceLT, Int.reduceLE, Int.reduceToNat, Int.reduceNeg, Int.reduceAdd, Int.reduceSub, Int.reduceMul, Int.reduceMod, Int.reduceDiv, reduceCtorEq, Nat.reducePow, Int.reducePow, ac_ref17_New, c1, c2, c3]
       all_goals rfl
     · have ok := snew_ok (en := en) (act := act) (by omega)
       rw [ok.1, ok.2]
       have hE := drv_eq (k := en) (l := [101, 110, 116, 114, 111, 112, 121]) (c := []) (n := 32) ⟨by omega, by simp, by simp, by omega, by omega⟩
       rw [show ((32 : Nat) : Int) = 32 from rfl] at hE
       simp only [List.map_nil] at hE
       simp (config := { maxSteps := 2000000 }) (disch := (first | omega | (simp only [lens, lenm]; omega))) only [go_sem, ↓reduceIte, Nat.reduceAdd, Nat.reduceEqDiff, Nat.reduceSub, Nat.reduceMul, Nat.reduceLT, Nat.reduceLeDiff, Nat.reduceBEq, Int.reduceEq, Int.reduceLT, Int.reduceLE, Int.reduceToNat, Int.reduceNeg, Int.reduceAdd, Int.reduceSub, Int.reduceMul, Int.reduceMod, Int.reduceDiv, reduceCtorEq, Nat.reducePow, Int.reducePow, ac_ref17_New, c1, c2, c3, h1, h2, hE, lck_eq]
       refine And.intro rfl ?_
       refine loop_upto 3 (fun k => [(0, .t (.sl (en.map byteT))), (4, .ref 4096 0 0), (6, .ref 16480 0 0), (7, .t (.int .i64 (k : Nat)))]) (fun k => [(9000, .live 1 ((((List.range k).map (sedK en)).map bsT).map V.t) true false),
         (16480, .live 19 [.agg [.sl 9000 0 k, .sl 16384 0 4, .t (.sl ((drv en [101, 110, 116, 114, 111, 112, 121] [] 32).map byteT)), .t (.int .i64 act), .t (.int .i64 0), .t (.int .i64 0), .t (.int .i64 0), .t (.bool true), .nil, .t (.int .i64 0), .t (.int .i64 0), .nil, .t (.int .i64 0), .t (.int .i64 5), .t (.int .i64 100), .t (.int .i64 0), .t (.int .i64 0), .t (.int .i64 1000), .nil]] true true),
         (16384, .live 1 [.nil, .nil, .nil, .nil] true false), (4096, .live 19 [.agg [.nil, .nil, .nil, .t (.int .i64 0), .t (.int .i64 0), .t (.int .i64 0), .t (.int .i64 0), .t (.bool false), .nil, .t (.int .i64 0), .t (.int .i64 0), .nil, .t (.int .i64 0), .t (.int .i64 0), .t (.int .i64 0), .t (.int .i64 0), .t (.int .i64 0), .t (.int .i64 0), .nil]] true true)]) ?_ (fun k hk' => ?_)
       · refine Weak.cv0 (hv := [(9000, .live 1 [] true false)]) (ho := [(16480, .live 19 [.agg [.sl 9000 0 0, .sl 16384 0 4, .t (.sl ((drv en [101, 110, 116, 114, 111, 112, 121] [] 32).map byteT)), .t (.int .i64 act), .t (.int .i64 0), .t (.int .i64 0), .t (.int .i64 0), .t (.bool true), .nil, .t (.int .i64 0), .t (.int .i64 0), .nil, .t (.int .i64 0), .t (.int .i64 5), .t (.int .i64 100), .t (.int .i64 0), .t (.int .i64 0), .t (.int .i64 1000), .nil]] true true),
         (16384, .live 1 [.nil, .nil, .nil, .nil] true false), (4096, .live 19 [.agg [.nil, .nil, .nil, .t (.int .i64 0), .t (.int .i64 0), .t (.int .i64 0), .t (.int .i64 0), .t (.bool false), .nil, .t (.int .i64 0), .t (.int .i64 0), .nil, .t (.int .i64 0), .t (.int .i64 0), .t (.int .i64 0), .t (.int .i64 0), .t (.int .i64 0), .t (.int .i64 0), .nil]] true true)]) id ?_ ?_ rfl rfl
         all_goals simp (config := { maxSteps := 2000000 }) (disch := (first | omega | (simp only [lens, lenm]; omega))) only [go_sem, ↓reduceIte, Nat.reduceAdd, Nat.reduceEqDiff, Nat.reduceSub, Nat.reduceMul, Nat.reduceLT, Nat.reduceLeDiff, Nat.reduceBEq, Int.reduceEq, Int.reduceLT, Int.reduceLE, Int.reduceToNat, Int.reduceNeg, Int.reduceAdd, Int.reduceSub, Int.reduceMul, Int.reduceMod, Int.reduceDiv, reduceCtorEq, Nat.reducePow, Int.reducePow, id]
         all_goals rfl
       · by_cases hlt : k < 3
         · have hD := drv_eq (k := en) (l := [115, 101, 101, 100]) (c := [UInt8.ofNat k]) (n := 32) ⟨by omega, by simp, by simp, by omega, by omega⟩
           rw [show ((32 : Nat) : Int) = 32 from rfl] at hD
           simp only [List.map_cons, List.map_nil] at hD
           rw [show drv en [115, 101, 101, 100] [UInt8.ofNat k] 32 = sedK en k from rfl] at hD
           have lr : (List.range k).length = k := List.length_range
           simp (config := { maxSteps := 2000000 }) (disch := (first | omega | (simp only [lens, lenm]; omega))) only [go_sem, ↓reduceIte, Nat.reduceAdd, Nat.reduceEqDiff, Nat.reduceSub, Nat.reduceMul, Nat.reduceLT, Nat.reduceLeDiff, Nat.reduceBEq, Int.reduceEq, Int.reduceLT, Int.reduceLE, Int.reduceToNat, Int.reduceNeg, Int.reduceAdd, Int.reduceSub, Int.reduceMul, Int.reduceMod, Int.reduceDiv, reduceCtorEq, Nat.reducePow, Int.reducePow, ac_ref17_New_L0, h2, hD, lr, List.map_nil, List.map_cons]
           refine ⟨rfl, hlt, Weak.rd (fun j => if j = 9000 then 32896 else j) ?_ ?_ rfl⟩
           all_goals simp (config := { maxSteps := 2000000 }) (disch := (first | omega | (simp only [lens, lenm]; omega))) only [go_sem, ↓reduceIte, Nat.reduceAdd, Nat.reduceEqDiff, Nat.reduceSub, Nat.reduceMul, Nat.reduceLT, Nat.reduceLeDiff, Nat.reduceBEq, Int.reduceEq, Int.reduceLT, Int.reduceLE, Int.reduceToNat, Int.reduceNeg, Int.reduceAdd, Int.reduceSub, Int.reduceMul, Int.reduceMod, Int.reduceDiv, reduceCtorEq, Nat.reducePow, Int.reducePow, id]
           all_goals first | omega | rfl
         · have e : k = 3 := by omega
           subst e
           simp (config := { maxSteps := 2000000 }) (disch := (first | omega | (simp only [lens, lenm]; omega))) only [go_sem, ↓reduceIte, Nat.reduceAdd, Nat.reduceEqDiff, Nat.reduceSub, Nat.reduceMul, Nat.reduceLT, Nat.reduceLeDiff, Nat.reduceBEq, Int.reduceEq, Int.reduceLT, Int.reduceLE, Int.reduceToNat, Int.reduceNeg, Int.reduceAdd, Int.reduceSub, Int.reduceMul, Int.reduceMod, Int.reduceDiv, reduceCtorEq, Nat.reducePow, Int.reducePow, ac_ref17_New_L0]
           all_goals rfl
 · rw [(snew_bad (act := act) (.inl c1)).1, (snew_bad (act := act) (.inl c1)).2]
   simp (config := { maxSteps := 2000000 }) (disch := (first | omega | (simp only [lens, lenm]; omega))) only [go_sem, ↓reduceIte, Nat.reduceAdd, Nat.reduceEqDiff, Nat.reduceSub, Nat.reduceMul, Nat.reduceLT, Nat.reduceLeDiff, Nat.reduceBEq, Int.reduceEq, Int.reduceLT, Int.reduceLE, Int.reduceToNat, Int.reduceNeg, Int.reduceAdd, Int.reduceSub, Int.reduceMul, Int.reduceMod, Int.reduceDiv, reduceCtorEq, Nat.reducePow, Int.reducePow, ac_ref17_New, c1]
   all_goals rfl
theorem stbT_inj {a b : Sb} (h : stbT a = stbT b) : a = b := by
 cases a; cases b
 simp only [stbT, stbL, T.agg.injEq, List.cons.injEq, T.int.injEq, T.sl.injEq, T.bool.injEq, true_and, and_true, mapBs_inj, mapB_inj] at h
 obtain ⟨rfl, rfl, rfl, rfl, rfl, rfl, rfl, rfl, h, rfl, rfl, rfl, rfl, rfl, rfl, rfl, rfl⟩ := h
 rw [map_inj' (fun _ _ => bankT_inj) h]
def ct_snew : Ct where
 α := List UInt8 × Int
 as x := [.t (.sl (x.1.map byteT)), .t (.int .i64 x.2)]
 ins _ := []
 pre x := x.1.length ≤ 9223372036854775807
 r x := .tup [.t (stbT (snewG x.1 x.2)), .t (.int .i64 (snewE x.1 x.2))]
 outs _ := []
 inj := by
   rintro ⟨a, b⟩ ⟨c, d⟩ h _
   simp only [List.cons.injEq, V.t.injEq, T.int.injEq, T.sl.injEq, true_and, and_true, mapB_inj] at h
   obtain ⟨rfl, rfl⟩ := h
   exact ⟨rfl, rfl⟩
theorem snew_eq {en : List UInt8} {act : Int} (h : en.length ≤ 9223372036854775807) : ct_snew.fs [.t (.sl (en.map byteT)), .t (.int .i64 act)] [] = some (.tup [.t (stbT (snewG en act)), .t (.int .i64 (snewE en act))], []) := ct_snew.eq (en, act) h
def sbM (s : Sb) : Prop := modL s.sd ∧ modL s.au ∧ s.en.length < 1000000000 ∧ RM s.bk
def ct_sst : Ct where
 α := Sb
 as x := [.t (stbT x), .t (stbT x)]
 ins _ := []
 pre x := sbM x
 r _ := .t (.bool true)
 outs _ := []
 inj := fun _ _ _ _ => ⟨rfl, rfl⟩
theorem sst_eq {s : Sb} (h : sbM s) : ct_sst.fs [.t (stbT s), .t (stbT s)] [] = some (.t (.bool true), []) := ct_sst.eq s h
theorem ints6 {a b c d e f : Int} : intsOf .i64 [.int .i64 a, .int .i64 b, .int .i64 c, .int .i64 d, .int .i64 e, .int .i64 f] = some [a, b, c, d, e, f] := rfl
theorem w_ref17_SameStable (tab : Tab) (gl : Gl) (n1 n2 n3 n4 : Nat) (h1 : tab.look n1 = some ct_lists.fs) (h2 : tab.look n2 = some ct_same.fs) (h3 : tab.look n3 = some ct_eqR.fs) (s : Sb) (hs : sbM s) :
   (ac_ref17_SameStable n1 n2 n3 n4).wp tab gl (zipF 0 [.t (stbT s), .t (stbT s)]) (zipF 0 []) (resW [(4, none)] 0 (fun r o => r = .t (.bool true) ∧ o = [])) := by
 obtain ⟨m1, m2, m3, m4⟩ := hs
 have e1 := lists_eq m1
 have e2 := lists_eq m2
 have e3 := same_eq (a := s.en) (b := s.en) ⟨m3, m3⟩
 have e4 : ct_eqR.fs [.t (.agg [.sl (s.bk.map bankT), .int .i64 s.u]), .t (.agg [.sl (s.bk.map bankT), .int .i64 s.u])] [] = some (.t (.bool true), []) := ct_eqR.eq (s.bk, s.u) m4
 cases s
 simp only at *
 rename_i l1 l2 l3 l4 l5 l6
 have eb : ([l1, l2, l3, l4, l5, l6] == [l1, l2, l3, l4, l5, l6]) = true := by simp
 simp (config := { maxSteps := 2000000 }) (disch := (first | omega | (simp only [lens, lenm]; omega))) only [go_sem, ↓reduceIte, Nat.reduceAdd, Nat.reduceEqDiff, Nat.reduceSub, Nat.reduceMul, Nat.reduceLT, Nat.reduceLeDiff, Nat.reduceBEq, Int.reduceEq, Int.reduceLT, Int.reduceLE, Int.reduceToNat, Int.reduceNeg, Int.reduceAdd, Int.reduceSub, Int.reduceMul, Int.reduceMod, Int.reduceDiv, reduceCtorEq, Nat.reducePow, Int.reducePow, ac_ref17_SameStable, stbT, stbL, h1, h2, h3, e1, e2, e3, e4, ints6, eb]
 refine loop_fuel 1 ?_
 simp (config := { maxSteps := 2000000 }) (disch := (first | omega | (simp only [lens, lenm]; omega))) only [go_sem, ↓reduceIte, Nat.reduceAdd, Nat.reduceEqDiff, Nat.reduceSub, Nat.reduceMul, Nat.reduceLT, Nat.reduceLeDiff, Nat.reduceBEq, Int.reduceEq, Int.reduceLT, Int.reduceLE, Int.reduceToNat, Int.reduceNeg, Int.reduceAdd, Int.reduceSub, Int.reduceMul, Int.reduceMod, Int.reduceDiv, reduceCtorEq, Nat.reducePow, Int.reducePow, loopN_succ, ac_ref17_SameStable_L0]
 refine loop_fuel 1 ?_
 simp (config := { maxSteps := 2000000 }) (disch := (first | omega | (simp only [lens, lenm]; omega))) only [go_sem, ↓reduceIte, Nat.reduceAdd, Nat.reduceEqDiff, Nat.reduceSub, Nat.reduceMul, Nat.reduceLT, Nat.reduceLeDiff, Nat.reduceBEq, Int.reduceEq, Int.reduceLT, Int.reduceLE, Int.reduceToNat, Int.reduceNeg, Int.reduceAdd, Int.reduceSub, Int.reduceMul, Int.reduceMod, Int.reduceDiv, reduceCtorEq, Nat.reducePow, Int.reducePow, loopN_succ, ac_ref17_SameStable_L1]
def ct_seed : Ct where
 α := List UInt8
 as x := [.t (.sl (x.map byteT))]
 ins _ := []
 pre x := x.length ≤ 9223372036854775807
 r _ := .sl 0 0 32
 outs x := [.live 1 (((x.take 32 ++ List.replicate (32 - x.length) 0).map byteT).map V.t) true false]
 inj := by
   rintro a c h _
   simp only [List.cons.injEq, V.t.injEq, T.sl.injEq, true_and, and_true, mapB_inj] at h
   subst h
   exact ⟨rfl, rfl⟩
theorem seed_eq {b : List UInt8} (h : b.length ≤ 9223372036854775807) : ct_seed.fs [.t (.sl (b.map byteT))] [] = some (.sl 0 0 32, [.live 1 (((b.take 32 ++ List.replicate (32 - b.length) 0).map byteT).map V.t) true false]) := ct_seed.eq b h
theorem w_draw_Seed (tab : Tab) (gl : Gl) (b : List UInt8) (hb : b.length ≤ 9223372036854775807) : ac_draw_Seed.wp tab gl (zipF 0 [.t (.sl (b.map byteT))]) (zipF 0 []) (resF [] [(2, none)] 0 (fun r o => r = .sl 0 0 32 ∧ o = [.live 1 (((b.take 32 ++ List.replicate (32 - b.length) 0).map byteT).map V.t) true false])) := by
 simp (config := { maxSteps := 2000000 }) (disch := (first | omega | (simp only [lens, lenm]; omega))) only [go_sem, ↓reduceIte, Nat.reduceAdd, Nat.reduceEqDiff, Nat.reduceSub, Nat.reduceMul, Nat.reduceLT, Nat.reduceLeDiff, Nat.reduceBEq, Int.reduceEq, Int.reduceLT, Int.reduceLE, Int.reduceToNat, Int.reduceNeg, Int.reduceAdd, Int.reduceSub, Int.reduceMul, Int.reduceMod, Int.reduceDiv, reduceCtorEq, Nat.reducePow, Int.reducePow, ac_draw_Seed]
 rw [show 32 - min 32 b.length = 32 - b.length by omega]
structure Vl where
 on : Bool
 off : Bool
 bk : List Bank
 u : Int
 clk : Int
 safe : Bool
 dr : Int
def sesT : T := .agg [.int .i64 0, .sl [], .sl [], .int .i64 0, .int .i64 0, .int .i64 0, .int .i64 0, .bool false]
def objT : T := .agg [.int .i64 0, .int .i64 0, .int .i64 0, .sl [], .sl [], .sl [], .sl [], .sl [], .int .i64 0]
def volL (v : Vl) : List T := [.bool v.on, .bool v.off, .sl (v.bk.map bankT), .int .i64 v.u, .int .i64 v.clk, .bool v.safe, .int .i64 v.dr, .sl [sesT, sesT, sesT], .sl [objT, objT, objT], .sl [], .sl []]
def stT (s : Sb) (v : Vl) : T := .agg (stbL s ++ volL v)
def vl0 : Vl := ⟨false, false, [], 0, 0, false, 0⟩
theorem stT_inj {a c : Sb} {b d : Vl} (h : stT a b = stT c d) : a = c ∧ b = d := by
 simp only [stT, T.agg.injEq] at h
 obtain ⟨h1, h2⟩ := List.append_inj h rfl
 refine ⟨stbT_inj (congrArg T.agg h1), ?_⟩
 cases b; cases d
 simp only [volL, List.cons.injEq, T.int.injEq, T.sl.injEq, T.bool.injEq, and_true, true_and] at h2
 obtain ⟨rfl, rfl, hb, rfl, rfl, rfl, rfl⟩ := h2
 rw [map_inj' (fun _ _ => bankT_inj) hb]
def ct_boot : Ct where
 α := Sb
 as x := [.t (stbT x)]
 ins _ := []
 pre _ := True
 r x := .t (stT x vl0)
 outs _ := []
 inj := by
   intro a b h _
   simp only [List.cons.injEq, V.t.injEq, and_true] at h
   rw [stbT_inj h]
   exact ⟨rfl, rfl⟩
theorem boot_eq {s : Sb} : ct_boot.fs [.t (stbT s)] [] = some (.t (stT s vl0), []) := ct_boot.eq s trivial
theorem w_state_Boot (tab : Tab) (gl : Gl) (s : Sb) : ac_state_Boot.wp tab gl (zipF 0 [.t (stbT s)]) (zipF 0 []) (resW [(2, some (30, true))] 0 (fun r o => r = .t (stT s vl0) ∧ o = [])) := by
 cases s
 simp (config := { maxSteps := 2000000 }) (disch := (first | omega | (simp only [lens, lenm]; omega))) only [go_sem, ↓reduceIte, Nat.reduceAdd, Nat.reduceEqDiff, Nat.reduceSub, Nat.reduceMul, Nat.reduceLT, Nat.reduceLeDiff, Nat.reduceBEq, Int.reduceEq, Int.reduceLT, Int.reduceLE, Int.reduceToNat, Int.reduceNeg, Int.reduceAdd, Int.reduceSub, Int.reduceMul, Int.reduceMod, Int.reduceDiv, reduceCtorEq, Nat.reducePow, Int.reducePow, ac_state_Boot, stbT, stbL]
 exact ⟨rfl, rfl⟩
def supG (s : Sb) (m : Int) : Sb × Vl :=
 if m = 0 then (⟨s.sd, s.au, s.en, s.act, s.res + 1, 0, s.clk, false, [], 0, s.mc, s.l1, s.l2, s.l3, s.l4, s.l5, s.l6⟩, ⟨true, false, newBk 2, 0, s.clk, s.ord, 0⟩)
 else (⟨s.sd, s.au, s.en, s.act, s.res, s.rst + 1, s.clk, false, [], 0, s.mc, s.l1, s.l2, s.l3, s.l4, s.l5, s.l6⟩, ⟨true, false, resBk s.bk, s.u, s.clk, s.ord, 0⟩)
def supP (s : Sb) (m : Int) : Prop := s.act = 2 ∧ RM s.bk ∧ ((m = 0 ∧ 0 ≤ s.res ∧ s.res < 1000000) ∨ (m = 1 ∧ s.bk.length = 2 ∧ 0 ≤ s.rst ∧ s.rst < 1000000))
def ct_sup : Ct where
 α := Sb × Int
 as x := [.t (stT x.1 vl0), .t (.int .i64 x.2)]
 ins _ := []
 pre x := supP x.1 x.2
 r x := .tup [.t (stT (supG x.1 x.2).1 (supG x.1 x.2).2), .t (.int .i64 0)]
 outs _ := []
 inj := by
   rintro ⟨a, b⟩ ⟨c, d⟩ h _
   simp only [List.cons.injEq, V.t.injEq, T.int.injEq, true_and, and_true] at h
   obtain ⟨h1, rfl⟩ := h
   obtain ⟨rfl, _⟩ := stT_inj h1
   exact ⟨rfl, rfl⟩
theorem sup_eq {s : Sb} {m : Int} (h : supP s m) : ct_sup.fs [.t (stT s vl0), .t (.int .i64 m)] [] = some (.tup [.t (stT (supG s m).1 (supG s m).2), .t (.int .i64 0)], []) := ct_sup.eq (s, m) h
theorem w_state_Startup (tab : Tab) (gl : Gl) (n1 n2 : Nat) (h1 : tab.look n1 = some ct_new.fs) (h2 : tab.look n2 = some ct_rsm.fs) (s : Sb) (m : Int) (hs : supP s m) :
   (ac_state_Startup n1 n2).wp tab gl (zipF 0 [.t (stT s vl0), .t (.int .i64 m)]) (zipF 0 []) (resW [(4, some (30, true)), (5, none)] 0 (fun r o => r = .tup [.t (stT (supG s m).1 (supG s m).2), .t (.int .i64 0)] ∧ o = [])) := by
 obtain ⟨ha, hb, hm⟩ := hs
 rcases hm with ⟨rfl, h0⟩ | ⟨rfl, hn, h0⟩
 · have hN := aw_new
   have l16 := @newB_length 1
   have t16 : List.take 16 (newB 1) = newB 1 := List.take_of_length_le (by omega)
   rw [supG, if_pos rfl]
   cases s
   simp only at *
   subst ha
   simp (config := { maxSteps := 2000000 }) (disch := (first | omega | (simp only [lens, lenm]; omega))) only [go_sem, ↓reduceIte, Nat.reduceAdd, Nat.reduceEqDiff, Nat.reduceSub, Nat.reduceMul, Nat.reduceLT, Nat.reduceLeDiff, Nat.reduceBEq, Int.reduceEq, Int.reduceLT, Int.reduceLE, Int.reduceToNat, Int.reduceNeg, Int.reduceAdd, Int.reduceSub, Int.reduceMul, Int.reduceMod, Int.reduceDiv, reduceCtorEq, Nat.reducePow, Int.reducePow, ac_state_Startup, stT, stbL, volL, vl0, h1, hN, l16, t16]
   exact ⟨rfl, rfl⟩
 · have hR := rsm_eq (u := s.u) hb
   rw [supG, if_neg (by decide)]
   cases s
   simp only [regT] at *
   simp (config := { maxSteps := 2000000 }) (disch := (first | omega | (simp only [lens, lenm]; omega))) only [go_sem, ↓reduceIte, Nat.reduceAdd, Nat.reduceEqDiff, Nat.reduceSub, Nat.reduceMul, Nat.reduceLT, Nat.reduceLeDiff, Nat.reduceBEq, Int.reduceEq, Int.reduceLT, Int.reduceLE, Int.reduceToNat, Int.reduceNeg, Int.reduceAdd, Int.reduceSub, Int.reduceMul, Int.reduceMod, Int.reduceDiv, reduceCtorEq, Nat.reducePow, Int.reducePow, ac_state_Startup, stT, stbL, volL, vl0, h2, hR, hn]
   all_goals rfl
def shdG (s : Sb) (v : Vl) (m : Int) : Sb :=
 if m = 0 then ⟨s.sd, s.au, s.en, s.act, s.res, s.rst, v.clk, v.safe, [], 0, s.mc, s.l1, s.l2, s.l3, s.l4, s.l5, s.l6⟩
 else ⟨s.sd, s.au, s.en, s.act, s.res, s.rst, v.clk, v.safe, v.bk, v.u, s.mc, s.l1, s.l2, s.l3, s.l4, s.l5, s.l6⟩
def vl1 : Vl := ⟨false, true, [], 0, 0, false, 0⟩
def ct_shd : Ct where
 α := Sb × Vl × Int
 as x := [.t (stT x.1 x.2.1), .t (.int .i64 x.2.2)]
 ins _ := []
 pre x := x.2.1.on = true ∧ (x.2.2 = 0 ∨ x.2.2 = 1)
 r x := .tup [.t (stT (shdG x.1 x.2.1 x.2.2) vl1), .t (.int .i64 0)]
 outs _ := []
 inj := by
   rintro ⟨a, b, m⟩ ⟨c, d, n⟩ h _
   simp only [List.cons.injEq, V.t.injEq, T.int.injEq, true_and, and_true] at h
   obtain ⟨h1, rfl⟩ := h
   obtain ⟨rfl, rfl⟩ := stT_inj h1
   exact ⟨rfl, rfl⟩
theorem shd_eq {s : Sb} {v : Vl} {m : Int} (h : v.on = true ∧ (m = 0 ∨ m = 1)) : ct_shd.fs [.t (stT s v), .t (.int .i64 m)] [] = some (.tup [.t (stT (shdG s v m) vl1), .t (.int .i64 0)], []) := ct_shd.eq (s, v, m) h
theorem w_state_Shutdown (tab : Tab) (gl : Gl) (n1 : Nat) (h1 : tab.look n1 = some ct_boot.fs) (s : Sb) (v : Vl) (m : Int) (hs : v.on = true ∧ (m = 0 ∨ m = 1)) :
   (ac_state_Shutdown n1).wp tab gl (zipF 0 [.t (stT s v), .t (.int .i64 m)]) (zipF 0 []) (resW [(4, some (30, true)), (5, none)] 0 (fun r o => r = .tup [.t (stT (shdG s v m) vl1), .t (.int .i64 0)] ∧ o = [])) := by
 obtain ⟨ho, hm⟩ := hs
 have hB := @boot_eq (shdG s v m)
 rcases hm with rfl | rfl
 · rw [shdG, if_pos rfl] at *
   cases s; cases v
   simp only at *
   subst ho
   simp only [stbT, stbL, List.map_nil] at hB
   simp (config := { maxSteps := 2000000 }) (disch := (first | omega | (simp only [lens, lenm]; omega))) only [go_sem, ↓reduceIte, Nat.reduceAdd, Nat.reduceEqDiff, Nat.reduceSub, Nat.reduceMul, Nat.reduceLT, Nat.reduceLeDiff, Nat.reduceBEq, Int.reduceEq, Int.reduceLT, Int.reduceLE, Int.reduceToNat, Int.reduceNeg, Int.reduceAdd, Int.reduceSub, Int.reduceMul, Int.reduceMod, Int.reduceDiv, reduceCtorEq, Nat.reducePow, Int.reducePow, ac_state_Shutdown, stT, stbL, volL, vl0, vl1, h1, hB]
   all_goals first | rfl | exact ⟨rfl, rfl⟩
 · rw [shdG, if_neg (by decide)] at *
   cases s; cases v
   simp only at *
   subst ho
   simp only [stbT, stbL, List.map_nil] at hB
   simp (config := { maxSteps := 2000000 }) (disch := (first | omega | (simp only [lens, lenm]; omega))) only [go_sem, ↓reduceIte, Nat.reduceAdd, Nat.reduceEqDiff, Nat.reduceSub, Nat.reduceMul, Nat.reduceLT, Nat.reduceLeDiff, Nat.reduceBEq, Int.reduceEq, Int.reduceLT, Int.reduceLE, Int.reduceToNat, Int.reduceNeg, Int.reduceAdd, Int.reduceSub, Int.reduceMul, Int.reduceMod, Int.reduceDiv, reduceCtorEq, Nat.reducePow, Int.reducePow, ac_state_Shutdown, stT, stbL, volL, vl0, vl1, h1, hB]
   all_goals first | rfl | exact ⟨rfl, rfl⟩
def tickG (s : Sb) (v : Vl) (n : Int) : Sb × Vl :=
 if (v.clk + n) / 64 = v.clk / 64 then (s, ⟨v.on, v.off, v.bk, v.u, v.clk + n, v.safe, v.dr⟩)
 else (⟨s.sd, s.au, s.en, s.act, s.res, s.rst, v.clk + n, s.ord, s.bk, s.u, s.mc, s.l1, s.l2, s.l3, s.l4, s.l5, s.l6⟩, ⟨v.on, v.off, v.bk, v.u, v.clk + n, true, v.dr⟩)
def ct_tick : Ct where
 α := Sb × Vl × Int
 as x := [.t (stT x.1 x.2.1), .t (.int .i64 x.2.2)]
 ins _ := []
 pre x := x.2.1.on = true ∧ 1 ≤ x.2.2 ∧ x.2.2 ≤ 1048576 ∧ 0 ≤ x.2.1.clk ∧ x.2.1.clk < 1000000000
 r x := .tup [.t (stT (tickG x.1 x.2.1 x.2.2).1 (tickG x.1 x.2.1 x.2.2).2), .t (.int .i64 0)]
 outs _ := []
 inj := by
   rintro ⟨a, b, m⟩ ⟨c, d, n⟩ h _
   simp only [List.cons.injEq, V.t.injEq, T.int.injEq, true_and, and_true] at h
   obtain ⟨h1, rfl⟩ := h
   obtain ⟨rfl, rfl⟩ := stT_inj h1
   exact ⟨rfl, rfl⟩
theorem tick_eq {s : Sb} {v : Vl} {n : Int} (h : v.on = true ∧ 1 ≤ n ∧ n ≤ 1048576 ∧ 0 ≤ v.clk ∧ v.clk < 1000000000) : ct_tick.fs [.t (stT s v), .t (.int .i64 n)] [] = some (.tup [.t (stT (tickG s v n).1 (tickG s v n).2), .t (.int .i64 0)], []) := ct_tick.eq (s, v, n) h
theorem w_state_Tick (tab : Tab) (gl : Gl) (s : Sb) (v : Vl) (n : Int) (hs : v.on = true ∧ 1 ≤ n ∧ n ≤ 1048576 ∧ 0 ≤ v.clk ∧ v.clk < 1000000000) :
   ac_state_Tick.wp tab gl (zipF 0 [.t (stT s v), .t (.int .i64 n)]) (zipF 0 []) (resW [(4, some (30, true)), (5, none)] 0 (fun r o => r = .tup [.t (stT (tickG s v n).1 (tickG s v n).2), .t (.int .i64 0)] ∧ o = [])) := by
 obtain ⟨ho, hn, hn', hc, hc'⟩ := hs
 have q1 : (v.clk + n).tdiv 64 = (v.clk + n) / 64 := Int.tdiv_eq_ediv_of_nonneg (by omega)
 have q2 : v.clk.tdiv 64 = v.clk / 64 := Int.tdiv_eq_ediv_of_nonneg (by omega)
 by_cases hd : (v.clk + n) / 64 = v.clk / 64
 · rw [tickG, if_pos hd]
   have hb : ((v.clk + n) / 64 != v.clk / 64) = false := by simp [hd]
   cases s; cases v
   simp only at *
   subst ho
   simp (config := { maxSteps := 2000000 }) (disch := (first | omega | (simp only [lens, lenm]; omega))) only [go_sem, ↓reduceIte, Nat.reduceAdd, Nat.reduceEqDiff, Nat.reduceSub, Nat.reduceMul, Nat.reduceLT, Nat.reduceLeDiff, Nat.reduceBEq, Int.reduceEq, Int.reduceLT, Int.reduceLE, Int.reduceToNat, Int.reduceNeg, Int.reduceAdd, Int.reduceSub, Int.reduceMul, Int.reduceMod, Int.reduceDiv, reduceCtorEq, Nat.reducePow, Int.reducePow, ac_state_Tick, stT, stbL, volL, q1, q2, hb]
   all_goals first | rfl | exact ⟨rfl, rfl⟩
 · rw [tickG, if_neg hd]
   have hb : ((v.clk + n) / 64 != v.clk / 64) = true := by simp [hd]
   cases s; cases v
   simp only at *
   subst ho
   simp (config := { maxSteps := 2000000 }) (disch := (first | omega | (simp only [lens, lenm]; omega))) only [go_sem, ↓reduceIte, Nat.reduceAdd, Nat.reduceEqDiff, Nat.reduceSub, Nat.reduceMul, Nat.reduceLT, Nat.reduceLeDiff, Nat.reduceBEq, Int.reduceEq, Int.reduceLT, Int.reduceLE, Int.reduceToNat, Int.reduceNeg, Int.reduceAdd, Int.reduceSub, Int.reduceMul, Int.reduceMod, Int.reduceDiv, reduceCtorEq, Nat.reducePow, Int.reducePow, ac_state_Tick, stT, stbL, volL, q1, q2, hb]
   all_goals first | rfl | exact ⟨rfl, rfl⟩
def dgx (a : Nat) (b : List UInt8) : List UInt8 := List.take (szA a) b ++ List.replicate (szA a - min (szA a) b.length) 0
def dg1 (a : Nat) (b : List UInt8) : List UInt8 := (dgx a b).set (szA a - 1) ((dgx a b).getD (szA a - 1) 0 ^^^ UInt8.ofNat a)
def dgb (s : Int) (a : Nat) (b : List UInt8) : List UInt8 := if s / (2 ^ a : Nat) % 2 = 1 then dg1 a b else []
def dgB (s : Int) (b : List UInt8) : List (List UInt8) := [dgb s 0 b, dgb s 1 b]
def extP (x : List Bank × Int) (l i : Int) (ds : List (List UInt8)) : List Bank × Int := if extEr x.1 l i ds = 0 then (extBk x.1 i.toNat ds, x.2 + 1) else x
def evP (x : List Bank × Int) (l i : Int) (d : List UInt8) : List Bank × Int := if 128 < d.length then x else extP x l i (digB x.1 d)
def rstP (x : List Bank × Int) (l i : Int) : List Bank × Int := if rstE l i = 0 then (rstBk x.1 i.toNat, x.2 + 1) else x
def Ans (x : List Bank × Int) (v : V) (y : List Bank × Int) : Prop := ∃ (bk : List Bank) (u e : Int), v = .tup [.t (.agg [.sl (bk.map bankT), .int .i64 u]), .t (.int .i64 e)] ∧ ((e = 0 ∧ y = (bk, u)) ∨ (e ≠ 0 ∧ y = x))
def RS (n : Nat) (x : List Bank × Int) : Prop := RV x.1 ∧ 0 ≤ x.2 ∧ x.2 ≤ n
theorem RS.up {n m : Nat} {x : List Bank × Int} (h : RS n x) (hm : n ≤ m) : RS m x := ⟨h.1, h.2.1, by have := h.2.2; omega⟩
theorem RS.ext {n : Nat} {x : List Bank × Int} (h : RS n x) (l i : Int) (ds : List (List UInt8)) : RS (n + 1) (extP x l i ds) := by
 unfold extP
 split
 · exact ⟨h.1.ext _ _, by have := h.2.1; simp only; omega, by have := h.2.2; simp only; omega⟩
 · exact h.up (by omega)
theorem RS.ev {n : Nat} {x : List Bank × Int} (h : RS n x) (l i : Int) (d : List UInt8) : RS (n + 1) (evP x l i d) := by
 unfold evP
 split
 · exact h.up (by omega)
 · exact h.ext _ _ _
theorem RS.rst {n : Nat} {x : List Bank × Int} (h : RS n x) (l i : Int) : RS (n + 1) (rstP x l i) := by
 unfold rstP
 split
 · exact ⟨h.1.rst _, by have := h.2.1; simp only; omega, by have := h.2.2; simp only; omega⟩
 · exact h.up (by omega)
theorem RS.rsm {n : Nat} {x : List Bank × Int} (h : RS n x) : RS (n + 1) (resBk x.1, x.2) := ⟨h.1.res, h.2.1, by have := h.2.2; simp only; omega⟩
def drS (s : Int) (i k : Nat) (x : List Bank × Int) : List Bank × Int :=
 if k % 8 < 3 then evP x 4 (k / 8 % 16 : Nat) [UInt8.ofNat k, UInt8.ofNat i]
 else if k % 8 < 6 then extP x 4 (k / 8 % 16 : Nat) (dgB s [UInt8.ofNat k, UInt8.ofNat i])
 else if k % 8 = 6 then rstP x 4 (12 + k / 8 % 4 : Nat)
 else (resBk x.1, x.2)
def drN (s : Int) (cs : List UInt8) : Nat → List Bank × Int
 | 0 => (newBk s, 0)
 | i + 1 => drS s i (cs.getD i 0).toNat (drN s cs i)
theorem RS.dr {s : Int} {i k n : Nat} {x : List Bank × Int} (h : RS n x) : RS (n + 1) (drS s i k x) := by
 unfold drS
 split
 · exact h.ev _ _ _
 · split
   · exact h.ext _ _ _
   · split
     · exact h.rst _ _
     · exact h.rsm
def dr (s : Int) (cs : List UInt8) : List Bank × Int := drN s cs (min cs.length 12)
theorem Ans.rv {x : List Bank × Int} {v : V} {y : List Bank × Int} (h : Ans x v y) (hv : ∃ bk' u' e, v = .tup [.t (regT bk' u'), .t (.int .i64 e)] ∧ RV bk' ∧ (e = 0 → u' = x.2 + 1)) : ∃ bk' u' e, v = .tup [.t (.agg [.sl (bk'.map bankT), .int .i64 u']), .t (.int .i64 e)] ∧ RM bk' := by
 obtain ⟨bk', u', e, h1, h2, _⟩ := hv
 exact ⟨bk', u', e, h1, h2.rm⟩
theorem bin_b_rem {a b : UInt8} (h : b.toNat ≠ 0) : binT .rem (byteT a) (byteT b) = some (byteT (a % b)) := by
 have h2 : (b.toNat : Int) ≠ 0 := by omega
 change (if IntKind.u8 = IntKind.u8 ∧ (b.toNat : Int) ≠ 0 then some (T.int .u8 ((a.toNat : Int).tmod (b.toNat : Int))) else none) = _
 rw [if_pos ⟨rfl, h2⟩]
 have e : (a.toNat : Int).tmod (b.toNat : Int) = ((a % b).toNat : Int) := by rw [UInt8.toNat_mod]; rfl
 rw [e]; rfl
def ct_mod : Ct where
 α := Int × Int
 as x := [.t (.int .i64 x.1), .t (.int .i64 x.2)]
 ins _ := []
 pre x := (-9223372036854775808 ≤ x.1 ∧ x.1 < 9223372036854775808) ∧ (-9223372036854775808 ≤ x.2 ∧ x.2 < 9223372036854775808)
 r x := .t (.int .i64 (modI x.1 x.2))
 outs _ := []
 inj := by
   rintro ⟨a, b⟩ ⟨c, d⟩ h _
   simp only [List.cons.injEq, V.t.injEq, T.int.injEq, true_and, and_true] at h
   obtain ⟨rfl, rfl⟩ := h
   exact ⟨rfl, rfl⟩
theorem mod_eq {a b : Int} (h : (-9223372036854775808 ≤ a ∧ a < 9223372036854775808) ∧ (-9223372036854775808 ≤ b ∧ b < 9223372036854775808)) : ct_mod.fs [.t (.int .i64 a), .t (.int .i64 b)] [] = some (.t (.int .i64 (modI a b)), []) := ct_mod.eq (a, b) h
theorem drv_M {k l c : List UInt8} {n : Nat} (h : n ≤ 1024) : List.length (drv k l c n) < 1000000000 := by rw [drv_length]; omega
theorem snew_M {en : List UInt8} {act : Int} : sbM (snewG en act) := by
 by_cases h : en.length ≠ 32 ∨ act < 0 ∨ 3 < act
 · rw [(snew_bad h).1]
   exact ⟨⟨by decide, by simp [sb0]⟩, ⟨by decide, by simp [sb0]⟩, by decide, .nil, by simp [sb0]⟩
 · rw [snewG, if_neg h]
   refine ⟨⟨by simp, ?_⟩, ⟨by simp, by simp⟩, drv_M (by omega), .nil, by simp⟩
   intro x hx
   simp only [List.mem_cons, List.not_mem_nil, or_false] at hx
   rcases hx with rfl | rfl | rfl <;> exact drv_M (by omega)
def z32 : List UInt8 := List.replicate 32 0
theorem z32_eq : List.take 32 (List.replicate 32 (0 : UInt8)) = z32 := rfl
def a17 : Sb × Vl := supG (snewG z32 2) 0
theorem a17_new : ct_snew.fs [.t (.sl (z32.map byteT)), .t (.int .i64 2)] [] = some (.tup [.t (stbT (snewG z32 2)), .t (.int .i64 0)], []) := snew_eq (en := z32) (act := 2) (by decide)
theorem a17_ok : ¬ (z32.length ≠ 32 ∨ (2 : Int) < 0 ∨ (3 : Int) < 2) := by decide
theorem a17_sup : ct_sup.fs [.t (stT (snewG z32 2) vl0), .t (.int .i64 0)] [] = some (.tup [.t (stT a17.1 a17.2), .t (.int .i64 0)], []) := sup_eq (by
 rw [snewG, if_neg a17_ok]
 exact ⟨rfl, ⟨.nil, by simp⟩, .inl ⟨rfl, by decide, by decide⟩⟩)
theorem w_awake17 (tab : Tab) (gl : Gl) (n1 n2 n3 : Nat) (h1 : tab.look n1 = some ct_snew.fs) (h2 : tab.look n2 = some ct_boot.fs) (h3 : tab.look n3 = some ct_sup.fs) :
   (ac_law17_awake n1 n2 n3).wp tab gl (zipF 0 []) (zipF 0 []) (resW [(0, none)] 0 (fun r o => r = .t (.bool true) ∧ o = [])) := by
 have hN := a17_new
 have hB := @boot_eq (snewG z32 2)
 have hS := a17_sup
 have e1 : a17.2.on = true := rfl
 have e2 : a17.1.res = 1 := by rw [a17, snewG, if_neg a17_ok]; rfl
 generalize a17 = x at *
 generalize snewG z32 2 = s0 at *
 obtain ⟨s, v⟩ := x
 cases s0; cases s; cases v
 simp only [stbT, stbL, stT, volL, vl0, List.cons_append, List.nil_append, List.map_nil] at *
 subst e1 e2
 simp (config := { maxSteps := 2000000 }) (disch := (first | omega | (simp only [lens, lenm]; omega))) only [go_sem, ↓reduceIte, Nat.reduceAdd, Nat.reduceEqDiff, Nat.reduceSub, Nat.reduceMul, Nat.reduceLT, Nat.reduceLeDiff, Nat.reduceBEq, Int.reduceEq, Int.reduceLT, Int.reduceLE, Int.reduceToNat, Int.reduceNeg, Int.reduceAdd, Int.reduceSub, Int.reduceMul, Int.reduceMod, Int.reduceDiv, reduceCtorEq, Nat.reducePow, Int.reducePow, ac_law17_awake, h1, h2, h3, z32_eq, hN, hB, hS, stT, stbL, volL]
theorem w_StateNew (tab : Tab) (gl : Gl) (n1 n2 n3 n4 n5 n6 : Nat) (h1 : tab.look n1 = some ct_awake.fs) (h2 : tab.look n2 = some ct_seed.fs) (h3 : tab.look n3 = some ct_mod.fs) (h4 : tab.look n4 = some ct_snew.fs) (h5 : tab.look n5 = some ct_snew.fs) (h6 : tab.look n6 = some ct_sst.fs)
   (en : List UInt8) (act : Int) (whole : Bool) (hl : en.length ≤ 9223372036854775807) (ha : -9223372036854775808 ≤ act ∧ act < 9223372036854775808) :
   (ac_law17_StateNew n1 n2 n3 n4 n5 n6).wp tab gl (zipF 0 [.t (.sl (en.map byteT)), .t (.int .i64 act), .t (.bool whole)]) (zipF 0 []) (resW [(6, none)] 0 (fun r o => r = .t (.bool true) ∧ o = [])) := by
 by_cases hs : 60 < en.length
 · simp (config := { maxSteps := 2000000 }) (disch := (first | omega | (simp only [lens, lenm]; omega))) only [go_sem, ↓reduceIte, Nat.reduceAdd, Nat.reduceEqDiff, Nat.reduceSub, Nat.reduceMul, Nat.reduceLT, Nat.reduceLeDiff, Nat.reduceBEq, Int.reduceEq, Int.reduceLT, Int.reduceLE, Int.reduceToNat, Int.reduceNeg, Int.reduceAdd, Int.reduceSub, Int.reduceMul, Int.reduceMod, Int.reduceDiv, reduceCtorEq, Nat.reducePow, Int.reducePow, ac_law17_StateNew, h1, awake_eq, hs]
 · cases whole
   · have hN := snew_eq (act := act) hl
     have hQ := sst_eq (snew_M (en := en) (act := act))
     generalize snewG en act = s at *
     generalize snewE en act = e at *
     cases s
     simp only [stbT, stbL] at *
     simp (config := { maxSteps := 2000000 }) (disch := (first | omega | (simp only [lens, lenm]; omega))) only [go_sem, ↓reduceIte, Nat.reduceAdd, Nat.reduceEqDiff, Nat.reduceSub, Nat.reduceMul, Nat.reduceLT, Nat.reduceLeDiff, Nat.reduceBEq, Int.reduceEq, Int.reduceLT, Int.reduceLE, Int.reduceToNat, Int.reduceNeg, Int.reduceAdd, Int.reduceSub, Int.reduceMul, Int.reduceMod, Int.reduceDiv, reduceCtorEq, Nat.reducePow, Int.reducePow, ac_law17_StateNew, h1, awake_eq, hs, h4, h5, hN, h6, hQ]
   · have hD := seed_eq hl
     have hM := mod_eq (a := act) (b := 5) ⟨ha, by omega⟩
     have hz : (List.take 32 en ++ List.replicate (32 - en.length) 0).length = 32 := by simp; omega
     generalize List.take 32 en ++ List.replicate (32 - en.length) 0 = z at *
     have hN := snew_eq (en := z) (act := modI act 5) (by omega)
     have hQ := sst_eq (snew_M (en := z) (act := modI act 5))
     generalize snewG z (modI act 5) = s at *
     generalize snewE z (modI act 5) = e at *
     generalize modI act 5 = m at *
     have hT : List.take 32 z = z := List.take_of_length_le (by omega)
     cases s
     simp only [stbT, stbL] at *
     simp (config := { maxSteps := 2000000 }) (disch := (first | omega | (simp only [lens, lenm]; omega))) only [go_sem, ↓reduceIte, Nat.reduceAdd, Nat.reduceEqDiff, Nat.reduceSub, Nat.reduceMul, Nat.reduceLT, Nat.reduceLeDiff, Nat.reduceBEq, Int.reduceEq, Int.reduceLT, Int.reduceLE, Int.reduceToNat, Int.reduceNeg, Int.reduceAdd, Int.reduceSub, Int.reduceMul, Int.reduceMod, Int.reduceDiv, reduceCtorEq, Nat.reducePow, Int.reducePow, ac_law17_StateNew, h1, awake_eq, hs, h2, hD, h3, hM, hT, h4, h5, hN, h6, hQ]
theorem rem8b {a : UInt8} : binT .rem (byteT a) (byteT 8) = some (byteT (a % 8)) := bin_b_rem (by decide)
theorem rem2b {a : UInt8} : binT .rem (byteT a) (byteT 2) = some (byteT (a % 2)) := bin_b_rem (by decide)
theorem bin_b_quo {a b : UInt8} (h : b.toNat ≠ 0) : binT .quo (byteT a) (byteT b) = some (byteT (a / b)) := by
 have h2 : (b.toNat : Int) ≠ 0 := by omega
 change (if IntKind.u8 = IntKind.u8 ∧ (b.toNat : Int) ≠ 0 then some (T.int .u8 (IntKind.u8.wrap ((a.toNat : Int).tdiv (b.toNat : Int)))) else none) = _
 rw [if_pos ⟨rfl, h2⟩]
 have e : (a.toNat : Int).tdiv (b.toNat : Int) = ((a / b).toNat : Int) := by rw [UInt8.toNat_div]; rfl
 have := (a / b).toNat_lt
 rw [e, wrap_u8]
 unfold byteT
 congr 2; omega
theorem quo8b {a : UInt8} : binT .quo (byteT a) (byteT 8) = some (byteT (a / 8)) := bin_b_quo (by decide)
structure Ck where
 s : Sb
 v : Vl
 m : Int
 sv : Int
 i : Nat
structure Ck.Ok (n : Nat) (x : Ck) : Prop where
 le : x.i ≤ n
 act : x.s.act = 2
 on : x.v.on = true
 bk : x.s.bk = []
 rm : RM x.v.bk
 l2 : x.v.bk.length = 2
 od : x.s.ord = false
 r0 : 0 ≤ x.s.res
 r1 : x.s.res ≤ 1 + x.i
 q0 : 0 ≤ x.s.rst
 q1 : x.s.rst ≤ x.i
 c0 : 0 ≤ x.sv
 c1 : x.s.clk = x.sv
 c2 : x.s.clk ≤ x.v.clk
 c3 : x.v.clk ≤ x.m
 c4 : x.m / 64 = x.s.clk / 64
 c5 : x.m ≤ 300 * x.i
 c6 : x.v.safe = true → x.v.clk = x.m
 c8 : 0 ≤ x.s.clk
theorem stN_mod {x : List UInt8} {b : Bank} (hx : x.length < 1000000000) (h : modL b) : ∀ {k : Nat}, modL (stN x b k)
 | 0 => h
 | k + 1 => by
   have ih := stN_mod hx h (k := k)
   refine ⟨by rw [stN_length]; exact h.1, fun y hy => ?_⟩
   rcases List.mem_or_eq_of_mem_set hy with h | rfl
   · exact ih.2 y h
   · exact hx
theorem resBk_RM {bk : List Bank} (h : RM bk) : RM (resBk bk) := by
 obtain ⟨hk, hm⟩ := h
 cases hk with
 | nil => exact ⟨.nil, hm⟩
 | two b0 b1 h0 h1 =>
   have q0 : bkOk b0 := h0
   have q1 : bkOk b1 := h1
   refine ⟨.two _ _ (by rw [bkOk, stN_length]; exact q0) (by rw [bkOk, stN_length]; exact q1), fun b hb => ?_⟩
   simp only [resBk, List.mem_cons, List.not_mem_nil, or_false] at hb
   rcases hb with rfl | rfl
   · exact stN_mod (by simp) (hm b0 (by simp))
   · exact stN_mod (by simp) (hm b1 (by simp))
theorem resBk_len {bk : List Bank} : (resBk bk).length = bk.length := by
 unfold resBk; split <;> rfl
theorem d76 : decide ((7 : UInt8) = 6) = false := rfl
theorem mode2 (c : UInt8) : c / 8 % 2 = 0 ∨ c / 8 % 2 = 1 := by
 have h : (c / 8 % 2).toNat = c.toNat / 8 % 2 := by simp [UInt8.toNat_mod, UInt8.toNat_div]
 rcases Nat.mod_two_eq_zero_or_one (c.toNat / 8) with e | e
 · exact .inl (UInt8.toNat_inj.1 (h.trans e))
 · exact .inr (UInt8.toNat_inj.1 (h.trans e))
def ckF (cs ts : List UInt8) (x : Ck) : Fs := [(0, .t (.sl (cs.map byteT))), (1, .t (.sl (ts.map byteT))), (7, .ref 9000 0 0), (9, .t (.int .i64 x.m)), (10, .t (.int .i64 x.sv)), (11, .t (.int .i64 x.i))]
def ckH (x : Ck) : Hs := [(9000, .live 30 [.t (stT x.s x.v)] true true)]
theorem w_StateClock (tab : Tab) (gl : Gl) (n1 n2 n3 n4 n5 n6 : Nat) (h1 : tab.look n1 = some ct_awake.fs) (h2 : tab.look n2 = some ct_snew.fs) (h3 : tab.look n3 = some ct_boot.fs) (h4 : tab.look n4 = some ct_sup.fs) (h5 : tab.look n5 = some ct_shd.fs) (h6 : tab.look n6 = some ct_tick.fs)
   (cs ts : List UInt8) (hc : cs.length ≤ 9223372036854775807) (ht : ts.length ≤ 9223372036854775807) :
   (ac_law17_StateClock n1 n2 n3 n4 n5 n6).wp tab gl (zipF 0 [.t (.sl (cs.map byteT)), .t (.sl (ts.map byteT))]) (zipF 0 []) (resW [(4, none)] 0 (fun r o => r = .t (.bool true) ∧ o = [])) := by
 by_cases hs : 40 < cs.length
 · simp (config := { maxSteps := 2000000 }) (disch := (first | omega | (simp only [lens, lenm]; omega))) only [go_sem, ↓reduceIte, Nat.reduceAdd, Nat.reduceEqDiff, Nat.reduceSub, Nat.reduceMul, Nat.reduceLT, Nat.reduceLeDiff, Nat.reduceBEq, Int.reduceEq, Int.reduceLT, Int.reduceLE, Int.reduceToNat, Int.reduceNeg, Int.reduceAdd, Int.reduceSub, Int.reduceMul, Int.reduceMod, Int.reduceDiv, reduceCtorEq, Nat.reducePow, Int.reducePow, ac_law17_StateClock, h1, awake_eq, hs]
 · have hN := a17_new
   have hB := @boot_eq (snewG z32 2)
   have hS := a17_sup
   have hx : Ck.Ok cs.length ⟨a17.1, a17.2, 0, 0, 0⟩ := by
     have e : snewG z32 2 = _ := if_neg a17_ok
     simp only [a17, e]
     refine ⟨Nat.zero_le _, rfl, rfl, rfl, (newBk_rv (s := 2)).rm, rfl, rfl, by decide, by decide, by decide, by decide, by decide, rfl, by decide, by decide, by decide, by decide, fun _ => rfl, by decide⟩
   generalize a17 = x at *
   obtain ⟨s, v⟩ := x
   generalize snewG z32 2 = s0 at *
   cases s0; cases s; cases v
   simp only [stbT, stbL, stT, volL, vl0, List.cons_append, List.nil_append, List.map_nil] at hN hB hS
   simp (config := { maxSteps := 2000000 }) (disch := (first | omega | (simp only [lens, lenm]; omega))) only [go_sem, ↓reduceIte, Nat.reduceAdd, Nat.reduceEqDiff, Nat.reduceSub, Nat.reduceMul, Nat.reduceLT, Nat.reduceLeDiff, Nat.reduceBEq, Int.reduceEq, Int.reduceLT, Int.reduceLE, Int.reduceToNat, Int.reduceNeg, Int.reduceAdd, Int.reduceSub, Int.reduceMul, Int.reduceMod, Int.reduceDiv, reduceCtorEq, Nat.reducePow, Int.reducePow, ac_law17_StateClock, h1, awake_eq, hs, h2, h3, h4, z32_eq, hN, hB, hS]
   refine loop_inv (σ := Ck) (Ck.Ok cs.length) (fun x => cs.length - x.i) (ckF cs ts) ckH _ hx ?_ (fun x hx => ?_)
   · refine Weak.rd (fun j => if j = 9000 then 28768 else j) ?_ ?_ rfl
     all_goals simp (config := { maxSteps := 2000000 }) (disch := (first | omega | (simp only [lens, lenm]; omega))) only [go_sem, ↓reduceIte, Nat.reduceAdd, Nat.reduceEqDiff, Nat.reduceSub, Nat.reduceMul, Nat.reduceLT, Nat.reduceLeDiff, Nat.reduceBEq, Int.reduceEq, Int.reduceLT, Int.reduceLE, Int.reduceToNat, Int.reduceNeg, Int.reduceAdd, Int.reduceSub, Int.reduceMul, Int.reduceMod, Int.reduceDiv, reduceCtorEq, Nat.reducePow, Int.reducePow, id, ckF, ckH, stT, stbL, volL]
   · clear hN hB hS
     obtain ⟨s, v, m, sv, i⟩ := x
     obtain ⟨le, act, on, bk, rm, l2, od, r0, r1, q0, q1, c0, c1, c2, c3, c4, c5, c6, c8⟩ := hx
     simp only at *
     by_cases hi : i < cs.length
     · obtain ⟨c, hcd⟩ : ∃ c, cs.getD i 0 = c := ⟨_, rfl⟩
       have hd := (ts.getD i 0).toNat_lt
       have p1 : s.clk.tdiv 64 = s.clk / 64 := Int.tdiv_eq_ediv_of_nonneg c8
       by_cases k6 : c % 8 = 6
       · have hB := @boot_eq s
         have hS := sup_eq (s := s) (m := 0) ⟨act, by rw [bk]; exact ⟨.nil, by simp⟩, .inl ⟨rfl, r0, by omega⟩⟩
         have ok : Ck.Ok cs.length ⟨(supG s 0).1, (supG s 0).2, m, s.clk, i + 1⟩ := by
           rw [supG, if_pos rfl]
           refine ⟨by simp only; omega, act, rfl, rfl, (newBk_rv (s := 2)).rm, rfl, rfl, ?_, ?_, ?_, ?_, ?_, ?_, ?_, ?_, ?_, ?_, ?_, ?_⟩
           all_goals simp only [od]
           all_goals first | omega | rfl | (intro h; cases h)
         rw [supG, if_pos rfl] at hS ok
         have g1 : ¬ s.clk < sv := by omega
         have g2 : ¬ s.clk < s.clk := by omega
         have g3 : ¬ m < s.clk := by omega
         have g4 : ¬ (s.clk / 64 + 1) * 64 ≤ m := by omega
         cases s; cases v
         simp only [stbT, stbL, stT, volL, vl0, List.cons_append, List.nil_append, List.map_nil] at *
         subst od
         rcases Nat.lt_or_ge i ts.length with hlt | hlt
         · simp (config := { maxSteps := 2000000 }) (disch := (first | omega | (simp only [lens, lenm]; omega))) only [go_sem, ↓reduceIte, Nat.reduceAdd, Nat.reduceEqDiff, Nat.reduceSub, Nat.reduceMul, Nat.reduceLT, Nat.reduceLeDiff, Nat.reduceBEq, Int.reduceEq, Int.reduceLT, Int.reduceLE, Int.reduceToNat, Int.reduceNeg, Int.reduceAdd, Int.reduceSub, Int.reduceMul, Int.reduceMod, Int.reduceDiv, reduceCtorEq, Nat.reducePow, Int.reducePow, ac_law17_StateClock_L0, ckF, ckH, hi, hcd, rem8b, k6, hlt, hd, h3, h4, hB, hS, stT, stbL, volL, p1, g1, g2, g3, g4]
           refine ⟨rfl, invG.of _ ok (by simp only; omega) (Weak.rd id ?_ ?_ rfl)⟩
           all_goals simp (config := { maxSteps := 2000000 }) (disch := (first | omega | (simp only [lens, lenm]; omega))) only [go_sem, ↓reduceIte, Nat.reduceAdd, Nat.reduceEqDiff, Nat.reduceSub, Nat.reduceMul, Nat.reduceLT, Nat.reduceLeDiff, Nat.reduceBEq, Int.reduceEq, Int.reduceLT, Int.reduceLE, Int.reduceToNat, Int.reduceNeg, Int.reduceAdd, Int.reduceSub, Int.reduceMul, Int.reduceMod, Int.reduceDiv, reduceCtorEq, Nat.reducePow, Int.reducePow, id, ckF, ckH, stT, stbL, volL]
         · simp (config := { maxSteps := 2000000 }) (disch := (first | omega | (simp only [lens, lenm]; omega))) only [go_sem, ↓reduceIte, Nat.reduceAdd, Nat.reduceEqDiff, Nat.reduceSub, Nat.reduceMul, Nat.reduceLT, Nat.reduceLeDiff, Nat.reduceBEq, Int.reduceEq, Int.reduceLT, Int.reduceLE, Int.reduceToNat, Int.reduceNeg, Int.reduceAdd, Int.reduceSub, Int.reduceMul, Int.reduceMod, Int.reduceDiv, reduceCtorEq, Nat.reducePow, Int.reducePow, ac_law17_StateClock_L0, ckF, ckH, hi, hcd, rem8b, k6, Nat.not_lt.2 hlt, hd, h3, h4, hB, hS, stT, stbL, volL, p1, g1, g2, g3, g4]
           refine ⟨rfl, invG.of _ ok (by simp only; omega) (Weak.rd id ?_ ?_ rfl)⟩
           all_goals simp (config := { maxSteps := 2000000 }) (disch := (first | omega | (simp only [lens, lenm]; omega))) only [go_sem, ↓reduceIte, Nat.reduceAdd, Nat.reduceEqDiff, Nat.reduceSub, Nat.reduceMul, Nat.reduceLT, Nat.reduceLeDiff, Nat.reduceBEq, Int.reduceEq, Int.reduceLT, Int.reduceLE, Int.reduceToNat, Int.reduceNeg, Int.reduceAdd, Int.reduceSub, Int.reduceMul, Int.reduceMod, Int.reduceDiv, reduceCtorEq, Nat.reducePow, Int.reducePow, id, ckF, ckH, stT, stbL, volL]
       · have d6 : decide (c % 8 = 6) = false := decide_eq_false k6
         by_cases k7 : c % 8 = 7
         · rcases mode2 c with hm | hm
           · have hH := shd_eq (s := s) (v := v) (m := 0) ⟨on, .inl rfl⟩
             have e : shdG s v 0 = _ := if_pos rfl
             have hB := @boot_eq (shdG s v 0)
             have hS := sup_eq (s := shdG s v 0) (m := 0) (by rw [e]; exact ⟨act, ⟨.nil, by simp⟩, .inl ⟨rfl, r0, by simp only; omega⟩⟩)
             rw [e] at hH hB hS
             rw [supG, if_pos rfl] at hS
             have ok : Ck.Ok cs.length ⟨⟨s.sd, s.au, s.en, s.act, s.res + 1, 0, v.clk, false, [], 0, s.mc, s.l1, s.l2, s.l3, s.l4, s.l5, s.l6⟩, ⟨true, false, newBk 2, 0, v.clk, v.safe, 0⟩, m, v.clk, i + 1⟩ := by
               refine ⟨by simp only; omega, act, rfl, rfl, (newBk_rv (s := 2)).rm, rfl, rfl, ?_, ?_, ?_, ?_, ?_, rfl, ?_, ?_, ?_, ?_, ?_, ?_⟩
               all_goals simp only
               all_goals first | omega | exact c6
             have g1 : ¬ v.clk < sv := by omega
             have g2 : ¬ v.clk < v.clk := by omega
             have g3 : ¬ m < v.clk := by omega
             have g4 : ¬ (v.clk / 64 + 1) * 64 ≤ m := by omega
             have p2 : v.clk.tdiv 64 = v.clk / 64 := Int.tdiv_eq_ediv_of_nonneg (by omega)
             cases hsf : v.safe
             · have g5 := g3
               cases s; cases v
               simp only [stbT, stbL, stT, volL, vl0, vl1, List.cons_append, List.nil_append, List.map_nil] at *
               subst hsf
               rcases Nat.lt_or_ge i ts.length with hlt | hlt
               · simp (config := { maxSteps := 2000000 }) (disch := (first | omega | (simp only [lens, lenm]; omega))) only [go_sem, ↓reduceIte, Nat.reduceAdd, Nat.reduceEqDiff, Nat.reduceSub, Nat.reduceMul, Nat.reduceLT, Nat.reduceLeDiff, Nat.reduceBEq, Int.reduceEq, Int.reduceLT, Int.reduceLE, Int.reduceToNat, Int.reduceNeg, Int.reduceAdd, Int.reduceSub, Int.reduceMul, Int.reduceMod, Int.reduceDiv, reduceCtorEq, Nat.reducePow, Int.reducePow, ac_law17_StateClock_L0, ckF, ckH, hi, hcd, rem8b, k7, d76, quo8b, rem2b, hm, hlt, hd, h3, h4, h5, hH, hB, hS, stT, stbL, volL, p2, g1, g2, g3, g4, g5]
                 refine ⟨rfl, rfl, rfl, invG.of _ ok (by simp only; omega) (Weak.rd id ?_ ?_ rfl)⟩
                 all_goals simp (config := { maxSteps := 2000000 }) (disch := (first | omega | (simp only [lens, lenm]; omega))) only [go_sem, ↓reduceIte, Nat.reduceAdd, Nat.reduceEqDiff, Nat.reduceSub, Nat.reduceMul, Nat.reduceLT, Nat.reduceLeDiff, Nat.reduceBEq, Int.reduceEq, Int.reduceLT, Int.reduceLE, Int.reduceToNat, Int.reduceNeg, Int.reduceAdd, Int.reduceSub, Int.reduceMul, Int.reduceMod, Int.reduceDiv, reduceCtorEq, Nat.reducePow, Int.reducePow, id, ckF, ckH, stT, stbL, volL]
               · simp (config := { maxSteps := 2000000 }) (disch := (first | omega | (simp only [lens, lenm]; omega))) only [go_sem, ↓reduceIte, Nat.reduceAdd, Nat.reduceEqDiff, Nat.reduceSub, Nat.reduceMul, Nat.reduceLT, Nat.reduceLeDiff, Nat.reduceBEq, Int.reduceEq, Int.reduceLT, Int.reduceLE, Int.reduceToNat, Int.reduceNeg, Int.reduceAdd, Int.reduceSub, Int.reduceMul, Int.reduceMod, Int.reduceDiv, reduceCtorEq, Nat.reducePow, Int.reducePow, ac_law17_StateClock_L0, ckF, ckH, hi, hcd, rem8b, k7, d76, quo8b, rem2b, hm, Nat.not_lt.2 hlt, hd, h3, h4, h5, hH, hB, hS, stT, stbL, volL, p2, g1, g2, g3, g4, g5]
                 refine ⟨rfl, rfl, rfl, invG.of _ ok (by simp only; omega) (Weak.rd id ?_ ?_ rfl)⟩
                 all_goals simp (config := { maxSteps := 2000000 }) (disch := (first | omega | (simp only [lens, lenm]; omega))) only [go_sem, ↓reduceIte, Nat.reduceAdd, Nat.reduceEqDiff, Nat.reduceSub, Nat.reduceMul, Nat.reduceLT, Nat.reduceLeDiff, Nat.reduceBEq, Int.reduceEq, Int.reduceLT, Int.reduceLE, Int.reduceToNat, Int.reduceNeg, Int.reduceAdd, Int.reduceSub, Int.reduceMul, Int.reduceMod, Int.reduceDiv, reduceCtorEq, Nat.reducePow, Int.reducePow, id, ckF, ckH, stT, stbL, volL]
             · have g5 : ¬ v.clk < m := by have := c6 hsf; omega
               cases s; cases v
               simp only [stbT, stbL, stT, volL, vl0, vl1, List.cons_append, List.nil_append, List.map_nil] at *
               subst hsf
               rcases Nat.lt_or_ge i ts.length with hlt | hlt
               · simp (config := { maxSteps := 2000000 }) (disch := (first | omega | (simp only [lens, lenm]; omega))) only [go_sem, ↓reduceIte, Nat.reduceAdd, Nat.reduceEqDiff, Nat.reduceSub, Nat.reduceMul, Nat.reduceLT, Nat.reduceLeDiff, Nat.reduceBEq, Int.reduceEq, Int.reduceLT, Int.reduceLE, Int.reduceToNat, Int.reduceNeg, Int.reduceAdd, Int.reduceSub, Int.reduceMul, Int.reduceMod, Int.reduceDiv, reduceCtorEq, Nat.reducePow, Int.reducePow, ac_law17_StateClock_L0, ckF, ckH, hi, hcd, rem8b, k7, d76, quo8b, rem2b, hm, hlt, hd, h3, h4, h5, hH, hB, hS, stT, stbL, volL, p2, g1, g2, g3, g4, g5]
                 refine ⟨rfl, rfl, rfl, invG.of _ ok (by simp only; omega) (Weak.rd id ?_ ?_ rfl)⟩
                 all_goals simp (config := { maxSteps := 2000000 }) (disch := (first | omega | (simp only [lens, lenm]; omega))) only [go_sem, ↓reduceIte, Nat.reduceAdd, Nat.reduceEqDiff, Nat.reduceSub, Nat.reduceMul, Nat.reduceLT, Nat.reduceLeDiff, Nat.reduceBEq, Int.reduceEq, Int.reduceLT, Int.reduceLE, Int.reduceToNat, Int.reduceNeg, Int.reduceAdd, Int.reduceSub, Int.reduceMul, Int.reduceMod, Int.reduceDiv, reduceCtorEq, Nat.reducePow, Int.reducePow, id, ckF, ckH, stT, stbL, volL]
               · simp (config := { maxSteps := 2000000 }) (disch := (first | omega | (simp only [lens, lenm]; omega))) only [go_sem, ↓reduceIte, Nat.reduceAdd, Nat.reduceEqDiff, Nat.reduceSub, Nat.reduceMul, Nat.reduceLT, Nat.reduceLeDiff, Nat.reduceBEq, Int.reduceEq, Int.reduceLT, Int.reduceLE, Int.reduceToNat, Int.reduceNeg, Int.reduceAdd, Int.reduceSub, Int.reduceMul, Int.reduceMod, Int.reduceDiv, reduceCtorEq, Nat.reducePow, Int.reducePow, ac_law17_StateClock_L0, ckF, ckH, hi, hcd, rem8b, k7, d76, quo8b, rem2b, hm, Nat.not_lt.2 hlt, hd, h3, h4, h5, hH, hB, hS, stT, stbL, volL, p2, g1, g2, g3, g4, g5]
                 refine ⟨rfl, rfl, rfl, invG.of _ ok (by simp only; omega) (Weak.rd id ?_ ?_ rfl)⟩
                 all_goals simp (config := { maxSteps := 2000000 }) (disch := (first | omega | (simp only [lens, lenm]; omega))) only [go_sem, ↓reduceIte, Nat.reduceAdd, Nat.reduceEqDiff, Nat.reduceSub, Nat.reduceMul, Nat.reduceLT, Nat.reduceLeDiff, Nat.reduceBEq, Int.reduceEq, Int.reduceLT, Int.reduceLE, Int.reduceToNat, Int.reduceNeg, Int.reduceAdd, Int.reduceSub, Int.reduceMul, Int.reduceMod, Int.reduceDiv, reduceCtorEq, Nat.reducePow, Int.reducePow, id, ckF, ckH, stT, stbL, volL]
           · have hH := shd_eq (s := s) (v := v) (m := 1) ⟨on, .inr rfl⟩
             have e : shdG s v 1 = _ := if_neg (by decide)
             have hB := @boot_eq (shdG s v 1)
             have hS := sup_eq (s := shdG s v 1) (m := 1) (by rw [e]; exact ⟨act, rm, .inr ⟨rfl, l2, q0, by simp only; omega⟩⟩)
             rw [e] at hH hB hS
             rw [supG, if_neg (by decide)] at hS
             have ok : Ck.Ok cs.length ⟨⟨s.sd, s.au, s.en, s.act, s.res, s.rst + 1, v.clk, false, [], 0, s.mc, s.l1, s.l2, s.l3, s.l4, s.l5, s.l6⟩, ⟨true, false, resBk v.bk, v.u, v.clk, v.safe, 0⟩, m, v.clk, i + 1⟩ := by
               refine ⟨by simp only; omega, act, rfl, rfl, (resBk_RM rm), (resBk_len.trans l2), rfl, ?_, ?_, ?_, ?_, ?_, rfl, ?_, ?_, ?_, ?_, ?_, ?_⟩
               all_goals simp only
               all_goals first | omega | exact c6
             have g1 : ¬ v.clk < sv := by omega
             have g2 : ¬ v.clk < v.clk := by omega
             have g3 : ¬ m < v.clk := by omega
             have g4 : ¬ (v.clk / 64 + 1) * 64 ≤ m := by omega
             have p2 : v.clk.tdiv 64 = v.clk / 64 := Int.tdiv_eq_ediv_of_nonneg (by omega)
             cases hsf : v.safe
             · have g5 := g3
               cases s; cases v
               simp only [stbT, stbL, stT, volL, vl0, vl1, List.cons_append, List.nil_append, List.map_nil] at *
               subst hsf
               rcases Nat.lt_or_ge i ts.length with hlt | hlt
               · simp (config := { maxSteps := 2000000 }) (disch := (first | omega | (simp only [lens, lenm]; omega))) only [go_sem, ↓reduceIte, Nat.reduceAdd, Nat.reduceEqDiff, Nat.reduceSub, Nat.reduceMul, Nat.reduceLT, Nat.reduceLeDiff, Nat.reduceBEq, Int.reduceEq, Int.reduceLT, Int.reduceLE, Int.reduceToNat, Int.reduceNeg, Int.reduceAdd, Int.reduceSub, Int.reduceMul, Int.reduceMod, Int.reduceDiv, reduceCtorEq, Nat.reducePow, Int.reducePow, ac_law17_StateClock_L0, ckF, ckH, hi, hcd, rem8b, k7, d76, quo8b, rem2b, hm, hlt, hd, h3, h4, h5, hH, hB, hS, stT, stbL, volL, p2, g1, g2, g3, g4, g5]
                 refine ⟨rfl, rfl, rfl, invG.of _ ok (by simp only; omega) (Weak.rd id ?_ ?_ rfl)⟩
                 all_goals simp (config := { maxSteps := 2000000 }) (disch := (first | omega | (simp only [lens, lenm]; omega))) only [go_sem, ↓reduceIte, Nat.reduceAdd, Nat.reduceEqDiff, Nat.reduceSub, Nat.reduceMul, Nat.reduceLT, Nat.reduceLeDiff, Nat.reduceBEq, Int.reduceEq, Int.reduceLT, Int.reduceLE, Int.reduceToNat, Int.reduceNeg, Int.reduceAdd, Int.reduceSub, Int.reduceMul, Int.reduceMod, Int.reduceDiv, reduceCtorEq, Nat.reducePow, Int.reducePow, id, ckF, ckH, stT, stbL, volL]
               · simp (config := { maxSteps := 2000000 }) (disch := (first | omega | (simp only [lens, lenm]; omega))) only [go_sem, ↓reduceIte, Nat.reduceAdd, Nat.reduceEqDiff, Nat.reduceSub, Nat.reduceMul, Nat.reduceLT, Nat.reduceLeDiff, Nat.reduceBEq, Int.reduceEq, Int.reduceLT, Int.reduceLE, Int.reduceToNat, Int.reduceNeg, Int.reduceAdd, Int.reduceSub, Int.reduceMul, Int.reduceMod, Int.reduceDiv, reduceCtorEq, Nat.reducePow, Int.reducePow, ac_law17_StateClock_L0, ckF, ckH, hi, hcd, rem8b, k7, d76, quo8b, rem2b, hm, Nat.not_lt.2 hlt, hd, h3, h4, h5, hH, hB, hS, stT, stbL, volL, p2, g1, g2, g3, g4, g5]
                 refine ⟨rfl, rfl, rfl, invG.of _ ok (by simp only; omega) (Weak.rd id ?_ ?_ rfl)⟩
                 all_goals simp (config := { maxSteps := 2000000 }) (disch := (first | omega | (simp only [lens, lenm]; omega))) only [go_sem, ↓reduceIte, Nat.reduceAdd, Nat.reduceEqDiff, Nat.reduceSub, Nat.reduceMul, Nat.reduceLT, Nat.reduceLeDiff, Nat.reduceBEq, Int.reduceEq, Int.reduceLT, Int.reduceLE, Int.reduceToNat, Int.reduceNeg, Int.reduceAdd, Int.reduceSub, Int.reduceMul, Int.reduceMod, Int.reduceDiv, reduceCtorEq, Nat.reducePow, Int.reducePow, id, ckF, ckH, stT, stbL, volL]
             · have g5 : ¬ v.clk < m := by have := c6 hsf; omega
               cases s; cases v
               simp only [stbT, stbL, stT, volL, vl0, vl1, List.cons_append, List.nil_append, List.map_nil] at *
               subst hsf
               rcases Nat.lt_or_ge i ts.length with hlt | hlt
               · simp (config := { maxSteps := 2000000 }) (disch := (first | omega | (simp only [lens, lenm]; omega))) only [go_sem, ↓reduceIte, Nat.reduceAdd, Nat.reduceEqDiff, Nat.reduceSub, Nat.reduceMul, Nat.reduceLT, Nat.reduceLeDiff, Nat.reduceBEq, Int.reduceEq, Int.reduceLT, Int.reduceLE, Int.reduceToNat, Int.reduceNeg, Int.reduceAdd, Int.reduceSub, Int.reduceMul, Int.reduceMod, Int.reduceDiv, reduceCtorEq, Nat.reducePow, Int.reducePow, ac_law17_StateClock_L0, ckF, ckH, hi, hcd, rem8b, k7, d76, quo8b, rem2b, hm, hlt, hd, h3, h4, h5, hH, hB, hS, stT, stbL, volL, p2, g1, g2, g3, g4, g5]
                 refine ⟨rfl, rfl, rfl, invG.of _ ok (by simp only; omega) (Weak.rd id ?_ ?_ rfl)⟩
                 all_goals simp (config := { maxSteps := 2000000 }) (disch := (first | omega | (simp only [lens, lenm]; omega))) only [go_sem, ↓reduceIte, Nat.reduceAdd, Nat.reduceEqDiff, Nat.reduceSub, Nat.reduceMul, Nat.reduceLT, Nat.reduceLeDiff, Nat.reduceBEq, Int.reduceEq, Int.reduceLT, Int.reduceLE, Int.reduceToNat, Int.reduceNeg, Int.reduceAdd, Int.reduceSub, Int.reduceMul, Int.reduceMod, Int.reduceDiv, reduceCtorEq, Nat.reducePow, Int.reducePow, id, ckF, ckH, stT, stbL, volL]
               · simp (config := { maxSteps := 2000000 }) (disch := (first | omega | (simp only [lens, lenm]; omega))) only [go_sem, ↓reduceIte, Nat.reduceAdd, Nat.reduceEqDiff, Nat.reduceSub, Nat.reduceMul, Nat.reduceLT, Nat.reduceLeDiff, Nat.reduceBEq, Int.reduceEq, Int.reduceLT, Int.reduceLE, Int.reduceToNat, Int.reduceNeg, Int.reduceAdd, Int.reduceSub, Int.reduceMul, Int.reduceMod, Int.reduceDiv, reduceCtorEq, Nat.reducePow, Int.reducePow, ac_law17_StateClock_L0, ckF, ckH, hi, hcd, rem8b, k7, d76, quo8b, rem2b, hm, Nat.not_lt.2 hlt, hd, h3, h4, h5, hH, hB, hS, stT, stbL, volL, p2, g1, g2, g3, g4, g5]
                 refine ⟨rfl, rfl, rfl, invG.of _ ok (by simp only; omega) (Weak.rd id ?_ ?_ rfl)⟩
                 all_goals simp (config := { maxSteps := 2000000 }) (disch := (first | omega | (simp only [lens, lenm]; omega))) only [go_sem, ↓reduceIte, Nat.reduceAdd, Nat.reduceEqDiff, Nat.reduceSub, Nat.reduceMul, Nat.reduceLT, Nat.reduceLeDiff, Nat.reduceBEq, Int.reduceEq, Int.reduceLT, Int.reduceLE, Int.reduceToNat, Int.reduceNeg, Int.reduceAdd, Int.reduceSub, Int.reduceMul, Int.reduceMod, Int.reduceDiv, reduceCtorEq, Nat.reducePow, Int.reducePow, id, ckF, ckH, stT, stbL, volL]
         · have d7 : decide (c % 8 = 7) = false := decide_eq_false k7
           rcases Nat.lt_or_ge i ts.length with hlt | hlt
           · obtain ⟨d, hdd⟩ : ∃ d, ts.getD i 0 = d := ⟨_, rfl⟩
             rw [hdd] at hd
             have hT := tick_eq (s := s) (v := v) (n := ((1 + d.toNat : Nat) : Int)) ⟨on, by omega, by omega, by omega, by omega⟩
             have p2 : v.clk.tdiv 64 = v.clk / 64 := Int.tdiv_eq_ediv_of_nonneg (by omega)
             by_cases hx : (v.clk + ((1 + d.toNat : Nat) : Int)) / 64 = v.clk / 64
             · rw [tickG, if_pos hx] at hT
               by_cases hmx : m < v.clk + ((1 + d.toNat : Nat) : Int)
               · have ok : Ck.Ok cs.length ⟨s, ⟨v.on, v.off, v.bk, v.u, v.clk + ((1 + d.toNat : Nat) : Int), v.safe, v.dr⟩, v.clk + ((1 + d.toNat : Nat) : Int), s.clk, i + 1⟩ := by
                   refine ⟨by simp only; omega, act, on, bk, rm, l2, od, ?_, ?_, ?_, ?_, ?_, rfl, ?_, ?_, ?_, ?_, ?_, ?_⟩
                   all_goals simp only
                   all_goals first | omega | trivial | (intro _; first | rfl | trivial)
                 have g1 : ¬ s.clk < sv := by omega
                 have g2 : ¬ v.clk + ((1 + d.toNat : Nat) : Int) < s.clk := by omega
                 have g4 : ¬ (s.clk / 64 + 1) * 64 ≤ v.clk + ((1 + d.toNat : Nat) : Int) := by omega
                 cases hsf : v.safe
                 · have g5 := g1
                   cases s; cases v
                   simp only [stbT, stbL, stT, volL, vl0, List.cons_append, List.nil_append, List.map_nil] at *
                   subst hsf
                   simp (config := { maxSteps := 2000000 }) (disch := (first | omega | (simp only [lens, lenm]; omega))) only [go_sem, ↓reduceIte, Nat.reduceAdd, Nat.reduceEqDiff, Nat.reduceSub, Nat.reduceMul, Nat.reduceLT, Nat.reduceLeDiff, Nat.reduceBEq, Int.reduceEq, Int.reduceLT, Int.reduceLE, Int.reduceToNat, Int.reduceNeg, Int.reduceAdd, Int.reduceSub, Int.reduceMul, Int.reduceMod, Int.reduceDiv, reduceCtorEq, Nat.reducePow, Int.reducePow, ac_law17_StateClock_L0, ckF, ckH, hi, hcd, rem8b, d6, d7, hlt, hdd, hd, h6, hT, stT, stbL, volL, p1, p2, g1, g2, hmx, g4, g5]
                   refine ⟨rfl, invG.of _ ok (by simp only; omega) (Weak.rd id ?_ ?_ rfl)⟩
                   all_goals simp (config := { maxSteps := 2000000 }) (disch := (first | omega | (simp only [lens, lenm]; omega))) only [go_sem, ↓reduceIte, Nat.reduceAdd, Nat.reduceEqDiff, Nat.reduceSub, Nat.reduceMul, Nat.reduceLT, Nat.reduceLeDiff, Nat.reduceBEq, Int.reduceEq, Int.reduceLT, Int.reduceLE, Int.reduceToNat, Int.reduceNeg, Int.reduceAdd, Int.reduceSub, Int.reduceMul, Int.reduceMod, Int.reduceDiv, reduceCtorEq, Nat.reducePow, Int.reducePow, id, ckF, ckH, stT, stbL, volL]
                 · have g5 : ¬ v.clk + ((1 + d.toNat : Nat) : Int) < m := by have := c6 hsf; omega
                   cases s; cases v
                   simp only [stbT, stbL, stT, volL, vl0, List.cons_append, List.nil_append, List.map_nil] at *
                   subst hsf
                   simp (config := { maxSteps := 2000000 }) (disch := (first | omega | (simp only [lens, lenm]; omega))) only [go_sem, ↓reduceIte, Nat.reduceAdd, Nat.reduceEqDiff, Nat.reduceSub, Nat.reduceMul, Nat.reduceLT, Nat.reduceLeDiff, Nat.reduceBEq, Int.reduceEq, Int.reduceLT, Int.reduceLE, Int.reduceToNat, Int.reduceNeg, Int.reduceAdd, Int.reduceSub, Int.reduceMul, Int.reduceMod, Int.reduceDiv, reduceCtorEq, Nat.reducePow, Int.reducePow, ac_law17_StateClock_L0, ckF, ckH, hi, hcd, rem8b, d6, d7, hlt, hdd, hd, h6, hT, stT, stbL, volL, p1, p2, g1, g2, hmx, g4, g5]
                   refine ⟨rfl, invG.of _ ok (by simp only; omega) (Weak.rd id ?_ ?_ rfl)⟩
                   all_goals simp (config := { maxSteps := 2000000 }) (disch := (first | omega | (simp only [lens, lenm]; omega))) only [go_sem, ↓reduceIte, Nat.reduceAdd, Nat.reduceEqDiff, Nat.reduceSub, Nat.reduceMul, Nat.reduceLT, Nat.reduceLeDiff, Nat.reduceBEq, Int.reduceEq, Int.reduceLT, Int.reduceLE, Int.reduceToNat, Int.reduceNeg, Int.reduceAdd, Int.reduceSub, Int.reduceMul, Int.reduceMod, Int.reduceDiv, reduceCtorEq, Nat.reducePow, Int.reducePow, id, ckF, ckH, stT, stbL, volL]
               · have ok : Ck.Ok cs.length ⟨s, ⟨v.on, v.off, v.bk, v.u, v.clk + ((1 + d.toNat : Nat) : Int), v.safe, v.dr⟩, m, s.clk, i + 1⟩ := by
                   refine ⟨by simp only; omega, act, on, bk, rm, l2, od, ?_, ?_, ?_, ?_, ?_, rfl, ?_, ?_, ?_, ?_, ?_, ?_⟩
                   all_goals simp only
                   all_goals first | omega | trivial | (intro h; have := c6 h; omega)
                 have g1 : ¬ s.clk < sv := by omega
                 have g2 : ¬ v.clk + ((1 + d.toNat : Nat) : Int) < s.clk := by omega
                 have g4 : ¬ (s.clk / 64 + 1) * 64 ≤ m := by omega
                 cases hsf : v.safe
                 · have g5 := g1
                   cases s; cases v
                   simp only [stbT, stbL, stT, volL, vl0, List.cons_append, List.nil_append, List.map_nil] at *
                   subst hsf
                   simp (config := { maxSteps := 2000000 }) (disch := (first | omega | (simp only [lens, lenm]; omega))) only [go_sem, ↓reduceIte, Nat.reduceAdd, Nat.reduceEqDiff, Nat.reduceSub, Nat.reduceMul, Nat.reduceLT, Nat.reduceLeDiff, Nat.reduceBEq, Int.reduceEq, Int.reduceLT, Int.reduceLE, Int.reduceToNat, Int.reduceNeg, Int.reduceAdd, Int.reduceSub, Int.reduceMul, Int.reduceMod, Int.reduceDiv, reduceCtorEq, Nat.reducePow, Int.reducePow, ac_law17_StateClock_L0, ckF, ckH, hi, hcd, rem8b, d6, d7, hlt, hdd, hd, h6, hT, stT, stbL, volL, p1, p2, g1, g2, hmx, g4, g5]
                   refine ⟨rfl, invG.of _ ok (by simp only; omega) (Weak.rd id ?_ ?_ rfl)⟩
                   all_goals simp (config := { maxSteps := 2000000 }) (disch := (first | omega | (simp only [lens, lenm]; omega))) only [go_sem, ↓reduceIte, Nat.reduceAdd, Nat.reduceEqDiff, Nat.reduceSub, Nat.reduceMul, Nat.reduceLT, Nat.reduceLeDiff, Nat.reduceBEq, Int.reduceEq, Int.reduceLT, Int.reduceLE, Int.reduceToNat, Int.reduceNeg, Int.reduceAdd, Int.reduceSub, Int.reduceMul, Int.reduceMod, Int.reduceDiv, reduceCtorEq, Nat.reducePow, Int.reducePow, id, ckF, ckH, stT, stbL, volL]
                 · have g5 : ¬ v.clk + ((1 + d.toNat : Nat) : Int) < m := by have := c6 hsf; omega
                   cases s; cases v
                   simp only [stbT, stbL, stT, volL, vl0, List.cons_append, List.nil_append, List.map_nil] at *
                   subst hsf
                   simp (config := { maxSteps := 2000000 }) (disch := (first | omega | (simp only [lens, lenm]; omega))) only [go_sem, ↓reduceIte, Nat.reduceAdd, Nat.reduceEqDiff, Nat.reduceSub, Nat.reduceMul, Nat.reduceLT, Nat.reduceLeDiff, Nat.reduceBEq, Int.reduceEq, Int.reduceLT, Int.reduceLE, Int.reduceToNat, Int.reduceNeg, Int.reduceAdd, Int.reduceSub, Int.reduceMul, Int.reduceMod, Int.reduceDiv, reduceCtorEq, Nat.reducePow, Int.reducePow, ac_law17_StateClock_L0, ckF, ckH, hi, hcd, rem8b, d6, d7, hlt, hdd, hd, h6, hT, stT, stbL, volL, p1, p2, g1, g2, hmx, g4, g5]
                   refine ⟨rfl, invG.of _ ok (by simp only; omega) (Weak.rd id ?_ ?_ rfl)⟩
                   all_goals simp (config := { maxSteps := 2000000 }) (disch := (first | omega | (simp only [lens, lenm]; omega))) only [go_sem, ↓reduceIte, Nat.reduceAdd, Nat.reduceEqDiff, Nat.reduceSub, Nat.reduceMul, Nat.reduceLT, Nat.reduceLeDiff, Nat.reduceBEq, Int.reduceEq, Int.reduceLT, Int.reduceLE, Int.reduceToNat, Int.reduceNeg, Int.reduceAdd, Int.reduceSub, Int.reduceMul, Int.reduceMod, Int.reduceDiv, reduceCtorEq, Nat.reducePow, Int.reducePow, id, ckF, ckH, stT, stbL, volL]
             · rw [tickG, if_neg hx] at hT
               have hmx : m < v.clk + ((1 + d.toNat : Nat) : Int) := by omega
               have ok : Ck.Ok cs.length ⟨⟨s.sd, s.au, s.en, s.act, s.res, s.rst, v.clk + ((1 + d.toNat : Nat) : Int), s.ord, s.bk, s.u, s.mc, s.l1, s.l2, s.l3, s.l4, s.l5, s.l6⟩, ⟨v.on, v.off, v.bk, v.u, v.clk + ((1 + d.toNat : Nat) : Int), true, v.dr⟩, v.clk + ((1 + d.toNat : Nat) : Int), v.clk + ((1 + d.toNat : Nat) : Int), i + 1⟩ := by
                 refine ⟨by simp only; omega, act, on, bk, rm, l2, od, ?_, ?_, ?_, ?_, ?_, rfl, ?_, ?_, ?_, ?_, ?_, ?_⟩
                 all_goals simp only
                 all_goals first | omega | trivial | (intro _; first | rfl | trivial)
               have g1 : ¬ v.clk + ((1 + d.toNat : Nat) : Int) < sv := by omega
               have g2 : ¬ v.clk + ((1 + d.toNat : Nat) : Int) < v.clk + ((1 + d.toNat : Nat) : Int) := by omega
               have g5 : ¬ v.clk + ((1 + d.toNat : Nat) : Int) < m := by omega
               have p3 : (v.clk + ((1 + d.toNat : Nat) : Int)).tdiv 64 = (v.clk + ((1 + d.toNat : Nat) : Int)) / 64 := Int.tdiv_eq_ediv_of_nonneg (by omega)
               have g4 : ¬ ((v.clk + ((1 + d.toNat : Nat) : Int)) / 64 + 1) * 64 ≤ v.clk + ((1 + d.toNat : Nat) : Int) := by omega
               cases s; cases v
               simp only [stbT, stbL, stT, volL, vl0, List.cons_append, List.nil_append, List.map_nil] at *
               simp (config := { maxSteps := 2000000 }) (disch := (first | omega | (simp only [lens, lenm]; omega))) only [go_sem, ↓reduceIte, Nat.reduceAdd, Nat.reduceEqDiff, Nat.reduceSub, Nat.reduceMul, Nat.reduceLT, Nat.reduceLeDiff, Nat.reduceBEq, Int.reduceEq, Int.reduceLT, Int.reduceLE, Int.reduceToNat, Int.reduceNeg, Int.reduceAdd, Int.reduceSub, Int.reduceMul, Int.reduceMod, Int.reduceDiv, reduceCtorEq, Nat.reducePow, Int.reducePow, ac_law17_StateClock_L0, ckF, ckH, hi, hcd, rem8b, d6, d7, hlt, hdd, hd, h6, hT, stT, stbL, volL, p1, p2, p3, g1, g2, hmx, g4, g5]
               refine ⟨rfl, invG.of _ ok (by simp only; omega) (Weak.rd id ?_ ?_ rfl)⟩
               all_goals simp (config := { maxSteps := 2000000 }) (disch := (first | omega | (simp only [lens, lenm]; omega))) only [go_sem, ↓reduceIte, Nat.reduceAdd, Nat.reduceEqDiff, Nat.reduceSub, Nat.reduceMul, Nat.reduceLT, Nat.reduceLeDiff, Nat.reduceBEq, Int.reduceEq, Int.reduceLT, Int.reduceLE, Int.reduceToNat, Int.reduceNeg, Int.reduceAdd, Int.reduceSub, Int.reduceMul, Int.reduceMod, Int.reduceDiv, reduceCtorEq, Nat.reducePow, Int.reducePow, id, ckF, ckH, stT, stbL, volL]
           · have hT := tick_eq (s := s) (v := v) (n := 9) ⟨on, by omega, by omega, by omega, by omega⟩
             have p2 : v.clk.tdiv 64 = v.clk / 64 := Int.tdiv_eq_ediv_of_nonneg (by omega)
             by_cases hx : (v.clk + 9) / 64 = v.clk / 64
             · rw [tickG, if_pos hx] at hT
               by_cases hmx : m < v.clk + 9
               · have ok : Ck.Ok cs.length ⟨s, ⟨v.on, v.off, v.bk, v.u, v.clk + 9, v.safe, v.dr⟩, v.clk + 9, s.clk, i + 1⟩ := by
                   refine ⟨by simp only; omega, act, on, bk, rm, l2, od, ?_, ?_, ?_, ?_, ?_, rfl, ?_, ?_, ?_, ?_, ?_, ?_⟩
                   all_goals simp only
                   all_goals first | omega | trivial | (intro _; first | rfl | trivial)
                 have g1 : ¬ s.clk < sv := by omega
                 have g2 : ¬ v.clk + 9 < s.clk := by omega
                 have g4 : ¬ (s.clk / 64 + 1) * 64 ≤ v.clk + 9 := by omega
                 cases hsf : v.safe
                 · have g5 := g1
                   cases s; cases v
                   simp only [stbT, stbL, stT, volL, vl0, List.cons_append, List.nil_append, List.map_nil] at *
                   subst hsf
                   simp (config := { maxSteps := 2000000 }) (disch := (first | omega | (simp only [lens, lenm]; omega))) only [go_sem, ↓reduceIte, Nat.reduceAdd, Nat.reduceEqDiff, Nat.reduceSub, Nat.reduceMul, Nat.reduceLT, Nat.reduceLeDiff, Nat.reduceBEq, Int.reduceEq, Int.reduceLT, Int.reduceLE, Int.reduceToNat, Int.reduceNeg, Int.reduceAdd, Int.reduceSub, Int.reduceMul, Int.reduceMod, Int.reduceDiv, reduceCtorEq, Nat.reducePow, Int.reducePow, ac_law17_StateClock_L0, ckF, ckH, hi, hcd, rem8b, d6, d7, Nat.not_lt.2 hlt, hd, h6, hT, stT, stbL, volL, p1, p2, g1, g2, hmx, g4, g5]
                   refine ⟨rfl, invG.of _ ok (by simp only; omega) (Weak.rd id ?_ ?_ rfl)⟩
                   all_goals simp (config := { maxSteps := 2000000 }) (disch := (first | omega | (simp only [lens, lenm]; omega))) only [go_sem, ↓reduceIte, Nat.reduceAdd, Nat.reduceEqDiff, Nat.reduceSub, Nat.reduceMul, Nat.reduceLT, Nat.reduceLeDiff, Nat.reduceBEq, Int.reduceEq, Int.reduceLT, Int.reduceLE, Int.reduceToNat, Int.reduceNeg, Int.reduceAdd, Int.reduceSub, Int.reduceMul, Int.reduceMod, Int.reduceDiv, reduceCtorEq, Nat.reducePow, Int.reducePow, id, ckF, ckH, stT, stbL, volL]
                 · have g5 : ¬ v.clk + 9 < m := by have := c6 hsf; omega
                   cases s; cases v
                   simp only [stbT, stbL, stT, volL, vl0, List.cons_append, List.nil_append, List.map_nil] at *
                   subst hsf
                   simp (config := { maxSteps := 2000000 }) (disch := (first | omega | (simp only [lens, lenm]; omega))) only [go_sem, ↓reduceIte, Nat.reduceAdd, Nat.reduceEqDiff, Nat.reduceSub, Nat.reduceMul, Nat.reduceLT, Nat.reduceLeDiff, Nat.reduceBEq, Int.reduceEq, Int.reduceLT, Int.reduceLE, Int.reduceToNat, Int.reduceNeg, Int.reduceAdd, Int.reduceSub, Int.reduceMul, Int.reduceMod, Int.reduceDiv, reduceCtorEq, Nat.reducePow, Int.reducePow, ac_law17_StateClock_L0, ckF, ckH, hi, hcd, rem8b, d6, d7, Nat.not_lt.2 hlt, hd, h6, hT, stT, stbL, volL, p1, p2, g1, g2, hmx, g4, g5]
                   refine ⟨rfl, invG.of _ ok (by simp only; omega) (Weak.rd id ?_ ?_ rfl)⟩
                   all_goals simp (config := { maxSteps := 2000000 }) (disch := (first | omega | (simp only [lens, lenm]; omega))) only [go_sem, ↓reduceIte, Nat.reduceAdd, Nat.reduceEqDiff, Nat.reduceSub, Nat.reduceMul, Nat.reduceLT, Nat.reduceLeDiff, Nat.reduceBEq, Int.reduceEq, Int.reduceLT, Int.reduceLE, Int.reduceToNat, Int.reduceNeg, Int.reduceAdd, Int.reduceSub, Int.reduceMul, Int.reduceMod, Int.reduceDiv, reduceCtorEq, Nat.reducePow, Int.reducePow, id, ckF, ckH, stT, stbL, volL]
               · have ok : Ck.Ok cs.length ⟨s, ⟨v.on, v.off, v.bk, v.u, v.clk + 9, v.safe, v.dr⟩, m, s.clk, i + 1⟩ := by
                   refine ⟨by simp only; omega, act, on, bk, rm, l2, od, ?_, ?_, ?_, ?_, ?_, rfl, ?_, ?_, ?_, ?_, ?_, ?_⟩
                   all_goals simp only
                   all_goals first | omega | trivial | (intro h; have := c6 h; omega)
                 have g1 : ¬ s.clk < sv := by omega
                 have g2 : ¬ v.clk + 9 < s.clk := by omega
                 have g4 : ¬ (s.clk / 64 + 1) * 64 ≤ m := by omega
                 cases hsf : v.safe
                 · have g5 := g1
                   cases s; cases v
                   simp only [stbT, stbL, stT, volL, vl0, List.cons_append, List.nil_append, List.map_nil] at *
                   subst hsf
                   simp (config := { maxSteps := 2000000 }) (disch := (first | omega | (simp only [lens, lenm]; omega))) only [go_sem, ↓reduceIte, Nat.reduceAdd, Nat.reduceEqDiff, Nat.reduceSub, Nat.reduceMul, Nat.reduceLT, Nat.reduceLeDiff, Nat.reduceBEq, Int.reduceEq, Int.reduceLT, Int.reduceLE, Int.reduceToNat, Int.reduceNeg, Int.reduceAdd, Int.reduceSub, Int.reduceMul, Int.reduceMod, Int.reduceDiv, reduceCtorEq, Nat.reducePow, Int.reducePow, ac_law17_StateClock_L0, ckF, ckH, hi, hcd, rem8b, d6, d7, Nat.not_lt.2 hlt, hd, h6, hT, stT, stbL, volL, p1, p2, g1, g2, hmx, g4, g5]
                   refine ⟨rfl, invG.of _ ok (by simp only; omega) (Weak.rd id ?_ ?_ rfl)⟩
                   all_goals simp (config := { maxSteps := 2000000 }) (disch := (first | omega | (simp only [lens, lenm]; omega))) only [go_sem, ↓reduceIte, Nat.reduceAdd, Nat.reduceEqDiff, Nat.reduceSub, Nat.reduceMul, Nat.reduceLT, Nat.reduceLeDiff, Nat.reduceBEq, Int.reduceEq, Int.reduceLT, Int.reduceLE, Int.reduceToNat, Int.reduceNeg, Int.reduceAdd, Int.reduceSub, Int.reduceMul, Int.reduceMod, Int.reduceDiv, reduceCtorEq, Nat.reducePow, Int.reducePow, id, ckF, ckH, stT, stbL, volL]
                 · have g5 : ¬ v.clk + 9 < m := by have := c6 hsf; omega
                   cases s; cases v
                   simp only [stbT, stbL, stT, volL, vl0, List.cons_append, List.nil_append, List.map_nil] at *
                   subst hsf
                   simp (config := { maxSteps := 2000000 }) (disch := (first | omega | (simp only [lens, lenm]; omega))) only [go_sem, ↓reduceIte, Nat.reduceAdd, Nat.reduceEqDiff, Nat.reduceSub, Nat.reduceMul, Nat.reduceLT, Nat.reduceLeDiff, Nat.reduceBEq, Int.reduceEq, Int.reduceLT, Int.reduceLE, Int.reduceToNat, Int.reduceNeg, Int.reduceAdd, Int.reduceSub, Int.reduceMul, Int.reduceMod, Int.reduceDiv, reduceCtorEq, Nat.reducePow, Int.reducePow, ac_law17_StateClock_L0, ckF, ckH, hi, hcd, rem8b, d6, d7, Nat.not_lt.2 hlt, hd, h6, hT, stT, stbL, volL, p1, p2, g1, g2, hmx, g4, g5]
                   refine ⟨rfl, invG.of _ ok (by simp only; omega) (Weak.rd id ?_ ?_ rfl)⟩
                   all_goals simp (config := { maxSteps := 2000000 }) (disch := (first | omega | (simp only [lens, lenm]; omega))) only [go_sem, ↓reduceIte, Nat.reduceAdd, Nat.reduceEqDiff, Nat.reduceSub, Nat.reduceMul, Nat.reduceLT, Nat.reduceLeDiff, Nat.reduceBEq, Int.reduceEq, Int.reduceLT, Int.reduceLE, Int.reduceToNat, Int.reduceNeg, Int.reduceAdd, Int.reduceSub, Int.reduceMul, Int.reduceMod, Int.reduceDiv, reduceCtorEq, Nat.reducePow, Int.reducePow, id, ckF, ckH, stT, stbL, volL]
             · rw [tickG, if_neg hx] at hT
               have hmx : m < v.clk + 9 := by omega
               have ok : Ck.Ok cs.length ⟨⟨s.sd, s.au, s.en, s.act, s.res, s.rst, v.clk + 9, s.ord, s.bk, s.u, s.mc, s.l1, s.l2, s.l3, s.l4, s.l5, s.l6⟩, ⟨v.on, v.off, v.bk, v.u, v.clk + 9, true, v.dr⟩, v.clk + 9, v.clk + 9, i + 1⟩ := by
                 refine ⟨by simp only; omega, act, on, bk, rm, l2, od, ?_, ?_, ?_, ?_, ?_, rfl, ?_, ?_, ?_, ?_, ?_, ?_⟩
                 all_goals simp only
                 all_goals first | omega | trivial | (intro _; first | rfl | trivial)
               have g1 : ¬ v.clk + 9 < sv := by omega
               have g2 : ¬ v.clk + 9 < v.clk + 9 := by omega
               have g5 : ¬ v.clk + 9 < m := by omega
               have p3 : (v.clk + 9).tdiv 64 = (v.clk + 9) / 64 := Int.tdiv_eq_ediv_of_nonneg (by omega)
               have g4 : ¬ ((v.clk + 9) / 64 + 1) * 64 ≤ v.clk + 9 := by omega
               cases s; cases v
               simp only [stbT, stbL, stT, volL, vl0, List.cons_append, List.nil_append, List.map_nil] at *
               simp (config := { maxSteps := 2000000 }) (disch := (first | omega | (simp only [lens, lenm]; omega))) only [go_sem, ↓reduceIte, Nat.reduceAdd, Nat.reduceEqDiff, Nat.reduceSub, Nat.reduceMul, Nat.reduceLT, Nat.reduceLeDiff, Nat.reduceBEq, Int.reduceEq, Int.reduceLT, Int.reduceLE, Int.reduceToNat, Int.reduceNeg, Int.reduceAdd, Int.reduceSub, Int.reduceMul, Int.reduceMod, Int.reduceDiv, reduceCtorEq, Nat.reducePow, Int.reducePow, ac_law17_StateClock_L0, ckF, ckH, hi, hcd, rem8b, d6, d7, Nat.not_lt.2 hlt, hd, h6, hT, stT, stbL, volL, p1, p2, p3, g1, g2, hmx, g4, g5]
               refine ⟨rfl, invG.of _ ok (by simp only; omega) (Weak.rd id ?_ ?_ rfl)⟩
               all_goals simp (config := { maxSteps := 2000000 }) (disch := (first | omega | (simp only [lens, lenm]; omega))) only [go_sem, ↓reduceIte, Nat.reduceAdd, Nat.reduceEqDiff, Nat.reduceSub, Nat.reduceMul, Nat.reduceLT, Nat.reduceLeDiff, Nat.reduceBEq, Int.reduceEq, Int.reduceLT, Int.reduceLE, Int.reduceToNat, Int.reduceNeg, Int.reduceAdd, Int.reduceSub, Int.reduceMul, Int.reduceMod, Int.reduceDiv, reduceCtorEq, Nat.reducePow, Int.reducePow, id, ckF, ckH, stT, stbL, volL]
     · simp (config := { maxSteps := 2000000 }) (disch := (first | omega | (simp only [lens, lenm]; omega))) only [go_sem, ↓reduceIte, Nat.reduceAdd, Nat.reduceEqDiff, Nat.reduceSub, Nat.reduceMul, Nat.reduceLT, Nat.reduceLeDiff, Nat.reduceBEq, Int.reduceEq, Int.reduceLT, Int.reduceLE, Int.reduceToNat, Int.reduceNeg, Int.reduceAdd, Int.reduceSub, Int.reduceMul, Int.reduceMod, Int.reduceDiv, reduceCtorEq, Nat.reducePow, Int.reducePow, ac_law17_StateClock_L0, ckF, ckH, hi]
end Go.Eng
end
section
set_option maxRecDepth 20000
namespace Go.Eng
open Go.MuLone
theorem tieW {P : Program} {G : Gl} {tab : Tab} {f : FuncId} {fn : Func} {c : Code} {ac : AC} {hints : List (Nat × List Nat)} {rs : List (Nat × Option (Nat × Bool))} (hf : P.funcs[f]? = some fn) (hname : (fn.name == "runtime.NumGoroutine") = false) (hb : fn.body = some c) (hann : ann P fn.ntmps hints c = some ac) (hmx : P.follows .mixedOrders = true)
   (ht : TabOk P G tab) (hrs : resOf P fn.results.toList = some rs) (ct : Ct) (hn : ∀ x, (ct.as x).length ≤ fn.ntmps) (hi : ∀ x, (ct.ins x).length ≤ 100)
   (h : ∀ x, ct.pre x → ac.wp tab G (zipF 0 (ct.as x)) (zipF 0 (ct.ins x)) (resW rs (ct.ins x).length (fun r' o' => r' = ct.r x ∧ o' = ct.outs x))) : FOk P G f ct.fs :=
 ct.ok (fun args w => run_callFunc_enter hf hname hb args w) (fun x hx => spec_of hf hb hann hmx ht hrs (hn x) (hi x) (h x hx))
theorem tieF {P : Program} {G : Gl} {tab : Tab} {f : FuncId} {fn : Func} {c : Code} {ac : AC} {hints : List (Nat × List Nat)} {rs : List (Nat × Option (Nat × Bool))} (fz : List Nat) (hf : P.funcs[f]? = some fn) (hname : (fn.name == "runtime.NumGoroutine") = false) (hb : fn.body = some c) (hann : ann P fn.ntmps hints c = some ac) (hmx : P.follows .mixedOrders = true)
   (ht : TabOk P G tab) (hrs : resOf P fn.results.toList = some rs) (ct : Ct) (hn : ∀ x, (ct.as x).length ≤ fn.ntmps) (hi : ∀ x, (ct.ins x).length ≤ 100)
   (h : ∀ x, ct.pre x → ac.wp tab G (zipF 0 (ct.as x)) (zipF 0 (ct.ins x)) (resF fz rs (ct.ins x).length (fun r' o' => r' = ct.r x ∧ o' = ct.outs x))) : FOk P G f ct.fs :=
 ct.ok (fun args w => run_callFunc_enter hf hname hb args w) (fun x hx => spec_live fz hf hb hann hmx ht hrs (hn x) (hi x) (h x hx))
theorem tieL {P : Program} {G : Gl} {tab : Tab} {f : FuncId} {fn : Func} {c : Code} {ac : AC} {hints : List (Nat × List Nat)} {rs : List (Nat × Option (Nat × Bool))} (hf : P.funcs[f]? = some fn) (hb : fn.body = some c) (hann : ann P fn.ntmps hints c = some ac) (hmx : P.follows .mixedOrders = true)
   (ht : TabOk P G tab) (hrs : resOf P fn.results.toList = some rs) {as : List V} (hn : as.length ≤ fn.ntmps)
   (h : ac.wp tab G (zipF 0 as) (zipF 0 []) (resW rs 0 (fun r o => r = .t (.bool true) ∧ o = []))) : Spec P G f as [] (.t (.bool true)) [] :=
 spec_of hf hb hann hmx ht hrs hn (Nat.zero_le _) h
theorem tieW' {P : Program} {G : Gl} {tab : Tab} {f : FuncId} (fn : Func) (hints : List (Nat × List Nat)) (ac : AC) (rs : List (Nat × Option (Nat × Bool))) (ht : TabOk P G tab) (ct : Ct)
   (h : ∀ x, ct.pre x → ac.wp tab G (zipF 0 (ct.as x)) (zipF 0 (ct.ins x)) (resW rs (ct.ins x).length (fun r' o' => r' = ct.r x ∧ o' = ct.outs x)))
   (hf : P.funcs[f]? = some fn := by kernel_rfl) (hname : (fn.name == "runtime.NumGoroutine") = false := by kernel_rfl) (hb : fn.body = some (fn.body.getD .skip) := by kernel_rfl) (hann : ann P fn.ntmps hints (fn.body.getD .skip) = some ac := by kernel_rfl) (hmx : P.follows .mixedOrders = true := by kernel_rfl)
   (hrs : resOf P fn.results.toList = some rs := by kernel_rfl) (hn : ∀ x, (ct.as x).length ≤ fn.ntmps := by exact fun _ => Nat.le_of_ble_eq_true (by kernel_rfl)) (hi : ∀ x, (ct.ins x).length ≤ 100 := by exact fun _ => Nat.le_of_ble_eq_true (by kernel_rfl)) : FOk P G f ct.fs := tieW hf hname hb hann hmx ht hrs ct hn hi h
theorem tieF' {P : Program} {G : Gl} {tab : Tab} {f : FuncId} (fz : List Nat) (fn : Func) (hints : List (Nat × List Nat)) (ac : AC) (rs : List (Nat × Option (Nat × Bool))) (ht : TabOk P G tab) (ct : Ct)
   (h : ∀ x, ct.pre x → ac.wp tab G (zipF 0 (ct.as x)) (zipF 0 (ct.ins x)) (resF fz rs (ct.ins x).length (fun r' o' => r' = ct.r x ∧ o' = ct.outs x)))
   (hf : P.funcs[f]? = some fn := by kernel_rfl) (hname : (fn.name == "runtime.NumGoroutine") = false := by kernel_rfl) (hb : fn.body = some (fn.body.getD .skip) := by kernel_rfl) (hann : ann P fn.ntmps hints (fn.body.getD .skip) = some ac := by kernel_rfl) (hmx : P.follows .mixedOrders = true := by kernel_rfl)
   (hrs : resOf P fn.results.toList = some rs := by kernel_rfl) (hn : ∀ x, (ct.as x).length ≤ fn.ntmps := by exact fun _ => Nat.le_of_ble_eq_true (by kernel_rfl)) (hi : ∀ x, (ct.ins x).length ≤ 100 := by exact fun _ => Nat.le_of_ble_eq_true (by kernel_rfl)) : FOk P G f ct.fs := tieF fz hf hname hb hann hmx ht hrs ct hn hi h
theorem tieL' {P : Program} {G : Gl} {tab : Tab} {f : FuncId} (fn : Func) (hints : List (Nat × List Nat)) (ac : AC) (rs : List (Nat × Option (Nat × Bool))) (ht : TabOk P G tab) {as : List V}
   (h : ac.wp tab G (zipF 0 as) (zipF 0 []) (resW rs 0 (fun r o => r = .t (.bool true) ∧ o = [])))
   (hf : P.funcs[f]? = some fn := by kernel_rfl) (hb : fn.body = some (fn.body.getD .skip) := by kernel_rfl) (hann : ann P fn.ntmps hints (fn.body.getD .skip) = some ac := by kernel_rfl) (hmx : P.follows .mixedOrders = true := by kernel_rfl)
   (hrs : resOf P fn.results.toList = some rs := by kernel_rfl) (hn : as.length ≤ fn.ntmps := by exact Nat.le_of_ble_eq_true (by kernel_rfl)) : Spec P G f as [] (.t (.bool true)) [] := tieL hf hb hann hmx ht hrs hn h
end Go.Eng
end
section
set_option maxRecDepth 20000
namespace Go.Eng
theorem ok_mnz {P : Program} {G : Nat → Option (List T)} {f : FuncId} {fn : Func} {ps : Array TypeId} {t e : TypeId} (hf : P.funcs[f]? = some fn) (hname : (fn.name == "runtime.NumGoroutine") = false) (hb : fn.body.isNone = true) (hn : Extern.findNext fn = none)
   (he : Extern.find fn = some (Extern.BytealgMakeNoZero.makeNoZero ps #[t])) (ht : P.underlying t = some (.slice e)) : FOk P G f ct_mnz.fs := by
 intro as ins r outs hs
 have key : ∃ n : Nat, (n = 20 ∨ n = 32) ∧ as = [.t (.int .i64 n)] ∧ ins = [] ∧ r = .sl 0 0 n ∧ outs = [.live 1 [] true false] := by
   unfold Ct.fs at hs
   split at hs
   · rename_i hx
     cases hs
     have h1 := hx.choose_spec
     generalize hx.choose = y at h1 ⊢
     obtain ⟨⟨rfl, rfl⟩, h3⟩ := h1
     have h4 : (show Int from y) = 20 ∨ (show Int from y) = 32 := h3
     rcases h4 with h4 | h4
     · refine ⟨20, .inl rfl, ?_⟩
       have h5 : y = (20 : Int) := h4
       subst h5
       exact ⟨rfl, rfl, rfl, rfl⟩
     · refine ⟨32, .inr rfl, ?_⟩
       have h5 : y = (32 : Int) := h4
       subst h5
       exact ⟨rfl, rfl, rfl, rfl⟩
   · cases hs
 obtain ⟨n, hn2, rfl, rfl, rfl, rfl⟩ := key
 intro w β F vals env fits hargs
 have hvals : vals = #[.int .i64 n] := by
   obtain ⟨l⟩ := vals
   cases hargs with
   | cons h1 h2 =>
     cases h2
     cases h1 with
     | t h => cases h; rfl
 subst hvals
 obtain ⟨cs, hrun, hle, hmx⟩ := Lib.run_makeNoZero (P := P) w ps t e ht n (by omega)
 refine .inr ⟨.slice (some ⟨w.heap.size, 0, none⟩) n cs.size, w.drew.drew.alloc (.cells cs e), ?_, .slice (some ⟨w.heap.size, 0, none⟩) n cs.size, fun k => if k = 0 then some ⟨some w.heap.size, 1, cs.size⟩ else none, F, rfl, ?_⟩
 · rw [run_callFunc_extern hf hname hb hn he, hrun]; rfl
 · have hsz : (w.drew.drew.alloc (.cells cs e)).heap.size = w.heap.size + 1 := by
     show (w.heap.push _).size = _
     exact Array.size_push _
   have hnew : (w.drew.drew.alloc (.cells cs e)).heap[w.heap.size]? = some (.cells cs e) := by
     show (w.heap.push _)[w.heap.size]? = _
     simp
   have hold : ∀ b, b < w.heap.size → (w.drew.drew.alloc (.cells cs e)).heap[b]? = w.heap[b]? := by
     intro b hb
     show (w.heap.push _)[b]? = _
     rw [Array.getElem?_push, if_neg (by omega)]
   have hFb : ¬ F w.heap.size := fun h => absurd (env.Fw _ h) (by omega)
   have mx : n ≤ maxLen := by have : (32 : Nat) ≤ maxLen := by decide
                              omega
   refine ⟨⟨fun k o hk => ?_, fun k hk => ?_, fun i j bi bj b h1 h2 h3 h4 => ?_, fun k bi b h1 h2 => ?_⟩, ?_, fun k hk => ?_, fun k bi b _ h1 h2 => ?_, fun b _ => Iff.rfl, fun b hb => ?_, rfl, rfl, rfl, ?_, fun b hb _ => hold b hb⟩
   · cases k with
     | succ k => simp at hk
     | zero =>
       simp only [List.getElem?_cons_zero, Option.some.injEq] at hk
       subst hk
       refine ⟨_, if_pos rfl, ⟨rfl, by simp, cs, e, (0, 0), hnew, by omega, by simp, by simp, hmx mx, fun i x h => by simp at h, ?_⟩, 1, [], false, rfl⟩
       simpa using hFb
   · have : k ≠ 0 := by simp at hk; omega
     exact if_neg this
   · split at h1 <;> split at h2 <;> simp_all
   · split at h1
     · cases h1
       cases h2
       exact ⟨by rw [hsz]; omega, hFb⟩
     · cases h1
   · exact .sl 0 0 n cs.size w.heap.size 1 cs.size _ (if_pos rfl) hle (by omega) (fun _ => by simp) rfl
   · simp at hk
   · split at h1
     · cases h1
       cases h2
       exact Nat.le_refl _
     · cases h1
   · have := env.Fw b hb
     rw [hsz]; omega
   · rw [hsz]; omega
end Go.Eng
end
