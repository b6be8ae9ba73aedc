/- My own text: an abstract machine, its walks over the functions reached, and their tie to the program. -/
import Derived.Test.YtlakkalpdcjpnaaDoorD4
import Derived.Test.YtlakkalpdcjpnaaDoorD3
import Derived.Conc.MuLone
import Derived.KernelRfl
import Derived.Lib.MakeNoZero
import Derived.Laws.Externs
set_option linter.unusedSimpArgs false
set_option linter.unusedVariables false
section
namespace Go.Eng
def ac_draw_names : AC :=
 (.seq
 (rG 4096 [oO 0 (.new 1 [(.t (strT [])), (.t (strT [])), (.t (strT [])), (.t (strT [])), (.t (strT []))]) []])
 (.seq
 (rG 8192 [oO 1 (.build [(.t (strT [])), (.t (strT [])), (.t (strT [])), (.t (strT [])), (.t (strT []))] [(0, 1), (1, 1), (2, 1), (3, 1), (4, 1)]) [.cst (.t (strT [97])), .cst (.t (strT [103, 114, 117, 98])), .cst (.t (strT [108, 105, 110, 117, 120])), .cst (.t (strT [110, 101, 116, 45, 48])), .cst (.t (strT [116, 119, 101, 108, 118, 101, 45, 98, 121, 116, 101, 115]))],oS 5 0 1])
 .ret))
def hints_draw_names : List (Nat × List Nat) := []
def ac_draw_Codes_Payload_L0 (n_draw_Codes_Line : Nat) : AC :=
 (.seq
 (.seq
 (rG 16384 [mv 8 4,bN 9 .gtr 8 0])
 (.cond (.tmp 9)
 .skip
 (.exit 0)))
 (.seq
 (.block 1
 (rG 24576 [mv 12 3,mv 13 0,cL 14 n_draw_Codes_Line true [.tmp 13],oO 15 (.append 1 1) [.tmp 12, .tmp 14],oO 16 (.bslice 1 1 (.t (byteT 0)) [0]) [.cst (.t (byteT 10))],oO 17 (.append 1 1) [.tmp 15, .tmp 16],mv 3 17]))
 (rG 20480 [mv 10 4,bN 11 .sub 10 1,mv 4 11])))
def ac_draw_Codes_Payload (n_draw_Codes_Next n_draw_Codes_Line : Nat) : AC :=
 (.seq
 (rG 4096 [mC 2 .nil])
 (.seq
 (rG 8192 [mC 3 .nil])
 (.seq
 (.seq
 (rG 12288 [mv 5 0,cL 6 n_draw_Codes_Next true [.tmp 5, .cst (.t (.int .i64 4))],oO 7 (.bin .add) [.cst (.t (.int .i64 1)), .tmp 6],mv 4 7])
 (.block 0
 (.loop (ac_draw_Codes_Payload_L0 n_draw_Codes_Line))))
 (.seq
 (rG 28672 [mv 18 3,mv 2 18])
 .ret))))
def hints_draw_Codes_Payload : List (Nat × List Nat) := [(2, [1]), (5, [2])]
def ac_draw_Codes_Image_L0 (n_draw_Codes_Next : Nat) : AC :=
 (.seq
 (.seq
 (rG 40960 [mv 32 6,oO 33 (.faddr 3) [.tmp 5],oO 34 (.load 1 false) [.tmp 33],oO 35 .len [.tmp 34],bT 36 .lss 32 35])
 (.cond (.tmp 36)
 .skip
 (.exit 0)))
 (.seq
 (.block 1
 (.reg 49152 (some [0, 1, 0, 0, 8, 24, 63, 127]) [oO 39 (.faddr 3) [.tmp 5],oO 40 (.load 1 false) [.tmp 39],mv 41 6,mv 42 0,cL 43 n_draw_Codes_Next true [.tmp 42, .cst (.t (.int .i64 256))],oO 44 (.conv .u8) [.tmp 43],oO 45 (.iaddr 1) [.tmp 40, .tmp 41],oS 1 45 44]))
 (rG 45056 [mv 37 6,bN 38 .add 37 1,mv 6 38])))
def ac_draw_Codes_Image (n_draw_names n_draw_Codes_Next n_draw_Codes_Payload : Nat) : AC :=
 (.seq
 (rG 4096 [oO 4 (.new 4 [(.agg [(.t (.int .i64 0)), (.t (strT [])), (.t (.int .i64 0)), .nil])]) []])
 (.seq
 (.reg 8192 (some [0, 0, 0, 6, 14, 0, 46, 127, 0, 511]) [mv 7 1,cL 8 n_draw_names false [],mv 9 0,cL 10 n_draw_Codes_Next true [.tmp 9, .cst (.t (.int .i64 5))],oO 11 (.index 5 1 false) [.tmp 8, .tmp 10],mv 12 0,cL 13 n_draw_Codes_Next true [.tmp 12, .cst (.t (.int .i64 5))],oO 14 (.build [(.t (.int .i64 0)), (.t (strT [])), (.t (.int .i64 0)), .nil] [(0, 1), (1, 1), (2, 1)]) [.tmp 7, .tmp 11, .tmp 13],oO 5 (.new 4 [(.agg [(.t (.int .i64 0)), (.t (strT [])), (.t (.int .i64 0)), .nil])]) [],oS 4 5 14])
 (.seq
 (.seq
 (rG 12288 [mv 15 0,cL 16 n_draw_Codes_Next true [.tmp 15, .cst (.t (.int .i64 9))],bN 17 .eql 16 8])
 (.cond (.tmp 17)
 (rG 16384 [mv 18 0,cL 19 n_draw_Codes_Next true [.tmp 18, .cst (.t (.int .i64 3))],oO 20 (.bin .sub) [.cst (.t (.int .i64 1000000)), .tmp 19],oO 21 (.faddr 2) [.tmp 5],oS 1 21 20])
 .skip))
 (.seq
 (.seq
 (rG 20480 [mv 22 1,bN 23 .eql 22 4])
 (.cond (.tmp 23)
 (.seq
 (rG 24576 [mv 24 0,cL 25 n_draw_Codes_Payload true [.tmp 24],oO 26 (.faddr 3) [.tmp 5],oS 1 26 25])
 (.seq
 (rG 28672 [oO 27 (.load 4 true) [.tmp 5],oS 4 4 27])
 .ret))
 .skip))
 (.seq
 (rG 32768 [mv 28 0,cL 29 n_draw_Codes_Next true [.tmp 28, .cst (.t (.int .i64 7))],oO 30 (.mkslice 1 1 (.t (byteT 0))) [.tmp 29, .tmp 29],oO 31 (.faddr 3) [.tmp 5],oS 1 31 30])
 (.seq
 (.seq
 (rG 36864 [mC 6 (.t (.int .i64 0))])
 (.block 0
 (.loop (ac_draw_Codes_Image_L0 n_draw_Codes_Next))))
 (.seq
 (rG 53248 [oO 46 (.load 4 true) [.tmp 5],oS 4 4 46])
 .ret)))))))
def hints_draw_Codes_Image : List (Nat × List Nat) := [(1, [3, 6]), (2, [1]), (3, [1]), (5, [1]), (7, [1]), (11, [4])]
def ac_ref25_Name_L0 : AC :=
 (.seq
 (.seq
 (rG 20480 [mv 13 3,mv 14 0,oO 15 .slen [.tmp 14],bT 16 .lss 13 15])
 (.cond (.tmp 16)
 .skip
 (.exit 0)))
 (.seq
 (.block 1
 (.seq
 (rG 28672 [mv 19 0,mv 20 3,oO 21 .sindex [.tmp 19, .tmp 20],mv 4 21])
 (.seq
 (rG 32768 [mv 22 4,oO 23 (.bin .lss) [.tmp 22, .cst (.t (byteT 97))],mv 24 23,mF 25 4 24,oF 26 24 (.bin .gtr) [.tmp 25, .cst (.t (byteT 122))],oO 27 .pick [.tmp 24, .cst (.t (.bool true)), .tmp 26],mv 28 27,mG 29 4 28,oG 30 28 (.bin .lss) [.tmp 29, .cst (.t (byteT 48))],mG 31 30 28,mF 32 4 31,oF 33 31 (.bin .gtr) [.tmp 32, .cst (.t (byteT 57))],oG 34 28 .pick [.tmp 31, .cst (.t (.bool true)), .tmp 33],oO 35 .pick [.tmp 28, .tmp 34, .cst (.t (.bool false))],mv 36 35,mG 37 4 36,oG 38 36 (.bin .neq) [.tmp 37, .cst (.t (byteT 45))],oO 39 .pick [.tmp 36, .tmp 38, .cst (.t (.bool false))]])
 (.cond (.tmp 39)
 (.seq
 (rG 36864 [mC 2 (.t (.bool false))])
 .ret)
 .skip))))
 (rG 24576 [mv 17 3,bN 18 .add 17 1,mv 3 18])))
def ac_ref25_Name : AC :=
 (.seq
 (rG 4096 [mC 2 (.t (.bool false))])
 (.seq
 (.seq
 (rG 8192 [mv 5 0,oO 6 .slen [.tmp 5],bN 7 .lss 6 1,mv 8 7,mF 9 0 8,oF 10 8 .slen [.tmp 9],oF 11 8 (.bin .gtr) [.tmp 10, .cst (.t (.int .i64 12))],oO 12 .pick [.tmp 8, .cst (.t (.bool true)), .tmp 11]])
 (.cond (.tmp 12)
 (.seq
 (rG 12288 [mC 2 (.t (.bool false))])
 .ret)
 .skip))
 (.seq
 (.seq
 (rG 16384 [mC 3 (.t (.int .i64 0))])
 (.block 0
 (.loop ac_ref25_Name_L0)))
 (.seq
 (rG 40960 [mC 2 (.t (.bool true))])
 .ret))))
def hints_ref25_Name : List (Nat × List Nat) := []
def ac_ref25_Lines_L0 : AC :=
 (.seq
 (.seq
 (rG 20480 [mv 7 5,oO 8 (.faddr 3) [.tmp 1],oO 9 (.load 1 false) [.tmp 8],oO 10 .len [.tmp 9],bT 11 .lss 7 10])
 (.cond (.tmp 11)
 .skip
 (.exit 0)))
 (.seq
 (.block 1
 (.seq
 (rG 28672 [oO 14 (.faddr 3) [.tmp 1],oO 15 (.load 1 false) [.tmp 14],mv 16 5,oO 17 (.iaddr 1) [.tmp 15, .tmp 16],oO 18 (.load 1 false) [.tmp 17],mv 6 18])
 (.seq
 (.seq
 (rG 32768 [mv 19 6,oO 20 (.bin .eql) [.tmp 19, .cst (.t (byteT 10))]])
 (.cond (.tmp 20)
 (.seq
 (.seq
 (rG 36864 [mv 21 4,oO 22 .len [.tmp 21],bN 23 .eql 22 0,mv 24 23,mF 25 3 24,oF 26 24 .len [.tmp 25],oF 27 24 (.bin .geq) [.tmp 26, .cst (.t (.int .i64 4))],oO 28 .pick [.tmp 24, .cst (.t (.bool true)), .tmp 27]])
 (.cond (.tmp 28)
 (.seq
 (rG 40960 [mC 2 .nil])
 .ret)
 .skip))
 (.seq
 (rG 45056 [mv 29 3,mv 30 4,oO 31 (.bslice 1 1 .nil [0]) [.tmp 30],oO 32 (.append 1 24) [.tmp 29, .tmp 31],mv 3 32])
 (.seq
 (rG 49152 [mC 4 .nil])
 (.exit 1))))
 .skip))
 (.seq
 (.seq
 (rG 53248 [mv 33 6,oO 34 (.bin .lss) [.tmp 33, .cst (.t (byteT 32))],mv 35 34,mF 36 6 35,oF 37 35 (.bin .gtr) [.tmp 36, .cst (.t (byteT 126))],oO 38 .pick [.tmp 35, .cst (.t (.bool true)), .tmp 37]])
 (.cond (.tmp 38)
 (.seq
 (rG 57344 [mC 2 .nil])
 .ret)
 .skip))
 (rG 61440 [mv 39 4,mv 40 6,oO 41 (.bslice 1 1 (.t (byteT 0)) [0]) [.tmp 40],oO 42 (.append 1 1) [.tmp 39, .tmp 41],mv 4 42])))))
 (rG 24576 [mv 12 5,bN 13 .add 12 1,mv 5 13])))
def ac_ref25_Lines : AC :=
 (.seq
 (rG 4096 [oO 1 .box [.tmp 0],mC 2 .nil])
 (.seq
 (rG 8192 [mC 3 .nil])
 (.seq
 (rG 12288 [mC 4 .nil])
 (.seq
 (.seq
 (rG 16384 [mC 5 (.t (.int .i64 0))])
 (.block 0
 (.loop ac_ref25_Lines_L0)))
 (.seq
 (.seq
 (rG 65536 [mv 43 4,oO 44 .len [.tmp 43],bN 45 .gtr 44 0])
 (.cond (.tmp 45)
 (.seq
 (rG 69632 [mC 2 .nil])
 .ret)
 .skip))
 (.seq
 (rG 73728 [mv 46 3,mv 2 46])
 .ret))))))
def hints_ref25_Lines : List (Nat × List Nat) := []
def ac_ref25_Image (n_ref25_Name n_ref25_Lines : Nat) : AC :=
 (.seq
 (rG 4096 [oO 1 .box [.tmp 0],mC 2 (.t (.int .i64 0))])
 (.seq
 (.seq
 (rG 8192 [oO 3 (.faddr 0) [.tmp 1],oO 4 (.load 1 false) [.tmp 3],bN 5 .lss 4 1,mv 6 5,oF 7 6 (.faddr 0) [.tmp 1],oF 8 6 (.load 1 false) [.tmp 7],oF 9 6 (.bin .gtr) [.tmp 8, .cst (.t (.int .i64 4))],oO 10 .pick [.tmp 6, .cst (.t (.bool true)), .tmp 9],mv 11 10,oF 12 11 (.faddr 2) [.tmp 1],oF 13 11 (.load 1 false) [.tmp 12],oF 14 11 (.bin .lss) [.tmp 13, .cst (.t (.int .i64 0))],oO 15 .pick [.tmp 11, .cst (.t (.bool true)), .tmp 14],mv 16 15,oF 17 16 (.faddr 2) [.tmp 1],oF 18 16 (.load 1 false) [.tmp 17],oF 19 16 (.bin .gtr) [.tmp 18, .cst (.t (.int .i64 1000000))],oO 20 .pick [.tmp 16, .cst (.t (.bool true)), .tmp 19]])
 (.cond (.tmp 20)
 (.seq
 (rG 12288 [mC 2 (.t (.int .i64 1))])
 .ret)
 .skip))
 (.seq
 (.seq
 (rG 16384 [oO 21 (.faddr 1) [.tmp 1],oO 22 (.load 1 false) [.tmp 21],cL 23 n_ref25_Name false [.tmp 22],oO 24 (.un .not) [.tmp 23]])
 (.cond (.tmp 24)
 (.seq
 (rG 20480 [mC 2 (.t (.int .i64 43))])
 .ret)
 .skip))
 (.seq
 (.seq
 (rG 24576 [oO 25 (.faddr 3) [.tmp 1],oO 26 (.load 1 false) [.tmp 25],oO 27 .len [.tmp 26],bN 28 .gtr 27 64])
 (.cond (.tmp 28)
 (.seq
 (rG 28672 [mC 2 (.t (.int .i64 4))])
 .ret)
 .skip))
 (.seq
 (.seq
 (rG 32768 [oO 29 (.faddr 0) [.tmp 1],oO 30 (.load 1 false) [.tmp 29],bN 31 .eql 30 4,mv 32 31,oG 33 32 (.load 4 true) [.tmp 1],cG 34 32 n_ref25_Lines true [.tmp 33],oG 35 32 .len [.tmp 34],oG 36 32 (.bin .eql) [.tmp 35, .cst (.t (.int .i64 0))],oO 37 .pick [.tmp 32, .tmp 36, .cst (.t (.bool false))]])
 (.cond (.tmp 37)
 (.seq
 (rG 36864 [mC 2 (.t (.int .i64 40))])
 .ret)
 .skip))
 (.seq
 (rG 40960 [mC 2 (.t (.int .i64 0))])
 .ret))))))
def hints_ref25_Image : List (Nat × List Nat) := [(7, [5])]
def ac_ref25_EncodeImage (n_ref25_Image n_ref3_Uint n_ref3_Blob : Nat) : AC :=
 (.seq
 (rG 4096 [oO 1 .box [.tmp 0],mC 2 .nil])
 (.seq
 (.seq
 (rG 8192 [oO 4 (.load 4 true) [.tmp 1],cL 5 n_ref25_Image false [.tmp 4],bN 6 .neq 5 0])
 (.cond (.tmp 6)
 (.seq
 (rG 12288 [mC 2 .nil])
 .ret)
 .skip))
 (.seq
 (rG 16384 [oO 7 (.faddr 0) [.tmp 1],oO 8 (.load 1 false) [.tmp 7],cL 9 n_ref3_Uint false [.cst .nil, .cst (.t (.int .i64 1)), .tmp 8],mv 3 9])
 (.seq
 (rG 20480 [mv 10 3,oO 11 (.faddr 2) [.tmp 1],oO 12 (.load 1 false) [.tmp 11],cL 13 n_ref3_Uint false [.tmp 10, .cst (.t (.int .i64 4)), .tmp 12],mv 3 13])
 (.seq
 (rG 24576 [mv 14 3,oO 15 (.faddr 1) [.tmp 1],oO 16 (.load 1 false) [.tmp 15],oO 17 .s2b [.tmp 16],cL 18 n_ref3_Blob false [.tmp 14, .tmp 17],mv 3 18])
 (.seq
 (rG 28672 [mv 19 3,oO 20 (.faddr 3) [.tmp 1],oO 21 (.load 1 false) [.tmp 20],cL 22 n_ref3_Blob false [.tmp 19, .tmp 21],mv 2 22])
 .ret))))))
def hints_ref25_EncodeImage : List (Nat × List Nat) := []
def ac_ref25_Register : AC :=
 (.seq
 (rG 4096 [mC 2 (.t (.int .i64 0))])
 (.seq
 (.seq
 (rG 8192 [mv 3 0])
 (.block 0
 (.seq
 (rG 12288 [bN 5 .eql 3 1,mv 4 5])
 (.cond (.tmp 4)
 (.seq
 (rG 16384 [mC 2 (.t (.int .i64 0))])
 .ret)
 (.seq
 (rG 20480 [bN 7 .eql 3 2,mv 6 7])
 (.cond (.tmp 6)
 (.seq
 (rG 24576 [mC 2 (.t (.int .i64 4))])
 .ret)
 (.seq
 (rG 28672 [bN 9 .eql 3 3,mv 8 9])
 (.cond (.tmp 8)
 (.seq
 (rG 32768 [mC 2 (.t (.int .i64 8))])
 .ret)
 (.seq
 (rG 36864 [bN 11 .eql 3 4,mv 10 11])
 (.cond (.tmp 10)
 (.seq
 (rG 40960 [mC 2 (.t (.int .i64 9))])
 .ret)
 .skip))))))))))
 (.seq
 (rG 45056 [mC 2 (.t (.int .i64 (-1)))])
 .ret)))
def hints_ref25_Register : List (Nat × List Nat) := []
def ac_ref25_Digests_L0 (n_ref25_has n_ref1_Sum : Nat) : AC :=
 (.seq
 (.seq
 (rG 20480 [mv 11 7,bN 12 .lss 11 2])
 (.cond (.tmp 12)
 .skip
 (.exit 0)))
 (.seq
 (.block 1
 (.seq
 (rG 28672 [mv 15 6,oO 16 .len [.tmp 15],bN 17 .gtr 16 0,mv 18 17,mG 19 1 18,mG 20 7 18,cG 21 18 n_ref25_has false [.tmp 19, .tmp 20],oO 22 .pick [.tmp 18, .tmp 21, .cst (.t (.bool false))]])
 (.cond (.tmp 22)
 (rG 32768 [mv 23 5,mv 24 7,mv 25 7,mv 26 6,cL 27 n_ref1_Sum false [.tmp 25, .tmp 26],oO 28 (.iaddr 1) [.tmp 23, .tmp 24],oS 1 28 27])
 .skip)))
 (rG 24576 [mv 13 7,bN 14 .add 13 1,mv 7 14])))
def ac_ref25_Digests (n_ref25_EncodeImage n_ref25_has n_ref1_Sum : Nat) : AC :=
 (.seq
 (rG 4096 [oO 2 .box [.tmp 0],mC 4 .nil])
 (.seq
 (rG 8192 [oO 8 (.mkslice 1 24 .nil) [.cst (.t (.int .i64 2)), .cst (.t (.int .i64 2))],mv 5 8])
 (.seq
 (rG 12288 [oO 9 (.load 4 true) [.tmp 2],cL 10 n_ref25_EncodeImage true [.tmp 9],mv 6 10])
 (.seq
 (.seq
 (rG 16384 [mC 7 (.t (.int .i64 0))])
 (.block 0
 (.loop (ac_ref25_Digests_L0 n_ref25_has n_ref1_Sum))))
 (.seq
 (rG 36864 [mv 29 5,mv 4 29])
 .ret)))))
def hints_ref25_Digests : List (Nat × List Nat) := [(2, [1])]
def ac_ref25_Number (n_ref25_Number : Nat) : AC :=
 (.seq
 (rG 4096 [mC 2 .nil])
 (.seq
 (.seq
 (rG 8192 [mv 3 0,bN 4 .lss 3 10])
 (.cond (.tmp 4)
 (.seq
 (rG 12288 [mv 5 0,oO 6 (.bin .add) [.cst (.t (.int .i64 48)), .tmp 5],oO 7 (.conv .u8) [.tmp 6],oO 8 (.bslice 1 1 (.t (byteT 0)) [0]) [.tmp 7],mv 2 8])
 .ret)
 .skip))
 (.seq
 (rG 16384 [mv 9 0,bN 10 .quo 9 10,cL 11 n_ref25_Number false [.tmp 10],mv 12 0,bN 13 .rem 12 10,oO 14 (.bin .add) [.cst (.t (.int .i64 48)), .tmp 13],oO 15 (.conv .u8) [.tmp 14],oO 16 (.bslice 1 1 (.t (byteT 0)) [0]) [.tmp 15],oO 17 (.append 1 1) [.tmp 11, .tmp 16],mv 2 17])
 .ret)))
def hints_ref25_Number : List (Nat × List Nat) := []
def ac_ref25_Label (n_ref25_Number : Nat) : AC :=
 (.seq
 (rG 4096 [mC 4 .nil])
 (.seq
 (rG 8192 [mv 5 0,oO 6 .s2b [.tmp 5],oO 7 (.bslice 1 1 (.t (byteT 0)) [0]) [.cst (.t (byteT 32))],oO 8 (.append 1 1) [.tmp 6, .tmp 7],mv 9 1,cL 10 n_ref25_Number false [.tmp 9],oO 11 (.append 1 1) [.tmp 8, .tmp 10],mv 4 11])
 .ret))
def hints_ref25_Label : List (Nat × List Nat) := []
def ac_ref25_OfImage (n_ref25_Image n_ref25_Register n_ref25_Digests n_ref25_Label : Nat) : AC :=
 (.seq
 (rG 4096 [oO 2 .box [.tmp 0],oO 4 (.new 4 [(.agg [(.t (.int .i64 0)), (.t (.int .i64 0)), .nil, .nil])]) []])
 (.seq
 (.seq
 (rG 8192 [oO 5 (.load 4 true) [.tmp 2],cL 6 n_ref25_Image false [.tmp 5],bN 7 .neq 6 0,mv 8 7,oF 9 8 (.faddr 0) [.tmp 2],oF 10 8 (.load 1 false) [.tmp 9],oF 11 8 (.bin .eql) [.tmp 10, .cst (.t (.int .i64 4))],oO 12 .pick [.tmp 8, .cst (.t (.bool true)), .tmp 11]])
 (.cond (.tmp 12)
 (.seq
 (rG 12288 [oO 13 (.build [(.t (.int .i64 0)), (.t (.int .i64 0)), .nil, .nil] []) [],oS 4 4 13])
 .ret)
 .skip))
 (.seq
 (.reg 16384 (some [0, 1, 3, 0, 0, 31, 0, 64, 0, 256, 1023, 2047, 4095]) [oO 14 (.faddr 0) [.tmp 2],oO 15 (.load 1 false) [.tmp 14],cL 16 n_ref25_Register false [.tmp 15],oO 17 (.load 4 true) [.tmp 2],mv 18 1,cL 19 n_ref25_Digests true [.tmp 17, .tmp 18],oO 20 (.faddr 1) [.tmp 2],oO 21 (.load 1 false) [.tmp 20],oO 22 (.faddr 2) [.tmp 2],oO 23 (.load 1 false) [.tmp 22],cL 24 n_ref25_Label true [.tmp 21, .tmp 23],oO 25 (.build [(.t (.int .i64 0)), (.t (.int .i64 0)), .nil, .nil] [(0, 1), (1, 1), (2, 1), (3, 1)]) [.tmp 16, .cst (.t (.int .i64 1)), .tmp 19, .tmp 24],oS 4 4 25])
 .ret)))
def hints_ref25_OfImage : List (Nat × List Nat) := [(3, [5, 10])]
end Go.Eng
end
section
set_option maxRecDepth 20000
set_option maxHeartbeats 64000000
namespace Go.Eng
def ct_name : Ct where
 α := List UInt8
 as x := [.t (strT x)]
 ins _ := []
 pre x := x.length ≤ 9223372036854775807
 r x := .t (.bool (nameB x))
 outs _ := []
 inj := by
   intro a b h _
   simp only [List.cons.injEq, V.t.injEq, strT_inj, and_true] at h
   subst h; exact ⟨rfl, rfl⟩
theorem name_eq {s : List UInt8} (h : s.length ≤ 9223372036854775807) : ct_name.fs [.t (strT s)] [] = some (.t (.bool (nameB s)), []) := ct_name.eq s h
theorem allN_take {s : List UInt8} {i : Nat} (h : i < s.length) : (s.take (i + 1)).all okN = ((s.take i).all okN && okN (s.getD i 0)) := by
 rw [take_s (d := 0) h, List.all_append]; simp
theorem allN_not {s : List UInt8} {i : Nat} (h : i < s.length) (hc : okN (s.getD i 0) = false) : s.all okN = false := by
 have e : s.getD i 0 = s[i] := by simp [List.getD, h]
 rw [e] at hc
 exact Bool.eq_false_iff.2 fun ha => by
   have := List.all_eq_true.1 ha _ (List.getElem_mem h)
   rw [hc] at this; cases this
theorem w_ref25_Name (tab : Tab) (gl : Gl) (s : List UInt8) (hs : s.length ≤ 9223372036854775807) :
   ac_ref25_Name.wp tab gl (zipF 0 [.t (strT s)]) (zipF 0 []) (resW [(2, none)] 0 (fun r o => r = .t (.bool (nameB s)) ∧ o = [])) := by
 by_cases c1 : s.length < 1
 · have hr : nameB s = false := by unfold nameB; rw [decide_eq_true c1]; rfl
   simp (disch := omega) only [go_sem, ↓reduceIte, Nat.reduceAdd, Nat.reduceEqDiff, reduceCtorEq, ac_ref25_Name, c1, hr]
 by_cases c2 : 12 < s.length
 · have hr : nameB s = false := by unfold nameB; rw [decide_eq_true c2]; simp
   simp (disch := omega) only [go_sem, ↓reduceIte, Nat.reduceAdd, Nat.reduceEqDiff, reduceCtorEq, ac_ref25_Name, c1, c2, hr]
 have hr : nameB s = s.all okN := by unfold nameB; rw [decide_eq_false c1, decide_eq_false c2]; simp
 rw [hr]
 simp (disch := omega) only [go_sem, ↓reduceIte, Nat.reduceAdd, Nat.reduceEqDiff, reduceCtorEq, ac_ref25_Name, c1, c2]
 refine loop_uptoP s.length (fun i => (s.take i).all okN = true) (fun i => [(0, .t (strT s)), (3, .t (.int .i64 (i : Nat)))]) (fun _ => []) rfl ?_ (fun i hi hP => ?_)
 · refine Weak.rd id ?_ ?_ rfl
   all_goals simp (disch := omega) only [go_sem, ↓reduceIte, reduceCtorEq, id]
 · by_cases hlt : i < s.length
   · have hs := allN_take hlt
     rw [hP, Bool.true_and] at hs
     obtain ⟨c, hc⟩ : ∃ c, s.getD i 0 = c := ⟨_, rfl⟩
     cases hok : okN (s.getD i 0)
     · have hn := allN_not hlt hok
       rw [hc] at hok
       unfold okN at hok
       by_cases a1 : c.toNat < 97 <;> by_cases a2 : c.toNat > 122 <;> by_cases a3 : c.toNat < 48 <;> by_cases a4 : c.toNat > 57 <;> by_cases a5 : c = 45
       all_goals simp only [a1, a2, a3, a4, a5, decide_true, decide_false, Bool.not_true, Bool.not_false, Bool.and_true, Bool.true_and, Bool.and_false, Bool.false_and, Bool.or_true, Bool.true_or, Bool.or_false, Bool.false_or, reduceCtorEq] at hok
       all_goals have a5b : decide (c = 45) = false := decide_eq_false a5
       all_goals have a2' : (122 < c.toNat) = (c.toNat > 122) := rfl
       all_goals have a4' : (57 < c.toNat) = (c.toNat > 57) := rfl
       all_goals simp (disch := omega) only [go_sem, ↓reduceIte, Nat.reduceAdd, Nat.reduceEqDiff, reduceCtorEq, ac_ref25_Name_L0, hc, a1, a2, a3, a4, a5, a2', a4', hn]
     · rw [hc] at hok
       rw [hc, hok] at hs
       unfold okN at hok
       by_cases a1 : c.toNat < 97 <;> by_cases a2 : c.toNat > 122 <;> by_cases a3 : c.toNat < 48 <;> by_cases a4 : c.toNat > 57 <;> by_cases a5 : c = 45
       all_goals simp only [a1, a2, a3, a4, a5, decide_true, decide_false, Bool.not_true, Bool.not_false, Bool.and_true, Bool.true_and, Bool.and_false, Bool.false_and, Bool.or_true, Bool.true_or, Bool.or_false, Bool.false_or, reduceCtorEq] at hok
       all_goals have a2' : (122 < c.toNat) = (c.toNat > 122) := rfl
       all_goals have a4' : (57 < c.toNat) = (c.toNat > 57) := rfl
       all_goals simp (disch := omega) only [go_sem, ↓reduceIte, Nat.reduceAdd, Nat.reduceEqDiff, Nat.reduceLT, reduceCtorEq, ac_ref25_Name_L0, hc, a1, a2, a3, a4, a5, a2', a4']
       all_goals refine ⟨hlt, hs, Weak.rd id ?_ ?_ rfl⟩
       all_goals simp (disch := omega) only [go_sem, ↓reduceIte, reduceCtorEq, id]
   · have e : i = s.length := by omega
     subst e
     rw [List.take_length] at hP
     simp (disch := omega) only [go_sem, ↓reduceIte, Nat.reduceAdd, Nat.reduceEqDiff, reduceCtorEq, ac_ref25_Name_L0, hP]
def ct_lns : Ct where
 α := Im
 as x := [.t (imT x)]
 ins _ := []
 pre x := imM x
 r x := .t (.sl ((lnL x.2.2.2).map bsT))
 outs _ := []
 inj := by
   intro a b h _
   simp only [List.cons.injEq, V.t.injEq, and_true] at h
   cases imT_inj h
   exact ⟨rfl, rfl⟩
theorem lns_eq {a v : Int} {s p : List UInt8} (h : imM (a, s, v, p)) : ct_lns.fs [.t (.agg [.int .i64 a, strT s, .int .i64 v, .sl (p.map byteT)])] [] = some (.t (.sl ((lnL p).map bsT)), []) := ct_lns.eq (a, s, v, p) h
theorem drop_cons' {p : List UInt8} {i : Nat} (h : i < p.length) : p.drop i = p.getD i 0 :: p.drop (i + 1) := by
 rw [List.drop_eq_getElem_cons h]; simp [List.getD, h]
theorem w_ref25_Lines (tab : Tab) (gl : Gl) (x : Im) (hm : imM x) :
   ac_ref25_Lines.wp tab gl (zipF 0 [.t (imT x)]) (zipF 0 []) (resW [(2, none)] 0 (fun r o => r = .t (.sl ((lnL x.2.2.2).map bsT)) ∧ o = [])) := by
 obtain ⟨a, s, v, p⟩ := x
 have hp := hm.2.1
 simp only at hp ⊢
 simp (disch := omega) only [go_sem, ↓reduceIte, Nat.reduceAdd, ac_ref25_Lines, imT_def]
 refine loop_inv (σ := Nat × List (List UInt8) × List UInt8) (fun t => t.1 ≤ p.length ∧ lnS t.2.1 t.2.2 (p.drop t.1) = lnL p ∧ t.2.1.length ≤ 4 ∧ t.2.2.length ≤ t.1) (fun t => p.length - t.1)
   (fun t => [(1, .ref 4096 0 0), (3, .sl 9000 0 t.2.1.length), (4, .sl 9001 0 t.2.2.length), (5, .t (.int .i64 (t.1 : Nat)))])
   (fun t => [(9001, .live 1 ((t.2.2.map byteT).map V.t) true false), (9000, .live 1 ((t.2.1.map bsT).map V.t) true false), (4096, .live 4 [.t (.agg [.int .i64 a, strT s, .int .i64 v, .sl (p.map byteT)])] true true)]) (0, [], []) ⟨Nat.zero_le _, rfl, by simp, by simp⟩ ?_ ?_
 · refine Weak.cv0 (hv := [(9001, .live 1 [] true false), (9000, .live 1 [] true false)]) (ho := [(4096, .live 4 [.t (.agg [.int .i64 a, strT s, .int .i64 v, .sl (p.map byteT)])] true true)]) id ?_ ?_ rfl rfl
   all_goals simp (disch := omega) only [go_sem, ↓reduceIte, Nat.reduceEqDiff, Nat.reduceBEq, id]
 · rintro ⟨i, out, line⟩ ⟨hi, hE, ho, hl⟩
   simp only at hi hE ho hl ⊢
   by_cases hlt : i < p.length
   · rw [drop_cons' hlt] at hE
     obtain ⟨c, hc⟩ : ∃ c, p.getD i 0 = c := ⟨_, rfl⟩
     rw [hc] at hE
     by_cases c10 : c = 10
     · have hcb : decide (c = 10) = true := decide_eq_true c10
       rw [lnS, if_pos c10] at hE
       by_cases z1 : line.length = 0
       · rw [if_pos (.inl z1)] at hE
         have z1i : ((line.length : Int) == 0) = true := by simp [z1]
         rw [← hE]
         simp (disch := omega) only [go_sem, ↓reduceIte, Nat.reduceAdd, Nat.reduceEqDiff, Nat.reduceLeDiff, reduceCtorEq, ac_ref25_Lines_L0, hc, hcb, z1, List.map_nil]
       · have z1i : ((line.length : Int) == 0) = false := by simpa using (by omega : ¬ (line.length : Int) = 0)
         by_cases z2 : 4 ≤ out.length
         · rw [if_pos (.inr z2)] at hE
           rw [← hE]
           simp (disch := omega) only [go_sem, ↓reduceIte, Nat.reduceAdd, Nat.reduceEqDiff, Nat.reduceLeDiff, reduceCtorEq, ac_ref25_Lines_L0, hc, hcb, z1, z1i, z2, List.map_nil]
         · rw [if_neg (by omega)] at hE
           simp (disch := omega) only [go_sem, ↓reduceIte, Nat.reduceAdd, Nat.reduceEqDiff, Nat.reduceLT, Nat.reduceLeDiff, reduceCtorEq, ac_ref25_Lines_L0, hc, hcb, z1, z1i, z2]
           refine invG.of (i + 1, out ++ [line], []) ⟨by simp only; omega, hE, by simp; omega, by simp⟩ (by simp only; omega) ?_
           refine Weak.cv (hv := [(9001, .live 1 [] true false)]) (ho := [(9000, .live 1 (((out ++ [line]).map bsT).map V.t) true false), (4096, .live 4 [.t (.agg [.int .i64 a, strT s, .int .i64 v, .sl (p.map byteT)])] true true)]) [9001] (fun j => if j = 9000 then 45104 else j) ?_ rfl
           simp (disch := omega) only [go_sem, ↓reduceIte, Nat.reduceAdd, Nat.reduceEqDiff, Nat.reduceLeDiff, Nat.reduceBEq, id, List.map_cons, List.map_nil, List.take_length]
           rfl
     · have hcb : decide (c = 10) = false := decide_eq_false c10
       rw [lnS, if_neg c10] at hE
       cases hok : okC c
       · rw [hok, if_neg (by decide)] at hE
         rw [← hE]
         unfold okC at hok
         by_cases a1 : c.toNat < 32
         · simp (disch := omega) only [go_sem, ↓reduceIte, Nat.reduceAdd, Nat.reduceEqDiff, Nat.reduceLeDiff, reduceCtorEq, ac_ref25_Lines_L0, hc, hcb, a1, List.map_nil]
         · have a2 : 126 < c.toNat := by
             rw [decide_eq_false a1] at hok
             simpa using hok
           simp (disch := omega) only [go_sem, ↓reduceIte, Nat.reduceAdd, Nat.reduceEqDiff, Nat.reduceLeDiff, reduceCtorEq, ac_ref25_Lines_L0, hc, hcb, a1, a2, List.map_nil]
       · rw [hok, if_pos rfl] at hE
         unfold okC at hok
         simp only [Bool.and_eq_true, Bool.not_eq_true', decide_eq_false_iff_not] at hok
         obtain ⟨a1, a2⟩ := hok
         have a3 : ¬ 126 < c.toNat := a2
         simp (disch := omega) only [go_sem, ↓reduceIte, Nat.reduceAdd, Nat.reduceEqDiff, Nat.reduceLT, Nat.reduceLeDiff, reduceCtorEq, ac_ref25_Lines_L0, hc, hcb, a1, a3]
         refine invG.of (i + 1, out, line ++ [c]) ⟨by simp only; omega, hE, ho, by simp; omega⟩ (by simp only; omega) (Weak.rd (fun j => if j = 9001 then 61488 else j) ?_ ?_ rfl)
         all_goals simp (disch := omega) only [go_sem, ↓reduceIte, Nat.reduceAdd, Nat.reduceEqDiff, Nat.reduceBEq, id, List.map_cons, List.map_nil]
   · have e : p.drop i = [] := List.drop_eq_nil_of_le (by omega)
     rw [e, lnS] at hE
     by_cases z : 0 < line.length
     · rw [if_pos z] at hE
       rw [← hE]
       simp (disch := omega) only [go_sem, ↓reduceIte, Nat.reduceAdd, Nat.reduceEqDiff, Nat.reduceLeDiff, reduceCtorEq, ac_ref25_Lines_L0, z, List.map_nil]
     · rw [if_neg z] at hE
       rw [← hE]
       have z0 : line.length = 0 := by omega
       simp (disch := omega) only [go_sem, ↓reduceIte, Nat.reduceAdd, Nat.reduceEqDiff, Nat.reduceLeDiff, reduceCtorEq, ac_ref25_Lines_L0, z, z0, List.take_length]
def ct_imc : Ct where
 α := Im
 as x := [.t (imT x)]
 ins _ := []
 pre x := imM x
 r x := .t (.int .i64 (chkI x))
 outs _ := []
 inj := by
   intro a b h _
   simp only [List.cons.injEq, V.t.injEq, and_true] at h
   cases imT_inj h
   exact ⟨rfl, rfl⟩
theorem imc_eq {a v : Int} {s p : List UInt8} (h : imM (a, s, v, p)) : ct_imc.fs [.t (.agg [.int .i64 a, strT s, .int .i64 v, .sl (p.map byteT)])] [] = some (.t (.int .i64 (chkI (a, s, v, p))), []) := ct_imc.eq (a, s, v, p) h
theorem w_ref25_Image (tab : Tab) (gl : Gl) (n1 n2 : Nat) (h1 : tab.look n1 = some ct_name.fs) (h2 : tab.look n2 = some ct_lns.fs) (x : Im) (hm : imM x) :
   (ac_ref25_Image n1 n2).wp tab gl (zipF 0 [.t (imT x)]) (zipF 0 []) (resW [(2, none)] 0 (fun r o => r = .t (.int .i64 (chkI x)) ∧ o = [])) := by
 obtain ⟨a, s, v, p⟩ := x
 have hp := hm.2.1
 have hN := name_eq hm.1
 have hL := lns_eq hm
 have lL := lnL_len (p := p)
 simp only at hp hN
 have hl2 : ((lnL p).map bsT).length = (lnL p).length := List.length_map _
 by_cases hb : badI a v
 · have hr : chkI (a, s, v, p) = 1 := if_pos hb
   rw [hr]
   by_cases c1 : a < 1
   · simp (disch := omega) only [go_sem, ↓reduceIte, Nat.reduceAdd, Nat.reduceEqDiff, Nat.reduceLeDiff, ac_ref25_Image, imT_def, c1]
   by_cases c2 : 4 < a
   · simp (disch := omega) only [go_sem, ↓reduceIte, Nat.reduceAdd, Nat.reduceEqDiff, Nat.reduceLeDiff, ac_ref25_Image, imT_def, c1, c2]
   by_cases c3 : v < 0
   · simp (disch := omega) only [go_sem, ↓reduceIte, Nat.reduceAdd, Nat.reduceEqDiff, Nat.reduceLeDiff, reduceCtorEq, ac_ref25_Image, imT_def, c1, c2, c3]
   have c4 : 1000000 < v := by unfold badI at hb; omega
   simp (disch := omega) only [go_sem, ↓reduceIte, Nat.reduceAdd, Nat.reduceEqDiff, Nat.reduceLeDiff, reduceCtorEq, ac_ref25_Image, imT_def, c1, c2, c3, c4]
 · have hb' := hb
   unfold badI at hb'
   have c1 : ¬ a < 1 := by omega
   have c2 : ¬ 4 < a := by omega
   have c3 : ¬ v < 0 := by omega
   have c4 : ¬ 1000000 < v := by omega
   cases hn : nameB s
   · have hr : chkI (a, s, v, p) = 43 := by unfold chkI; rw [if_neg hb, if_pos hn]
     rw [hr]
     rw [hn] at hN
     simp (disch := omega) only [go_sem, ↓reduceIte, Nat.reduceAdd, Nat.reduceEqDiff, Nat.reduceLeDiff, reduceCtorEq, ac_ref25_Image, imT_def, c1, c2, c3, c4, h1, hN]
   · rw [hn] at hN
     have hn2 : ¬ nameB s = false := by rw [hn]; decide
     by_cases c5 : 64 < p.length
     · have hr : chkI (a, s, v, p) = 4 := by unfold chkI; rw [if_neg hb, if_neg hn2, if_pos c5]
       rw [hr]
       simp (disch := omega) only [go_sem, ↓reduceIte, Nat.reduceAdd, Nat.reduceEqDiff, Nat.reduceLeDiff, reduceCtorEq, ac_ref25_Image, imT_def, c1, c2, c3, c4, h1, hN, c5]
     · have hr : chkI (a, s, v, p) = if a = 4 ∧ (lnL p).length = 0 then 40 else 0 := by unfold chkI; rw [if_neg hb, if_neg hn2, if_neg c5]
       rw [hr]
       generalize lnL p = L at *
       by_cases c6 : a = 4
       · subst c6
         by_cases c7 : L.length = 0
         · simp (disch := omega) only [go_sem, ↓reduceIte, Nat.reduceAdd, Nat.reduceEqDiff, Nat.reduceLeDiff, Int.reduceLT, reduceCtorEq, ac_ref25_Image, imT_def, c3, c4, h1, hN, c5, h2, hL, c7]
         · have c8 : ((L.length : Int) == 0) = false := by simpa using (by omega : ¬ (L.length : Int) = 0)
           simp (disch := omega) only [go_sem, ↓reduceIte, Nat.reduceAdd, Nat.reduceEqDiff, Nat.reduceLeDiff, Int.reduceLT, reduceCtorEq, ac_ref25_Image, imT_def, c3, c4, h1, hN, c5, h2, hL, c7, c8]
       · have c8 : (a == 4) = false := by simpa using c6
         simp (disch := omega) only [go_sem, ↓reduceIte, Nat.reduceAdd, Nat.reduceEqDiff, Nat.reduceLeDiff, reduceCtorEq, ac_ref25_Image, imT_def, c1, c2, c3, c4, h1, hN, c5, c6, c8]
def ct_enI : Ct where
 α := Im
 as x := [.t (imT x)]
 ins _ := []
 pre x := imM x
 r x := .t (.sl ((encI' x).map byteT))
 outs _ := []
 inj := by
   intro a b h _
   simp only [List.cons.injEq, V.t.injEq, and_true] at h
   cases imT_inj h
   exact ⟨rfl, rfl⟩
theorem enI_eq {a v : Int} {s p : List UInt8} (h : imM (a, s, v, p)) : ct_enI.fs [.t (.agg [.int .i64 a, strT s, .int .i64 v, .sl (p.map byteT)])] [] = some (.t (.sl ((encI' (a, s, v, p)).map byteT)), []) := ct_enI.eq (a, s, v, p) h
theorem uintN {b : List UInt8} {k : Nat} {n : Int} (hb : b.length < 1000000000 ∧ 1 ≤ k ∧ k ≤ 8) : ct_uint.fs [.t (.sl (b.map byteT)), .t (.int .i64 k), .t (.int .i64 n)] [] = some (.sl 0 0 (b.length + k), [.live 1 (((b ++ beI k n k).map byteT).map V.t) true false]) := ct_uint.eq (b, k, n) hb
theorem w_ref25_EncodeImage (tab : Tab) (gl : Gl) (n1 n2 n3 : Nat) (h1 : tab.look n1 = some ct_imc.fs) (h2 : tab.look n2 = some ct_uint.fs) (h3 : tab.look n3 = some ct_blob.fs) (x : Im) (hm : imM x) :
   (ac_ref25_EncodeImage n1 n2 n3).wp tab gl (zipF 0 [.t (imT x)]) (zipF 0 []) (resW [(2, none)] 0 (fun r o => r = .t (.sl ((encI' x).map byteT)) ∧ o = [])) := by
 obtain ⟨a, s, v, p⟩ := x
 have hC := imc_eq hm
 by_cases hz : chkI (a, s, v, p) = 0
 · obtain ⟨g1, g2, g3, g4, g5⟩ := chkI_good hz
   have g6 := nameB_len g3
   simp only at g1 g2 g3 g4 g6
   have hr : encI' (a, s, v, p) = blL (blL (beI 1 a 1 ++ beI 4 v 4) s) p := if_pos hz
   rw [hr]
   rw [hz] at hC
   have u1 : ct_uint.fs [.t (.sl []), .t (.int .i64 1), .t (.int .i64 a)] [] = _ := uintN (b := []) (k := 1) (n := a) ⟨by decide, by decide, by decide⟩
   rw [List.nil_append] at u1
   have l1 : (beI 1 a 1).length = 1 := beI_len
   have u2 : ct_uint.fs [.t (.sl ((beI 1 a 1).map byteT)), .t (.int .i64 4), .t (.int .i64 v)] [] = _ := uintN (b := beI 1 a 1) (k := 4) (n := v) ⟨by rw [l1]; decide, by decide, by decide⟩
   have l2 : (beI 1 a 1 ++ beI 4 v 4).length = 5 := by rw [List.length_append, beI_len, beI_len]
   have b1 := blob_eq (b := beI 1 a 1 ++ beI 4 v 4) (x := s) ⟨by omega, by omega⟩
   have l3 : (blL (beI 1 a 1 ++ beI 4 v 4) s).length = 5 + 2 + s.length := by rw [blL_len, l2]
   have b2 := blob_eq (b := blL (beI 1 a 1 ++ beI 4 v 4) s) (x := p) ⟨by omega, by omega⟩
   have l4 : (blL (blL (beI 1 a 1 ++ beI 4 v 4) s) p).length = 5 + 2 + s.length + 2 + p.length := by rw [blL_len, l3]
   rw [l1] at u2
   rw [l2] at b1
   rw [l3] at b2
   generalize blL (blL (beI 1 a 1 ++ beI 4 v 4) s) p = B4 at *
   generalize blL (beI 1 a 1 ++ beI 4 v 4) s = B3 at *
   generalize beI 1 a 1 ++ beI 4 v 4 = B2 at *
   generalize beI 1 a 1 = B1 at *
   have t1 : List.take 1 B1 = B1 := List.take_of_length_le (by omega)
   have t2 : List.take 5 B2 = B2 := List.take_of_length_le (by omega)
   have t3 : List.take (5 + 2 + s.length) B3 = B3 := List.take_of_length_le (by omega)
   have t4 : List.take (5 + 2 + s.length + 2 + p.length) B4 = B4 := List.take_of_length_le (by omega)
   simp (disch := omega) only [go_sem, ↓reduceIte, Nat.reduceAdd, Nat.reduceEqDiff, Nat.reduceLeDiff, reduceCtorEq, ac_ref25_EncodeImage, imT_def, h1, hC, h2, u1, l1, t1, u2, l2, t2, h3, b1, l3, t3, b2, l4, t4, List.length_nil, List.map_nil, List.take_length]
 · have hr : encI' (a, s, v, p) = [] := if_neg hz
   rw [hr]
   have hz' : (chkI (a, s, v, p) != 0) = true := by simpa using hz
   simp (disch := omega) only [go_sem, ↓reduceIte, Nat.reduceAdd, Nat.reduceEqDiff, Nat.reduceLeDiff, ac_ref25_EncodeImage, imT_def, h1, hC, hz', List.map_nil]
def ct_reg : Ct where
 α := Int
 as x := [.t (.int .i64 x)]
 ins _ := []
 pre _ := True
 r x := .t (.int .i64 (regI x))
 outs _ := []
 inj := by
   intro a b h _
   simp only [List.cons.injEq, V.t.injEq, T.int.injEq, true_and, and_true] at h
   subst h; exact ⟨rfl, rfl⟩
theorem reg_eq {a : Int} : ct_reg.fs [.t (.int .i64 a)] [] = some (.t (.int .i64 (regI a)), []) := ct_reg.eq a trivial
theorem w_ref25_Register (tab : Tab) (gl : Gl) (a : Int) : ac_ref25_Register.wp tab gl (zipF 0 [.t (.int .i64 a)]) (zipF 0 []) (resW [(2, none)] 0 (fun r o => r = .t (.int .i64 (regI a)) ∧ o = [])) := by
 by_cases c1 : a = 1
 · subst c1
   simp (disch := omega) only [go_sem, ↓reduceIte, Nat.reduceAdd, Int.reduceNeg, reduceCtorEq, ac_ref25_Register, regI]
 by_cases c2 : a = 2
 · subst c2
   simp (disch := omega) only [go_sem, ↓reduceIte, Nat.reduceAdd, Nat.reduceEqDiff, Int.reduceEq, Int.reduceNeg, reduceCtorEq, ac_ref25_Register, regI]
 by_cases c3 : a = 3
 · subst c3
   simp (disch := omega) only [go_sem, ↓reduceIte, Nat.reduceAdd, Nat.reduceEqDiff, Int.reduceEq, Int.reduceNeg, reduceCtorEq, ac_ref25_Register, regI]
 by_cases c4 : a = 4
 · subst c4
   simp (disch := omega) only [go_sem, ↓reduceIte, Nat.reduceAdd, Nat.reduceEqDiff, Int.reduceEq, Int.reduceNeg, reduceCtorEq, ac_ref25_Register, regI]
 have d1 : (a == 1) = false := by simpa using c1
 have d2 : (a == 2) = false := by simpa using c2
 have d3 : (a == 3) = false := by simpa using c3
 have d4 : (a == 4) = false := by simpa using c4
 have hr : regI a = -1 := by unfold regI; rw [if_neg c1, if_neg c2, if_neg c3, if_neg c4]
 simp (disch := omega) only [go_sem, ↓reduceIte, Nat.reduceAdd, Nat.reduceEqDiff, Int.reduceNeg, reduceCtorEq, ac_ref25_Register, d1, d2, d3, d4, hr]
def ct_imd : Ct where
 α := Im × Int
 as x := [.t (imT x.1), .t (.int .i64 x.2)]
 ins _ := []
 pre x := imM x.1 ∧ 0 ≤ x.2 ∧ x.2 < 4
 r x := .t (.sl [bsT (digI x.1 x.2 0), bsT (digI x.1 x.2 1)])
 outs _ := []
 inj := by
   rintro ⟨e, a⟩ ⟨f, b⟩ h _
   simp only [List.cons.injEq, V.t.injEq, T.int.injEq, true_and, and_true] at h
   obtain ⟨h1, rfl⟩ := h
   cases imT_inj h1
   exact ⟨rfl, rfl⟩
theorem imd_eq {a v : Int} {s p : List UInt8} {act : Int} (h : imM (a, s, v, p) ∧ 0 ≤ act ∧ act < 4) : ct_imd.fs [.t (.agg [.int .i64 a, strT s, .int .i64 v, .sl (p.map byteT)]), .t (.int .i64 act)] [] = some (.t (.sl [bsT (digI (a, s, v, p) act 0), bsT (digI (a, s, v, p) act 1)]), []) := ct_imd.eq ((a, s, v, p), act) h
theorem encI_len {x : Im} (h : imM x) : (encI' x).length ≤ 100 := by
 unfold encI'
 split
 · rename_i hz
   obtain ⟨g1, g2, g3, g4, g5⟩ := chkI_good hz
   have g6 := nameB_len g3
   unfold encI
   rw [blL_len, blL_len, List.length_append, beI_len, beI_len]
   omega
 · simp
theorem w_ref25_Digests (tab : Tab) (gl : Gl) (n1 n2 n3 : Nat) (h1 : tab.look n1 = some ct_enI.fs) (h2 : tab.look n2 = some ct_has.fs) (h3 : tab.look n3 = some ct_sumA.fs) (x : Im) (act : Int) (hm : imM x) (ha : 0 ≤ act ∧ act < 4) :
   (ac_ref25_Digests n1 n2 n3).wp tab gl (zipF 0 [.t (imT x), .t (.int .i64 act)]) (zipF 0 []) (resW [(4, none)] 0 (fun r o => r = .t (.sl [bsT (digI x act 0), bsT (digI x act 1)]) ∧ o = [])) := by
 have hl := encI_len hm
 have e0 : digI x act 0 = if 0 < (encI' x).length ∧ act % 2 = 1 then sum1 (encI' x) else [] := by unfold digI; simp [sumA]
 have e1 : digI x act 1 = if 0 < (encI' x).length ∧ act / 2 % 2 = 1 then sum256 (encI' x) else [] := by unfold digI; simp [sumA]
 obtain ⟨a, s, v, p⟩ := x
 have hE := enI_eq hm
 have q0 := has_eq0 ha
 have q1 := has_eq1 ha
 generalize encI' (a, s, v, p) = B at *
 have s0 := sumA_eq0 (bs := B) (by omega)
 have s1 := sumA_eq1 (bs := B) (by omega)
 have l0 : (sum1 B).length = 20 := sum1_length
 have l1 : (sum256 B).length = 32 := sum256_length
 have t0 : List.take 20 (sum1 B) = sum1 B := take_sum1
 have t1 : List.take 32 (sum256 B) = sum256 B := take_sum256
 generalize sum1 B = S0 at *
 generalize sum256 B = S1 at *
 simp only [bsT_def]
 simp (disch := omega) only [go_sem, ↓reduceIte, Nat.reduceAdd, Nat.reduceEqDiff, Nat.reduceMul, Nat.reduceLeDiff, Int.reduceLE, ac_ref25_Digests, imT_def, h1, hE]
 repeat refine And.intro rfl ?_
 refine loop_upto 2 (fun i => [(1, .t (.int .i64 act)), (5, .sl 8192 0 2), (6, .t (.sl (B.map byteT))), (7, .t (.int .i64 (i : Nat)))])
   (fun i => [(8192, .live 1 [.t (.sl ((if 0 < i then digI (a, s, v, p) act 0 else []).map byteT)), .t (.sl ((if 1 < i then digI (a, s, v, p) act 1 else []).map byteT))] true false), (4096, .live 4 [.t (.agg [.int .i64 a, strT s, .int .i64 v, .sl (p.map byteT)])] true true)]) ?_ (fun i hi => ?_)
 · refine Weak.rd id ?_ ?_ rfl
   all_goals simp (disch := omega) only [go_sem, ↓reduceIte, Nat.reduceAdd, Nat.reduceEqDiff, Nat.reduceBEq, reduceCtorEq, id, List.map_nil, Nat.lt_irrefl, Nat.not_lt_zero]
 · rcases (show i = 0 ∨ i = 1 ∨ i = 2 by omega) with rfl | rfl | rfl
   · by_cases z : 0 < B.length
     · by_cases b0 : act % 2 = 1
       · rw [if_pos ⟨z, b0⟩] at e0
         simp (disch := omega) only [go_sem, ↓reduceIte, Nat.reduceAdd, Nat.reduceEqDiff, Nat.reduceLT, Nat.reduceLeDiff, Int.reduceLT, Int.reduceLE, Int.reduceAdd, ac_ref25_Digests_L0, h2, q0, b0, z, h3, s0, List.map_nil, Nat.lt_irrefl, Nat.not_lt_zero]
         refine Weak.cv (hv := []) [32832] id ?_ rfl
         simp (disch := omega) only [go_sem, ↓reduceIte, Nat.reduceAdd, Nat.reduceEqDiff, Nat.reduceLeDiff, Nat.reduceBEq, id, e0, l0, t0, List.map_nil]
         rfl
       · rw [if_neg (fun h => b0 h.2)] at e0
         simp (disch := omega) only [go_sem, ↓reduceIte, Nat.reduceAdd, Nat.reduceEqDiff, Nat.reduceLT, Nat.reduceLeDiff, Int.reduceLT, Int.reduceAdd, ac_ref25_Digests_L0, h2, q0, b0, z, List.map_nil, Nat.lt_irrefl, Nat.not_lt_zero]
         refine Weak.rd id ?_ ?_ rfl
         all_goals simp (disch := omega) only [go_sem, ↓reduceIte, Nat.reduceAdd, Nat.reduceEqDiff, Nat.reduceBEq, id, e0, List.map_nil, Nat.lt_irrefl]
     · rw [if_neg (fun h => z h.1)] at e0
       simp (disch := omega) only [go_sem, ↓reduceIte, Nat.reduceAdd, Nat.reduceEqDiff, Nat.reduceLT, Int.reduceLT, Int.reduceAdd, ac_ref25_Digests_L0, z, List.map_nil, Nat.lt_irrefl, Nat.not_lt_zero]
       refine Weak.rd id ?_ ?_ rfl
       all_goals simp (disch := omega) only [go_sem, ↓reduceIte, Nat.reduceAdd, Nat.reduceEqDiff, Nat.reduceBEq, id, e0, List.map_nil, Nat.lt_irrefl]
   · by_cases z : 0 < B.length
     · by_cases b0 : act / 2 % 2 = 1
       · rw [if_pos ⟨z, b0⟩] at e1
         simp (disch := omega) only [go_sem, ↓reduceIte, Nat.reduceAdd, Nat.reduceEqDiff, Nat.reduceLT, Nat.reduceLeDiff, Int.reduceLT, Int.reduceLE, Int.reduceAdd, ac_ref25_Digests_L0, h2, q1, b0, z, h3, s1, List.map_nil, Nat.lt_irrefl, Nat.not_lt_zero]
         refine Weak.cv (hv := []) [32832] id ?_ rfl
         simp (disch := omega) only [go_sem, ↓reduceIte, Nat.reduceAdd, Nat.reduceEqDiff, Nat.reduceLeDiff, Nat.reduceBEq, id, e1, l1, t1, List.map_nil]
         rfl
       · rw [if_neg (fun h => b0 h.2)] at e1
         simp (disch := omega) only [go_sem, ↓reduceIte, Nat.reduceAdd, Nat.reduceEqDiff, Nat.reduceLT, Nat.reduceLeDiff, Int.reduceLT, Int.reduceAdd, ac_ref25_Digests_L0, h2, q1, b0, z, List.map_nil, Nat.lt_irrefl, Nat.not_lt_zero]
         refine Weak.rd id ?_ ?_ rfl
         all_goals simp (disch := omega) only [go_sem, ↓reduceIte, Nat.reduceAdd, Nat.reduceEqDiff, Nat.reduceBEq, id, e1, List.map_nil, Nat.lt_irrefl]
     · rw [if_neg (fun h => z h.1)] at e1
       simp (disch := omega) only [go_sem, ↓reduceIte, Nat.reduceAdd, Nat.reduceEqDiff, Nat.reduceLT, Int.reduceLT, Int.reduceAdd, ac_ref25_Digests_L0, z, List.map_nil, Nat.lt_irrefl, Nat.not_lt_zero]
       refine Weak.rd id ?_ ?_ rfl
       all_goals simp (disch := omega) only [go_sem, ↓reduceIte, Nat.reduceAdd, Nat.reduceEqDiff, Nat.reduceBEq, id, e1, List.map_nil, Nat.lt_irrefl]
   · simp (disch := omega) only [go_sem, ↓reduceIte, Nat.reduceAdd, Nat.reduceEqDiff, Nat.reduceLT, Nat.reduceLeDiff, Int.reduceLT, ac_ref25_Digests_L0]
def ct_num (k : Nat) : Ct where
 α := Nat
 as x := [.t (.int .i64 x)]
 ins _ := []
 pre x := x < 10 ^ (k + 1) ∧ x < 1000000000
 r x := .sl 0 0 (decL k x).length
 outs x := [.live 1 (((decL k x).map byteT).map V.t) true (decide (x < 10))]
 inj := by
   intro a b h _
   simp only [List.cons.injEq, V.t.injEq, T.int.injEq, true_and, and_true, Int.natCast_inj] at h
   subst h; exact ⟨rfl, rfl⟩
theorem num_eq {k n : Nat} (h : n < 10 ^ (k + 1) ∧ n < 1000000000) : (ct_num k).fs [.t (.int .i64 n)] [] = some (.sl 0 0 (decL k n).length, [.live 1 (((decL k n).map byteT).map V.t) true (decide (n < 10))]) := (ct_num k).eq n h
theorem conv8 {m : Nat} : IntKind.u8.wrap (m : Int) = ((UInt8.ofNat m).toNat : Int) := by
 rw [wrap_u8, UInt8.toNat_ofNat']; omega
theorem w_ref25_Number0 (tab : Tab) (gl : Gl) (n1 : Nat) (n : Nat) (hn : n < 10) :
   (ac_ref25_Number n1).wp tab gl (zipF 0 [.t (.int .i64 n)]) (zipF 0 []) (resF [] [(2, none)] 0 (fun r o => r = .sl 0 0 (decL 0 n).length ∧ o = [.live 1 (((decL 0 n).map byteT).map V.t) true (decide (n < 10))])) := by
 have h1 : (n : Int) < 10 := by omega
 have e : decL 0 n = [UInt8.ofNat (48 + n)] := rfl
 rw [e, decide_eq_true hn]
 have hw : T.int .u8 (IntKind.u8.wrap ((48 : Int) + n)) = byteT (UInt8.ofNat (48 + n)) := by
   rw [show (48 : Int) + n = ((48 + n : Nat) : Int) by omega, conv8]; rfl
 simp (disch := omega) only [go_sem, ↓reduceIte, Nat.reduceAdd, Nat.reduceLT, reduceCtorEq, ac_ref25_Number, hw]
theorem w_ref25_NumberS (tab : Tab) (gl : Gl) (n1 k : Nat) (h1 : tab.look n1 = some (ct_num k).fs) (n : Nat) (hn : n < 10 ^ (k + 2)) (hn2 : n < 1000000000) (hk : k ≤ 20) :
   (ac_ref25_Number n1).wp tab gl (zipF 0 [.t (.int .i64 n)]) (zipF 0 []) (resF [] [(2, none)] 0 (fun r o => r = .sl 0 0 (decL (k + 1) n).length ∧ o = [.live 1 (((decL (k + 1) n).map byteT).map V.t) true (decide (n < 10))])) := by
 by_cases h10 : n < 10
 · have h1 : (n : Int) < 10 := by omega
   have e : decL (k + 1) n = [UInt8.ofNat (48 + n)] := if_pos h10
   rw [e, decide_eq_true h10]
   have hw : T.int .u8 (IntKind.u8.wrap ((48 : Int) + n)) = byteT (UInt8.ofNat (48 + n)) := by
     rw [show (48 : Int) + n = ((48 + n : Nat) : Int) by omega, conv8]; rfl
   simp (disch := omega) only [go_sem, ↓reduceIte, Nat.reduceAdd, Nat.reduceLT, reduceCtorEq, ac_ref25_Number, hw]
 · have h1' : ¬ (n : Int) < 10 := by omega
   have e : decL (k + 1) n = decL k (n / 10) ++ [UInt8.ofNat (48 + n % 10)] := if_neg h10
   rw [e, decide_eq_false h10]
   have hp : n / 10 < 10 ^ (k + 1) := by rw [Nat.div_lt_iff_lt_mul (by omega)]; rw [← Nat.pow_succ]; exact hn
   have hN := num_eq (k := k) (n := n / 10) ⟨hp, by omega⟩
   have hl := decL_len (k := k) (n := n / 10)
   have hw : T.int .u8 (IntKind.u8.wrap ((48 : Int) + ((n % 10 : Nat) : Int))) = byteT (UInt8.ofNat (48 + n % 10)) := by
     rw [show (48 : Int) + ((n % 10 : Nat) : Int) = ((48 + n % 10 : Nat) : Int) by omega, conv8]; rfl
   have hd : ((n : Int).tdiv 10) = ((n / 10 : Nat) : Int) := by rw [Int.tdiv_eq_ediv_of_nonneg (by omega)]; omega
   have hm : ((n : Int).tmod 10) = ((n % 10 : Nat) : Int) := by rw [Int.tmod_eq_emod_of_nonneg (by omega)]; omega
   generalize decL k (n / 10) = D at *
   generalize decide (n / 10 < 10) = fu at *
   simp (disch := omega) only [go_sem, ↓reduceIte, Nat.reduceAdd, Nat.reduceEqDiff, Nat.reduceLT, Nat.reduceLeDiff, reduceCtorEq, ac_ref25_Number, h1', hd, hm, hw, h1, hN, List.map_cons, List.map_nil]
def ct_lab : Ct where
 α := List UInt8 × Nat
 as x := [.t (strT x.1), .t (.int .i64 x.2)]
 ins _ := []
 pre x := x.1.length < 1000000 ∧ x.2 ≤ 1000000
 r x := .t (.sl ((labL x.1 x.2).map byteT))
 outs _ := []
 inj := by
   rintro ⟨a, b⟩ ⟨c, d⟩ h _
   simp only [List.cons.injEq, V.t.injEq, T.int.injEq, strT_inj, true_and, and_true, Int.natCast_inj] at h
   obtain ⟨rfl, rfl⟩ := h
   exact ⟨rfl, rfl⟩
theorem lab_eq {s : List UInt8} {n : Nat} (h : s.length < 1000000 ∧ n ≤ 1000000) : ct_lab.fs [.t (strT s), .t (.int .i64 n)] [] = some (.t (.sl ((labL s n).map byteT)), []) := ct_lab.eq (s, n) h
theorem w_ref25_Label (tab : Tab) (gl : Gl) (n1 : Nat) (h1 : tab.look n1 = some (ct_num 7).fs) (s : List UInt8) (n : Nat) (hs : s.length < 1000000) (hn : n ≤ 1000000) :
   (ac_ref25_Label n1).wp tab gl (zipF 0 [.t (strT s), .t (.int .i64 n)]) (zipF 0 []) (resW [(4, none)] 0 (fun r o => r = .t (.sl ((labL s n).map byteT)) ∧ o = [])) := by
 have hN := num_eq (k := 7) (n := n) ⟨by omega, by omega⟩
 have hl := decL_len (k := 7) (n := n)
 have e : labL s n = s ++ [32] ++ decL 7 n := rfl
 rw [e]
 generalize decL 7 n = D at *
 generalize decide (n < 10) = fu at *
 have ht : List.take (s.length + 1 + D.length) (s ++ [32] ++ D) = s ++ [32] ++ D := List.take_of_length_le (by simp; omega)
 simp (disch := omega) only [go_sem, ↓reduceIte, Nat.reduceAdd, Nat.reduceEqDiff, Nat.reduceLT, Nat.reduceLeDiff, reduceCtorEq, ac_ref25_Label, h1, hN, List.map_cons, List.map_nil, List.take_length, ht]
def ct_ofI : Ct where
 α := Im × Int
 as x := [.t (imT x.1), .t (.int .i64 x.2)]
 ins _ := []
 pre x := imM x.1 ∧ 0 ≤ x.2 ∧ x.2 < 4
 r x := .t (evT (ofI x.1 x.2))
 outs _ := []
 inj := by
   rintro ⟨e, a⟩ ⟨f, b⟩ h _
   simp only [List.cons.injEq, V.t.injEq, T.int.injEq, true_and, and_true] at h
   obtain ⟨h1, rfl⟩ := h
   cases imT_inj h1
   exact ⟨rfl, rfl⟩
theorem ofI_eq {x : Im} {act : Int} (h : imM x ∧ 0 ≤ act ∧ act < 4) : ct_ofI.fs [.t (imT x), .t (.int .i64 act)] [] = some (.t (evT (ofI x act)), []) := ct_ofI.eq (x, act) h
theorem w_ref25_OfImage (tab : Tab) (gl : Gl) (n1 n2 n3 n4 : Nat) (h1 : tab.look n1 = some ct_imc.fs) (h2 : tab.look n2 = some ct_reg.fs) (h3 : tab.look n3 = some ct_imd.fs) (h4 : tab.look n4 = some ct_lab.fs) (x : Im) (act : Int) (hm : imM x) (ha : 0 ≤ act ∧ act < 4) :
   (ac_ref25_OfImage n1 n2 n3 n4).wp tab gl (zipF 0 [.t (imT x), .t (.int .i64 act)]) (zipF 0 []) (resW [(4, some (4, true))] 0 (fun r o => r = .t (evT (ofI x act)) ∧ o = [])) := by
 obtain ⟨a, s, v, p⟩ := x
 have hC := imc_eq hm
 have hD := imd_eq (act := act) ⟨hm, ha⟩
 have hR := reg_eq (a := a)
 by_cases hz : chkI (a, s, v, p) = 0
 · obtain ⟨g1, g2, g3, g4, g5⟩ := chkI_good hz
   have g6 := nameB_len g3
   simp only at g1 g2 g3 g4 g6
   rw [hz] at hC
   by_cases c4 : a = 4
   · subst c4
     have hr : ofI (4, s, v, p) act = (0, 0, [], []) := if_pos (.inr rfl)
     rw [hr]
     simp (disch := omega) only [go_sem, ↓reduceIte, Nat.reduceAdd, Nat.reduceEqDiff, Nat.reduceLeDiff, ac_ref25_OfImage, imT_def, evT_def, h1, hC, List.map_nil]
   · have d4 : (a == 4) = false := by simpa using c4
     obtain ⟨m, rfl⟩ := Int.eq_ofNat_of_zero_le g2.1
     have hL := lab_eq (s := s) (n := m) ⟨by omega, by omega⟩
     have hr : ofI (a, s, (m : Int), p) act = (regI a, 1, [digI (a, s, (m : Int), p) act 0, digI (a, s, (m : Int), p) act 1], labL s m) := by
       unfold ofI; rw [if_neg (by simp only; omega)]; rfl
     rw [hr]
     generalize digI (a, s, (m : Int), p) act 0 = D0 at *
     generalize digI (a, s, (m : Int), p) act 1 = D1 at *
     generalize labL s m = L at *
     generalize regI a = R at *
     simp (disch := omega) only [go_sem, ↓reduceIte, Nat.reduceAdd, Nat.reduceEqDiff, Nat.reduceLeDiff, reduceCtorEq, ac_ref25_OfImage, imT_def, evT_def, h1, hC, d4, h2, hR, h3, hD, h4, hL, List.map_nil, List.map_cons]
     all_goals rfl
 · have hr : ofI (a, s, v, p) act = (0, 0, [], []) := if_pos (.inl hz)
   rw [hr]
   have hz' : (chkI (a, s, v, p) != 0) = true := by simpa using hz
   simp (disch := omega) only [go_sem, ↓reduceIte, Nat.reduceAdd, Nat.reduceEqDiff, Nat.reduceLeDiff, ac_ref25_OfImage, imT_def, evT_def, h1, hC, hz', List.map_nil]
def ct_nms : Ct where
 α := Unit
 as _ := []
 ins _ := []
 pre _ := True
 r _ := .t (.agg [strT (nmL 0), strT (nmL 1), strT (nmL 2), strT (nmL 3), strT (nmL 4)])
 outs _ := []
 inj := by intro a b _ _; exact ⟨rfl, rfl⟩
theorem nms_eq : ct_nms.fs [] [] = some (.t (.agg [strT (nmL 0), strT (nmL 1), strT (nmL 2), strT (nmL 3), strT (nmL 4)]), []) := ct_nms.eq () trivial
theorem w_draw_names (tab : Tab) (gl : Gl) : ac_draw_names.wp tab gl (zipF 0 []) (zipF 0 []) (resW [(0, some (5, true))] 0 (fun r o => r = .t (.agg [strT (nmL 0), strT (nmL 1), strT (nmL 2), strT (nmL 3), strT (nmL 4)]) ∧ o = [])) := by
 simp (disch := omega) only [go_sem, ↓reduceIte, Nat.reduceAdd, Nat.reduceEqDiff, Nat.reduceLeDiff, reduceCtorEq, ac_draw_names, nmL]
def ct_pay : Ct where
 α := Cd
 as _ := [.ref 0 0 0]
 ins x := [cdOb x]
 pre x := cdOk x
 r x := .t (.sl ((payG x).1.map byteT))
 outs x := [cdOb (payG x).2]
 inj := by
   intro s t _ h2
   simp only [List.cons.injEq, and_true] at h2
   cases cdOb_inj h2
   exact ⟨rfl, rfl⟩
theorem pay_eq {c : Cd} (h : cdOk c) : ct_pay.fs [.ref 0 0 0] [cdO c] = some (.t (.sl ((payG c).1.map byteT)), [cdO (payG c).2]) := ct_pay.eq c h
theorem w_draw_Payload (tab : Tab) (gl : Gl) (n1 n2 : Nat) (h1 : tab.look n1 = some ct_next.fs) (h2 : tab.look n2 = some ct_line.fs) (c : Cd) (hc : cdOk c) :
   (ac_draw_Codes_Payload n1 n2).wp tab gl (zipF 0 [.ref 0 0 0]) (zipF 0 [cdOb c]) (resW [(2, none)] 1 (fun r o => r = .t (.sl ((payG c).1.map byteT)) ∧ o = [cdOb (payG c).2])) := by
 have e : payG c = payN (1 + (nx c 4).1) (nx c 4).2 [] := rfl
 rw [e]
 obtain ⟨i, b, a, e, l, ok, hN⟩ := nxF 4 hc (by omega) (by omega)
 rw [show ((4 : Nat) : Int) = 4 from rfl] at hN
 rw [e]
 simp only
 obtain ⟨cb, ca⟩ := c
 generalize hP : payN (1 + i) (b, a) [] = P
 simp (disch := omega) only [go_sem, ↓reduceIte, Nat.reduceAdd, Nat.reduceSub, Nat.reduceLeDiff, reduceCtorEq, ac_draw_Codes_Payload, cdOb_eq, h1, hN]
 refine loop_inv (σ := Nat × Cd × List UInt8) (fun s => cdOk s.2.1 ∧ s.2.2.length + 9 * s.1 ≤ 100 ∧ payN s.1 s.2.1 s.2.2 = P) (fun s => s.1)
   (fun s => [(0, .ref 0 0 0), (3, .sl 9000 0 s.2.2.length), (4, .t (.int .i64 (s.1 : Nat)))]) (fun s => [(9000, .live 1 ((s.2.2.map byteT).map V.t) true false), (0, cdO s.2.1)]) (1 + i, (b, a), []) ⟨ok, by simp; omega, hP⟩ ?_ ?_
 · refine Weak.cv0 (hv := [(9000, .live 1 [] true false)]) (ho := [(0, cdO (b, a))]) id ?_ ?_ rfl rfl
   all_goals simp (disch := omega) only [go_sem, ↓reduceIte, Nat.reduceEqDiff, reduceCtorEq, id]
 · rintro ⟨k, ⟨b1, a1⟩, p⟩ ⟨ok1, hl, hp⟩
   simp only at ok1 hl hp ⊢
   cases k with
   | zero =>
     rw [← hp]
     simp (disch := omega) only [go_sem, ↓reduceIte, Nat.reduceAdd, Nat.reduceEqDiff, Nat.reduceLeDiff, Nat.reduceBEq, reduceCtorEq, ac_draw_Codes_Payload_L0, payN, cdOb_eq, List.take_length]
   | succ k =>
     have hL := line_eq ok1
     have ll := lineL_len (i := (nx (b1, a1) 6).1)
     have lok := nx_ok (n := 6) ok1
     have hp' : payN k (nx (b1, a1) 6).2 (p ++ lineL (nx (b1, a1) 6).1 ++ [10]) = P := hp
     generalize nx (b1, a1) 6 = q at *
     obtain ⟨j, b2, a2⟩ := q
     simp only [cdO] at *
     generalize lineL j = L at *
     have hkk : ((k + 1 : Nat) : Int) - 1 = k := by omega
     simp (disch := omega) only [go_sem, ↓reduceIte, Nat.reduceAdd, Nat.reduceEqDiff, Nat.reduceSub, Nat.reduceLT, Nat.reduceLeDiff, reduceCtorEq, ac_draw_Codes_Payload_L0, h2, hL, hkk, List.take_length]
     refine invG.of (k, (b2, a2), p ++ L ++ [10]) ⟨lok, by simp; omega, hp'⟩ (by simp) (Weak.rd (fun j => if j = 9000 then 24656 else j) ?_ ?_ rfl)
     all_goals simp (disch := omega) only [go_sem, ↓reduceIte, Nat.reduceAdd, Nat.reduceEqDiff, Nat.reduceBEq, reduceCtorEq, id, List.map_cons, List.map_nil, List.append_assoc]
     all_goals try omega
def ct_dim : Ct where
 α := Cd × Nat
 as x := [.ref 0 0 0, .t (.int .i64 x.2)]
 ins x := [cdOb x.1]
 pre x := cdOk x.1 ∧ 1 ≤ x.2 ∧ x.2 ≤ 4
 r x := .t (imT (imG x.1 x.2).1)
 outs x := [cdOb (imG x.1 x.2).2]
 inj := by
   rintro ⟨s, a⟩ ⟨t, c⟩ h1 h2
   simp only [List.cons.injEq, V.t.injEq, T.int.injEq, true_and, and_true, Int.natCast_inj] at h1
   simp only [List.cons.injEq, and_true] at h2
   subst h1
   cases cdOb_inj h2
   exact ⟨rfl, rfl⟩
theorem dim_eq {c : Cd} {r : Nat} (h : cdOk c ∧ 1 ≤ r ∧ r ≤ 4) : ct_dim.fs [.ref 0 0 0, .t (.int .i64 r)] [cdO c] = some (.t (imT (imG c r).1), [cdO (imG c r).2]) := ct_dim.eq (c, r) h
theorem nm_get {i : Nat} (h : i < 5) : [V.t (strT (nmL 0)), V.t (strT (nmL 1)), V.t (strT (nmL 2)), V.t (strT (nmL 3)), V.t (strT (nmL 4))][i]? = some (.t (strT (nmL i))) := by
 rcases (show i = 0 ∨ i = 1 ∨ i = 2 ∨ i = 3 ∨ i = 4 by omega) with rfl | rfl | rfl | rfl | rfl <;> rfl
theorem set_rep {d : List UInt8} {j n : Nat} {x : UInt8} (h : d.length = j) (hj : j < n) : (d ++ List.replicate (n - j) 0).set j x = d ++ [x] ++ List.replicate (n - (j + 1)) 0 := by
 rw [List.set_append_right _ _ (by omega), h, Nat.sub_self, show n - j = (n - (j + 1)) + 1 by omega, List.replicate_succ, List.set_cons_zero]
 simp
theorem w_draw_Image (tab : Tab) (gl : Gl) (n1 n2 n3 : Nat) (h1 : tab.look n1 = some ct_nms.fs) (h2 : tab.look n2 = some ct_next.fs) (h3 : tab.look n3 = some ct_pay.fs) (c : Cd) (r : Nat) (hc : cdOk c) (hr : 1 ≤ r ∧ r ≤ 4) :
   (ac_draw_Codes_Image n1 n2 n3).wp tab gl (zipF 0 [.ref 0 0 0, .t (.int .i64 r)]) (zipF 0 [cdOb c]) (resW [(4, some (4, true))] 1 (fun r' o => r' = .t (imT (imG c r).1) ∧ o = [cdOb (imG c r).2])) := by
 have hn0 := nms_eq
 obtain ⟨i, bI, aI, eI, lI, okI, hI⟩ := nxF 5 hc (by omega) (by omega)
 obtain ⟨v, bV, aV, eV, lV, okV, hV⟩ := nxF 5 okI (by omega) (by omega)
 obtain ⟨w, bW, aW, eW, lW, okW, hW⟩ := nxF 9 okV (by omega) (by omega)
 obtain ⟨bC, aC⟩ := c
 simp only [show ((5 : Nat) : Int) = 5 from rfl, show ((9 : Nat) : Int) = 9 from rfl] at hI hV hW
 have hg := nm_get lI
 by_cases w8 : w = 8
 · subst w8
   obtain ⟨j, bX, aX, eJ, lJ, okX, hJ⟩ := nxF 3 okW (by omega) (by omega)
   simp only [show ((3 : Nat) : Int) = 3 from rfl, show ((8 : Nat) : Int) = 8 from rfl] at hJ hW
   obtain ⟨U, nV⟩ : ∃ U : Nat, (1000000 : Int) - j = U := ⟨1000000 - j, by omega⟩
   have hVr : vrG (bI, aI) = ((U : Int), (bX, aX)) := by unfold vrG; rw [eV]; simp only; rw [eW]; simp only [↓reduceIte]; rw [eJ, ← nV]
   by_cases r4 : r = 4
   · subst r4
     have hP := pay_eq okX
     have okP := payN_cd (k := 1 + (nx (bX, aX) 4).1) (b := []) (nx_ok (n := 4) okX)
     have eP : (plG (bX, aX) ((4 : Nat) : Int)) = payG (bX, aX) := by unfold plG; exact if_pos rfl
     have eG : imG (bC, aC) ((4 : Nat) : Int) = ((((4 : Nat) : Int), nmL i, ((U : Int) : Int), (payG (bX, aX)).1), (payG (bX, aX)).2) := by unfold imG; rw [eI, hVr, eP]
     rw [eG]
     generalize payG (bX, aX) = q at *
     obtain ⟨L, bP, aP⟩ := q
     simp only [cdO] at hP
     simp (disch := omega) only [go_sem, ↓reduceIte, Nat.reduceAdd, Nat.reduceEqDiff, Nat.reduceSub, Nat.reduceLeDiff, reduceCtorEq, ac_draw_Codes_Image, imT_def, cdOb_eq, h1, hn0, h2, hI, hV, hW, hg, hJ, nV, h3, hP]
     all_goals rfl
   · have r4b : ((r : Int) == 4) = false := by simpa using (by omega : ¬ (r : Int) = 4)
     obtain ⟨k, bK, aK, eK, lK, okK, hK⟩ := nxF 7 okX (by omega) (by omega)
     simp only [show ((7 : Nat) : Int) = 7 from rfl] at hK
     have eP : (plG (bX, aX) (r : Int)) = byN k (bK, aK) [] := by unfold plG; rw [if_neg (by omega), eK]
     have eG : imG (bC, aC) (r : Int) = (((r : Int), nmL i, ((U : Int) : Int), (byN k (bK, aK) []).1), (byN k (bK, aK) []).2) := by unfold imG; rw [eI, hVr, eP]
     rw [eG]
     generalize hP : byN k (bK, aK) [] = P
     simp (disch := omega) only [go_sem, ↓reduceIte, Nat.reduceAdd, Nat.reduceEqDiff, Nat.reduceSub, Nat.reduceLeDiff, reduceCtorEq, ac_draw_Codes_Image, cdOb_eq, h1, hn0, h2, hI, hV, hW, hg, hJ, nV, r4b, hK]
     repeat refine And.intro rfl ?_
     refine loop_inv (σ := Nat × Cd × List UInt8) (fun s => cdOk s.2.1 ∧ s.1 ≤ k ∧ s.2.2.length = s.1 ∧ byN (k - s.1) s.2.1 s.2.2 = P) (fun s => k - s.1)
       (fun s => [(0, .ref 0 0 0), (4, .ref 4096 0 0), (5, .ref 8320 0 0), (6, .t (.int .i64 (s.1 : Nat)))])
       (fun s => [(32800, .live 1 (((s.2.2 ++ List.replicate (k - s.1) 0).map byteT).map V.t) true false), (8320, .live 4 [.agg [.t (.int .i64 (r : Int)), .t (strT (nmL i)), .t (.int .i64 (U : Int)), .sl 32800 0 k]] true true), (4096, .live 4 [.agg [.t (.int .i64 0), .t (strT []), .t (.int .i64 0), .nil]] true true), (0, cdO s.2.1)]) (0, (bK, aK), []) ⟨okK, Nat.zero_le _, rfl, hP⟩ ?_ ?_
     · refine Weak.rd id ?_ ?_ rfl
       all_goals simp (disch := omega) only [go_sem, ↓reduceIte, Nat.reduceAdd, Nat.reduceEqDiff, Nat.reduceBEq, reduceCtorEq, id, List.nil_append]
     · rintro ⟨j, ⟨b1, a1⟩, d⟩ ⟨ok1, hj, hd, hp⟩
       simp only at ok1 hj hd hp ⊢
       by_cases hlt : j < k
       · obtain ⟨x, b2, a2, e2, l2, ok2, hX⟩ := nxF 256 ok1 (by omega) (by omega)
         simp only [show ((256 : Nat) : Int) = 256 from rfl] at hX
         have hst := set_rep (x := UInt8.ofNat x) (n := k) hd hlt
         have hp' : byN (k - (j + 1)) (b2, a2) (d ++ [UInt8.ofNat x]) = P := by
           rw [show k - j = (k - (j + 1)) + 1 by omega, byN, e2] at hp
           exact hp
         have hw : T.int .u8 (IntKind.u8.wrap (x : Int)) = byteT (UInt8.ofNat x) := by rw [conv8]; rfl
         have hL : (d ++ List.replicate (k - j) 0).length = k := by simp; omega
         generalize d ++ List.replicate (k - j) 0 = D at *
         simp (disch := omega) only [go_sem, ↓reduceIte, Nat.reduceAdd, Nat.reduceEqDiff, Nat.reduceSub, Nat.reduceLeDiff, reduceCtorEq, ac_draw_Codes_Image_L0, h2, hX, hw, hL]
         repeat refine And.intro rfl ?_
         refine invG.of (j + 1, (b2, a2), d ++ [UInt8.ofNat x]) ⟨ok2, by simp only; omega, by simp; omega, hp'⟩ (by simp only; omega) (Weak.rd id ?_ ?_ rfl)
         all_goals simp (disch := omega) only [go_sem, ↓reduceIte, Nat.reduceAdd, Nat.reduceEqDiff, Nat.reduceBEq, reduceCtorEq, id, hst]
       · have e : j = k := by omega
         subst e
         rw [Nat.sub_self] at hp ⊢
         rw [← hp]
         have hb : byN 0 (b1, a1) d = (d, (b1, a1)) := rfl
         rw [hb]
         simp only [List.replicate_zero, List.append_nil]
         have ht : List.take j d = d := List.take_of_length_le (by omega)
         simp (disch := omega) only [go_sem, ↓reduceIte, Nat.reduceAdd, Nat.reduceEqDiff, Nat.reduceLeDiff, Nat.reduceBEq, reduceCtorEq, ac_draw_Codes_Image_L0, imT_def, cdOb_eq, hd, ht]
 · have w8b : ((w : Int) == 8) = false := by simpa using (by omega : ¬ (w : Int) = 8)
   have hVr : vrG (bI, aI) = ((v : Int), (bW, aW)) := by unfold vrG; rw [eV]; simp only; rw [eW]; simp only [if_neg w8]
   obtain ⟨bX, hbX⟩ : ∃ b, b = bW := ⟨_, rfl⟩
   obtain ⟨aX, haX⟩ : ∃ a, a = aW := ⟨_, rfl⟩
   rw [← hbX, ← haX] at okW hW hVr
   have okX := okW
   by_cases r4 : r = 4
   · subst r4
     have hP := pay_eq okX
     have okP := payN_cd (k := 1 + (nx (bX, aX) 4).1) (b := []) (nx_ok (n := 4) okX)
     have eP : (plG (bX, aX) ((4 : Nat) : Int)) = payG (bX, aX) := by unfold plG; exact if_pos rfl
     have eG : imG (bC, aC) ((4 : Nat) : Int) = ((((4 : Nat) : Int), nmL i, ((v : Int) : Int), (payG (bX, aX)).1), (payG (bX, aX)).2) := by unfold imG; rw [eI, hVr, eP]
     rw [eG]
     generalize payG (bX, aX) = q at *
     obtain ⟨L, bP, aP⟩ := q
     simp only [cdO] at hP
     simp (disch := omega) only [go_sem, ↓reduceIte, Nat.reduceAdd, Nat.reduceEqDiff, Nat.reduceSub, Nat.reduceLeDiff, reduceCtorEq, ac_draw_Codes_Image, imT_def, cdOb_eq, h1, hn0, h2, hI, hV, hW, hg, w8b, h3, hP]
     all_goals rfl
   · have r4b : ((r : Int) == 4) = false := by simpa using (by omega : ¬ (r : Int) = 4)
     obtain ⟨k, bK, aK, eK, lK, okK, hK⟩ := nxF 7 okX (by omega) (by omega)
     simp only [show ((7 : Nat) : Int) = 7 from rfl] at hK
     have eP : (plG (bX, aX) (r : Int)) = byN k (bK, aK) [] := by unfold plG; rw [if_neg (by omega), eK]
     have eG : imG (bC, aC) (r : Int) = (((r : Int), nmL i, ((v : Int) : Int), (byN k (bK, aK) []).1), (byN k (bK, aK) []).2) := by unfold imG; rw [eI, hVr, eP]
     rw [eG]
     generalize hP : byN k (bK, aK) [] = P
     simp (disch := omega) only [go_sem, ↓reduceIte, Nat.reduceAdd, Nat.reduceEqDiff, Nat.reduceSub, Nat.reduceLeDiff, reduceCtorEq, ac_draw_Codes_Image, cdOb_eq, h1, hn0, h2, hI, hV, hW, hg, w8b, r4b, hK]
     repeat refine And.intro rfl ?_
     refine loop_inv (σ := Nat × Cd × List UInt8) (fun s => cdOk s.2.1 ∧ s.1 ≤ k ∧ s.2.2.length = s.1 ∧ byN (k - s.1) s.2.1 s.2.2 = P) (fun s => k - s.1)
       (fun s => [(0, .ref 0 0 0), (4, .ref 4096 0 0), (5, .ref 8320 0 0), (6, .t (.int .i64 (s.1 : Nat)))])
       (fun s => [(32800, .live 1 (((s.2.2 ++ List.replicate (k - s.1) 0).map byteT).map V.t) true false), (8320, .live 4 [.agg [.t (.int .i64 (r : Int)), .t (strT (nmL i)), .t (.int .i64 (v : Int)), .sl 32800 0 k]] true true), (4096, .live 4 [.agg [.t (.int .i64 0), .t (strT []), .t (.int .i64 0), .nil]] true true), (0, cdO s.2.1)]) (0, (bK, aK), []) ⟨okK, Nat.zero_le _, rfl, hP⟩ ?_ ?_
     · refine Weak.rd id ?_ ?_ rfl
       all_goals simp (disch := omega) only [go_sem, ↓reduceIte, Nat.reduceAdd, Nat.reduceEqDiff, Nat.reduceBEq, reduceCtorEq, id, List.nil_append]
     · rintro ⟨j, ⟨b1, a1⟩, d⟩ ⟨ok1, hj, hd, hp⟩
       simp only at ok1 hj hd hp ⊢
       by_cases hlt : j < k
       · obtain ⟨x, b2, a2, e2, l2, ok2, hX⟩ := nxF 256 ok1 (by omega) (by omega)
         simp only [show ((256 : Nat) : Int) = 256 from rfl] at hX
         have hst := set_rep (x := UInt8.ofNat x) (n := k) hd hlt
         have hp' : byN (k - (j + 1)) (b2, a2) (d ++ [UInt8.ofNat x]) = P := by
           rw [show k - j = (k - (j + 1)) + 1 by omega, byN, e2] at hp
           exact hp
         have hw : T.int .u8 (IntKind.u8.wrap (x : Int)) = byteT (UInt8.ofNat x) := by rw [conv8]; rfl
         have hL : (d ++ List.replicate (k - j) 0).length = k := by simp; omega
         generalize d ++ List.replicate (k - j) 0 = D at *
         simp (disch := omega) only [go_sem, ↓reduceIte, Nat.reduceAdd, Nat.reduceEqDiff, Nat.reduceSub, Nat.reduceLeDiff, reduceCtorEq, ac_draw_Codes_Image_L0, h2, hX, hw, hL]
         repeat refine And.intro rfl ?_
         refine invG.of (j + 1, (b2, a2), d ++ [UInt8.ofNat x]) ⟨ok2, by simp only; omega, by simp; omega, hp'⟩ (by simp only; omega) (Weak.rd id ?_ ?_ rfl)
         all_goals simp (disch := omega) only [go_sem, ↓reduceIte, Nat.reduceAdd, Nat.reduceEqDiff, Nat.reduceBEq, reduceCtorEq, id, hst]
       · have e : j = k := by omega
         subst e
         rw [Nat.sub_self] at hp ⊢
         rw [← hp]
         have hb : byN 0 (b1, a1) d = (d, (b1, a1)) := rfl
         rw [hb]
         simp only [List.replicate_zero, List.append_nil]
         have ht : List.take j d = d := List.take_of_length_le (by omega)
         simp (disch := omega) only [go_sem, ↓reduceIte, Nat.reduceAdd, Nat.reduceEqDiff, Nat.reduceLeDiff, Nat.reduceBEq, reduceCtorEq, ac_draw_Codes_Image_L0, imT_def, cdOb_eq, hd, ht]
end Go.Eng
end
section
namespace Go.Eng
def ac_draw_Codes_Left : AC :=
 (.seq
 (rG 4096 [mC 2 (.t (.bool false))])
 (.seq
 (.reg 8192 (some [0, 1, 3, 7, 0, 16, 48, 112, 240, 511, 1023]) [mv 3 0,oO 4 .nilchk [.tmp 3],oO 5 (.faddr 1) [.tmp 4],oO 6 (.load 1 false) [.tmp 5],mv 7 0,oO 8 .nilchk [.tmp 7],oO 9 (.faddr 0) [.tmp 8],oO 10 (.load 1 false) [.tmp 9],oO 11 .len [.tmp 10],bT 12 .lss 6 11,mv 2 12])
 .ret))
def hints_draw_Codes_Left : List (Nat × List Nat) := []
def ac_draw_Codes_Events_L0 (n_draw_Codes_Left n_draw_Codes_Event : Nat) : AC :=
 (.seq
 (.seq
 (rG 12288 [mv 8 0,cL 9 n_draw_Codes_Left true [.tmp 8],mv 10 9,mG 11 7 10,oG 12 10 .len [.tmp 11],mG 13 2 10,oG 14 10 (.bin .lss) [.tmp 12, .tmp 13],oO 15 .pick [.tmp 10, .tmp 14, .cst (.t (.bool false))]])
 (.cond (.tmp 15)
 .skip
 (.exit 0)))
 (.block 1
 (rG 16384 [mv 16 7,mv 17 0,mv 18 1,cL 19 n_draw_Codes_Event true [.tmp 17, .tmp 18],oO 20 (.bslice 4 1 (.agg [(.t (.int .i64 0)), (.t (.int .i64 0)), .nil, .nil]) [0]) [.tmp 19],oO 21 (.append 4 64) [.tmp 16, .tmp 20],mv 7 21])))
def ac_draw_Codes_Events (n_draw_Codes_Left n_draw_Codes_Event : Nat) : AC :=
 (.seq
 (rG 4096 [mC 6 .nil])
 (.seq
 (rG 8192 [mC 7 .nil])
 (.seq
 (.block 0
 (.loop (ac_draw_Codes_Events_L0 n_draw_Codes_Left n_draw_Codes_Event)))
 (.seq
 (rG 20480 [mv 22 7,mv 6 22])
 .ret))))
def hints_draw_Codes_Events : List (Nat × List Nat) := [(2, [1]), (3, [3])]
def ac_draw_Chain_L2 : AC :=
 (.seq
 (.seq
 (rG 61440 [mv 34 9,mv 35 4,oO 36 .len [.tmp 35],bT 37 .lss 34 36])
 (.cond (.tmp 37)
 .skip
 (.exit 4)))
 (.seq
 (.block 5
 (.reg 69632 (some [0, 1, 3, 3, 15, 31, 63, 3, 131, 511, 1023, 2047, 2047, 8191, 16383, 32767, 2047, 67583, 262143, 524287, 1048575, 2097151]) [mv 40 8,mv 41 40,mF 42 4 41,mF 43 9 41,oF 44 41 (.iaddr 4) [.tmp 42, .tmp 43],oF 45 41 (.faddr 0) [.tmp 44],oF 46 41 (.load 1 false) [.tmp 45],oF 47 41 (.faddr 0) [.tmp 7],oF 48 41 (.load 1 false) [.tmp 47],oF 49 41 (.bin .eql) [.tmp 46, .tmp 48],mF 50 49 41,mG 51 4 50,mG 52 9 50,oG 53 50 (.iaddr 4) [.tmp 51, .tmp 52],oG 54 50 (.faddr 1) [.tmp 53],oG 55 50 (.load 1 false) [.tmp 54],oG 56 50 (.faddr 1) [.tmp 7],oG 57 50 (.load 1 false) [.tmp 56],oG 58 50 (.bin .eql) [.tmp 55, .tmp 57],oF 59 41 .pick [.tmp 50, .tmp 58, .cst (.t (.bool false))],oO 60 .pick [.tmp 41, .cst (.t (.bool true)), .tmp 59],mv 8 60]))
 (rG 65536 [mv 38 9,bN 39 .add 38 1,mv 9 39])))
def ac_draw_Chain_L1 (n_draw_Codes_Image : Nat) : AC :=
 (.seq
 (.seq
 (rG 40960 [mv 27 6,bN 28 .gtr 27 0])
 (.cond (.tmp 28)
 .skip
 (.exit 2)))
 (.seq
 (.block 3
 (.seq
 (rG 49152 [mv 31 3,mv 32 5,cL 33 n_draw_Codes_Image true [.tmp 31, .tmp 32],oO 7 (.new 4 [(.agg [(.t (.int .i64 0)), (.t (strT [])), (.t (.int .i64 0)), .nil])]) [],oS 4 7 33])
 (.seq
 (rG 53248 [mC 8 (.t (.bool false))])
 (.seq
 (.seq
 (rG 57344 [mC 9 (.t (.int .i64 0))])
 (.block 4
 (.loop ac_draw_Chain_L2)))
 (.seq
 (rG 73728 [mv 61 8,oO 62 (.un .not) [.tmp 61]])
 (.cond (.tmp 62)
 (rG 77824 [mv 63 4,oO 64 (.load 4 true) [.tmp 7],oO 65 (.bslice 4 1 (.agg [(.t (.int .i64 0)), (.t (strT [])), (.t (.int .i64 0)), .nil]) [0]) [.tmp 64],oO 66 (.append 4 56) [.tmp 63, .tmp 65],mv 4 66])
 .skip))))))
 (rG 45056 [mv 29 6,bN 30 .sub 29 1,mv 6 30])))
def ac_draw_Chain_L0 (n_draw_Codes_Next n_draw_Codes_Image : Nat) : AC :=
 (.seq
 (.seq
 (rG 20480 [mv 12 5,bN 13 .leq 12 4])
 (.cond (.tmp 13)
 .skip
 (.exit 0)))
 (.seq
 (.block 1
 (.seq
 (rG 28672 [mv 16 3,cL 17 n_draw_Codes_Next true [.tmp 16, .cst (.t (.int .i64 3))],mv 6 17])
 (.seq
 (.seq
 (rG 32768 [mv 18 5,bN 19 .eql 18 1,mv 20 19,mF 21 5 20,oF 22 20 (.bin .eql) [.tmp 21, .cst (.t (.int .i64 3))],oO 23 .pick [.tmp 20, .cst (.t (.bool true)), .tmp 22]])
 (.cond (.tmp 23)
 (rG 36864 [mv 24 3,cL 25 n_draw_Codes_Next true [.tmp 24, .cst (.t (.int .i64 2))],oO 26 (.bin .add) [.cst (.t (.int .i64 1)), .tmp 25],mv 6 26])
 .skip))
 (.block 2
 (.loop (ac_draw_Chain_L1 n_draw_Codes_Image))))))
 (rG 24576 [mv 14 5,bN 15 .add 14 1,mv 5 15])))
def ac_draw_Chain (n_draw_New n_draw_Codes_Next n_draw_Codes_Image : Nat) : AC :=
 (.seq
 (rG 4096 [mC 2 .nil])
 (.seq
 (rG 8192 [mv 10 0,cL 11 n_draw_New true [.tmp 10, .cst (.t (.int .i64 200))],mv 3 11])
 (.seq
 (rG 12288 [mC 4 .nil])
 (.seq
 (.seq
 (rG 16384 [mC 5 (.t (.int .i64 1))])
 (.block 0
 (.loop (ac_draw_Chain_L0 n_draw_Codes_Next n_draw_Codes_Image))))
 (.seq
 (rG 81920 [mv 67 4,mv 2 67])
 .ret)))))
def hints_draw_Chain : List (Nat × List Nat) := [(1, [1]), (6, [1]), (8, [1]), (11, [2])]
def ac_draw_Log_L0 (n_draw_Codes_Next n_draw_Codes_Event n_ref25_Make : Nat) : AC :=
 (.seq
 (.seq
 (rG 40960 [mv 43 10,bN 44 .gtr 43 0])
 (.cond (.tmp 44)
 .skip
 (.exit 0)))
 (.seq
 (.block 1
 (.seq
 (rG 49152 [mv 47 7,oO 48 (.faddr 2) [.tmp 8],oO 49 (.load 1 false) [.tmp 48],oO 50 .len [.tmp 49],cL 51 n_draw_Codes_Next true [.tmp 47, .tmp 50],mv 11 51])
 (.seq
 (rG 53248 [mv 52 7,cL 53 n_draw_Codes_Next true [.tmp 52, .cst (.t (.int .i64 5))]])
 (.block 2
 (.seq
 (rG 61440 [bN 73 .eql 53 0,mv 72 73])
 (.cond (.tmp 72)
 (.reg 65536 (some [0, 0, 2, 0, 14, 31, 0, 64, 0, 256, 960, 2047, 4095, 8191]) [oO 74 (.bslice 4 0 (.agg [(.t (.int .i64 0)), (.t (.int .i64 0)), .nil, .nil]) []) [],oO 75 (.faddr 2) [.tmp 8],oO 76 (.load 1 false) [.tmp 75],mv 77 11,oO 78 (.slice 4 false true false) [.tmp 76, .tmp 77],oO 79 (.append 4 64) [.tmp 74, .tmp 78],oO 80 (.faddr 2) [.tmp 8],oO 81 (.load 1 false) [.tmp 80],mv 82 11,bN 83 .add 82 1,oO 84 (.slice 4 true false false) [.tmp 81, .tmp 83],oO 85 (.append 4 64) [.tmp 79, .tmp 84],oO 86 (.faddr 2) [.tmp 8],oS 1 86 85])
 (.seq
 (rG 69632 [bN 88 .eql 53 1,mv 87 88])
 (.cond (.tmp 87)
 (.reg 73728 (some [0, 0, 2, 0, 14, 31, 0, 64, 0, 448, 960, 1984, 4095, 0, 8192, 0, 57344, 131071, 262143, 524287]) [oO 89 (.bslice 4 0 (.agg [(.t (.int .i64 0)), (.t (.int .i64 0)), .nil, .nil]) []) [],oO 90 (.faddr 2) [.tmp 8],oO 91 (.load 1 false) [.tmp 90],mv 92 11,oO 93 (.slice 4 false true false) [.tmp 91, .tmp 92],oO 94 (.append 4 64) [.tmp 89, .tmp 93],oO 95 (.faddr 2) [.tmp 8],oO 96 (.load 1 false) [.tmp 95],mv 97 11,oO 98 (.iaddr 4) [.tmp 96, .tmp 97],oO 99 (.load 4 true) [.tmp 98],oO 100 (.bslice 4 1 (.agg [(.t (.int .i64 0)), (.t (.int .i64 0)), .nil, .nil]) [0]) [.tmp 99],oO 101 (.append 4 64) [.tmp 94, .tmp 100],oO 102 (.faddr 2) [.tmp 8],oO 103 (.load 1 false) [.tmp 102],mv 104 11,oO 105 (.slice 4 true false false) [.tmp 103, .tmp 104],oO 106 (.append 4 64) [.tmp 101, .tmp 105],oO 107 (.faddr 2) [.tmp 8],oS 1 107 106])
 (.seq
 (rG 77824 [bN 109 .eql 53 2,mv 108 109])
 (.cond (.tmp 108)
 (.seq
 (rG 81920 [mv 110 7,oO 111 (.faddr 2) [.tmp 8],oO 112 (.load 1 false) [.tmp 111],oO 113 .len [.tmp 112],cL 114 n_draw_Codes_Next true [.tmp 110, .tmp 113],mv 12 114])
 (.seq
 (rG 86016 [oO 115 (.bslice 4 0 (.agg [(.t (.int .i64 0)), (.t (.int .i64 0)), .nil, .nil]) []) [],oO 116 (.faddr 2) [.tmp 8],oO 117 (.load 1 false) [.tmp 116],oO 118 (.append 4 64) [.tmp 115, .tmp 117],oO 119 (.faddr 2) [.tmp 8],oS 1 119 118])
 (.reg 90112 (some [0, 1, 0, 0, 8, 0, 0, 64, 0, 448, 960, 0, 2048, 0, 14336, 30720, 65479, 131015, 262143, 524287]) [oO 120 (.faddr 2) [.tmp 8],oO 121 (.load 1 false) [.tmp 120],mv 122 11,oO 123 (.faddr 2) [.tmp 8],oO 124 (.load 1 false) [.tmp 123],mv 125 12,oO 126 (.faddr 2) [.tmp 8],oO 127 (.load 1 false) [.tmp 126],mv 128 12,oO 129 (.iaddr 4) [.tmp 127, .tmp 128],oO 130 (.load 4 true) [.tmp 129],oO 131 (.faddr 2) [.tmp 8],oO 132 (.load 1 false) [.tmp 131],mv 133 11,oO 134 (.iaddr 4) [.tmp 132, .tmp 133],oO 135 (.load 4 true) [.tmp 134],oO 136 (.iaddr 4) [.tmp 121, .tmp 122],oS 4 136 130,oO 137 (.iaddr 4) [.tmp 124, .tmp 125],oS 4 137 135])))
 (.seq
 (rG 94208 [bN 139 .eql 53 3,mv 138 139])
 (.cond (.tmp 138)
 (.reg 98304 (some [0, 0, 2, 0, 14, 31, 0, 0, 255, 511, 1023, 0, 2048, 0, 14336, 32767, 65535, 131071]) [oO 140 (.bslice 4 0 (.agg [(.t (.int .i64 0)), (.t (.int .i64 0)), .nil, .nil]) []) [],oO 141 (.faddr 2) [.tmp 8],oO 142 (.load 1 false) [.tmp 141],mv 143 11,oO 144 (.slice 4 false true false) [.tmp 142, .tmp 143],oO 145 (.append 4 64) [.tmp 140, .tmp 144],mv 146 7,mv 147 1,cL 148 n_draw_Codes_Event true [.tmp 146, .tmp 147],oO 149 (.bslice 4 1 (.agg [(.t (.int .i64 0)), (.t (.int .i64 0)), .nil, .nil]) [0]) [.tmp 148],oO 150 (.append 4 64) [.tmp 145, .tmp 149],oO 151 (.faddr 2) [.tmp 8],oO 152 (.load 1 false) [.tmp 151],mv 153 11,oO 154 (.slice 4 true false false) [.tmp 152, .tmp 153],oO 155 (.append 4 64) [.tmp 150, .tmp 154],oO 156 (.faddr 2) [.tmp 8],oS 1 156 155])
 (.reg 57344 (some [0, 0, 2, 0, 14, 31, 0, 0, 128, 511, 1023, 2047, 0, 4096, 0, 28672, 65535, 131071, 262143]) [oO 54 (.bslice 4 0 (.agg [(.t (.int .i64 0)), (.t (.int .i64 0)), .nil, .nil]) []) [],oO 55 (.faddr 2) [.tmp 8],oO 56 (.load 1 false) [.tmp 55],mv 57 11,oO 58 (.slice 4 false true false) [.tmp 56, .tmp 57],oO 59 (.append 4 64) [.tmp 54, .tmp 58],mv 60 1,oO 61 (.bslice 1 4 (.t (byteT 0)) [0, 1, 2, 3]) [.cst (.t (byteT 110)), .cst (.t (byteT 111)), .cst (.t (byteT 116)), .cst (.t (byteT 101))],oO 62 .idsl [.tmp 61],cL 63 n_ref25_Make true [.cst (.t (.int .i64 3)), .cst (.t (.int .i64 5)), .tmp 60, .tmp 62],oO 64 (.bslice 4 1 (.agg [(.t (.int .i64 0)), (.t (.int .i64 0)), .nil, .nil]) [0]) [.tmp 63],oO 65 (.append 4 64) [.tmp 59, .tmp 64],oO 66 (.faddr 2) [.tmp 8],oO 67 (.load 1 false) [.tmp 66],mv 68 11,oO 69 (.slice 4 true false false) [.tmp 67, .tmp 68],oO 70 (.append 4 64) [.tmp 65, .tmp 69],oO 71 (.faddr 2) [.tmp 8],oS 1 71 70])))))))))))))
 (rG 45056 [mv 45 10,bN 46 .sub 45 1,mv 10 46])))
def ac_draw_Log (n_draw_New n_draw_Mod n_draw_Codes_Next n_draw_Codes_Events n_draw_Chain n_ref25_Events n_draw_Codes_Event n_ref25_Make : Nat) : AC :=
 (.seq
 (rG 4096 [oO 6 (.new 3 [(.agg [(.t (.int .i64 0)), (.t (.int .i64 0)), .nil])]) []])
 (.seq
 (rG 8192 [mv 13 0,cL 14 n_draw_New true [.tmp 13, .cst (.t (.int .i64 240))],mv 7 14])
 (.seq
 (rG 12288 [mv 15 1,mv 16 2,cL 17 n_draw_Mod false [.tmp 16, .cst (.t (.int .i64 1000))],oO 18 (.build [(.t (.int .i64 0)), (.t (.int .i64 0)), .nil] [(0, 1), (1, 1)]) [.tmp 15, .tmp 17],oO 8 (.new 3 [(.agg [(.t (.int .i64 0)), (.t (.int .i64 0)), .nil])]) [],oS 3 8 18])
 (.seq
 (.seq
 (rG 16384 [mv 19 7,cL 20 n_draw_Codes_Next true [.tmp 19, .cst (.t (.int .i64 3))],bN 21 .eql 20 0])
 (.cond (.tmp 21)
 (.seq
 (rG 20480 [mv 22 7,mv 23 1,cL 24 n_draw_Codes_Events true [.tmp 22, .tmp 23, .cst (.t (.int .i64 14))],oO 25 (.faddr 2) [.tmp 8],oS 1 25 24])
 (.seq
 (rG 24576 [oO 26 (.load 3 true) [.tmp 8],oS 3 6 26])
 .ret))
 .skip))
 (.seq
 (.reg 28672 (some [0, 1, 3, 7, 0, 16, 48, 112, 255, 511, 1023]) [mv 27 7,oO 28 .nilchk [.tmp 27],oO 29 (.faddr 0) [.tmp 28],oO 30 (.load 1 false) [.tmp 29],mv 31 7,oO 32 .nilchk [.tmp 31],oO 33 (.faddr 1) [.tmp 32],oO 34 (.load 1 false) [.tmp 33],oO 35 (.slice 1 true false false) [.tmp 30, .tmp 34],cL 36 n_draw_Chain true [.tmp 35],mv 9 36])
 (.seq
 (rG 32768 [mv 37 9,mv 38 1,cL 39 n_ref25_Events true [.tmp 37, .tmp 38],oO 40 (.faddr 2) [.tmp 8],oS 1 40 39])
 (.seq
 (.seq
 (rG 36864 [mv 41 7,cL 42 n_draw_Codes_Next true [.tmp 41, .cst (.t (.int .i64 4))],mv 10 42])
 (.block 0
 (.loop (ac_draw_Log_L0 n_draw_Codes_Next n_draw_Codes_Event n_ref25_Make))))
 (.seq
 (rG 102400 [oO 157 (.load 3 true) [.tmp 8],oS 3 6 157])
 .ret))))))))
def hints_draw_Log : List (Nat × List Nat) := [(1, [1]), (3, [1]), (4, [2]), (6, [9]), (7, [2]), (8, [1]), (11, [4]), (12, [1]), (19, [4]), (23, [8]), (13, [9])]
def ac_ref25_Chain_L1 : AC :=
 (.seq
 (.seq
 (rG 57344 [mv 46 7,mv 47 5,bT 48 .lss 46 47])
 (.cond (.tmp 48)
 .skip
 (.exit 2)))
 (.seq
 (.block 3
 (.seq
 (.reg 65536 (some [0, 0, 3, 7, 15, 0, 0, 96, 224, 480, 1023, 2047, 4095, 4095, 16383, 32767, 65535, 4095, 4095, 397311, 921599, 1970175, 4194303, 8388607]) [mv 51 0,mv 52 7,oO 53 (.iaddr 4) [.tmp 51, .tmp 52],oO 54 (.faddr 0) [.tmp 53],oO 55 (.load 1 false) [.tmp 54],mv 56 0,mv 57 5,oO 58 (.iaddr 4) [.tmp 56, .tmp 57],oO 59 (.faddr 0) [.tmp 58],oO 60 (.load 1 false) [.tmp 59],bT 61 .eql 55 60,mv 62 61,mG 63 0 62,mG 64 7 62,oG 65 62 (.iaddr 4) [.tmp 63, .tmp 64],oG 66 62 (.faddr 1) [.tmp 65],oG 67 62 (.load 1 false) [.tmp 66],mG 68 0 62,mG 69 5 62,oG 70 62 (.iaddr 4) [.tmp 68, .tmp 69],oG 71 62 (.faddr 1) [.tmp 70],oG 72 62 (.load 1 false) [.tmp 71],oG 73 62 (.bin .eql) [.tmp 67, .tmp 72],oO 74 .pick [.tmp 62, .tmp 73, .cst (.t (.bool false))]])
 (.cond (.tmp 74)
 (.seq
 (rG 69632 [mC 2 (.t (.int .i64 42))])
 .ret)
 .skip)))
 (rG 61440 [mv 49 7,bN 50 .add 49 1,mv 7 50])))
def ac_ref25_Chain_L0 (n_ref25_Image : Nat) : AC :=
 (.seq
 (.seq
 (rG 24576 [mv 16 5,mv 17 0,oO 18 .len [.tmp 17],bT 19 .lss 16 18])
 (.cond (.tmp 19)
 .skip
 (.exit 0)))
 (.seq
 (.block 1
 (.seq
 (.seq
 (rG 32768 [mv 22 0,mv 23 5,oO 24 (.iaddr 4) [.tmp 22, .tmp 23],oO 25 (.load 4 true) [.tmp 24],cL 26 n_ref25_Image false [.tmp 25],mv 6 26])
 (.seq
 (rG 36864 [mv 27 6,bN 28 .neq 27 0])
 (.cond (.tmp 28)
 (.seq
 (rG 40960 [mv 29 6,mv 2 29])
 .ret)
 .skip)))
 (.seq
 (.seq
 (.reg 45056 (some [0, 1, 3, 7, 7, 31, 63, 127, 7, 7, 519, 1799, 3847, 7943, 16383, 32767]) [mv 30 5,bN 31 .gtr 30 0,mv 32 31,mG 33 0 32,mG 34 5 32,oG 35 32 (.iaddr 4) [.tmp 33, .tmp 34],oG 36 32 (.faddr 0) [.tmp 35],oG 37 32 (.load 1 false) [.tmp 36],mG 38 0 32,mG 39 5 32,oG 40 32 (.bin .sub) [.tmp 39, .cst (.t (.int .i64 1))],oG 41 32 (.iaddr 4) [.tmp 38, .tmp 40],oG 42 32 (.faddr 0) [.tmp 41],oG 43 32 (.load 1 false) [.tmp 42],oG 44 32 (.bin .lss) [.tmp 37, .tmp 43],oO 45 .pick [.tmp 32, .tmp 44, .cst (.t (.bool false))]])
 (.cond (.tmp 45)
 (.seq
 (rG 49152 [mC 2 (.t (.int .i64 41))])
 .ret)
 .skip))
 (.seq
 (.seq
 (rG 53248 [mC 7 (.t (.int .i64 0))])
 (.block 2
 (.loop ac_ref25_Chain_L1)))
 (.seq
 (rG 73728 [mv 75 3,mv 76 75,mF 77 0 76,mF 78 5 76,oF 79 76 (.iaddr 4) [.tmp 77, .tmp 78],oF 80 76 (.faddr 0) [.tmp 79],oF 81 76 (.load 1 false) [.tmp 80],oF 82 76 (.bin .eql) [.tmp 81, .cst (.t (.int .i64 1))],oO 83 .pick [.tmp 76, .cst (.t (.bool true)), .tmp 82],mv 3 83])
 (rG 77824 [mv 84 4,mv 85 84,mF 86 0 85,mF 87 5 85,oF 88 85 (.iaddr 4) [.tmp 86, .tmp 87],oF 89 85 (.faddr 0) [.tmp 88],oF 90 85 (.load 1 false) [.tmp 89],oF 91 85 (.bin .eql) [.tmp 90, .cst (.t (.int .i64 3))],oO 92 .pick [.tmp 85, .cst (.t (.bool true)), .tmp 91],mv 4 92]))))))
 (rG 28672 [mv 20 5,bN 21 .add 20 1,mv 5 21])))
def ac_ref25_Chain (n_ref25_Image : Nat) : AC :=
 (.seq
 (rG 4096 [mC 2 (.t (.int .i64 0))])
 (.seq
 (.seq
 (rG 8192 [mv 8 0,oO 9 .len [.tmp 8],bN 10 .eql 9 0,mv 11 10,mF 12 0 11,oF 13 11 .len [.tmp 12],oF 14 11 (.bin .gtr) [.tmp 13, .cst (.t (.int .i64 8))],oO 15 .pick [.tmp 11, .cst (.t (.bool true)), .tmp 14]])
 (.cond (.tmp 15)
 (.seq
 (rG 12288 [mC 2 (.t (.int .i64 1))])
 .ret)
 .skip))
 (.seq
 (rG 16384 [mC 3 (.t (.bool false)),mC 4 (.t (.bool false))])
 (.seq
 (.seq
 (rG 20480 [mC 5 (.t (.int .i64 0))])
 (.block 0
 (.loop (ac_ref25_Chain_L0 n_ref25_Image))))
 (.seq
 (.seq
 (rG 81920 [mv 93 3,oO 94 (.un .not) [.tmp 93],mv 95 94,mF 96 4 95,oF 97 95 (.un .not) [.tmp 96],oO 98 .pick [.tmp 95, .cst (.t (.bool true)), .tmp 97]])
 (.cond (.tmp 98)
 (.seq
 (rG 86016 [mC 2 (.t (.int .i64 40))])
 .ret)
 .skip))
 (.seq
 (rG 90112 [mC 2 (.t (.int .i64 0))])
 .ret))))))
def hints_ref25_Chain : List (Nat × List Nat) := []
def ac_ref25_Events_L1 (n_ref25_Separator n_ref25_Make : Nat) : AC :=
 (.seq
 (.seq
 (rG 40960 [mv 28 7,bN 29 .lss 28 8])
 (.cond (.tmp 29)
 .skip
 (.exit 2)))
 (.seq
 (.block 3
 (rG 49152 [mv 32 5,mv 33 7,mv 34 1,cL 35 n_ref25_Separator false [],cL 36 n_ref25_Make true [.tmp 33, .cst (.t (.int .i64 2)), .tmp 34, .tmp 35],oO 37 (.bslice 4 1 (.agg [(.t (.int .i64 0)), (.t (.int .i64 0)), .nil, .nil]) [0]) [.tmp 36],oO 38 (.append 4 64) [.tmp 32, .tmp 37],mv 5 38]))
 (rG 45056 [mv 30 7,bN 31 .add 30 1,mv 7 31])))
def ac_ref25_Events_L3 (n_ref25_Make : Nat) : AC :=
 (.seq
 (.seq
 (rG 86016 [mv 68 10,mv 69 9,oO 70 .len [.tmp 69],bT 71 .lss 68 70])
 (.cond (.tmp 71)
 .skip
 (.exit 6)))
 (.seq
 (.block 7
 (rG 94208 [mv 74 5,mv 75 1,mv 76 9,mv 77 10,oO 78 (.iaddr 1) [.tmp 76, .tmp 77],oO 79 (.load 1 false) [.tmp 78],cL 80 n_ref25_Make true [.cst (.t (.int .i64 9)), .cst (.t (.int .i64 3)), .tmp 75, .tmp 79],oO 81 (.bslice 4 1 (.agg [(.t (.int .i64 0)), (.t (.int .i64 0)), .nil, .nil]) [0]) [.tmp 80],oO 82 (.append 4 64) [.tmp 74, .tmp 81],mv 5 82]))
 (rG 90112 [mv 72 10,bN 73 .add 72 1,mv 10 73])))
def ac_ref25_Events_L2 (n_ref25_OfImage n_ref25_Lines n_ref25_Make : Nat) : AC :=
 (.seq
 (.seq
 (rG 57344 [mv 39 8,mv 40 0,oO 41 .len [.tmp 40],bT 42 .lss 39 41])
 (.cond (.tmp 42)
 .skip
 (.exit 4)))
 (.seq
 (.block 5
 (.seq
 (.seq
 (rG 65536 [mv 45 0,mv 46 8,oO 47 (.iaddr 4) [.tmp 45, .tmp 46],oO 48 (.faddr 0) [.tmp 47],oO 49 (.load 1 false) [.tmp 48],mv 50 6,bT 51 .neq 49 50])
 (.cond (.tmp 51)
 (.exit 5)
 .skip))
 (.seq
 (.seq
 (rG 69632 [mv 52 6,bN 53 .neq 52 4])
 (.cond (.tmp 53)
 (.seq
 (rG 73728 [mv 54 5,mv 55 0,mv 56 8,oO 57 (.iaddr 4) [.tmp 55, .tmp 56],oO 58 (.load 4 true) [.tmp 57],mv 59 1,cL 60 n_ref25_OfImage true [.tmp 58, .tmp 59],oO 61 (.bslice 4 1 (.agg [(.t (.int .i64 0)), (.t (.int .i64 0)), .nil, .nil]) [0]) [.tmp 60],oO 62 (.append 4 64) [.tmp 54, .tmp 61],mv 5 62])
 (.exit 5))
 .skip))
 (.seq
 (rG 77824 [mv 63 0,mv 64 8,oO 65 (.iaddr 4) [.tmp 63, .tmp 64],oO 66 (.load 4 true) [.tmp 65],cL 67 n_ref25_Lines true [.tmp 66],mv 9 67])
 (.seq
 (rG 81920 [mC 10 (.t (.int .i64 0))])
 (.block 6
 (.loop (ac_ref25_Events_L3 n_ref25_Make))))))))
 (rG 61440 [mv 43 8,bN 44 .add 43 1,mv 8 44])))
def ac_ref25_Events_L0 (n_ref25_Separator n_ref25_Make n_ref25_OfImage n_ref25_Lines : Nat) : AC :=
 (.seq
 (.seq
 (rG 24576 [mv 22 6,bN 23 .leq 22 4])
 (.cond (.tmp 23)
 .skip
 (.exit 0)))
 (.seq
 (.block 1
 (.seq
 (.seq
 (rG 32768 [mv 26 6,bN 27 .eql 26 3])
 (.cond (.tmp 27)
 (.seq
 (rG 36864 [mC 7 (.t (.int .i64 0))])
 (.block 2
 (.loop (ac_ref25_Events_L1 n_ref25_Separator n_ref25_Make))))
 .skip))
 (.seq
 (rG 53248 [mC 8 (.t (.int .i64 0))])
 (.block 4
 (.loop (ac_ref25_Events_L2 n_ref25_OfImage n_ref25_Lines n_ref25_Make))))))
 (rG 28672 [mv 24 6,bN 25 .add 24 1,mv 6 25])))
def ac_ref25_Events (n_ref25_Chain n_ref25_Separator n_ref25_Make n_ref25_OfImage n_ref25_Lines : Nat) : AC :=
 (.seq
 (rG 4096 [mC 4 .nil])
 (.seq
 (.seq
 (rG 8192 [mv 11 0,cL 12 n_ref25_Chain false [.tmp 11],bN 13 .neq 12 0,mv 14 13,mF 15 1 14,oF 16 14 (.bin .lss) [.tmp 15, .cst (.t (.int .i64 1))],oO 17 .pick [.tmp 14, .cst (.t (.bool true)), .tmp 16],mv 18 17,mF 19 1 18,oF 20 18 (.bin .gtr) [.tmp 19, .cst (.t (.int .i64 3))],oO 21 .pick [.tmp 18, .cst (.t (.bool true)), .tmp 20]])
 (.cond (.tmp 21)
 (.seq
 (rG 12288 [mC 4 .nil])
 .ret)
 .skip))
 (.seq
 (rG 16384 [mC 5 .nil])
 (.seq
 (.seq
 (rG 20480 [mC 6 (.t (.int .i64 1))])
 (.block 0
 (.loop (ac_ref25_Events_L0 n_ref25_Separator n_ref25_Make n_ref25_OfImage n_ref25_Lines))))
 (.seq
 (rG 98304 [mv 83 5,mv 4 83])
 .ret)))))
def hints_ref25_Events : List (Nat × List Nat) := [(11, [4]), (17, [6]), (18, [4]), (22, [6])]
end Go.Eng
end
section
set_option maxRecDepth 20000
set_option maxHeartbeats 64000000
namespace Go.Eng
theorem mapI_snoc {l : List Im} {a v : Int} {s p : List UInt8} : List.map imT (l ++ [(a, s, v, p)]) = List.map imT l ++ [.agg [.int .i64 a, strT s, .int .i64 v, .sl (p.map byteT)]] := by simp [imT_def]
theorem mapE_snoc {l : List Ev} {a b : Int} {c : List (List UInt8)} {d : List UInt8} : List.map evT (l ++ [(a, b, c, d)]) = List.map evT l ++ [.agg [.int .i64 a, .int .i64 b, .sl (c.map bsT), .sl (d.map byteT)]] := by simp [evT_def]
def ct_dlf : Ct where
 α := Cd
 as _ := [.ref 0 0 0]
 ins x := [cdOb x]
 pre x := cdOk x
 r x := .t (.bool (decide (x.2 < x.1.length)))
 outs x := [cdOb x]
 inj := by
   intro s t _ h2
   simp only [List.cons.injEq, and_true] at h2
   cases cdOb_inj h2
   exact ⟨rfl, rfl⟩
theorem dlf_eq {c : Cd} (h : cdOk c) : ct_dlf.fs [.ref 0 0 0] [cdO c] = some (.t (.bool (decide (c.2 < c.1.length))), [cdO c]) := ct_dlf.eq c h
theorem w_draw_Left (tab : Tab) (gl : Gl) (c : Cd) (hc : cdOk c) : ac_draw_Codes_Left.wp tab gl (zipF 0 [.ref 0 0 0]) (zipF 0 [cdOb c]) (resW [(2, none)] 1 (fun r o => r = .t (.bool (decide (c.2 < c.1.length))) ∧ o = [cdOb c])) := by
 obtain ⟨b, a⟩ := c
 obtain ⟨h1, h2⟩ := hc
 simp only at h1 h2
 by_cases h : a < b.length
 · simp (disch := omega) only [go_sem, ↓reduceIte, Nat.reduceAdd, Nat.reduceEqDiff, Nat.reduceLeDiff, reduceCtorEq, ac_draw_Codes_Left, cdOb_eq, h]
   all_goals rfl
 · simp (disch := omega) only [go_sem, ↓reduceIte, Nat.reduceAdd, Nat.reduceEqDiff, Nat.reduceLeDiff, reduceCtorEq, ac_draw_Codes_Left, cdOb_eq, h]
   all_goals rfl
def ct_dvs : Ct where
 α := Cd × Int × Nat
 as x := [.ref 0 0 0, .t (.int .i64 x.2.1), .t (.int .i64 x.2.2)]
 ins x := [cdOb x.1]
 pre x := cdOk x.1 ∧ (1 ≤ x.2.1 ∧ x.2.1 ≤ 3) ∧ x.2.2 ≤ 1000
 r x := .t (.sl ((evN x.2.2 x.1 x.2.1 []).1.map evT))
 outs x := [cdOb (evN x.2.2 x.1 x.2.1 []).2]
 inj := by
   rintro ⟨s, a, n⟩ ⟨t, c, m⟩ h1 h2
   simp only [List.cons.injEq, V.t.injEq, T.int.injEq, true_and, and_true, Int.natCast_inj] at h1
   simp only [List.cons.injEq, and_true] at h2
   obtain ⟨rfl, rfl⟩ := h1
   cases cdOb_inj h2
   exact ⟨rfl, rfl⟩
theorem dvs_eq {c : Cd} {act : Int} {n : Nat} (h : cdOk c ∧ (1 ≤ act ∧ act ≤ 3) ∧ n ≤ 1000) : ct_dvs.fs [.ref 0 0 0, .t (.int .i64 act), .t (.int .i64 n)] [cdO c] = some (.t (.sl ((evN n c act []).1.map evT)), [cdO (evN n c act []).2]) := ct_dvs.eq (c, act, n) h
theorem evG_cd {c : Cd} {act : Int} (hc : cdOk c) : cdOk (evG c act).2 := by
 have d : ∀ c : Cd, cdOk c → cdOk (evData c).2 := by
   intro c hc
   unfold evData
   split
   · exact nx_ok (nx_ok (nx_ok hc))
   · exact nx_ok (nx_ok hc)
 have k : ∀ c : Cd, cdOk c → cdOk (evKind c).2.2 := fun c hc => nx_ok (nx_ok hc)
 have s : ∀ (k r : Int) (x : List UInt8) (c : Cd), cdOk c → cdOk (evSep k r x c).2.2 := by
   intro k r x c hc
   unfold evSep
   split
   · split
     · exact nx_ok (nx_ok hc)
     · exact nx_ok hc
   · exact hc
 have g : ∀ (k r act : Int) (x : List UInt8) (c : Cd), cdOk c → cdOk (evDig k r act x c).2 := by
   intro k r act x c hc
   unfold evDig
   split
   · exact hc
   · split
     · exact nx_ok (nx_ok hc)
     · exact nx_ok hc
 exact g _ _ _ _ _ (s _ _ _ _ (k _ (d _ hc)))
theorem w_draw_Events (tab : Tab) (gl : Gl) (n1 n2 : Nat) (h1 : tab.look n1 = some ct_dlf.fs) (h2 : tab.look n2 = some ct_devt.fs) (c : Cd) (act : Int) (n : Nat) (hc : cdOk c) (ha : 1 ≤ act ∧ act ≤ 3) (hn : n ≤ 1000) :
   (ac_draw_Codes_Events n1 n2).wp tab gl (zipF 0 [.ref 0 0 0, .t (.int .i64 act), .t (.int .i64 n)]) (zipF 0 [cdOb c]) (resW [(6, none)] 1 (fun r o => r = .t (.sl ((evN n c act []).1.map evT)) ∧ o = [cdOb (evN n c act []).2])) := by
 generalize hP : evN n c act [] = P
 obtain ⟨b, a⟩ := c
 simp (disch := omega) only [go_sem, Nat.reduceAdd, ac_draw_Codes_Events, cdOb_eq]
 refine loop_inv (σ := Nat × Cd × List Ev) (fun s => cdOk s.2.1 ∧ s.2.2.length + s.1 = n ∧ evN s.1 s.2.1 act s.2.2 = P) (fun s => s.1)
   (fun s => [(0, .ref 0 0 0), (1, .t (.int .i64 act)), (2, .t (.int .i64 n)), (7, .sl 9000 0 s.2.2.length)]) (fun s => [(9000, .live 4 ((s.2.2.map evT).map V.t) true false), (0, cdO s.2.1)]) (n, (b, a), []) ⟨hc, by simp, hP⟩ ?_ ?_
 · refine Weak.cv0 (hv := [(9000, .live 4 [] true false)]) (ho := [(0, cdO (b, a))]) id ?_ ?_ rfl rfl
   all_goals simp (disch := omega) only [go_sem, ↓reduceIte, Nat.reduceEqDiff, reduceCtorEq, id]
 · rintro ⟨k, ⟨b1, a1⟩, l⟩ ⟨ok1, hl, hp⟩
   simp only at ok1 hl hp ⊢
   have hL := dlf_eq ok1
   simp only [cdO] at hL
   cases k with
   | zero =>
     rw [← hp]
     have hl' : l.length = n := by omega
     by_cases hb : a1 < b1.length
     · rw [decide_eq_true hb] at hL
       simp (disch := omega) only [go_sem, ↓reduceIte, Nat.reduceAdd, Nat.reduceEqDiff, Nat.reduceSub, Nat.reduceLeDiff, Nat.reduceBEq, reduceCtorEq, ac_draw_Codes_Events_L0, evN, cdOb_eq, h1, hL, hl', List.take_length, List.take_of_length_le]
     · rw [decide_eq_false hb] at hL
       simp (disch := omega) only [go_sem, ↓reduceIte, Nat.reduceAdd, Nat.reduceEqDiff, Nat.reduceSub, Nat.reduceLeDiff, Nat.reduceBEq, reduceCtorEq, ac_draw_Codes_Events_L0, evN, cdOb_eq, h1, hL, hl', List.take_length, List.take_of_length_le]
   | succ k =>
     by_cases hb : a1 < b1.length
     · rw [decide_eq_true hb] at hL
       have hE := devt_eq (c := (b1, a1)) (act := act) ⟨ok1, ha⟩
       have lok := evG_cd (act := act) ok1
       have hp' : evN k (evG (b1, a1) act).2 act (l ++ [(evG (b1, a1) act).1]) = P := by
         rw [evN, if_pos hb] at hp
         exact hp
       have hlt : (l.length : Int) < n := by omega
       generalize evG (b1, a1) act = q at *
       obtain ⟨⟨er, ek, es, ed⟩, b2, a2⟩ := q
       simp only [cdO] at *
       simp (disch := omega) only [go_sem, ↓reduceIte, Nat.reduceAdd, Nat.reduceEqDiff, Nat.reduceSub, Nat.reduceLT, Nat.reduceLeDiff, reduceCtorEq, ac_draw_Codes_Events_L0, evT_def, h1, hL, h2, hE, hlt, List.take_length]
       refine invG.of (k, (b2, a2), l ++ [(er, ek, es, ed)]) ⟨lok, by simp; omega, hp'⟩ (by simp) (Weak.rd (fun j => if j = 9000 then 16464 else j) ?_ ?_ rfl)
       all_goals simp (disch := omega) only [go_sem, ↓reduceIte, Nat.reduceAdd, Nat.reduceEqDiff, Nat.reduceBEq, reduceCtorEq, id, mapE_snoc, evT_def]
     · rw [decide_eq_false hb] at hL
       rw [evN, if_neg hb] at hp
       rw [← hp]
       simp (disch := omega) only [go_sem, ↓reduceIte, Nat.reduceAdd, Nat.reduceEqDiff, Nat.reduceSub, Nat.reduceLeDiff, Nat.reduceBEq, reduceCtorEq, ac_draw_Codes_Events_L0, cdOb_eq, h1, hL, List.take_length]
def chT : Nat → Int → List Im × Cd → List Im × Cd
 | 0, _, s => s
 | k + 1, r, s => chT k (r + 1) (chR r s)
theorem chG_T {b : List UInt8} : chG b = (chT 4 1 ([], (b.take 200, 0))).1 := rfl
def ct_dch : Ct where
 α := List UInt8
 as x := [.t (.sl (x.map byteT))]
 ins _ := []
 pre x := x.length ≤ 9223372036854775807
 r x := .t (.sl ((chG x).map imT))
 outs _ := []
 inj := by
   intro a b h _
   simp only [List.cons.injEq, V.t.injEq, T.sl.injEq, and_true, mapB_inj] at h
   subst h; exact ⟨rfl, rfl⟩
theorem dch_eq {b : List UInt8} (h : b.length ≤ 9223372036854775807) : ct_dch.fs [.t (.sl (b.map byteT))] [] = some (.t (.sl ((chG b).map imT)), []) := ct_dch.eq b h
theorem isD_take {l : List Im} {x y : Im} {i : Nat} (h : l[i]? = some y) : isD (l.take (i + 1)) x = (isD (l.take i) x || (decide (y.1 = x.1) && decide (y.2.1 = x.2.1))) := by
 unfold isD
 rw [List.take_add_one, h, List.any_append]; simp
theorem w_draw_Chain (tab : Tab) (gl : Gl) (n1 n2 n3 : Nat) (h1 : tab.look n1 = some ct_dnew.fs) (h2 : tab.look n2 = some ct_next.fs) (h3 : tab.look n3 = some ct_dim.fs) (b : List UInt8) (hb : b.length ≤ 9223372036854775807) :
   (ac_draw_Chain n1 n2 n3).wp tab gl (zipF 0 [.t (.sl (b.map byteT))]) (zipF 0 []) (resW [(2, none)] 0 (fun r o => r = .t (.sl ((chG b).map imT)) ∧ o = [])) := by
 have hN : ct_dnew.fs [.t (.sl (b.map byteT)), .t (.int .i64 200)] [] = _ := dnew_eq (b := b) (n := 200) ⟨hb, by omega⟩
 have okN : cdOk (b.take 200, 0) := ⟨Nat.zero_le _, by simp only [List.length_take]; omega⟩
 rw [chG_T]
 simp only [cdO, Int.natCast_zero] at hN
 generalize b.take 200 = b0 at *
 generalize hP : chT 4 1 ([], (b0, 0)) = P
 simp (disch := omega) only [go_sem, ↓reduceIte, Nat.reduceAdd, Nat.reduceLeDiff, reduceCtorEq, ac_draw_Chain, h1, hN]
 refine loop_inv (σ := Nat × List Im × Cd) (fun s => cdOk s.2.2 ∧ s.1 ≤ 4 ∧ s.2.1.length ≤ 2 * (4 - s.1) ∧ chT s.1 (5 - s.1 : Nat) s.2 = P) (fun s => s.1)
   (fun s => [(3, .ref 8208 0 0), (4, .sl 9000 0 s.2.1.length), (5, .t (.int .i64 (5 - s.1 : Nat)))]) (fun s => [(9000, .live 4 ((s.2.1.map imT).map V.t) true false), (8208, cdO s.2.2)]) (4, [], (b0, 0)) ⟨okN, by simp, by simp, hP⟩ ?_ ?_
 · refine Weak.cv0 (hv := [(9000, .live 4 [] true false)]) (ho := [(8208, cdO (b0, 0))]) id ?_ ?_ rfl rfl
   all_goals simp (disch := omega) only [go_sem, ↓reduceIte, Nat.reduceEqDiff, Nat.reduceSub, id, Nat.reduceSub]
 · rintro ⟨k, l, ⟨b1, a1⟩⟩ ⟨ok1, hk, hl, hp⟩
   simp only at ok1 hk hl hp ⊢
   cases k with
   | zero =>
     rw [← hp]
     simp (disch := omega) only [go_sem, ↓reduceIte, Nat.reduceAdd, Nat.reduceEqDiff, Nat.reduceLeDiff, Int.reduceLE, ac_draw_Chain_L0, chT, List.take_length]
   | succ k =>
     obtain ⟨r, hr⟩ : ∃ r : Nat, 5 - (k + 1) = r := ⟨_, rfl⟩
     rw [hr] at hp ⊢
     have r4 : 1 ≤ r ∧ r ≤ 4 := by omega
     obtain ⟨i3, b2, a2, e3, l3, ok2, hX3⟩ := nxF 3 ok1 (by omega) (by omega)
     simp only [show ((3 : Nat) : Int) = 3 from rfl] at hX3
     have main : ∀ (m : Nat) (b3 : List UInt8) (a3 : Nat) (fs : Fs) (hs : Hs), cdOk (b3, a3) → m ≤ 2 → chK (b1, a1) (r : Int) = (m, (b3, a3)) → Weak fs hs [(3, .ref 8208 0 0), (4, .sl 9000 0 l.length), (5, .t (.int .i64 r)), (6, .t (.int .i64 m))] [(9000, .live 4 ((l.map imT).map V.t) true false), (8208, cdO (b3, a3))] →
         loopW tab gl (ac_draw_Chain_L1 n3) fs hs (blockK 2 (blockK 1 (seqK tab gl (rG 24576 [mv 14 5, bN 15 .add 14 1, mv 5 15]) (invK (fun s : Nat × List Im × Cd => cdOk s.2.2 ∧ s.1 ≤ 4 ∧ s.2.1.length ≤ 2 * (4 - s.1) ∧ chT s.1 (5 - s.1 : Nat) s.2 = P) (fun s => s.1)
   (fun s => [(3, .ref 8208 0 0), (4, .sl 9000 0 s.2.1.length), (5, .t (.int .i64 (5 - s.1 : Nat)))]) (fun s => [(9000, .live 4 ((s.2.1.map imT).map V.t) true false), (8208, cdO s.2.2)]) (k + 1, l, (b1, a1)) (blockK 0 (seqK tab gl ((rG 81920 [mv 67 4, mv 2 67]).seq AC.ret) (resW [(2, none)] 0 (fun r o => r = .t (.sl (P.1.map imT)) ∧ o = [])))))))) := by
       intro m b3 a3 fs hs ok3 hm hck hw
       refine loopW_weak hw ?_
       have hT : chT k ((5 - k : Nat) : Int) (chN m (b3, a3) r l) = P := by
         have : chT (k + 1) (r : Int) (l, (b1, a1)) = chT k ((r : Int) + 1) (chR r (l, (b1, a1))) := rfl
         rw [this] at hp
         unfold chR at hp
         simp only at hp
         rw [hck] at hp
         rw [show ((5 - k : Nat) : Int) = (r : Int) + 1 by omega]
         exact hp
       generalize hQ : chN m (b3, a3) r l = Q at *
       refine loop_inv (σ := Nat × Cd × List Im) (fun s => cdOk s.2.1 ∧ s.2.2.length + s.1 ≤ 8 ∧ s.2.2.length + s.1 ≤ l.length + m ∧ chN s.1 s.2.1 r s.2.2 = Q) (fun s => s.1)
         (fun s => [(3, .ref 8208 0 0), (4, .sl 9000 0 s.2.2.length), (5, .t (.int .i64 r)), (6, .t (.int .i64 (s.1 : Nat)))]) (fun s => [(9000, .live 4 ((s.2.2.map imT).map V.t) true false), (8208, cdO s.2.1)]) (m, (b3, a3), l) ⟨ok3, by simp only; omega, Nat.le_refl _, hQ⟩ Weak.refl ?_
       rintro ⟨j, ⟨b4, a4⟩, l4⟩ ⟨ok4, hj, hj2, hq⟩
       simp only at ok4 hj hj2 hq ⊢
       cases j with
       | zero =>
         have hq' : Q = (l4, (b4, a4)) := hq.symm
         rw [hq'] at hT
         simp (disch := omega) only [go_sem, ↓reduceIte, Nat.reduceAdd, Nat.reduceEqDiff, ac_draw_Chain_L1]
         refine invG.of (k, l4, (b4, a4)) ⟨ok4, by simp only; omega, by simp only; omega, hT⟩ (by simp) (Weak.rd id ?_ ?_ rfl)
         all_goals simp (disch := omega) only [go_sem, ↓reduceIte, Nat.reduceAdd, Nat.reduceEqDiff, Nat.reduceBEq, id, show ((5 - k : Nat) : Int) = (r : Int) + 1 by omega]
       | succ j =>
         have hD := dim_eq (c := (b4, a4)) (r := r) ⟨ok4, r4⟩
         have lok := imG_cd (r := (r : Int)) ok4
         have hq' : chN j (imG (b4, a4) r).2 r (if isD l4 (imG (b4, a4) r).1 then l4 else l4 ++ [(imG (b4, a4) r).1]) = Q := hq
         generalize imG (b4, a4) (r : Int) = w at *
         obtain ⟨⟨xa, xs, xv, xp⟩, b5, a5⟩ := w
         simp only [cdO] at *
         have hkk : ((j + 1 : Nat) : Int) - 1 = j := by omega
         simp (disch := omega) only [go_sem, ↓reduceIte, Nat.reduceAdd, Nat.reduceEqDiff, Nat.reduceSub, Nat.reduceLeDiff, ac_draw_Chain_L1, imT_def, h3, hD]
         refine loop_upto l4.length (fun i => [(3, .ref 8208 0 0), (4, .sl 9000 0 l4.length), (5, .t (.int .i64 r)), (6, .t (.int .i64 ((j + 1 : Nat) : Int))), (7, .ref 49200 0 0), (8, .t (.bool (isD (l4.take i) (xa, xs, xv, xp)))), (9, .t (.int .i64 (i : Nat)))])
           (fun _ => [(49200, .live 4 [.t (imT (xa, xs, xv, xp))] true true), (9000, .live 4 ((l4.map imT).map V.t) true false), (8208, .live 2 [.t (.agg [.sl (b5.map byteT), .int .i64 (a5 : Int)])] true true)]) ?_ (fun i hi => ?_)
         · have h0 : isD [] (xa, xs, xv, xp) = false := rfl
           refine Weak.rd id ?_ ?_ rfl
           all_goals simp (disch := omega) only [go_sem, ↓reduceIte, Nat.reduceAdd, Nat.reduceEqDiff, Nat.reduceBEq, id, imT_def, h0, List.take_zero]
         · by_cases hlt : i < l4.length
           · obtain ⟨⟨ya, ys, yv, yp⟩, hy⟩ : ∃ y, l4[i]? = some y := ⟨l4[i], by simp [hlt]⟩
             have hst := isD_take (x := (xa, xs, xv, xp)) hy
             simp only at hst
             cases hb0 : isD (l4.take i) (xa, xs, xv, xp)
             · rw [hb0, Bool.false_or] at hst
               by_cases q1 : ya = xa
               · subst q1
                 by_cases q2 : ys = xs
                 · subst q2
                   rw [decide_eq_true rfl, decide_eq_true rfl] at hst
                   simp (disch := omega) only [go_sem, ↓reduceIte, Nat.reduceAdd, Nat.reduceEqDiff, Nat.reduceLeDiff, reduceCtorEq, ac_draw_Chain_L2, imT_def, hy, hb0, beq_self_eq_true]
                   repeat refine And.intro rfl ?_
                   refine ⟨hlt, Weak.rd id ?_ ?_ rfl⟩
                   all_goals simp (disch := omega) only [go_sem, ↓reduceIte, Nat.reduceAdd, Nat.reduceEqDiff, Nat.reduceBEq, id, hst, imT_def]
                 · rw [decide_eq_true rfl, decide_eq_false q2] at hst
                   have q2b : decide (ys = xs) = false := decide_eq_false q2
                   simp (disch := omega) only [go_sem, ↓reduceIte, Nat.reduceAdd, Nat.reduceEqDiff, Nat.reduceLeDiff, reduceCtorEq, ac_draw_Chain_L2, imT_def, hy, hb0, beq_self_eq_true, q2b]
                   repeat refine And.intro rfl ?_
                   refine ⟨hlt, Weak.rd id ?_ ?_ rfl⟩
                   all_goals simp (disch := omega) only [go_sem, ↓reduceIte, Nat.reduceAdd, Nat.reduceEqDiff, Nat.reduceBEq, id, hst, imT_def]
               · rw [decide_eq_false q1, Bool.false_and] at hst
                 have q1b : (ya == xa) = false := by simpa using q1
                 simp (disch := omega) only [go_sem, ↓reduceIte, Nat.reduceAdd, Nat.reduceEqDiff, Nat.reduceLeDiff, ac_draw_Chain_L2, imT_def, hy, hb0, q1b]
                 repeat refine And.intro rfl ?_
                 refine ⟨hlt, Weak.rd id ?_ ?_ rfl⟩
                 all_goals simp (disch := omega) only [go_sem, ↓reduceIte, Nat.reduceAdd, Nat.reduceEqDiff, Nat.reduceBEq, id, hst, imT_def]
             · rw [hb0, Bool.true_or] at hst
               simp (disch := omega) only [go_sem, ↓reduceIte, Nat.reduceAdd, Nat.reduceEqDiff, ac_draw_Chain_L2, imT_def, hy, hb0]
               repeat refine And.intro rfl ?_
               refine ⟨hlt, Weak.rd id ?_ ?_ rfl⟩
               all_goals simp (disch := omega) only [go_sem, ↓reduceIte, Nat.reduceAdd, Nat.reduceEqDiff, Nat.reduceBEq, id, hst, imT_def]
           · have e : i = l4.length := by omega
             subst e
             rw [List.take_length]
             cases hb0 : isD l4 (xa, xs, xv, xp)
             · rw [hb0, if_neg (by decide)] at hq'
               simp (disch := omega) only [go_sem, ↓reduceIte, Nat.reduceAdd, Nat.reduceEqDiff, Nat.reduceLT, Nat.reduceLeDiff, ac_draw_Chain_L2, hb0, hkk, imT_def]
               refine invG.of (j, (b5, a5), l4 ++ [(xa, xs, xv, xp)]) ⟨lok, by simp; omega, by simp; omega, hq'⟩ (by simp) (Weak.rd (fun j => if j = 9000 then 77872 else j) ?_ ?_ rfl)
               all_goals simp (disch := omega) only [go_sem, ↓reduceIte, Nat.reduceAdd, Nat.reduceEqDiff, Nat.reduceBEq, id, imT_def, mapI_snoc]
             · rw [hb0, if_pos rfl] at hq'
               simp (disch := omega) only [go_sem, ↓reduceIte, Nat.reduceAdd, Nat.reduceEqDiff, ac_draw_Chain_L2, hb0, hkk]
               refine invG.of (j, (b5, a5), l4) ⟨lok, by simp only; omega, by simp only; omega, hq'⟩ (by simp) (Weak.rd id ?_ ?_ rfl)
               all_goals simp (disch := omega) only [go_sem, ↓reduceIte, Nat.reduceAdd, Nat.reduceEqDiff, Nat.reduceBEq, id]
     by_cases hr13 : r = 1 ∨ r = 3
     · obtain ⟨i2, b3, a3, e2, l2, ok3, hX2⟩ := nxF 2 ok2 (by omega) (by omega)
       simp only [show ((2 : Nat) : Int) = 2 from rfl] at hX2
       have hck : chK (b1, a1) (r : Int) = (1 + i2, (b3, a3)) := by
         unfold chK
         rw [if_pos (by omega), e3]
         simp only
         rw [e2]
       rcases hr13 with rfl | rfl
       · simp (disch := omega) only [go_sem, ↓reduceIte, Nat.reduceAdd, Nat.reduceEqDiff, Nat.reduceSub, Nat.reduceLeDiff, Int.reduceLE, ac_draw_Chain_L0, h2, hX3, hX2]
         refine main (1 + i2) b3 a3 _ _ ok3 (by omega) hck (Weak.rd id ?_ ?_ rfl)
         all_goals simp (disch := omega) only [go_sem, ↓reduceIte, Nat.reduceAdd, Nat.reduceEqDiff, Nat.reduceBEq, id]
       · simp (disch := omega) only [go_sem, ↓reduceIte, Nat.reduceAdd, Nat.reduceEqDiff, Nat.reduceSub, Nat.reduceLeDiff, Int.reduceLE, ac_draw_Chain_L0, h2, hX3, hX2]
         refine main (1 + i2) b3 a3 _ _ ok3 (by omega) hck (Weak.rd id ?_ ?_ rfl)
         all_goals simp (disch := omega) only [go_sem, ↓reduceIte, Nat.reduceAdd, Nat.reduceEqDiff, Nat.reduceBEq, id]
     · have hck : chK (b1, a1) (r : Int) = (i3, (b2, a2)) := by
         unfold chK
         rw [if_neg (by omega), e3]
       have q1 : ((r : Int) == 1) = false := by simpa using (by omega : ¬ (r : Int) = 1)
       have q3 : ((r : Int) == 3) = false := by simpa using (by omega : ¬ (r : Int) = 3)
       have rle : (r : Int) ≤ 4 := by omega
       simp (disch := omega) only [go_sem, ↓reduceIte, Nat.reduceAdd, Nat.reduceEqDiff, Nat.reduceSub, Nat.reduceLeDiff, ac_draw_Chain_L0, h2, hX3, q1, q3, rle]
       refine main i3 b2 a2 _ _ ok2 (by omega) hck (Weak.rd id ?_ ?_ rfl)
       all_goals simp (disch := omega) only [go_sem, ↓reduceIte, Nat.reduceAdd, Nat.reduceEqDiff, Nat.reduceBEq, id]
theorem mapI_inj {l m : List Im} : (l.map imT = m.map imT) = (l = m) := propext ⟨map_inj' (fun _ _ => imT_inj), fun h => by rw [h]⟩
def imsM (l : List Im) : Prop := l.length ≤ 9223372036854775807 ∧ ∀ x ∈ l, imM x
def ct_chc : Ct where
 α := List Im
 as x := [.t (.sl (x.map imT))]
 ins _ := []
 pre x := imsM x
 r x := .t (.int .i64 (chkC x))
 outs _ := []
 inj := by
   intro a b h _
   simp only [List.cons.injEq, V.t.injEq, T.sl.injEq, and_true, mapI_inj] at h
   subst h; exact ⟨rfl, rfl⟩
theorem chc_eq {l : List Im} (h : imsM l) : ct_chc.fs [.t (.sl (l.map imT))] [] = some (.t (.int .i64 (chkC l)), []) := ct_chc.eq l h
theorem lastD {l : List Im} {y d : Im} {i : Nat} (h : l[i]? = some y) : (l.take (i + 1)).getLastD d = y := by
 rw [List.take_add_one, h]; simp
theorem isD_at {l : List Im} {x y : Im} {k i : Nat} (h : l[k]? = some y) (hk : k < i) (h1 : y.1 = x.1) (h2 : y.2.1 = x.2.1) : isD (l.take i) x = true := by
 unfold isD
 refine List.any_eq_true.2 ⟨y, ?_, by simp [h1, h2]⟩
 refine List.mem_of_getElem? (i := k) ?_
 rw [List.getElem?_take, if_pos hk, h]
theorem any_take {l : List Im} {y : Im} {i : Nat} {p : Im → Bool} (h : l[i]? = some y) : (l.take (i + 1)).any p = ((l.take i).any p || p y) := by
 rw [List.take_add_one, h, List.any_append]; simp
theorem w_ref25_Chain (tab : Tab) (gl : Gl) (n1 : Nat) (h1 : tab.look n1 = some ct_imc.fs) (l : List Im) (hm : imsM l) :
   (ac_ref25_Chain n1).wp tab gl (zipF 0 [.t (.sl (l.map imT))]) (zipF 0 []) (resW [(2, none)] 0 (fun r o => r = .t (.int .i64 (chkC l)) ∧ o = [])) := by
 have hlm := hm.1
 by_cases c0 : l.length = 0
 · have hr : chkC l = 1 := if_pos (.inl c0)
   rw [hr]
   simp (disch := omega) only [go_sem, ↓reduceIte, Nat.reduceAdd, Nat.reduceEqDiff, reduceCtorEq, ac_ref25_Chain, c0]
 have c0b : ((l.length : Int) == 0) = false := by simpa using (by omega : ¬ (l.length : Int) = 0)
 by_cases c8 : 8 < l.length
 · have hr : chkC l = 1 := if_pos (.inr c8)
   rw [hr]
   simp (disch := omega) only [go_sem, ↓reduceIte, Nat.reduceAdd, Nat.reduceEqDiff, reduceCtorEq, ac_ref25_Chain, c0b, c8]
 have hr : chkC l = chF [] l := if_neg (by omega)
 rw [hr]
 simp (disch := omega) only [go_sem, ↓reduceIte, Nat.reduceAdd, Nat.reduceEqDiff, reduceCtorEq, ac_ref25_Chain, c0b, c8]
 refine loop_uptoP l.length (fun i => chF (l.take i) (l.drop i) = chF [] l) (fun i => [(0, .t (.sl (l.map imT))), (3, .t (.bool ((l.take i).any (fun y => decide (y.1 = 1))))), (4, .t (.bool ((l.take i).any (fun y => decide (y.1 = 3))))), (5, .t (.int .i64 (i : Nat)))]) (fun _ => []) rfl ?_ (fun i hi hE => ?_)
 · refine Weak.rd id ?_ ?_ rfl
   all_goals simp (disch := omega) only [go_sem, ↓reduceIte, Nat.reduceEqDiff, reduceCtorEq, id, List.take_zero, List.any_nil]
 · by_cases hlt : i < l.length
   · obtain ⟨⟨xa, xs, xv, xp⟩, hx⟩ : ∃ x, l[i]? = some x := ⟨l[i], by simp [hlt]⟩
     have hd : l.drop i = (xa, xs, xv, xp) :: l.drop (i + 1) := by
       rw [List.drop_eq_getElem_cons hlt]
       have := (List.getElem?_eq_some_iff.1 hx).2
       rw [this]
     have hxm : imM (xa, xs, xv, xp) := hm.2 _ (List.mem_of_getElem? hx)
     have hC := imc_eq hxm
     rw [hd, chF] at hE
     have f1 := any_take (p := fun y => decide (y.1 = 1)) hx
     have f3 := any_take (p := fun y => decide (y.1 = 3)) hx
     simp only at f1 f3
     by_cases hz : chkI (xa, xs, xv, xp) = 0
     · rw [if_neg (by omega)] at hE
       rw [hz] at hC
       by_cases hi0 : i = 0
       · subst hi0
         rw [if_neg (fun h => h.1 (by simp)), if_neg (by simp)] at hE
         have ht : l.take 0 ++ [(xa, xs, xv, xp)] = l.take (0 + 1) := by rw [List.take_add_one, hx]; rfl
         rw [ht] at hE
         have z1 : (l.take 0).any (fun y => decide (y.1 = 1)) = false := rfl
         have z3 : (l.take 0).any (fun y => decide (y.1 = 3)) = false := rfl
         rw [z1, Bool.false_or] at f1
         rw [z3, Bool.false_or] at f3
         rw [z1, z3]
         simp (disch := omega) only [go_sem, ↓reduceIte, Nat.reduceAdd, Nat.reduceEqDiff, Nat.reduceLeDiff, Int.reduceLE, reduceCtorEq, ac_ref25_Chain_L0, imT_def, hx, h1, hC]
         repeat refine And.intro rfl ?_
         refine loop_fuel 1 ?_
         by_cases q1 : xa = 1
         · subst q1
           rw [decide_eq_true rfl] at f1
           rw [decide_eq_false (by decide)] at f3
           simp (disch := omega) only [go_sem, ↓reduceIte, Nat.reduceAdd, Nat.reduceEqDiff, Nat.reduceLeDiff, Int.reduceLT, Int.reduceLE, Int.reduceAdd, reduceCtorEq, loopN_succ, ac_ref25_Chain_L1, imT_def, hx, h1]
           repeat refine And.intro rfl ?_
           refine ⟨hlt, hE, Weak.rd id ?_ ?_ rfl⟩
           all_goals simp (disch := omega) only [go_sem, ↓reduceIte, Nat.reduceEqDiff, reduceCtorEq, id, f1, f3]
         · rw [decide_eq_false q1] at f1
           have q1b : (xa == 1) = false := by simpa using q1
           by_cases q3 : xa = 3
           · subst q3
             rw [decide_eq_true rfl] at f3
             simp (disch := omega) only [go_sem, ↓reduceIte, Nat.reduceAdd, Nat.reduceEqDiff, Nat.reduceLeDiff, Int.reduceLT, Int.reduceLE, Int.reduceAdd, reduceCtorEq, loopN_succ, ac_ref25_Chain_L1, imT_def, hx, h1, q1b]
             repeat refine And.intro rfl ?_
             refine ⟨hlt, hE, Weak.rd id ?_ ?_ rfl⟩
             all_goals simp (disch := omega) only [go_sem, ↓reduceIte, Nat.reduceEqDiff, reduceCtorEq, id, f1, f3]
           · rw [decide_eq_false q3] at f3
             have q3b : (xa == 3) = false := by simpa using q3
             simp (disch := omega) only [go_sem, ↓reduceIte, Nat.reduceAdd, Nat.reduceEqDiff, Nat.reduceLeDiff, Int.reduceLT, Int.reduceLE, Int.reduceAdd, reduceCtorEq, loopN_succ, ac_ref25_Chain_L1, imT_def, hx, h1, q1b, q3b]
             repeat refine And.intro rfl ?_
             refine ⟨hlt, hE, Weak.rd id ?_ ?_ rfl⟩
             all_goals simp (disch := omega) only [go_sem, ↓reduceIte, Nat.reduceEqDiff, reduceCtorEq, id, f1, f3]
       · obtain ⟨⟨ya, ys, yv, yp⟩, hy⟩ : ∃ y, l[i - 1]? = some y := ⟨l[i - 1], by simp⟩
         have hi1 : ((i : Int) - 1) = ((i - 1 : Nat) : Int) := by omega
         have hla := lastD (d := (0, [], 0, [])) hy
         rw [show i - 1 + 1 = i by omega] at hla
         have hne : l.take i ≠ [] := by
           intro h
           have := congrArg List.length h
           simp only [List.length_take, List.length_nil] at this
           omega
         have hgt : 0 < (i : Int) := by omega
         rw [hla] at hE
         by_cases ho : xa < ya
         · rw [if_pos ⟨hne, ho⟩] at hE
           rw [← hE]
           simp (disch := omega) only [go_sem, ↓reduceIte, Nat.reduceAdd, Nat.reduceEqDiff, Nat.reduceLeDiff, reduceCtorEq, ac_ref25_Chain_L0, imT_def, hx, hy, h1, hC, hgt, hi1, ho]
           all_goals rfl
         · rw [if_neg (fun h => ho h.2)] at hE
           have hE' : (if isD (l.take i) (xa, xs, xv, xp) = true then 42 else chF (l.take i ++ [(xa, xs, xv, xp)]) (l.drop (i + 1))) = chF [] l := hE
           have ht : l.take i ++ [(xa, xs, xv, xp)] = l.take (i + 1) := by rw [List.take_add_one, hx]; rfl
           rw [ht] at hE'
           generalize (l.take i).any (fun y => decide (y.1 = 1)) = b1 at *
           generalize (l.take i).any (fun y => decide (y.1 = 3)) = b3 at *
           simp (disch := omega) only [go_sem, ↓reduceIte, Nat.reduceAdd, Nat.reduceEqDiff, Nat.reduceLeDiff, reduceCtorEq, ac_ref25_Chain_L0, imT_def, hx, hy, h1, hC, hgt, hi1, ho]
           repeat refine And.intro rfl ?_
           refine loop_uptoP i (fun k => isD (l.take k) (xa, xs, xv, xp) = false) (fun k => [(0, .t (.sl (l.map imT))), (3, .t (.bool b1)), (4, .t (.bool b3)), (5, .t (.int .i64 (i : Nat))), (7, .t (.int .i64 (k : Nat)))]) (fun _ => []) rfl ?_ (fun k hk hP => ?_)
           · refine Weak.rd id ?_ ?_ rfl
             all_goals simp (disch := omega) only [go_sem, ↓reduceIte, Nat.reduceEqDiff, reduceCtorEq, id]
           · by_cases hkl : k < i
             · obtain ⟨⟨za, zs, zv, zp⟩, hzk⟩ : ∃ z, l[k]? = some z := ⟨l[k], by simp⟩
               have hst := isD_take (x := (xa, xs, xv, xp)) hzk
               rw [hP, Bool.false_or] at hst
               simp only at hst
               by_cases q1 : za = xa
               · subst q1
                 by_cases q2 : zs = xs
                 · subst q2
                   have hd2 := isD_at (x := (za, zs, xv, xp)) hzk hkl rfl rfl
                   rw [hd2, if_pos rfl] at hE'
                   rw [← hE']
                   simp (disch := omega) only [go_sem, ↓reduceIte, Nat.reduceAdd, Nat.reduceEqDiff, Nat.reduceLeDiff, reduceCtorEq, ac_ref25_Chain_L1, imT_def, hx, hzk, beq_self_eq_true]
                   all_goals rfl
                 · rw [decide_eq_true rfl, decide_eq_false q2] at hst
                   have q2b : decide (zs = xs) = false := decide_eq_false q2
                   simp (disch := omega) only [go_sem, ↓reduceIte, Nat.reduceAdd, Nat.reduceEqDiff, Nat.reduceLeDiff, reduceCtorEq, ac_ref25_Chain_L1, imT_def, hx, hzk, beq_self_eq_true, q2b]
                   repeat refine And.intro rfl ?_
                   refine ⟨hkl, hst, Weak.rd id ?_ ?_ rfl⟩
                   all_goals simp (disch := omega) only [go_sem, ↓reduceIte, Nat.reduceEqDiff, reduceCtorEq, id]
               · rw [decide_eq_false q1, Bool.false_and] at hst
                 have q1b : (za == xa) = false := by simpa using q1
                 simp (disch := omega) only [go_sem, ↓reduceIte, Nat.reduceAdd, Nat.reduceEqDiff, Nat.reduceLeDiff, reduceCtorEq, ac_ref25_Chain_L1, imT_def, hx, hzk, q1b]
                 repeat refine And.intro rfl ?_
                 refine ⟨hkl, hst, Weak.rd id ?_ ?_ rfl⟩
                 all_goals simp (disch := omega) only [go_sem, ↓reduceIte, Nat.reduceEqDiff, reduceCtorEq, id]
             · have e : k = i := by omega
               subst e
               rw [hP, if_neg (by decide)] at hE'
               by_cases q1 : xa = 1
               · subst q1
                 rw [decide_eq_true rfl, Bool.or_true] at f1
                 rw [decide_eq_false (by decide), Bool.or_false] at f3
                 cases b1 <;> cases b3
                 all_goals simp (disch := omega) only [go_sem, ↓reduceIte, Nat.reduceAdd, Nat.reduceEqDiff, Nat.reduceLeDiff, reduceCtorEq, ac_ref25_Chain_L1, imT_def, hx]
                 all_goals repeat refine And.intro rfl ?_
                 all_goals refine ⟨hlt, hE', Weak.rd id ?_ ?_ rfl⟩
                 all_goals simp (disch := omega) only [go_sem, ↓reduceIte, Nat.reduceEqDiff, reduceCtorEq, id, f1, f3]
               · rw [decide_eq_false q1, Bool.or_false] at f1
                 have q1b : (xa == 1) = false := by simpa using q1
                 by_cases q3 : xa = 3
                 · subst q3
                   rw [decide_eq_true rfl, Bool.or_true] at f3
                   cases b1 <;> cases b3
                   all_goals simp (disch := omega) only [go_sem, ↓reduceIte, Nat.reduceAdd, Nat.reduceEqDiff, Nat.reduceLeDiff, reduceCtorEq, ac_ref25_Chain_L1, imT_def, hx, q1b]
                   all_goals repeat refine And.intro rfl ?_
                   all_goals refine ⟨hlt, hE', Weak.rd id ?_ ?_ rfl⟩
                   all_goals simp (disch := omega) only [go_sem, ↓reduceIte, Nat.reduceEqDiff, reduceCtorEq, id, f1, f3]
                 · rw [decide_eq_false q3, Bool.or_false] at f3
                   have q3b : (xa == 3) = false := by simpa using q3
                   cases b1 <;> cases b3
                   all_goals simp (disch := omega) only [go_sem, ↓reduceIte, Nat.reduceAdd, Nat.reduceEqDiff, Nat.reduceLeDiff, reduceCtorEq, ac_ref25_Chain_L1, imT_def, hx, q1b, q3b]
                   all_goals repeat refine And.intro rfl ?_
                   all_goals refine ⟨hlt, hE', Weak.rd id ?_ ?_ rfl⟩
                   all_goals simp (disch := omega) only [go_sem, ↓reduceIte, Nat.reduceEqDiff, reduceCtorEq, id, f1, f3]
     · rw [if_pos hz] at hE
       rw [← hE]
       have hz' : (chkI (xa, xs, xv, xp) != 0) = true := by simpa using hz
       simp (disch := omega) only [go_sem, ↓reduceIte, Nat.reduceAdd, Nat.reduceEqDiff, Nat.reduceLeDiff, reduceCtorEq, ac_ref25_Chain_L0, imT_def, hx, h1, hC, hz']
   · have e : i = l.length := by omega
     subst e
     rw [List.take_length, List.drop_length, chF] at hE
     rw [← hE]
     rw [List.take_length]
     cases ha1 : l.any (fun y => decide (y.1 = 1)) <;> cases ha3 : l.any (fun y => decide (y.1 = 3))
     all_goals simp (disch := omega) only [go_sem, ↓reduceIte, Nat.reduceAdd, Nat.reduceEqDiff, reduceCtorEq, ac_ref25_Chain_L0]
theorem evT_c {e : Ev} : (V.t (evT e)).cells.length = 4 := rfl
theorem evT_p {e : Ev} : (V.t (evT e)).plain = true := rfl
theorem evT_tc {e : Ev} : (evT e).cells.length = 4 := rfl
theorem evT_agg {e : Ev} : T.agg (List.take 4 (evT e).cells) = evT e := rfl
theorem evT_all {e : Ev} : allT (List.take 4 (V.t (evT e)).cells) = some (List.take 4 (evT e).cells) := rfl
theorem makeO {r k act : Int} {d : List UInt8} (h : (0 ≤ act ∧ act < 4) ∧ d.length < 1000000000) : ct_make.fs [.t (.int .i64 r), .t (.int .i64 k), .t (.int .i64 act), .t (.sl (d.map byteT))] [] = some (.t (evT (mkE r k act d)), []) := ct_make.eq (r, k, act, d) h
def ct_evI : Ct where
 α := List Im × Int
 as x := [.t (.sl (x.1.map imT)), .t (.int .i64 x.2)]
 ins _ := []
 pre x := imsM x.1
 r x := .t (.sl ((evsI x.1 x.2).map evT))
 outs _ := []
 inj := by
   rintro ⟨a, b⟩ ⟨c, d⟩ h _
   simp only [List.cons.injEq, V.t.injEq, T.sl.injEq, T.int.injEq, true_and, and_true, mapI_inj] at h
   obtain ⟨rfl, rfl⟩ := h
   exact ⟨rfl, rfl⟩
theorem evI_eq {l : List Im} {act : Int} (h : imsM l) : ct_evI.fs [.t (.sl (l.map imT)), .t (.int .i64 act)] [] = some (.t (.sl ((evsI l act).map evT)), []) := ct_evI.eq (l, act) h
def outE (act : Int) (l : List Im) : Nat → List Ev
 | 0 => []
 | 1 => evsR act 1 l
 | 2 => evsR act 1 l ++ evsR act 2 l
 | 3 => (evsR act 1 l ++ evsR act 2 l) ++ seps act ++ evsR act 3 l
 | _ => evsC act l
theorem evsR_take {act r : Int} {l : List Im} {x : Im} {i : Nat} (h : l[i]? = some x) : evsR act r (l.take (i + 1)) = evsR act r (l.take i) ++ (if x.1 = r then (if r = 4 then (lnL x.2.2.2).map (mkE 9 3 act) else [ofI x act]) else []) := by
 unfold evsR
 rw [List.take_add_one, h, List.filter_append, List.flatMap_append]
 congr 1
 by_cases hx : x.1 = r <;> simp [List.filter_cons, hx]
theorem evsR_le {act r : Int} {l : List Im} : (evsR act r l).length ≤ l.length * 4 := Nat.le_trans evsR_len (Nat.mul_le_mul_right _ (List.length_filter_le _ _))
theorem map_take_s {α γ : Type} {f : α → γ} {l : List α} {k : Nat} {x : α} (h : l[k]? = some x) : (l.take (k + 1)).map f = (l.take k).map f ++ [f x] := by
 rw [List.take_add_one, h]; simp
def sepN (act : Int) (p : List UInt8) (k : Nat) : List Ev := (List.range k).map fun (i : Nat) => mkE (i : Int) 2 act p
theorem sepN_s {act : Int} {p : List UInt8} {k : Nat} : sepN act p (k + 1) = sepN act p k ++ [mkE (k : Int) 2 act p] := by unfold sepN; rw [List.range_succ, List.map_append]; rfl
theorem sepN_len {act : Int} {p : List UInt8} {k : Nat} : (sepN act p k).length = k := by simp [sepN]
theorem w_ref25_Events (tab : Tab) (gl : Gl) (n1 n2 n3 n4 n5 : Nat) (h1 : tab.look n1 = some ct_chc.fs) (h2 : tab.look n2 = some ct_sep.fs) (h3 : tab.look n3 = some ct_make.fs) (h4 : tab.look n4 = some ct_ofI.fs) (h5 : tab.look n5 = some ct_lns.fs) (l : List Im) (act : Int) (hm : imsM l) :
   (ac_ref25_Events n1 n2 n3 n4 n5).wp tab gl (zipF 0 [.t (.sl (l.map imT)), .t (.int .i64 act)]) (zipF 0 []) (resW [(4, none)] 0 (fun r o => r = .t (.sl ((evsI l act).map evT)) ∧ o = [])) := by
 have hC := chc_eq hm
 by_cases hz : chkC l = 0
 · rw [hz] at hC
   obtain ⟨hok, hl1, hl8⟩ := chkC_ok hz
   by_cases a1 : act < 1
   · have hr : evsI l act = [] := if_pos (.inr (.inl a1))
     rw [hr]
     simp (disch := omega) only [go_sem, ↓reduceIte, Nat.reduceAdd, Nat.reduceEqDiff, Nat.reduceLeDiff, reduceCtorEq, ac_ref25_Events, h1, hC, a1, List.map_nil]
   by_cases a3 : 3 < act
   · have hr : evsI l act = [] := if_pos (.inr (.inr a3))
     rw [hr]
     simp (disch := omega) only [go_sem, ↓reduceIte, Nat.reduceAdd, Nat.reduceEqDiff, Nat.reduceLeDiff, reduceCtorEq, ac_ref25_Events, h1, hC, a1, a3, List.map_nil]
   have hr : evsI l act = evsC act l := by unfold evsI; rw [if_neg (by omega)]
   rw [hr]
   have ha : 0 ≤ act ∧ act < 4 := by omega
   have b1 := evsR_le (act := act) (r := 1) (l := l)
   have b2 := evsR_le (act := act) (r := 2) (l := l)
   have b3 := evsR_le (act := act) (r := 3) (l := l)
   have b4 := evsR_le (act := act) (r := 4) (l := l)
   have bs := seps_len (act := act)
   have main : ∀ (i r : Nat), i < 4 → r = i + 1 → ∀ (base : List Ev), outE act l (i + 1) = base ++ evsR act r l → base.length ≤ 200 → ∀ (fs : Fs) (hs : Hs), Weak fs hs [(0, .t (.sl (l.map imT))), (1, .t (.int .i64 act)), (5, .sl 9000 0 base.length), (6, .t (.int .i64 r)), (8, .t (.int .i64 0))] [(9000, .live 4 ((base.map evT).map V.t) true false)] →
       loopW tab gl (ac_ref25_Events_L2 n4 n5 n3) fs hs (blockK 4 (blockK 1 (seqK tab gl (rG 28672 [mv 24 6, bN 25 .add 24 1, mv 6 25]) (upK 4 (fun i => [(0, .t (.sl (l.map imT))), (1, .t (.int .i64 act)), (5, .sl 9000 0 (outE act l i).length), (6, .t (.int .i64 ((i + 1 : Nat) : Int)))]) (fun i => [(9000, .live 4 (((outE act l i).map evT).map V.t) true false)]) i (blockK 0 (seqK tab gl ((rG 98304 [mv 83 5, mv 4 83]).seq AC.ret) (resW [(4, none)] 0 (fun r' o => r' = .t (.sl ((evsC act l).map evT)) ∧ o = [])))))))) := by
     intro i r hi hri base hb hbl fs hs hw
     refine loopW_weak hw ?_
     refine loop_upto l.length (fun j => [(0, .t (.sl (l.map imT))), (1, .t (.int .i64 act)), (5, .sl 9000 0 (base ++ evsR act r (l.take j)).length), (6, .t (.int .i64 r)), (8, .t (.int .i64 (j : Nat)))]) (fun j => [(9000, .live 4 (((base ++ evsR act r (l.take j)).map evT).map V.t) true false)]) ?_ (fun j hj => ?_)
     · have e0 : base ++ evsR act r (l.take 0) = base := by simp [evsR]
       simp only [e0]
       exact Weak.refl
     · have bj := evsR_le (act := act) (r := r) (l := l.take j)
       have bl : (base ++ evsR act r (l.take j)).length ≤ 300 := by
         rw [List.length_append]
         simp only [List.length_take] at bj
         omega
       by_cases hlt : j < l.length
       · obtain ⟨⟨xa, xs, xv, xp⟩, hx⟩ : ∃ x, l[j]? = some x := ⟨l[j], by simp [hlt]⟩
         have hxm : imM (xa, xs, xv, xp) := hm.2 _ (List.mem_of_getElem? hx)
         have hst := evsR_take (act := act) (r := r) hx
         simp only at hst
         have hO : base ++ evsR act r (l.take (j + 1)) = (base ++ evsR act r (l.take j)) ++ (if xa = (r : Int) then (if (r : Int) = 4 then (lnL xp).map (mkE 9 3 act) else [ofI (xa, xs, xv, xp) act]) else []) := by rw [hst, List.append_assoc]
         generalize base ++ evsR act r (l.take j) = L at *
         by_cases q : xa = (r : Int)
         · subst q
           by_cases r4 : r = 4
           · subst r4
             rw [if_pos rfl, if_pos (by rfl)] at hO
             have hO : base ++ evsR act 4 (l.take (j + 1)) = L ++ (lnL xp).map (mkE 9 3 act) := hO
             have hN : ct_lns.fs [.t (.agg [.int .i64 4, strT xs, .int .i64 xv, .sl (xp.map byteT)])] [] = some (.t (.sl ((lnL xp).map bsT)), []) := lns_eq hxm
             have ll := lnL_len (p := xp)
             have le := lnL_el (p := xp)
             have lp := hxm.2.1
             simp only at lp
             generalize lnL xp = N at *
             simp (disch := omega) only [go_sem, ↓reduceIte, Nat.reduceAdd, Nat.reduceEqDiff, Nat.reduceLeDiff, reduceCtorEq, ac_ref25_Events_L2, imT_def, hx, h5, hN, bne_self_eq_false]
             repeat refine And.intro rfl ?_
             refine loop_upto N.length (fun k => [(0, .t (.sl (l.map imT))), (1, .t (.int .i64 act)), (5, .sl 9000 0 (L ++ (N.take k).map (mkE 9 3 act)).length), (6, .t (.int .i64 4)), (8, .t (.int .i64 (j : Nat))), (9, .t (.sl (N.map bsT))), (10, .t (.int .i64 (k : Nat)))]) (fun k => [(9000, .live 4 (((L ++ (N.take k).map (mkE 9 3 act)).map evT).map V.t) true false)]) ?_ (fun k hk => ?_)
             · have e0 : L ++ (N.take 0).map (mkE 9 3 act) = L := by simp
               simp only [e0]
               refine Weak.rd id ?_ ?_ rfl
               all_goals simp (disch := omega) only [go_sem, ↓reduceIte, Nat.reduceAdd, Nat.reduceEqDiff, reduceCtorEq, id]
             · have bk : (L ++ (N.take k).map (mkE 9 3 act)).length ≤ 400 := by simp; omega
               by_cases hkl : k < N.length
               · obtain ⟨s, hs⟩ : ∃ s, N[k]? = some s := ⟨N[k], by simp [hkl]⟩
                 have hsl := le s (List.mem_of_getElem? hs)
                 have hM := makeO (r := 9) (k := 3) (act := act) (d := s) ⟨ha, by omega⟩
                 have hT : L ++ (N.take (k + 1)).map (mkE 9 3 act) = (L ++ (N.take k).map (mkE 9 3 act)) ++ [mkE 9 3 act s] := by rw [map_take_s hs, List.append_assoc]
                 generalize L ++ (N.take k).map (mkE 9 3 act) = M at *
                 generalize mkE 9 3 act s = e at *
                 simp (disch := omega) only [go_sem, ↓reduceIte, Nat.reduceAdd, Nat.reduceEqDiff, Nat.reduceLT, Nat.reduceLeDiff, reduceCtorEq, ac_ref25_Events_L3, bsT_def, hs, h3, hM, evT_c, evT_p]
                 refine ⟨hkl, Weak.rd (fun j => if j = 9000 then 94336 else j) ?_ ?_ rfl⟩
                 all_goals simp (disch := omega) only [go_sem, ↓reduceIte, Nat.reduceAdd, Nat.reduceEqDiff, reduceCtorEq, id, hT]
                 all_goals (have hq := congrArg List.length hT; simp only [List.length_append, List.length_cons, List.length_nil, List.length_map, List.length_take, sepN_len] at hq ⊢; omega)
               · have e : k = N.length := by omega
                 subst e
                 rw [List.take_length]
                 simp (disch := omega) only [go_sem, ↓reduceIte, Nat.reduceAdd, Nat.reduceEqDiff, reduceCtorEq, ac_ref25_Events_L3]
                 refine ⟨hlt, Weak.rd id ?_ ?_ rfl⟩
                 all_goals simp (disch := omega) only [go_sem, ↓reduceIte, Nat.reduceAdd, Nat.reduceEqDiff, reduceCtorEq, id, hO]
                 all_goals (have hq := congrArg List.length hO; simp only [List.length_append, List.length_cons, List.length_nil, List.length_map, List.length_take, sepN_len] at hq ⊢; omega)
           · have hE : ct_ofI.fs [.t (.agg [.int .i64 (r : Int), strT xs, .int .i64 xv, .sl (xp.map byteT)]), .t (.int .i64 act)] [] = some (.t (evT (ofI ((r : Int), xs, xv, xp) act)), []) := ofI_eq (x := ((r : Int), xs, xv, xp)) ⟨hxm, ha⟩
             have r4i : ¬ (r : Int) = 4 := by omega
             have r4b : ((r : Int) != 4) = true := by simpa using r4i
             rw [if_pos rfl, if_neg r4i] at hO
             generalize ofI ((r : Int), xs, xv, xp) act = e at *
             simp (disch := omega) only [go_sem, ↓reduceIte, Nat.reduceAdd, Nat.reduceEqDiff, Nat.reduceLT, Nat.reduceLeDiff, reduceCtorEq, ac_ref25_Events_L2, imT_def, hx, bne_self_eq_false, r4b, h4, hE, evT_c, evT_p]
             repeat refine And.intro rfl ?_
             refine ⟨hlt, Weak.rd (fun j => if j = 9000 then 73856 else j) ?_ ?_ rfl⟩
             all_goals simp (disch := omega) only [go_sem, ↓reduceIte, Nat.reduceAdd, Nat.reduceEqDiff, reduceCtorEq, id, hO]
             all_goals (have hq := congrArg List.length hO; simp only [List.length_append, List.length_cons, List.length_nil, List.length_map, List.length_take, sepN_len] at hq ⊢; omega)
         · rw [if_neg q, List.append_nil] at hO
           have qb : (xa != (r : Int)) = true := by simpa using q
           simp (disch := omega) only [go_sem, ↓reduceIte, Nat.reduceAdd, Nat.reduceEqDiff, Nat.reduceLeDiff, reduceCtorEq, ac_ref25_Events_L2, imT_def, hx, qb]
           refine ⟨hlt, Weak.rd id ?_ ?_ rfl⟩
           all_goals simp (disch := omega) only [go_sem, ↓reduceIte, Nat.reduceAdd, Nat.reduceEqDiff, reduceCtorEq, id, hO]
           all_goals (have hq := congrArg List.length hO; simp only [List.length_append, List.length_cons, List.length_nil, List.length_map, List.length_take, sepN_len] at hq ⊢; omega)
       · have e : j = l.length := by omega
         subst e
         rw [List.take_length] at bl ⊢
         subst hri
         rw [← hb] at bl ⊢
         simp (disch := omega) only [go_sem, ↓reduceIte, Nat.reduceAdd, Nat.reduceEqDiff, reduceCtorEq, ac_ref25_Events_L2]
         refine ⟨hi, Weak.rd id ?_ ?_ rfl⟩
         all_goals simp (disch := omega) only [go_sem, ↓reduceIte, Nat.reduceAdd, Nat.reduceEqDiff, reduceCtorEq, id]
   simp (disch := omega) only [go_sem, ↓reduceIte, Nat.reduceAdd, Nat.reduceEqDiff, Nat.reduceLeDiff, reduceCtorEq, ac_ref25_Events, h1, hC, a1, a3]
   refine loop_upto 4 (fun i => [(0, .t (.sl (l.map imT))), (1, .t (.int .i64 act)), (5, .sl 9000 0 (outE act l i).length), (6, .t (.int .i64 ((i + 1 : Nat) : Int)))]) (fun i => [(9000, .live 4 (((outE act l i).map evT).map V.t) true false)]) ?_ (fun i hi => ?_)
   · refine Weak.cv0 (hv := [(9000, .live 4 [] true false)]) (ho := []) id ?_ ?_ rfl rfl
     all_goals simp (disch := omega) only [go_sem, ↓reduceIte, Nat.reduceEqDiff, reduceCtorEq, id, outE]
   · rcases (show i = 0 ∨ i = 1 ∨ i = 2 ∨ i = 3 ∨ i = 4 by omega) with rfl | rfl | rfl | rfl | rfl
     · have hb : outE act l 0 = [] := rfl
       rw [hb]
       simp (disch := omega) only [go_sem, ↓reduceIte, Nat.reduceAdd, Nat.reduceEqDiff, Int.reduceLE, reduceCtorEq, ac_ref25_Events_L0]
       refine main 0 1 (by omega) rfl [] (by simp [outE]) (by simp) _ _ (Weak.rd id ?_ ?_ rfl)
       all_goals simp (disch := omega) only [go_sem, ↓reduceIte, Nat.reduceAdd, Nat.reduceEqDiff, reduceCtorEq, id]
     · have hb : outE act l 1 = evsR act 1 l := rfl
       rw [hb]
       simp (disch := omega) only [go_sem, ↓reduceIte, Nat.reduceEqDiff, Int.reduceLE, reduceCtorEq, ac_ref25_Events_L0]
       refine main 1 2 (by omega) rfl (evsR act 1 l) (by simp [outE]) (by omega) _ _ (Weak.rd id ?_ ?_ rfl)
       all_goals simp (disch := omega) only [go_sem, ↓reduceIte, Nat.reduceAdd, Nat.reduceEqDiff, reduceCtorEq, id]
     · have hb : outE act l 2 = evsR act 1 l ++ evsR act 2 l := rfl
       have h3' : outE act l 3 = ((evsR act 1 l ++ evsR act 2 l) ++ seps act) ++ evsR act 3 l := rfl
       have lb : (evsR act 1 l ++ evsR act 2 l).length ≤ 100 := by rw [List.length_append]; omega
       have hsp := sep_eq
       have l4 : sep4.length = 4 := rfl
       have t4 : List.take 4 sep4 = sep4 := rfl
       have hss : seps act = sepN act sep4 8 := rfl
       rw [hb]
       rw [hss] at h3'
       generalize evsR act 1 l ++ evsR act 2 l = S2 at *
       have hMk : ∀ k : Nat, _ := fun k => makeO (r := (k : Int)) (k := 2) (act := act) (d := sep4) ⟨ha, by rw [l4]; decide⟩
       generalize sep4 = P4 at *
       simp (disch := omega) only [go_sem, ↓reduceIte, Nat.reduceEqDiff, Int.reduceLE, reduceCtorEq, ac_ref25_Events_L0]
       refine loop_upto 8 (fun k => [(0, .t (.sl (l.map imT))), (1, .t (.int .i64 act)), (5, .sl 9000 0 (S2 ++ sepN act P4 k).length), (6, .t (.int .i64 3)), (7, .t (.int .i64 (k : Nat)))]) (fun k => [(9000, .live 4 (((S2 ++ sepN act P4 k).map evT).map V.t) true false)]) ?_ (fun k hk => ?_)
       · have e0 : S2 ++ sepN act P4 0 = S2 := by simp [sepN]
         simp only [e0]
         refine Weak.rd id ?_ ?_ rfl
         all_goals simp (disch := omega) only [go_sem, ↓reduceIte, Nat.reduceAdd, Nat.reduceEqDiff, reduceCtorEq, id]
       · have bk : (S2 ++ sepN act P4 k).length ≤ 200 := by rw [List.length_append, sepN_len]; omega
         by_cases hkl : k < 8
         · have hM := hMk k
           have hT : S2 ++ sepN act P4 (k + 1) = (S2 ++ sepN act P4 k) ++ [mkE (k : Int) 2 act P4] := by rw [sepN_s, List.append_assoc]
           generalize S2 ++ sepN act P4 k = M at *
           generalize mkE (k : Int) 2 act P4 = e at *
           simp (disch := omega) only [go_sem, ↓reduceIte, Nat.reduceAdd, Nat.reduceEqDiff, Nat.reduceLT, Nat.reduceLeDiff, reduceCtorEq, ac_ref25_Events_L1, h2, hsp, l4, t4, h3, hM, evT_c, evT_p]
           refine ⟨hkl, Weak.rd (fun j => if j = 9000 then 49248 else j) ?_ ?_ rfl⟩
           all_goals simp (disch := omega) only [go_sem, ↓reduceIte, Nat.reduceAdd, Nat.reduceEqDiff, reduceCtorEq, id, hT]
           all_goals (have hq := congrArg List.length hT; simp only [List.length_append, List.length_cons, List.length_nil, List.length_map, List.length_take, sepN_len] at hq ⊢; omega)
         · have e : k = 8 := by omega
           subst e
           simp (disch := omega) only [go_sem, ↓reduceIte, Nat.reduceAdd, Nat.reduceEqDiff, Int.reduceLT, reduceCtorEq, ac_ref25_Events_L1]
           refine main 2 3 (by omega) rfl _ h3' bk _ _ (Weak.rd id ?_ ?_ rfl)
           all_goals simp (disch := omega) only [go_sem, ↓reduceIte, Nat.reduceAdd, Nat.reduceEqDiff, reduceCtorEq, id]
     · have hb : outE act l 3 = (evsR act 1 l ++ evsR act 2 l) ++ seps act ++ evsR act 3 l := rfl
       have h4' : outE act l 4 = ((evsR act 1 l ++ evsR act 2 l) ++ seps act ++ evsR act 3 l) ++ evsR act 4 l := by simp [outE, evsC]
       have lb : ((evsR act 1 l ++ evsR act 2 l) ++ seps act ++ evsR act 3 l).length ≤ 200 := by simp only [List.length_append]; omega
       rw [hb]
       generalize (evsR act 1 l ++ evsR act 2 l) ++ seps act ++ evsR act 3 l = S3 at *
       simp (disch := omega) only [go_sem, ↓reduceIte, Nat.reduceEqDiff, Int.reduceLE, reduceCtorEq, ac_ref25_Events_L0]
       refine main 3 4 (by omega) rfl S3 h4' lb _ _ (Weak.rd id ?_ ?_ rfl)
       all_goals simp (disch := omega) only [go_sem, ↓reduceIte, Nat.reduceAdd, Nat.reduceEqDiff, reduceCtorEq, id]
     · have hb : outE act l 4 = evsC act l := rfl
       rw [hb]
       simp (disch := omega) only [go_sem, ↓reduceIte, Nat.reduceEqDiff, Nat.reduceLeDiff, Int.reduceLE, reduceCtorEq, ac_ref25_Events_L0, List.take_length]
 · have hr : evsI l act = [] := if_pos (.inl hz)
   rw [hr]
   have hz' : (chkC l != 0) = true := by simpa using hz
   simp (disch := omega) only [go_sem, ↓reduceIte, Nat.reduceAdd, Nat.reduceEqDiff, Nat.reduceLeDiff, reduceCtorEq, ac_ref25_Events, h1, hC, hz', List.map_nil]
end Go.Eng
end
section
namespace Go.Eng
def ac_replay_Registers_L0 (n_event_Check n_registers_Extend : Nat) : AC :=
 (.seq
 (rG 24576 [bT 24 .lss 23 22])
 (.seq
 (.cond (.tmp 24)
 .skip
 (.exit 0))
 (.seq
 (.block 1
 (.seq
 (rG 28672 [oO 25 (.iaddr 4) [.tmp 21, .tmp 23],oO 26 (.load 4 true) [.tmp 25],oO 6 (.new 4 [(.agg [(.t (.int .i64 0)), (.t (.int .i64 0)), .nil, .nil])]) [],oS 4 6 26])
 (.seq
 (rG 32768 [oO 27 (.load 4 true) [.tmp 6],oO 28 (.faddr 0) [.tmp 1],oO 29 (.load 1 false) [.tmp 28],cL 30 n_event_Check false [.tmp 27, .tmp 29],mv 7 30])
 (.seq
 (.seq
 (rG 36864 [mv 31 7,bN 32 .eql 31 0,mv 33 32,oG 34 33 (.faddr 1) [.tmp 6],oG 35 33 (.load 1 false) [.tmp 34],oG 36 33 (.bin .neq) [.tmp 35, .cst (.t (.int .i64 5))],oO 37 .pick [.tmp 33, .tmp 36, .cst (.t (.bool false))]])
 (.cond (.tmp 37)
 (rG 40960 [oO 39 (.load 2 true) [.tmp 4],oO 40 (.faddr 0) [.tmp 6],oO 41 (.load 1 false) [.tmp 40],oO 42 (.faddr 2) [.tmp 6],oO 43 (.load 1 false) [.tmp 42],cL 44 n_registers_Extend true [.tmp 39, .cst (.t (.int .i64 0)), .tmp 41, .tmp 43],mv 38 44,oO 45 (.extract 0) [.tmp 38],oO 46 (.extract 1) [.tmp 38],oS 2 4 45,mv 7 46])
 .skip))
 (.seq
 (rG 45056 [mv 47 7,bN 48 .neq 47 0])
 (.cond (.tmp 48)
 (.seq
 (rG 49152 [oO 49 (.build [.nil, (.t (.int .i64 0))] []) [],mv 50 7,oS 2 2 49,mv 3 50])
 .ret)
 .skip))))))
 (rG 53248 [bN 51 .add 23 1,mv 23 51]))))
def ac_replay_Registers (n_registers_New n_event_Check n_registers_Extend : Nat) : AC :=
 (.seq
 (rG 4096 [oO 1 .box [.tmp 0],oO 2 (.new 2 [(.agg [.nil, (.t (.int .i64 0))])]) [],mC 3 (.t (.int .i64 0))])
 (.seq
 (.seq
 (rG 8192 [oO 8 (.faddr 0) [.tmp 1],oO 9 (.load 1 false) [.tmp 8],bN 10 .lss 9 1,mv 11 10,oF 12 11 (.faddr 0) [.tmp 1],oF 13 11 (.load 1 false) [.tmp 12],oF 14 11 (.bin .gtr) [.tmp 13, .cst (.t (.int .i64 3))],oO 15 .pick [.tmp 11, .cst (.t (.bool true)), .tmp 14]])
 (.cond (.tmp 15)
 (.seq
 (rG 12288 [oO 16 (.build [.nil, (.t (.int .i64 0))] []) [],oS 2 2 16,mC 3 (.t (.int .i64 1))])
 .ret)
 .skip))
 (.seq
 (rG 16384 [oO 17 (.faddr 0) [.tmp 1],oO 18 (.load 1 false) [.tmp 17],cL 19 n_registers_New true [.tmp 18],oO 4 (.new 2 [(.agg [.nil, (.t (.int .i64 0))])]) [],oS 2 4 19])
 (.seq
 (.seq
 (rG 20480 [oO 20 (.faddr 2) [.tmp 1],oO 21 (.load 1 false) [.tmp 20],oO 22 .len [.tmp 21],mC 23 (.t (.int .i64 0))])
 (.block 0
 (.loop (ac_replay_Registers_L0 n_event_Check n_registers_Extend))))
 (.seq
 (rG 57344 [oO 52 (.load 2 true) [.tmp 4],oS 2 2 52,mC 3 (.t (.int .i64 0))])
 .ret)))))
def hints_replay_Registers : List (Nat × List Nat) := [(3, [2]), (9, [5])]
def ac_replay_Digest (n_replay_Registers n_registers_Digest : Nat) : AC :=
 (.seq
 (rG 4096 [oO 2 .box [.tmp 0],oO 3 .boxArr [.tmp 1],mC 4 .nil,mC 5 (.t (.int .i64 0))])
 (.seq
 (rG 8192 [oO 9 (.load 3 true) [.tmp 2],cL 10 n_replay_Registers true [.tmp 9],mv 8 10,oO 11 (.extract 0) [.tmp 8],oO 12 (.extract 1) [.tmp 8],oO 6 (.new 2 [(.agg [.nil, (.t (.int .i64 0))])]) [],oS 2 6 11,mv 7 12])
 (.seq
 (.seq
 (rG 12288 [mv 13 7,bN 14 .neq 13 0])
 (.cond (.tmp 14)
 (.seq
 (rG 16384 [mv 15 7,mC 4 .nil,mv 5 15])
 .ret)
 .skip))
 (.seq
 (rG 20480 [oO 16 (.load 2 true) [.tmp 6],oO 17 (.load 2 true) [.tmp 3],cL 18 n_registers_Digest false [.tmp 16, .tmp 17],oO 19 (.extract 0) [.tmp 18],oO 20 (.extract 1) [.tmp 18],mv 4 19,mv 5 20])
 .ret))))
def hints_replay_Digest : List (Nat × List Nat) := [(1, [1])]
def ac_replay_same_L0 (n_registers_Value n_bytes_Equal : Nat) : AC :=
 (.seq
 (rG 16384 [bN 16 .lss 15 2])
 (.seq
 (.cond (.tmp 16)
 .skip
 (.exit 0))
 (.seq
 (.block 1
 (.seq
 (rG 20480 [mv 17 15,mv 11 17])
 (.seq
 (.seq
 (rG 24576 [mv 18 2,mv 19 11,bT 20 .shr 18 19,bN 21 .and 20 1,bN 22 .eql 21 0])
 (.cond (.tmp 22)
 (.exit 1)
 .skip))
 (.seq
 (rG 28672 [oO 24 (.load 2 true) [.tmp 5],mv 25 11,mv 26 3,cL 27 n_registers_Value true [.tmp 24, .tmp 25, .tmp 26],mv 23 27,oO 28 (.extract 0) [.tmp 23],oO 29 (.extract 1) [.tmp 23],mv 12 28,mv 13 29])
 (.seq
 (.seq
 (rG 32768 [mv 30 13,bN 31 .neq 30 0])
 (.cond (.tmp 31)
 (.seq
 (rG 36864 [mv 32 13,mC 8 (.t (.bool false)),mv 9 32])
 .ret)
 .skip))
 (.seq
 (rG 40960 [oO 34 (.load 2 true) [.tmp 4],mv 35 11,mv 36 3,cL 37 n_registers_Value true [.tmp 34, .tmp 35, .tmp 36],mv 33 37,oO 38 (.extract 0) [.tmp 33],oO 39 (.extract 1) [.tmp 33],mv 14 38,mv 13 39])
 (rG 45056 [mv 40 10,mv 41 40,mG 42 13 41,oG 43 41 (.bin .eql) [.tmp 42, .cst (.t (.int .i64 0))],oO 44 .pick [.tmp 41, .tmp 43, .cst (.t (.bool false))],mv 45 44,mG 46 12 45,mG 47 14 45,cG 48 45 n_bytes_Equal false [.tmp 46, .tmp 47],oO 49 .pick [.tmp 45, .tmp 48, .cst (.t (.bool false))],mv 10 49])))))))
 (rG 49152 [bN 50 .add 15 1,mv 15 50]))))
def ac_replay_same (n_registers_Value n_bytes_Equal : Nat) : AC :=
 (.seq
 (rG 4096 [oO 4 .box [.tmp 0],oO 5 .box [.tmp 1],mC 8 (.t (.bool false)),mC 9 (.t (.int .i64 0))])
 (.seq
 (rG 8192 [mC 10 (.t (.bool true))])
 (.seq
 (.seq
 (rG 12288 [mC 15 (.t (.int .i64 0))])
 (.block 0
 (.loop (ac_replay_same_L0 n_registers_Value n_bytes_Equal))))
 (.seq
 (rG 53248 [mv 51 10,mv 8 51,mC 9 (.t (.int .i64 0))])
 .ret))))
def hints_replay_same : List (Nat × List Nat) := [(6, [3]), (9, [3])]
def ac_replay_reached_L0 (n_registers_Extend n_replay_same : Nat) : AC :=
 (.seq
 (.seq
 (rG 32768 [mv 27 8,oO 28 (.un .not) [.tmp 27],mv 29 28,mG 30 11 29,oG 31 29 (.faddr 2) [.tmp 3],oG 32 29 (.load 1 false) [.tmp 31],oG 33 29 .len [.tmp 32],oG 34 29 (.bin .lss) [.tmp 30, .tmp 33],oO 35 .pick [.tmp 29, .tmp 34, .cst (.t (.bool false))]])
 (.cond (.tmp 35)
 .skip
 (.exit 0)))
 (.seq
 (.block 1
 (.seq
 (rG 40960 [oO 38 (.faddr 2) [.tmp 3],oO 39 (.load 1 false) [.tmp 38],mv 40 11,oO 41 (.iaddr 4) [.tmp 39, .tmp 40],oO 42 (.load 4 true) [.tmp 41],oO 12 (.new 4 [(.agg [(.t (.int .i64 0)), (.t (.int .i64 0)), .nil, .nil])]) [],oS 4 12 42])
 (.seq
 (rG 45056 [oO 43 (.faddr 1) [.tmp 12],oO 44 (.load 1 false) [.tmp 43],bN 45 .neq 44 5,mv 46 45,oG 47 46 (.faddr 0) [.tmp 12],oG 48 46 (.load 1 false) [.tmp 47],mG 49 2 46,oG 50 46 (.bin .eql) [.tmp 48, .tmp 49],oO 51 .pick [.tmp 46, .tmp 50, .cst (.t (.bool false))]])
 (.cond (.tmp 51)
 (.seq
 (rG 49152 [oO 53 (.load 2 true) [.tmp 7],mv 54 2,oO 55 (.faddr 2) [.tmp 12],oO 56 (.load 1 false) [.tmp 55],cL 57 n_registers_Extend true [.tmp 53, .cst (.t (.int .i64 0)), .tmp 54, .tmp 56],mv 52 57,oO 58 (.extract 0) [.tmp 52],oO 59 (.extract 1) [.tmp 52],oS 2 7 58])
 (.seq
 (rG 53248 [mv 60 10,bN 61 .add 60 1,mv 10 61])
 (rG 57344 [oO 63 (.load 2 true) [.tmp 7],oO 64 (.load 2 true) [.tmp 4],oO 65 (.faddr 0) [.tmp 3],oO 66 (.load 1 false) [.tmp 65],mv 67 2,cL 68 n_replay_same false [.tmp 63, .tmp 64, .tmp 66, .tmp 67],mv 62 68,oO 69 (.extract 0) [.tmp 62],oO 70 (.extract 1) [.tmp 62],mv 8 69])))
 .skip))))
 (rG 36864 [mv 36 11,bN 37 .add 36 1,mv 11 37])))
def ac_replay_reached (n_registers_New n_replay_same n_registers_Extend : Nat) : AC :=
 (.seq
 (rG 4096 [oO 3 .box [.tmp 0],oO 4 .box [.tmp 1],mC 6 (.t (.int .i64 0))])
 (.seq
 (rG 8192 [oO 13 (.faddr 0) [.tmp 3],oO 14 (.load 1 false) [.tmp 13],cL 15 n_registers_New true [.tmp 14],oO 7 (.new 2 [(.agg [.nil, (.t (.int .i64 0))])]) [],oS 2 7 15])
 (.seq
 (rG 12288 [oO 17 (.load 2 true) [.tmp 7],oO 18 (.load 2 true) [.tmp 4],oO 19 (.faddr 0) [.tmp 3],oO 20 (.load 1 false) [.tmp 19],mv 21 2,cL 22 n_replay_same false [.tmp 17, .tmp 18, .tmp 20, .tmp 21],mv 16 22,oO 23 (.extract 0) [.tmp 16],oO 24 (.extract 1) [.tmp 16],mv 8 23,mv 9 24])
 (.seq
 (.seq
 (rG 16384 [mv 25 9,bN 26 .neq 25 0])
 (.cond (.tmp 26)
 (.seq
 (rG 20480 [mC 6 (.t (.int .i64 (-1)))])
 .ret)
 .skip))
 (.seq
 (rG 24576 [mC 10 (.t (.int .i64 0))])
 (.seq
 (.seq
 (rG 28672 [mC 11 (.t (.int .i64 0))])
 (.block 0
 (.loop (ac_replay_reached_L0 n_registers_Extend n_replay_same))))
 (.seq
 (.seq
 (rG 61440 [mv 71 8,oO 72 (.un .not) [.tmp 71]])
 (.cond (.tmp 72)
 (.seq
 (rG 65536 [mC 6 (.t (.int .i64 (-1)))])
 .ret)
 .skip))
 (.seq
 (rG 69632 [mv 73 10,mv 6 73])
 .ret))))))))
def hints_replay_reached : List (Nat × List Nat) := [(1, [2]), (11, [4])]
def ac_replay_Reached (n_replay_Registers n_replay_reached : Nat) : AC :=
 (.seq
 (rG 4096 [oO 3 .box [.tmp 0],oO 4 .box [.tmp 1],mC 6 (.t (.int .i64 0))])
 (.seq
 (.seq
 (rG 8192 [oO 10 (.load 3 true) [.tmp 3],cL 11 n_replay_Registers true [.tmp 10],mv 9 11,oO 12 (.extract 0) [.tmp 9],oO 13 (.extract 1) [.tmp 9],oO 7 (.new 2 [(.agg [.nil, (.t (.int .i64 0))])]) [],oS 2 7 12,mv 8 13])
 (.seq
 (rG 12288 [mv 14 8,bN 15 .neq 14 0,mv 16 15,mF 17 2 16,oF 18 16 (.bin .lss) [.tmp 17, .cst (.t (.int .i64 0))],oO 19 .pick [.tmp 16, .cst (.t (.bool true)), .tmp 18],mv 20 19,mF 21 2 20,oF 22 20 (.bin .geq) [.tmp 21, .cst (.t (.int .i64 12))],oO 23 .pick [.tmp 20, .cst (.t (.bool true)), .tmp 22]])
 (.cond (.tmp 23)
 (.seq
 (rG 16384 [mC 6 (.t (.int .i64 (-1)))])
 .ret)
 .skip)))
 (.seq
 (rG 20480 [oO 24 (.load 3 true) [.tmp 3],oO 25 (.load 2 true) [.tmp 4],mv 26 2,cL 27 n_replay_reached false [.tmp 24, .tmp 25, .tmp 26],mv 6 27])
 .ret)))
def hints_replay_Reached : List (Nat × List Nat) := [(1, [1])]
def ac_replay_First_L0 (n_replay_reached : Nat) : AC :=
 (.seq
 (rG 28672 [bN 20 .lss 19 12])
 (.seq
 (.cond (.tmp 20)
 .skip
 (.exit 0))
 (.seq
 (.block 1
 (.seq
 (rG 32768 [mv 21 19,mv 9 21])
 (rG 36864 [mv 22 9,oO 23 (.load 3 true) [.tmp 2],oO 24 (.load 2 true) [.tmp 3],mv 25 9,cL 26 n_replay_reached false [.tmp 23, .tmp 24, .tmp 25],oO 27 (.aaddr 12 1) [.tmp 7, .tmp 22],oS 1 27 26])))
 (rG 40960 [bN 28 .add 19 1,mv 19 28]))))
def ac_replay_First_L1 : AC :=
 (.seq
 (rG 49152 [bT 33 .lss 32 31])
 (.seq
 (.cond (.tmp 33)
 .skip
 (.exit 2))
 (.seq
 (.block 3
 (.seq
 (rG 53248 [mv 34 32,oO 35 (.iaddr 4) [.tmp 30, .tmp 32],oO 36 (.load 4 true) [.tmp 35],oO 11 (.new 4 [(.agg [(.t (.int .i64 0)), (.t (.int .i64 0)), .nil, .nil])]) [],mv 10 34,oS 4 11 36])
 (.seq
 (.seq
 (rG 57344 [oO 37 (.faddr 1) [.tmp 11],oO 38 (.load 1 false) [.tmp 37],bN 39 .eql 38 5])
 (.cond (.tmp 39)
 (.exit 3)
 .skip))
 (.seq
 (.seq
 (.reg 61440 (some [0, 1, 3, 7, 0, 16, 48, 112, 255]) [oO 40 (.faddr 0) [.tmp 11],oO 41 (.load 1 false) [.tmp 40],oO 42 (.aaddr 12 1) [.tmp 8, .tmp 41],oO 43 (.load 1 false) [.tmp 42],oO 44 (.faddr 0) [.tmp 11],oO 45 (.load 1 false) [.tmp 44],oO 46 (.aaddr 12 1) [.tmp 7, .tmp 45],oO 47 (.load 1 false) [.tmp 46],bT 48 .geq 43 47])
 (.cond (.tmp 48)
 (.seq
 (rG 65536 [mv 49 10,mv 4 49])
 .ret)
 .skip))
 (rG 69632 [oO 50 (.faddr 0) [.tmp 11],oO 51 (.load 1 false) [.tmp 50],oO 52 (.aaddr 12 1) [.tmp 8, .tmp 51],oO 53 (.load 1 false) [.tmp 52],bN 54 .add 53 1,oO 55 (.aaddr 12 1) [.tmp 8, .tmp 51],oS 1 55 54])))))
 (rG 73728 [bN 56 .add 32 1,mv 32 56]))))
def ac_replay_First (n_replay_Registers n_replay_reached : Nat) : AC :=
 (.seq
 (rG 4096 [oO 2 .box [.tmp 0],oO 3 .box [.tmp 1],mC 4 (.t (.int .i64 0))])
 (.seq
 (.seq
 (rG 8192 [oO 13 (.load 3 true) [.tmp 2],cL 14 n_replay_Registers true [.tmp 13],mv 12 14,oO 15 (.extract 0) [.tmp 12],oO 16 (.extract 1) [.tmp 12],oO 5 (.new 2 [(.agg [.nil, (.t (.int .i64 0))])]) [],oS 2 5 15,mv 6 16])
 (.seq
 (rG 12288 [mv 17 6,bN 18 .neq 17 0])
 (.cond (.tmp 18)
 (.seq
 (rG 16384 [mC 4 (.t (.int .i64 0))])
 .ret)
 .skip)))
 (.seq
 (rG 20480 [oO 7 (.new 1 (List.replicate 12 (.t (.int .i64 0)))) [],oO 8 (.new 1 (List.replicate 12 (.t (.int .i64 0)))) []])
 (.seq
 (.seq
 (rG 24576 [mC 19 (.t (.int .i64 0))])
 (.block 0
 (.loop (ac_replay_First_L0 n_replay_reached))))
 (.seq
 (.seq
 (rG 45056 [oO 29 (.faddr 2) [.tmp 2],oO 30 (.load 1 false) [.tmp 29],oO 31 .len [.tmp 30],mC 32 (.t (.int .i64 0))])
 (.block 2
 (.loop ac_replay_First_L1)))
 (.seq
 (.seq
 (rG 77824 [oO 57 (.load 12 true) [.tmp 8],oO 58 (.load 12 true) [.tmp 7],oO 59 (.aeq 12 .i64 true) [.tmp 57, .tmp 58]])
 (.cond (.tmp 59)
 (.seq
 (rG 81920 [oO 60 (.faddr 2) [.tmp 2],oO 61 (.load 1 false) [.tmp 60],oO 62 .len [.tmp 61],mv 4 62])
 .ret)
 .skip))
 (.seq
 (rG 86016 [mC 4 (.t (.int .i64 (-1)))])
 .ret)))))))
def hints_replay_First : List (Nat × List Nat) := [(1, [1])]
def ac_ref25_Replay_L0 (n_ref25_Event : Nat) : AC :=
 (.seq
 (.seq
 (rG 20480 [mv 17 4,oO 18 (.faddr 2) [.tmp 1],oO 19 (.load 1 false) [.tmp 18],oO 20 .len [.tmp 19],bT 21 .lss 17 20])
 (.cond (.tmp 21)
 .skip
 (.exit 0)))
 (.seq
 (.block 1
 (.seq
 (.reg 28672 (some [0, 1, 0, 7, 15, 0, 32, 127, 255]) [oO 24 (.faddr 2) [.tmp 1],oO 25 (.load 1 false) [.tmp 24],mv 26 4,oO 27 (.iaddr 4) [.tmp 25, .tmp 26],oO 28 (.load 4 true) [.tmp 27],oO 29 (.faddr 0) [.tmp 1],oO 30 (.load 1 false) [.tmp 29],cL 31 n_ref25_Event false [.tmp 28, .tmp 30],mv 5 31])
 (.seq
 (rG 32768 [mv 32 5,bN 33 .neq 32 0])
 (.cond (.tmp 33)
 (.seq
 (rG 36864 [oO 34 (.build [.nil, (.t (.int .i64 0))] []) [],mv 35 5,oS 2 2 34,mv 3 35])
 .ret)
 .skip))))
 (rG 24576 [mv 22 4,bN 23 .add 22 1,mv 4 23])))
def ac_ref25_Replay_L1 (n_ref8_Extend : Nat) : AC :=
 (.seq
 (.seq
 (rG 49152 [mv 39 7,oO 40 (.faddr 2) [.tmp 1],oO 41 (.load 1 false) [.tmp 40],oO 42 .len [.tmp 41],bT 43 .lss 39 42])
 (.cond (.tmp 43)
 .skip
 (.exit 2)))
 (.seq
 (.block 3
 (.seq
 (rG 57344 [oO 46 (.faddr 2) [.tmp 1],oO 47 (.load 1 false) [.tmp 46],mv 48 7,oO 49 (.iaddr 4) [.tmp 47, .tmp 48],oO 50 (.faddr 1) [.tmp 49],oO 51 (.load 1 false) [.tmp 50],bN 52 .neq 51 5])
 (.cond (.tmp 52)
 (.reg 61440 (some [0, 0, 2, 0, 14, 30, 62, 0, 128, 0, 896, 1920, 3968, 8191, 16383, 32767, 32767, 65535]) [oO 54 (.load 2 true) [.tmp 6],oO 55 (.faddr 2) [.tmp 1],oO 56 (.load 1 false) [.tmp 55],mv 57 7,oO 58 (.iaddr 4) [.tmp 56, .tmp 57],oO 59 (.faddr 0) [.tmp 58],oO 60 (.load 1 false) [.tmp 59],oO 61 (.faddr 2) [.tmp 1],oO 62 (.load 1 false) [.tmp 61],mv 63 7,oO 64 (.iaddr 4) [.tmp 62, .tmp 63],oO 65 (.faddr 2) [.tmp 64],oO 66 (.load 1 false) [.tmp 65],cL 67 n_ref8_Extend true [.tmp 54, .cst (.t (.int .i64 0)), .tmp 60, .tmp 66],mv 53 67,oO 68 (.extract 0) [.tmp 53],oO 69 (.extract 1) [.tmp 53],oS 2 6 68])
 .skip)))
 (rG 53248 [mv 44 7,bN 45 .add 44 1,mv 7 45])))
def ac_ref25_Replay (n_ref25_Event n_ref8_New n_ref8_Extend : Nat) : AC :=
 (.seq
 (rG 4096 [oO 1 .box [.tmp 0],oO 2 (.new 2 [(.agg [.nil, (.t (.int .i64 0))])]) [],mC 3 (.t (.int .i64 0))])
 (.seq
 (.seq
 (rG 8192 [oO 8 (.faddr 0) [.tmp 1],oO 9 (.load 1 false) [.tmp 8],bN 10 .lss 9 1,mv 11 10,oF 12 11 (.faddr 0) [.tmp 1],oF 13 11 (.load 1 false) [.tmp 12],oF 14 11 (.bin .gtr) [.tmp 13, .cst (.t (.int .i64 3))],oO 15 .pick [.tmp 11, .cst (.t (.bool true)), .tmp 14]])
 (.cond (.tmp 15)
 (.seq
 (rG 12288 [oO 16 (.build [.nil, (.t (.int .i64 0))] []) [],oS 2 2 16,mC 3 (.t (.int .i64 1))])
 .ret)
 .skip))
 (.seq
 (.seq
 (rG 16384 [mC 4 (.t (.int .i64 0))])
 (.block 0
 (.loop (ac_ref25_Replay_L0 n_ref25_Event))))
 (.seq
 (rG 40960 [oO 36 (.faddr 0) [.tmp 1],oO 37 (.load 1 false) [.tmp 36],cL 38 n_ref8_New true [.tmp 37],oO 6 (.new 2 [(.agg [.nil, (.t (.int .i64 0))])]) [],oS 2 6 38])
 (.seq
 (.seq
 (rG 45056 [mC 7 (.t (.int .i64 0))])
 (.block 2
 (.loop (ac_ref25_Replay_L1 n_ref8_Extend))))
 (.seq
 (rG 65536 [oO 70 (.load 2 true) [.tmp 6],oS 2 2 70,mC 3 (.t (.int .i64 0))])
 .ret))))))
def hints_ref25_Replay : List (Nat × List Nat) := [(9, [2]), (14, [13])]
def ac_ref25_ReplayDigest (n_ref25_Replay n_ref8_Digest : Nat) : AC :=
 (.seq
 (rG 4096 [oO 2 .box [.tmp 0],oO 3 .boxArr [.tmp 1],mC 4 .nil,mC 5 (.t (.int .i64 0))])
 (.seq
 (rG 8192 [oO 9 (.load 3 true) [.tmp 2],cL 10 n_ref25_Replay true [.tmp 9],mv 8 10,oO 11 (.extract 0) [.tmp 8],oO 12 (.extract 1) [.tmp 8],oO 6 (.new 2 [(.agg [.nil, (.t (.int .i64 0))])]) [],oS 2 6 11,mv 7 12])
 (.seq
 (.seq
 (rG 12288 [mv 13 7,bN 14 .neq 13 0])
 (.cond (.tmp 14)
 (.seq
 (rG 16384 [mv 15 7,mC 4 .nil,mv 5 15])
 .ret)
 .skip))
 (.seq
 (rG 20480 [oO 16 (.load 2 true) [.tmp 6],oO 17 (.load 2 true) [.tmp 3],cL 18 n_ref8_Digest false [.tmp 16, .tmp 17],oO 19 (.extract 0) [.tmp 18],oO 20 (.extract 1) [.tmp 18],mv 4 19,mv 5 20])
 .ret))))
def hints_ref25_ReplayDigest : List (Nat × List Nat) := [(1, [1])]
end Go.Eng
end
section
set_option maxRecDepth 20000
set_option maxHeartbeats 64000000
namespace Go.Eng
theorem w_ref8_Digest (tab : Tab) (gl : Gl) (n1 n2 n3 : Nat) (h1 : tab.look n1 = some ct_actv.fs) (h2 : tab.look n2 = some ct_uint.fs) (h3 : tab.look n3 = some ct_hash.fs) (bk : List Bank) (u s0 s1 : Int) (hv : RV bk) :
   (ac_ref8_Digest n1 n2 n3).wp tab gl (zipF 0 [.t (regT bk u), .t (.agg [.int .i64 s0, .int .i64 s1])]) (zipF 0 []) (resF [] [(4, none), (5, none)] 0 (fun r o => r = digR bk s0 s1 ∧ o = digO bk s0 s1)) := by
 have hm := hv.rm
 simp (disch := omega) only [go_sem, ↓reduceIte, Nat.reduceAdd, Nat.reduceEqDiff, Nat.reduceLeDiff, reduceCtorEq, ac_ref8_Digest]
 by_cases b0 : badS s0
 · have hE : digE bk s0 s1 = 1 := by unfold digE; rw [if_pos (.inl b0)]
   rw [digR, digO, hE]
   unfold badS at b0
   refine loop_fuel 1 ?_
   by_cases c0 : s0 < 0
   · simp (disch := omega) only [go_sem, ↓reduceIte, Nat.reduceAdd, Nat.reduceEqDiff, Nat.reduceLeDiff, Int.reduceEq, Int.reduceLT, Int.reduceLE, loopN_succ, ac_ref8_Digest_L0, c0]
   · simp (disch := omega) only [go_sem, ↓reduceIte, Nat.reduceAdd, Nat.reduceEqDiff, Nat.reduceLeDiff, Int.reduceEq, Int.reduceLT, Int.reduceLE, loopN_succ, ac_ref8_Digest_L0, c0]
 have hb0 : ¬ s0 < 0 ∧ ¬ 65535 < s0 := by unfold badS at b0; omega
 obtain ⟨c0, d0⟩ := hb0
 by_cases b1 : badS s1
 · have hE : digE bk s0 s1 = 1 := by unfold digE; rw [if_pos (.inr b1)]
   rw [digR, digO, hE]
   unfold badS at b1
   refine loop_fuel 2 ?_
   by_cases c1 : s1 < 0
   · simp (disch := omega) only [go_sem, ↓reduceIte, Nat.reduceAdd, Nat.reduceEqDiff, Nat.reduceLeDiff, Int.reduceEq, Int.reduceLT, Int.reduceLE, Int.reduceAdd, loopN_succ, ac_ref8_Digest_L0, c0, d0, c1]
   · simp (disch := omega) only [go_sem, ↓reduceIte, Nat.reduceAdd, Nat.reduceEqDiff, Nat.reduceLeDiff, Int.reduceEq, Int.reduceLT, Int.reduceLE, Int.reduceAdd, loopN_succ, ac_ref8_Digest_L0, c0, d0, c1]
 have hb1 : ¬ s1 < 0 ∧ ¬ 65535 < s1 := by unfold badS at b1; omega
 obtain ⟨c1, d1⟩ := hb1
 refine loop_fuel 3 ?_
 simp (disch := omega) only [go_sem, ↓reduceIte, Nat.reduceAdd, Nat.reduceEqDiff, Nat.reduceLeDiff, Int.reduceLT, Int.reduceLE, Int.reduceAdd, loopN_succ, ac_ref8_Digest_L0, c0, d0, c1, d1]
 refine loop_uptoP 2 (PD (s0 = 0 ∨ onB bk 0 = true) (s1 = 0 ∨ onB bk 1 = true)) (fun k => match k with | 0 => [(2, .ref 4096 0 0), (3, .ref 4112 0 0), (7, .sl 9100 0 (List.length ([] : List UInt8))), (8, .t (.int .i64 0))] | 1 => [(2, .ref 4096 0 0), (3, .ref 4112 0 0), (7, .sl 9100 0 (List.length (selL bk 0 s0 16))), (8, .t (.int .i64 1))] | _ => [(2, .ref 4096 0 0), (3, .ref 4112 0 0), (7, .sl 9100 0 (List.length (selL bk 0 s0 16 ++ selL bk 1 s1 16))), (8, .t (.int .i64 2))]) (fun k => match k with | 0 => [(9100, .live 1 ((([] : List UInt8).map byteT).map V.t) true false), (4112, .live 1 [.t (.int .i64 s0), .t (.int .i64 s1)] true true), (4096, .live 2 [.t (regT bk u)] true true)] | 1 => [(9100, .live 1 (((selL bk 0 s0 16).map byteT).map V.t) true false), (4112, .live 1 [.t (.int .i64 s0), .t (.int .i64 s1)] true true), (4096, .live 2 [.t (regT bk u)] true true)] | _ => [(9100, .live 1 (((selL bk 0 s0 16 ++ selL bk 1 s1 16).map byteT).map V.t) true false), (4112, .live 1 [.t (.int .i64 s0), .t (.int .i64 s1)] true true), (4096, .live 2 [.t (regT bk u)] true true)]) ⟨fun h => absurd h (by omega), fun h => absurd h (by omega)⟩ ?_ (fun k hk hP => ?_)
 · refine Weak.cv0 (hv := [(9100, .live 1 [] true false)]) (ho := [(4112, .live 1 [.t (.int .i64 s0), .t (.int .i64 s1)] true true), (4096, .live 2 [.t (regT bk u)] true true)]) id ?_ ?_ rfl rfl
   all_goals simp (disch := omega) only [go_sem, ↓reduceIte, Nat.reduceEqDiff, Nat.reduceBEq, id, List.map_cons, List.map_nil, List.length_nil]
 · rcases (show k = 0 ∨ k = 1 ∨ k = 2 by omega) with rfl | rfl | rfl
   · by_cases z : s0 = 0
     · have zz : (s0 == 0) = true := by simpa using z
       simp (disch := omega) only [go_sem, ↓reduceIte, Nat.reduceAdd, Nat.reduceEqDiff, Nat.reduceLeDiff, Int.reduceLT, Int.reduceLE, ac_ref8_Digest_L1, zz]
       refine loop_upto 16 (fun i => [(2, .ref 4096 0 0), (3, .ref 4112 0 0), (7, .sl 9100 0 (List.length (selL bk 0 s0 i))), (8, .t (.int .i64 0)), (9, .t (.int .i64 (i : Nat)))]) (fun i => [(9100, .live 1 (((selL bk 0 s0 i).map byteT).map V.t) true false), (4112, .live 1 [.t (.int .i64 s0), .t (.int .i64 s1)] true true), (4096, .live 2 [.t (regT bk u)] true true)]) ?_ (fun i hi => ?_)
       · refine Weak.rd id ?_ ?_ rfl
         all_goals simp (disch := omega) only [go_sem, ↓reduceIte, Nat.reduceAdd, Nat.reduceEqDiff, Nat.reduceBEq, id, selL_z, List.append_nil]
       · have l0 := selL_le hv 0 s0 16
         have l1 := selL_le hv 0 s0 i
         by_cases hlt : i < 16
         · have hsh : s0.fdiv (2 ^ i) = s0 / 2 ^ i := Int.fdiv_eq_ediv_of_nonneg _ (Int.le_of_lt (Int.pow_pos (by decide)))
           have hb : ¬ s0 / 2 ^ i % 2 = 1 := by rw [z]; simp
           simp (disch := omega) only [go_sem, ↓reduceIte, Nat.reduceAdd, Nat.reduceEqDiff, Nat.reduceLeDiff, Int.reduceLT, Int.reduceLE, ac_ref8_Digest_L2, hsh, hb]
           refine ⟨hlt, Weak.rd id ?_ ?_ rfl⟩
           all_goals simp (disch := omega) only [go_sem, ↓reduceIte, Nat.reduceAdd, Nat.reduceEqDiff, Nat.reduceBEq, id, selL_neg (bk := bk) (a := 0) hb]
         · have e : i = 16 := by omega
           subst e
           simp (disch := omega) only [go_sem, ↓reduceIte, Nat.reduceAdd, Nat.reduceEqDiff, Nat.reduceLT, Int.reduceLT, Int.reduceAdd, ac_ref8_Digest_L2]
           refine ⟨⟨fun _ => .inl z, fun h => absurd h (by omega)⟩, Weak.rd id ?_ ?_ rfl⟩
           all_goals simp (disch := omega) only [go_sem, ↓reduceIte, Nat.reduceAdd, Nat.reduceEqDiff, Nat.reduceBEq, id]
     · have zz : (s0 == 0) = false := by simpa using z
       have c0 := actv_eq (u := u) (a := 0) hv.1 (by omega)
       rw [show ((0 : Nat) : Int) = 0 from rfl] at c0
       cases ho : onB bk 0
       · rw [ho] at c0
         have hE : digE bk s0 s1 = 27 := by
           unfold digE
           rw [if_neg (by rintro (h | h); exact b0 h; exact b1 h), if_pos (.inl ⟨z, ho⟩)]
         rw [digR, digO, hE]
         simp (disch := omega) only [go_sem, ↓reduceIte, Nat.reduceAdd, Nat.reduceEqDiff, Nat.reduceLeDiff, Int.reduceEq, Int.reduceLT, Int.reduceLE, ac_ref8_Digest_L1, zz, h1, c0]
       · rw [ho] at c0
         have hbl := hv.1.len ho
         have hbn : List.length (bk.getD 0 []) = 16 := by simpa [onB] using ho
         simp (disch := omega) only [go_sem, ↓reduceIte, Nat.reduceAdd, Nat.reduceEqDiff, Nat.reduceLeDiff, Int.reduceLT, Int.reduceLE, ac_ref8_Digest_L1, zz, h1, c0]
         refine loop_upto 16 (fun i => [(2, .ref 4096 0 0), (3, .ref 4112 0 0), (7, .sl 9100 0 (List.length (selL bk 0 s0 i))), (8, .t (.int .i64 0)), (9, .t (.int .i64 (i : Nat)))]) (fun i => [(9100, .live 1 (((selL bk 0 s0 i).map byteT).map V.t) true false), (4112, .live 1 [.t (.int .i64 s0), .t (.int .i64 s1)] true true), (4096, .live 2 [.t (regT bk u)] true true)]) ?_ (fun i hi => ?_)
         · refine Weak.rd id ?_ ?_ rfl
           all_goals simp (disch := omega) only [go_sem, ↓reduceIte, Nat.reduceAdd, Nat.reduceEqDiff, Nat.reduceBEq, id, selL_z, List.append_nil]
         · have l0 := selL_le hv 0 s0 16
           have l1 := selL_le hv 0 s0 i
           by_cases hlt : i < 16
           · have hsh : s0.fdiv (2 ^ i) = s0 / 2 ^ i := Int.fdiv_eq_ediv_of_nonneg _ (Int.le_of_lt (Int.pow_pos (by decide)))
             by_cases hb : s0 / 2 ^ i % 2 = 1
             · have hvl := hm.val 0 i
               have hx : (bk.getD 0 []).getD i [] = valL bk 0 i := rfl
               simp (disch := omega) only [go_sem, ↓reduceIte, Nat.reduceAdd, Nat.reduceEqDiff, Nat.reduceLeDiff, Int.reduceLT, Int.reduceLE, ac_ref8_Digest_L2, hsh, hb, hx]
               refine ⟨hlt, Weak.rd (fun j => if j = 9100 then 69776 else j) ?_ ?_ rfl⟩
               all_goals simp (disch := omega) only [go_sem, ↓reduceIte, Nat.reduceAdd, Nat.reduceEqDiff, Nat.reduceBEq, selL_pos (bk := bk) (a := 0) hb, List.append_assoc]
               all_goals try omega
             · simp (disch := omega) only [go_sem, ↓reduceIte, Nat.reduceAdd, Nat.reduceEqDiff, Nat.reduceLeDiff, Int.reduceLT, Int.reduceLE, ac_ref8_Digest_L2, hsh, hb]
               refine ⟨hlt, Weak.rd id ?_ ?_ rfl⟩
               all_goals simp (disch := omega) only [go_sem, ↓reduceIte, Nat.reduceAdd, Nat.reduceEqDiff, Nat.reduceBEq, id, selL_neg (bk := bk) (a := 0) hb]
           · have e : i = 16 := by omega
             subst e
             simp (disch := omega) only [go_sem, ↓reduceIte, Nat.reduceAdd, Nat.reduceEqDiff, Nat.reduceLT, Int.reduceLT, Int.reduceAdd, ac_ref8_Digest_L2]
             refine ⟨⟨fun _ => (by first | exact .inr ho | trivial), fun h => absurd h (by omega)⟩, Weak.rd id ?_ ?_ rfl⟩
             all_goals simp (disch := omega) only [go_sem, ↓reduceIte, Nat.reduceAdd, Nat.reduceEqDiff, Nat.reduceBEq, id]
   · by_cases z : s1 = 0
     · have zz : (s1 == 0) = true := by simpa using z
       simp (disch := omega) only [go_sem, ↓reduceIte, Nat.reduceAdd, Nat.reduceEqDiff, Nat.reduceLeDiff, Int.reduceLT, Int.reduceLE, ac_ref8_Digest_L1, zz]
       refine loop_upto 16 (fun i => [(2, .ref 4096 0 0), (3, .ref 4112 0 0), (7, .sl 9100 0 (List.length (selL bk 0 s0 16 ++ selL bk 1 s1 i))), (8, .t (.int .i64 1)), (9, .t (.int .i64 (i : Nat)))]) (fun i => [(9100, .live 1 (((selL bk 0 s0 16 ++ selL bk 1 s1 i).map byteT).map V.t) true false), (4112, .live 1 [.t (.int .i64 s0), .t (.int .i64 s1)] true true), (4096, .live 2 [.t (regT bk u)] true true)]) ?_ (fun i hi => ?_)
       · refine Weak.rd id ?_ ?_ rfl
         all_goals simp (disch := omega) only [go_sem, ↓reduceIte, Nat.reduceAdd, Nat.reduceEqDiff, Nat.reduceBEq, id, selL_z, List.append_nil]
       · have l0 := selL_le hv 0 s0 16
         have l1 := selL_le hv 1 s1 i
         by_cases hlt : i < 16
         · have hsh : s1.fdiv (2 ^ i) = s1 / 2 ^ i := Int.fdiv_eq_ediv_of_nonneg _ (Int.le_of_lt (Int.pow_pos (by decide)))
           have hb : ¬ s1 / 2 ^ i % 2 = 1 := by rw [z]; simp
           simp (disch := omega) only [go_sem, ↓reduceIte, Nat.reduceAdd, Nat.reduceEqDiff, Nat.reduceLeDiff, Int.reduceLT, Int.reduceLE, ac_ref8_Digest_L2, hsh, hb]
           refine ⟨hlt, Weak.rd id ?_ ?_ rfl⟩
           all_goals simp (disch := omega) only [go_sem, ↓reduceIte, Nat.reduceAdd, Nat.reduceEqDiff, Nat.reduceBEq, id, selL_neg (bk := bk) (a := 1) hb]
         · have e : i = 16 := by omega
           subst e
           simp (disch := omega) only [go_sem, ↓reduceIte, Nat.reduceAdd, Nat.reduceEqDiff, Nat.reduceLT, Int.reduceLT, Int.reduceAdd, ac_ref8_Digest_L2]
           refine ⟨⟨fun _ => hP.1 (by omega), fun _ => .inl z⟩, Weak.rd id ?_ ?_ rfl⟩
           all_goals simp (disch := omega) only [go_sem, ↓reduceIte, Nat.reduceAdd, Nat.reduceEqDiff, Nat.reduceBEq, id]
     · have zz : (s1 == 0) = false := by simpa using z
       have c1 := actv_eq (u := u) (a := 1) hv.1 (by omega)
       rw [show ((1 : Nat) : Int) = 1 from rfl] at c1
       cases ho : onB bk 1
       · rw [ho] at c1
         have hE : digE bk s0 s1 = 27 := by
           unfold digE
           rw [if_neg (by rintro (h | h); exact b0 h; exact b1 h), if_pos (.inr ⟨z, ho⟩)]
         rw [digR, digO, hE]
         simp (disch := omega) only [go_sem, ↓reduceIte, Nat.reduceAdd, Nat.reduceEqDiff, Nat.reduceLeDiff, Int.reduceEq, Int.reduceLT, Int.reduceLE, ac_ref8_Digest_L1, zz, h1, c1]
       · rw [ho] at c1
         have hbl := hv.1.len ho
         have hbn : List.length (bk.getD 1 []) = 16 := by simpa [onB] using ho
         simp (disch := omega) only [go_sem, ↓reduceIte, Nat.reduceAdd, Nat.reduceEqDiff, Nat.reduceLeDiff, Int.reduceLT, Int.reduceLE, ac_ref8_Digest_L1, zz, h1, c1]
         refine loop_upto 16 (fun i => [(2, .ref 4096 0 0), (3, .ref 4112 0 0), (7, .sl 9100 0 (List.length (selL bk 0 s0 16 ++ selL bk 1 s1 i))), (8, .t (.int .i64 1)), (9, .t (.int .i64 (i : Nat)))]) (fun i => [(9100, .live 1 (((selL bk 0 s0 16 ++ selL bk 1 s1 i).map byteT).map V.t) true false), (4112, .live 1 [.t (.int .i64 s0), .t (.int .i64 s1)] true true), (4096, .live 2 [.t (regT bk u)] true true)]) ?_ (fun i hi => ?_)
         · refine Weak.rd id ?_ ?_ rfl
           all_goals simp (disch := omega) only [go_sem, ↓reduceIte, Nat.reduceAdd, Nat.reduceEqDiff, Nat.reduceBEq, id, selL_z, List.append_nil]
         · have l0 := selL_le hv 0 s0 16
           have l1 := selL_le hv 1 s1 i
           by_cases hlt : i < 16
           · have hsh : s1.fdiv (2 ^ i) = s1 / 2 ^ i := Int.fdiv_eq_ediv_of_nonneg _ (Int.le_of_lt (Int.pow_pos (by decide)))
             by_cases hb : s1 / 2 ^ i % 2 = 1
             · have hvl := hm.val 1 i
               have hx : (bk.getD 1 []).getD i [] = valL bk 1 i := rfl
               simp (disch := omega) only [go_sem, ↓reduceIte, Nat.reduceAdd, Nat.reduceEqDiff, Nat.reduceLeDiff, Int.reduceLT, Int.reduceLE, ac_ref8_Digest_L2, hsh, hb, hx]
               refine ⟨hlt, Weak.rd (fun j => if j = 9100 then 69776 else j) ?_ ?_ rfl⟩
               all_goals simp (disch := omega) only [go_sem, ↓reduceIte, Nat.reduceAdd, Nat.reduceEqDiff, Nat.reduceBEq, selL_pos (bk := bk) (a := 1) hb, List.append_assoc]
               all_goals try omega
             · simp (disch := omega) only [go_sem, ↓reduceIte, Nat.reduceAdd, Nat.reduceEqDiff, Nat.reduceLeDiff, Int.reduceLT, Int.reduceLE, ac_ref8_Digest_L2, hsh, hb]
               refine ⟨hlt, Weak.rd id ?_ ?_ rfl⟩
               all_goals simp (disch := omega) only [go_sem, ↓reduceIte, Nat.reduceAdd, Nat.reduceEqDiff, Nat.reduceBEq, id, selL_neg (bk := bk) (a := 1) hb]
           · have e : i = 16 := by omega
             subst e
             simp (disch := omega) only [go_sem, ↓reduceIte, Nat.reduceAdd, Nat.reduceEqDiff, Nat.reduceLT, Int.reduceLT, Int.reduceAdd, ac_ref8_Digest_L2]
             refine ⟨⟨fun _ => hP.1 (by omega), fun _ => (by first | exact .inr ho | trivial)⟩, Weak.rd id ?_ ?_ rfl⟩
             all_goals simp (disch := omega) only [go_sem, ↓reduceIte, Nat.reduceAdd, Nat.reduceEqDiff, Nat.reduceBEq, id]
   · have l0 := selL_le hv 0 s0 16
     have l1 := selL_le hv 1 s1 16
     have p0 := hP.1 (by omega)
     have p1 := hP.2 (by omega)
     have hE : digE bk s0 s1 = 0 := by
       unfold digE
       rw [if_neg (by rintro (h | h); exact b0 h; exact b1 h), if_neg]
       rintro (⟨h1, h2⟩ | ⟨h1, h2⟩)
       · rcases p0 with h | h
         · exact h1 h
         · rw [h] at h2; cases h2
       · rcases p1 with h | h
         · exact h1 h
         · rw [h] at h2; cases h2
     have hv2 : (valS bk s0 s1).length ≤ 2048 := by unfold valS; rw [List.length_append]; omega
     have hh2 : (headS s0 s1).length = 4 := by unfold headS; rw [List.length_append, beI_len, beI_len]
     have hvs : selL bk 0 s0 16 ++ selL bk 1 s1 16 = valS bk s0 s1 := rfl
     rw [digR, digO, if_pos hE, if_pos hE]
     have hf : (frameL 5 [headS s0 s1, valS bk s0 s1]).length < 1000000000 := by
       simp only [frameL, List.flatMap_cons, List.flatMap_nil, List.length_cons, List.length_append, List.length_nil, be32_len]
       omega
     have hq := hash_eq2 hf
     have hhs : beI 2 s0 2 ++ beI 2 s1 2 = headS s0 s1 := rfl
     have t2 : List.take 2 (beI 2 s0 2) = beI 2 s0 2 := List.take_of_length_le (by rw [beI_len]; exact Nat.le_refl _)
     have t4 : List.take 4 (headS s0 s1) = headS s0 s1 := List.take_of_length_le (by rw [hh2]; exact Nat.le_refl _)
     have hu := uint2 (b := []) (n := s0) (by decide)
     simp only [List.map_nil, List.length_nil, List.nil_append] at hu
     have hu2 := uint2 (b := beI 2 s0 2) (n := s1) (by rw [beI_len]; omega)
     rw [beI_len, hhs] at hu2
     have tv : List.take (valS bk s0 s1).length (valS bk s0 s1) = valS bk s0 s1 := List.take_of_length_le (Nat.le_refl _)
     simp (disch := omega) only [go_sem, ↓reduceIte, Nat.reduceAdd, Nat.reduceEqDiff, Nat.reduceLT, Nat.reduceLeDiff, Int.reduceLT, Int.reduceLE, ac_ref8_Digest_L1, hvs, h2, h3, hu, hu2, hq, tv, t2, t4, hh2, beI_len]
     all_goals try rfl
theorem nat_and2 (n : Nat) : n &&& 2 = n / 2 % 2 * 2 := by
 have h1 : (n &&& 2) / 2 = n / 2 % 2 := by
   rw [Nat.and_div_two]; exact Nat.and_one_is_mod _
 have h2 : (n &&& 2) % 2 = 0 := by
   have := Nat.and_mod_two_pow (a := n) (b := 2) (n := 1)
   simpa using this
 omega
theorem and2 {x : Int} : binI .and .i64 x .i64 2 = some (.int .i64 (x / 2 % 2 * 2)) := by
 have h2 : ((BitVec.ofInt 64 x &&& BitVec.ofInt 64 2).toNat : Int) = x / 2 % 2 * 2 := by
   rw [BitVec.toNat_and, BitVec.toNat_ofInt]
   have e2 : (BitVec.ofInt 64 2).toNat = 2 := by decide
   rw [e2, nat_and2]
   have e3 : ((2 ^ 64 : Nat) : Int) = 18446744073709551616 := by decide
   rw [e3]
   omega
 change some (T.int IntKind.i64 (IntKind.i64.wrap ((BitVec.ofInt 64 x &&& BitVec.ofInt 64 2).toNat : Int))) = _
 rw [h2, wrap_i64_id (by omega)]
attribute [go_sem ↓] and2
def ct_digs : Ct where
 α := List Bank × Int × Int × Int
 as x := [.t (regT x.1 x.2.1), .t (.agg [.int .i64 x.2.2.1, .int .i64 x.2.2.2])]
 ins _ := []
 pre x := RV x.1
 r x := digR x.1 x.2.2.1 x.2.2.2
 outs x := digO x.1 x.2.2.1 x.2.2.2
 inj := by
   rintro ⟨a, u, l, i⟩ ⟨b, v, l', i'⟩ h _
   simp only [List.cons.injEq, V.t.injEq, T.int.injEq, T.agg.injEq, true_and, and_true] at h
   obtain ⟨h1, rfl, rfl⟩ := h
   obtain ⟨rfl, rfl⟩ := regT_inj h1
   exact ⟨rfl, rfl⟩
theorem rpl_eq {act rs : Int} {es : List Ev} (h : esM es) : ct_rpl.fs [.t (.agg [.int .i64 act, .int .i64 rs, .sl (es.map evT)])] [] = some (.tup [.t (.agg [.sl ((rpG act es).1.map bankT), .int .i64 (rpG act es).2]), .t (.int .i64 (rpE act es))], []) := ct_rpl.eq (act, rs, es) h
def rpP (act : Int) (es : List Ev) (i : Nat) : Rg := (es.take i).foldl rpS (rp0 act)
theorem rpP_s {act : Int} {es : List Ev} {i : Nat} {e : Ev} (h : es[i]? = some e) : rpP act es (i + 1) = rpS (rpP act es i) e := by
 unfold rpP
 rw [List.take_add_one, h, List.foldl_append]; rfl
theorem rpP_rq {act : Int} (ha : 1 ≤ act ∧ act ≤ 3) {es : List Ev} {i : Nat} : RQ act i (rpP act es i) := by
 have := RQ.fold ha (es := es.take i) (RQ.zero ha)
 rw [Nat.zero_add] at this
 exact this.up (by rw [List.length_take]; omega)
theorem new2 {act : Int} (ha : 1 ≤ act ∧ act ≤ 3) : ∃ b0 b1 : Bank, newBk act = [b0, b1] ∧ List.length b0 ≤ 16 ∧ List.length b1 ≤ 16 ∧ ct_new.fs [.t (.int .i64 act)] [] = some (.agg [.sl 0 0 2, .t (.int .i64 0)], [.live 1 [.sl 1 0 b0.length, .sl 2 0 b1.length] true false, .live 1 ((b0.map bsT).map V.t) true false, .live 1 ((b1.map bsT).map V.t) true false]) := by
 rcases new_casesX act with ⟨e, _⟩ | ⟨b0, b1, e, g0, g1, hn⟩
 · obtain ⟨b0, b1, e2, _⟩ := ShA.new ha
   rw [e] at e2; cases e2
 · exact ⟨b0, b1, e, by rcases g0 with h | h <;> omega, by rcases g1 with h | h <;> omega, hn⟩
theorem ext_val0 {act : Int} {x : Rg} {n : Nat} {r k : Int} {ds : List (List UInt8)} {d : List UInt8} (hx : RQ act n x) (hn : n < 1000000) (hm : evX (r, k, ds, d)) (hl : ds.length < 1000000000) (hc : chkE (r, k, ds, d) act = 0) (h5 : k ≠ 5) :
   ct_ext.fs [.t (.agg [.sl (x.1.map bankT), .int .i64 x.2]), .t (.int .i64 0), .t (.int .i64 r), .t (.sl (ds.map bsT))] [] = some (.tup [.t (.agg [.sl ((rpS x (r, k, ds, d)).1.map bankT), .int .i64 (rpS x (r, k, ds, d)).2]), .t (.int .i64 0)], []) := by
 have hE := ct_ext.eq (x.1, x.2, 0, r, ds) ⟨hx.1.rv, ⟨hx.2.1, by show x.2 < 1000000000; have := hx.2.2; omega⟩, hl, fun y hy => by have := hm.2.1 y hy; omega⟩
 have h0 := ext_ok hx.1 hc h5
 have hr : extR x.1 x.2 0 r ds = .tup [.t (regT (extBk x.1 r.toNat ds) (x.2 + 1)), .t (.int .i64 0)] := if_pos h0
 rw [rpS_ext hx.1 hc h5]
 exact hE.trans (by show some (extR x.1 x.2 0 r ds, ([] : List Ob)) = _; rw [hr]; rfl)
theorem chk_len {r k act : Int} {ds : List (List UInt8)} {d : List UInt8} (hc : chkE (r, k, ds, d) act = 0) : ds.length = 2 := by
 unfold chkE at hc
 simp only at hc
 split at hc
 · simp at hc
 · split at hc
   · simp at hc
   · split at hc
     · rename_i hf
       unfold fitE at hf
       simp only [Bool.and_eq_true, decide_eq_true_eq] at hf
       exact hf.1.1
     · simp at hc
theorem rpV_bad {act : Int} {es : List Ev} {c : Int} (h : rpE act es = c) (hc : c ≠ 0) : rpV act es = .tup [.t (.agg [.sl [], .int .i64 0]), .t (.int .i64 c)] := by
 unfold rpV rpG
 rw [h, if_neg hc]; rfl
theorem rpV_good {act : Int} {es : List Ev} (h : rpE act es = 0) : rpV act es = .tup [.t (.agg [.sl ((rpP act es es.length).1.map bankT), .int .i64 (rpP act es es.length).2]), .t (.int .i64 0)] := by
 unfold rpV rpG
 rw [h, if_pos rfl]
 unfold rpP rpF
 rw [List.take_length]; rfl
theorem take_all {act : Int} {es : List Ev} {i : Nat} {e : Ev} (h : es[i]? = some e) (hP : ∀ x ∈ es.take i, chkE x act = 0) (he : chkE e act = 0) : ∀ x ∈ es.take (i + 1), chkE x act = 0 := by
 intro x hx
 rw [List.take_add_one, h] at hx
 simp only [Option.toList_some, List.mem_append, List.mem_cons, List.not_mem_nil, or_false] at hx
 rcases hx with hx | rfl
 · exact hP x hx
 · exact he
theorem first_bad {act : Int} {es : List Ev} {i : Nat} {e : Ev} (ha : 1 ≤ act ∧ act ≤ 3) (h : es[i]? = some e) (hP : ∀ x ∈ es.take i, chkE x act = 0) (he : chkE e act ≠ 0) : rpE act es = chkE e act := by
 have hlt : i < es.length := (List.getElem?_eq_some_iff.1 h).1
 have hg : es.getD i ev0 = e := by simp [List.getD, h]
 unfold rpE
 rw [if_neg (by omega), firstE_at (i := i) hlt hP (by rw [hg]; exact he), hg]
theorem first_good {act : Int} {es : List Ev} (ha : 1 ≤ act ∧ act ≤ 3) (hP : ∀ x ∈ es, chkE x act = 0) : rpE act es = 0 := by
 unfold rpE
 rw [if_neg (by omega)]
 exact firstE_all hP
theorem w_replay_Registers (tab : Tab) (gl : Gl) (n1 n2 n3 : Nat) (h1 : tab.look n1 = some ct_new.fs) (h2 : tab.look n2 = some ct_chkX.fs) (h3 : tab.look n3 = some ct_ext.fs) (act rs : Int) (es : List Ev) (hm : esM es) :
   (ac_replay_Registers n1 n2 n3).wp tab gl (zipF 0 [.t (lgT (act, rs, es))]) (zipF 0 []) (resW [(2, some (2, true)), (3, none)] 0 (fun r o => r = rpV act es ∧ o = [])) := by
 by_cases a1 : act < 1
 · rw [rpV_bad (c := 1) (if_pos (.inl a1)) (by decide)]
   simp (disch := omega) only [go_sem, ↓reduceIte, Nat.reduceAdd, Nat.reduceEqDiff, Nat.reduceLeDiff, ac_replay_Registers, lgT_def, a1]
 by_cases a3 : 3 < act
 · rw [rpV_bad (c := 1) (if_pos (.inr a3)) (by decide)]
   simp (disch := omega) only [go_sem, ↓reduceIte, Nat.reduceAdd, Nat.reduceEqDiff, Nat.reduceLeDiff, ac_replay_Registers, lgT_def, a1, a3]
 have ha : 1 ≤ act ∧ act ≤ 3 := by omega
 obtain ⟨b0, b1, hb, hl0, hl1, hN⟩ := new2 ha
 have hlen := hm.1
 have hx0 : rpP act es 0 = ([b0, b1], 0) := by rw [← hb]; rfl
 simp (disch := omega) only [go_sem, ↓reduceIte, Nat.reduceAdd, Nat.reduceEqDiff, Nat.reduceLeDiff, reduceCtorEq, ac_replay_Registers, lgT_def, a1, a3, h1, hN]
 refine loop_uptoP es.length (fun i => ∀ e ∈ es.take i, chkE e act = 0) (fun i => [(1, .ref 4096 0 0), (2, .ref 4112 0 0), (4, .ref 16432 0 0), (21, .t (.sl (es.map evT))), (22, .t (.int .i64 es.length)), (23, .t (.int .i64 (i : Nat)))])
   (fun i => [(16432, .live 2 [.t (.agg [.sl ((rpP act es i).1.map bankT), .int .i64 (rpP act es i).2])] true true), (4112, .live 2 [.agg [.nil, .t (.int .i64 0)]] true true), (4096, .live 3 [.t (.agg [.int .i64 act, .int .i64 rs, .sl (es.map evT)])] true true)]) (by simp) ?_ (fun i hi hP => ?_)
 · refine Weak.cv (hv := []) [16417, 16418, 16416] id ?_ rfl
   simp (disch := omega) only [go_sem, ↓reduceIte, Nat.reduceAdd, Nat.reduceEqDiff, Nat.reduceLeDiff, Nat.reduceBEq, id, hx0, List.map_nil, List.map_cons]
   all_goals rfl
 · by_cases hlt : i < es.length
   · obtain ⟨⟨r, k, ds, d⟩, he⟩ : ∃ e, es[i]? = some e := ⟨es[i], by simp [hlt]⟩
     have hx := hm.2 _ (List.mem_of_getElem? he)
     have hC := chkX_eq (act := act) hx
     have hs := rpP_s (act := act) he
     have hq := rpP_rq ha (es := es) (i := i)
     by_cases hz : chkE (r, k, ds, d) act = 0
     · have hP' := take_all he hP hz
       have hE := fun h5 => ext_val0 hq (by omega) hx (by rw [chk_len hz]; omega) hz h5
       rw [hz] at hC
       rw [← hs] at hE
       by_cases h5 : k = 5
       · subst h5
         have hs' : rpP act es (i + 1) = rpP act es i := hs.trans (if_pos rfl)
         generalize rpP act es i = X at *
         simp (disch := omega) only [go_sem, ↓reduceIte, Nat.reduceAdd, Nat.reduceEqDiff, Nat.reduceLeDiff, reduceCtorEq, ac_replay_Registers_L0, evT_def, he, h2, hC]
         refine ⟨hlt, hP', Weak.rd id ?_ ?_ rfl⟩
         all_goals simp (disch := omega) only [go_sem, ↓reduceIte, Nat.reduceEqDiff, Nat.reduceBEq, id, hs']
       · have h5b : (k != 5) = true := by simpa using h5
         have hE := hE h5
         generalize hY : rpP act es (i + 1) = Y at *
         generalize rpP act es i = X at *
         simp (disch := omega) only [go_sem, ↓reduceIte, Nat.reduceAdd, Nat.reduceEqDiff, Nat.reduceLeDiff, reduceCtorEq, ac_replay_Registers_L0, evT_def, he, h2, hC, h5b, h3, hE]
         refine ⟨hlt, hP', Weak.rd id ?_ ?_ rfl⟩
         all_goals simp (disch := omega) only [go_sem, ↓reduceIte, Nat.reduceEqDiff, Nat.reduceBEq, id, hY]
     · have hz' : (chkE (r, k, ds, d) act == 0) = false := by simpa using hz
       have hz2 : (chkE (r, k, ds, d) act != 0) = true := by simpa using hz
       rw [rpV_bad (first_bad ha he hP hz) hz]
       generalize chkE (r, k, ds, d) act = c at *
       generalize rpP act es i = X at *
       simp (disch := omega) only [go_sem, ↓reduceIte, Nat.reduceAdd, Nat.reduceEqDiff, Nat.reduceLeDiff, ac_replay_Registers_L0, evT_def, he, h2, hC, hz', hz2]
   · have e : i = es.length := by omega
     subst e
     rw [List.take_length] at hP
     rw [rpV_good (first_good ha hP)]
     generalize rpP act es es.length = X at *
     simp (disch := omega) only [go_sem, ↓reduceIte, Nat.reduceAdd, Nat.reduceEqDiff, Nat.reduceLeDiff, ac_replay_Registers_L0]
theorem w_ref25_Replay (tab : Tab) (gl : Gl) (n1 n2 n3 : Nat) (h1 : tab.look n1 = some ct_chkX.fs) (h2 : tab.look n2 = some ct_new.fs) (h3 : tab.look n3 = some ct_ext.fs) (act rs : Int) (es : List Ev) (hm : esM es) :
   (ac_ref25_Replay n1 n2 n3).wp tab gl (zipF 0 [.t (lgT (act, rs, es))]) (zipF 0 []) (resW [(2, some (2, true)), (3, none)] 0 (fun r o => r = rpV act es ∧ o = [])) := by
 by_cases a1 : act < 1
 · rw [rpV_bad (c := 1) (if_pos (.inl a1)) (by decide)]
   simp (disch := omega) only [go_sem, ↓reduceIte, Nat.reduceAdd, Nat.reduceEqDiff, Nat.reduceLeDiff, ac_ref25_Replay, lgT_def, a1]
 by_cases a3 : 3 < act
 · rw [rpV_bad (c := 1) (if_pos (.inr a3)) (by decide)]
   simp (disch := omega) only [go_sem, ↓reduceIte, Nat.reduceAdd, Nat.reduceEqDiff, Nat.reduceLeDiff, ac_ref25_Replay, lgT_def, a1, a3]
 have ha : 1 ≤ act ∧ act ≤ 3 := by omega
 obtain ⟨b0, b1, hb, hl0, hl1, hN⟩ := new2 ha
 have hlen := hm.1
 have hx0 : rpP act es 0 = ([b0, b1], 0) := by rw [← hb]; rfl
 simp (disch := omega) only [go_sem, ↓reduceIte, Nat.reduceAdd, Nat.reduceEqDiff, Nat.reduceLeDiff, ac_ref25_Replay, lgT_def, a1, a3]
 refine loop_uptoP es.length (fun i => ∀ e ∈ es.take i, chkE e act = 0) (fun i => [(1, .ref 4096 0 0), (2, .ref 4112 0 0), (4, .t (.int .i64 (i : Nat)))])
   (fun i => [(4112, .live 2 [.agg [.nil, .t (.int .i64 0)]] true true), (4096, .live 3 [.t (.agg [.int .i64 act, .int .i64 rs, .sl (es.map evT)])] true true)]) (by simp) ?_ (fun i hi hP => ?_)
 · refine Weak.rd id ?_ ?_ rfl
   all_goals simp (disch := omega) only [go_sem, ↓reduceIte, Nat.reduceEqDiff, Nat.reduceBEq, id]
 · by_cases hlt : i < es.length
   · obtain ⟨⟨r, k, ds, d⟩, he⟩ : ∃ e, es[i]? = some e := ⟨es[i], by simp [hlt]⟩
     have hx := hm.2 _ (List.mem_of_getElem? he)
     have hC := chkX_eq (act := act) hx
     by_cases hz : chkE (r, k, ds, d) act = 0
     · have hP' := take_all he hP hz
       rw [hz] at hC
       simp (disch := omega) only [go_sem, ↓reduceIte, Nat.reduceAdd, Nat.reduceEqDiff, Nat.reduceLeDiff, reduceCtorEq, ac_ref25_Replay_L0, evT_def, he, h1, hC]
       repeat refine And.intro rfl ?_
       refine ⟨hlt, hP', Weak.rd id ?_ ?_ rfl⟩
       all_goals simp (disch := omega) only [go_sem, ↓reduceIte, Nat.reduceEqDiff, Nat.reduceBEq, id]
     · have hz2 : (chkE (r, k, ds, d) act != 0) = true := by simpa using hz
       rw [rpV_bad (first_bad ha he hP hz) hz]
       generalize chkE (r, k, ds, d) act = c at *
       simp (disch := omega) only [go_sem, ↓reduceIte, Nat.reduceAdd, Nat.reduceEqDiff, Nat.reduceLeDiff, reduceCtorEq, ac_ref25_Replay_L0, evT_def, he, h1, hC, hz2]
       all_goals rfl
   · have e : i = es.length := by omega
     subst e
     rw [List.take_length] at hP
     rw [rpV_good (first_good ha hP)]
     simp (disch := omega) only [go_sem, ↓reduceIte, Nat.reduceAdd, Nat.reduceEqDiff, Nat.reduceLeDiff, reduceCtorEq, ac_ref25_Replay_L0, h2, hN]
     refine loop_upto es.length (fun j => [(1, .ref 4096 0 0), (2, .ref 4112 0 0), (6, .ref 41008 0 0), (7, .t (.int .i64 (j : Nat)))])
       (fun j => [(41008, .live 2 [.t (.agg [.sl ((rpP act es j).1.map bankT), .int .i64 (rpP act es j).2])] true true), (4112, .live 2 [.agg [.nil, .t (.int .i64 0)]] true true), (4096, .live 3 [.t (.agg [.int .i64 act, .int .i64 rs, .sl (es.map evT)])] true true)]) ?_ (fun j hj => ?_)
     · refine Weak.cv (hv := []) [40993, 40994, 40992] id ?_ rfl
       simp (disch := omega) only [go_sem, ↓reduceIte, Nat.reduceAdd, Nat.reduceEqDiff, Nat.reduceLeDiff, Nat.reduceBEq, id, hx0, List.map_nil, List.map_cons]
       all_goals rfl
     · by_cases hlt : j < es.length
       · obtain ⟨⟨r, k, ds, d⟩, he⟩ : ∃ e, es[j]? = some e := ⟨es[j], by simp [hlt]⟩
         have hx := hm.2 _ (List.mem_of_getElem? he)
         have hs := rpP_s (act := act) he
         have hq := rpP_rq ha (es := es) (i := j)
         have hz := hP _ (List.mem_of_getElem? he)
         have hE := fun h5 => ext_val0 hq (by omega) hx (by rw [chk_len hz]; omega) hz h5
         rw [← hs] at hE
         by_cases h5 : k = 5
         · subst h5
           have hs' : rpP act es (j + 1) = rpP act es j := hs.trans (if_pos rfl)
           generalize rpP act es j = X at *
           simp (disch := omega) only [go_sem, ↓reduceIte, Nat.reduceAdd, Nat.reduceEqDiff, Nat.reduceLeDiff, reduceCtorEq, ac_ref25_Replay_L1, evT_def, he]
           refine ⟨hlt, Weak.rd id ?_ ?_ rfl⟩
           all_goals simp (disch := omega) only [go_sem, ↓reduceIte, Nat.reduceEqDiff, Nat.reduceBEq, id, hs']
         · have h5b : (k != 5) = true := by simpa using h5
           have hE := hE h5
           generalize hY : rpP act es (j + 1) = Y at *
           generalize rpP act es j = X at *
           simp (disch := omega) only [go_sem, ↓reduceIte, Nat.reduceAdd, Nat.reduceEqDiff, Nat.reduceLeDiff, reduceCtorEq, ac_ref25_Replay_L1, evT_def, he, h5b, h3, hE]
           repeat refine And.intro rfl ?_
           refine ⟨hlt, Weak.rd id ?_ ?_ rfl⟩
           all_goals simp (disch := omega) only [go_sem, ↓reduceIte, Nat.reduceEqDiff, Nat.reduceBEq, id, hY]
       · have e : j = es.length := by omega
         subst e
         generalize rpP act es es.length = X at *
         simp (disch := omega) only [go_sem, ↓reduceIte, Nat.reduceAdd, Nat.reduceEqDiff, Nat.reduceLeDiff, reduceCtorEq, ac_ref25_Replay_L1]
def rdgE (act : Int) (es : List Ev) (s0 s1 : Int) : Int := if rpE act es = 0 then digE (rpG act es).1 s0 s1 else rpE act es
def rdgB (act : Int) (es : List Ev) (s0 s1 : Int) : List UInt8 := if rdgE act es s0 s1 = 0 then hashL 5 [headS s0 s1, valS (rpG act es).1 s0 s1] else []
def ct_rdg : Ct where
 α := Lg × Int × Int
 as x := [.t (lgT x.1), .t (.agg [.int .i64 x.2.1, .int .i64 x.2.2])]
 ins _ := []
 pre x := esM x.1.2.2
 r x := .tup [.t (.sl ((rdgB x.1.1 x.1.2.2 x.2.1 x.2.2).map byteT)), .t (.int .i64 (rdgE x.1.1 x.1.2.2 x.2.1 x.2.2))]
 outs _ := []
 inj := by
   rintro ⟨l, a, b⟩ ⟨m, c, d⟩ h _
   simp only [List.cons.injEq, V.t.injEq, T.int.injEq, T.agg.injEq, true_and, and_true] at h
   obtain ⟨h1, rfl, rfl⟩ := h
   cases lgT_inj h1
   exact ⟨rfl, rfl⟩
theorem digs_cases {act : Int} {es : List Ev} (hm : esM es) (s0 s1 : Int) : (rpE act es ≠ 0 ∧ rdgE act es s0 s1 = rpE act es ∧ rdgB act es s0 s1 = []) ∨ (rpE act es = 0 ∧ rdgE act es s0 s1 ≠ 0 ∧ rdgB act es s0 s1 = [] ∧ ct_digs.fs [.t (.agg [.sl ((rpG act es).1.map bankT), .int .i64 (rpG act es).2]), .t (.agg [.int .i64 s0, .int .i64 s1])] [] = some (.tup [.nil, .t (.int .i64 (rdgE act es s0 s1))], [])) ∨
   (rpE act es = 0 ∧ rdgE act es s0 s1 = 0 ∧ (rdgB act es s0 s1).length = 32 ∧ ct_digs.fs [.t (.agg [.sl ((rpG act es).1.map bankT), .int .i64 (rpG act es).2]), .t (.agg [.int .i64 s0, .int .i64 s1])] [] = some (.tup [.sl 0 0 32, .t (.int .i64 0)], [.live 1 (((rdgB act es s0 s1).map byteT).map V.t) true false])) := by
 have he : ct_digs.fs [.t (.agg [.sl ((rpG act es).1.map bankT), .int .i64 (rpG act es).2]), .t (.agg [.int .i64 s0, .int .i64 s1])] [] = some (digR (rpG act es).1 s0 s1, digO (rpG act es).1 s0 s1) := ct_digs.eq ((rpG act es).1, (rpG act es).2, s0, s1) rpG_rv.1
 by_cases hz : rpE act es = 0
 · have hE : rdgE act es s0 s1 = digE (rpG act es).1 s0 s1 := if_pos hz
   by_cases hd : digE (rpG act es).1 s0 s1 = 0
   · refine .inr (.inr ⟨hz, hE.trans hd, ?_, ?_⟩)
     · unfold rdgB; rw [if_pos (hE.trans hd)]; exact sum256_length
     · rw [he]
       unfold digR digO rdgB
       rw [if_pos hd, if_pos hd, if_pos (hE.trans hd)]
   · refine .inr (.inl ⟨hz, by rw [hE]; exact hd, ?_, ?_⟩)
     · unfold rdgB; rw [if_neg (by rw [hE]; exact hd)]
     · rw [he, hE]
       unfold digR digO
       rw [if_neg hd, if_neg hd]
 · have hE : rdgE act es s0 s1 = rpE act es := if_neg hz
   refine .inl ⟨hz, hE, ?_⟩
   unfold rdgB; rw [if_neg (by rw [hE]; exact hz)]
theorem rdg_eq {act rs : Int} {es : List Ev} {s0 s1 : Int} (h : esM es) : ct_rdg.fs [.t (.agg [.int .i64 act, .int .i64 rs, .sl (es.map evT)]), .t (.agg [.int .i64 s0, .int .i64 s1])] [] = some (.tup [.t (.sl ((rdgB act es s0 s1).map byteT)), .t (.int .i64 (rdgE act es s0 s1))], []) := ct_rdg.eq ((act, rs, es), s0, s1) h
theorem w_replay_Digest (tab : Tab) (gl : Gl) (n1 n2 : Nat) (h1 : tab.look n1 = some ct_rpl.fs) (h2 : tab.look n2 = some ct_digs.fs) (act rs : Int) (es : List Ev) (s0 s1 : Int) (hm : esM es) :
   (ac_replay_Digest n1 n2).wp tab gl (zipF 0 [.t (lgT (act, rs, es)), .t (.agg [.int .i64 s0, .int .i64 s1])]) (zipF 0 []) (resW [(4, none), (5, none)] 0 (fun r o => r = .tup [.t (.sl ((rdgB act es s0 s1).map byteT)), .t (.int .i64 (rdgE act es s0 s1))] ∧ o = [])) := by
 have hR := rpl_eq (act := act) (rs := rs) hm
 rcases digs_cases (act := act) hm s0 s1 with ⟨z, e, b⟩ | ⟨z, e, b, hD⟩ | ⟨z, e, b, hD⟩
 · rw [e, b]
   have z' : (rpE act es != 0) = true := by simpa using z
   generalize rpE act es = c at *
   generalize rpG act es = X at *
   simp (disch := omega) only [go_sem, ↓reduceIte, Nat.reduceAdd, Nat.reduceEqDiff, Nat.reduceLeDiff, reduceCtorEq, ac_replay_Digest, lgT_def, h1, hR, z', List.map_nil]
 · rw [b]
   rw [z] at hR
   generalize rdgE act es s0 s1 = c at *
   generalize rpG act es = X at *
   simp (disch := omega) only [go_sem, ↓reduceIte, Nat.reduceAdd, Nat.reduceEqDiff, Nat.reduceLeDiff, reduceCtorEq, ac_replay_Digest, lgT_def, h1, hR, h2, hD, List.map_nil]
 · rw [e]
   rw [z] at hR
   generalize rdgB act es s0 s1 = B at *
   generalize rpG act es = X at *
   have t32 : List.take 32 B = B := List.take_of_length_le (by omega)
   simp (disch := omega) only [go_sem, ↓reduceIte, Nat.reduceAdd, Nat.reduceEqDiff, Nat.reduceLeDiff, reduceCtorEq, ac_replay_Digest, lgT_def, h1, hR, h2, hD, b, t32]
theorem w_ref25_ReplayDigest (tab : Tab) (gl : Gl) (n1 n2 : Nat) (h1 : tab.look n1 = some ct_rpl.fs) (h2 : tab.look n2 = some ct_digs.fs) (act rs : Int) (es : List Ev) (s0 s1 : Int) (hm : esM es) :
   (ac_ref25_ReplayDigest n1 n2).wp tab gl (zipF 0 [.t (lgT (act, rs, es)), .t (.agg [.int .i64 s0, .int .i64 s1])]) (zipF 0 []) (resW [(4, none), (5, none)] 0 (fun r o => r = .tup [.t (.sl ((rdgB act es s0 s1).map byteT)), .t (.int .i64 (rdgE act es s0 s1))] ∧ o = [])) := by
 have hR := rpl_eq (act := act) (rs := rs) hm
 rcases digs_cases (act := act) hm s0 s1 with ⟨z, e, b⟩ | ⟨z, e, b, hD⟩ | ⟨z, e, b, hD⟩
 · rw [e, b]
   have z' : (rpE act es != 0) = true := by simpa using z
   generalize rpE act es = c at *
   generalize rpG act es = X at *
   simp (disch := omega) only [go_sem, ↓reduceIte, Nat.reduceAdd, Nat.reduceEqDiff, Nat.reduceLeDiff, reduceCtorEq, ac_ref25_ReplayDigest, lgT_def, h1, hR, z', List.map_nil]
 · rw [b]
   rw [z] at hR
   generalize rdgE act es s0 s1 = c at *
   generalize rpG act es = X at *
   simp (disch := omega) only [go_sem, ↓reduceIte, Nat.reduceAdd, Nat.reduceEqDiff, Nat.reduceLeDiff, reduceCtorEq, ac_ref25_ReplayDigest, lgT_def, h1, hR, h2, hD, List.map_nil]
 · rw [e]
   rw [z] at hR
   generalize rdgB act es s0 s1 = B at *
   generalize rpG act es = X at *
   have t32 : List.take 32 B = B := List.take_of_length_le (by omega)
   simp (disch := omega) only [go_sem, ↓reduceIte, Nat.reduceAdd, Nat.reduceEqDiff, Nat.reduceLeDiff, reduceCtorEq, ac_ref25_ReplayDigest, lgT_def, h1, hR, h2, hD, b, t32]
def eqv (x y : Rg) (g : Nat) : Prop := valL x.1 0 g = valL y.1 0 g ∧ valL x.1 1 g = valL y.1 1 g
instance {x y : Rg} {g : Nat} : Decidable (eqv x y g) := by unfold eqv; infer_instance
theorem eqv.symm {x y : Rg} {g : Nat} (h : eqv x y g) : eqv y x g := ⟨h.1.symm, h.2.symm⟩
theorem eqv.trans {x y z : Rg} {g : Nat} (h : eqv x y g) (k : eqv y z g) : eqv x z g := ⟨h.1.trans k.1, h.2.trans k.2⟩
def isG (g : Nat) (e : Ev) : Prop := e.2.1 ≠ 5 ∧ e.1 = g
instance {g : Nat} {e : Ev} : Decidable (isG g e) := by unfold isG; infer_instance
theorem cntG_nil {g : Nat} : cntG g [] = 0 := rfl
theorem cntG_cons {g : Nat} {e : Ev} {es : List Ev} : cntG g (e :: es) = (if isG g e then 1 else 0) + cntG g es := by
 unfold cntG isG
 by_cases h1 : e.2.1 ≠ 5 <;> by_cases h2 : e.1 = g <;> simp [List.filter_cons, h1, h2, Nat.add_comm]
theorem cntG_app {g : Nat} {es fs : List Ev} : cntG g (es ++ fs) = cntG g es + cntG g fs := by simp [cntG, List.filter_append]
theorem valL_le {bk : List Bank} (h : RV bk) {a g : Nat} : (valL bk a g).length ≤ 64 := by
 unfold valL
 by_cases ha : a < bk.length
 · have e : bk.getD a [] = bk[a] := by simp [List.getD, ha]
   rw [e]
   exact getD_le (h.2 _ (List.getElem_mem ha))
 · have e : bk.getD a [] = [] := by simp [List.getD, List.getElem?_eq_none (Nat.le_of_not_lt ha)]
   rw [e]; simp
theorem ShA.on {act : Int} {bk : List Bank} (h : ShA act bk) {a : Nat} (ha : a < 2) (hb : act / 2 ^ a % 2 = 1) : onB bk a = true := by
 obtain ⟨b0, b1, rfl, h0, h1, -, -⟩ := h
 rcases (show a = 0 ∨ a = 1 by omega) with rfl | rfl
 · rw [if_pos (by simpa using hb)] at h0
   unfold onB; exact decide_eq_true h0
 · rw [if_pos (by simpa using hb)] at h1
   unfold onB; exact decide_eq_true h1
theorem ag1_off {x r : List Bank} {act : Int} {g a : Nat} (h : ¬ act / 2 ^ a % 2 = 1) : ag1 x r act g a = true := by unfold ag1; rw [decide_eq_true h]; rfl
theorem ag1_on {x r : List Bank} {act : Int} {g a : Nat} (h : act / 2 ^ a % 2 = 1) : ag1 x r act g a = (onB r a && decide (valL x a g = valL r a g)) := by unfold ag1; rw [decide_eq_false (by simpa using h)]; rfl
def ct_rsm2 : Ct where
 α := Rg × Rg × Int × Nat
 as x := [.t (regT x.1.1 x.1.2), .t (regT x.2.1.1 x.2.1.2), .t (.int .i64 x.2.2.1), .t (.int .i64 x.2.2.2)]
 ins _ := []
 pre x := (ShA x.2.2.1 x.1.1 ∧ RV x.2.1.1) ∧ (1 ≤ x.2.2.1 ∧ x.2.2.1 ≤ 3) ∧ x.2.2.2 < 12
 r x := if hasB x.2.1.1 x.2.2.1 then .tup [.t (.bool (agB x.1.1 x.2.1.1 x.2.2.1 x.2.2.2)), .t (.int .i64 0)] else .tup [.t (.bool false), .t (.int .i64 27)]
 outs _ := []
 inj := by
   rintro ⟨⟨a, u⟩, ⟨b, v⟩, s, g⟩ ⟨⟨a', u'⟩, ⟨b', v'⟩, s', g'⟩ h _
   simp only [List.cons.injEq, V.t.injEq, T.int.injEq, true_and, and_true, Int.natCast_inj] at h
   obtain ⟨h1, h2, rfl, rfl⟩ := h
   obtain ⟨rfl, rfl⟩ := regT_inj h1
   obtain ⟨rfl, rfl⟩ := regT_inj h2
   exact ⟨rfl, rfl⟩
theorem rsm2_eq {x r : Rg} {act : Int} {g : Nat} (h : (ShA act x.1 ∧ RV r.1) ∧ (1 ≤ act ∧ act ≤ 3) ∧ g < 12) (hb : hasB r.1 act = true) : ct_rsm2.fs [.t (.agg [.sl (x.1.map bankT), .int .i64 x.2]), .t (.agg [.sl (r.1.map bankT), .int .i64 r.2]), .t (.int .i64 act), .t (.int .i64 g)] [] = some (.tup [.t (.bool (agB x.1 r.1 act g)), .t (.int .i64 0)], []) :=
 (ct_rsm2.eq (x, r, act, g) h).trans (by show some ((if hasB r.1 act = true then _ else _ : V), ([] : List Ob)) = _; rw [if_pos hb])
theorem rsm2_no {x r : Rg} {act : Int} {g : Nat} (h : (ShA act x.1 ∧ RV r.1) ∧ (1 ≤ act ∧ act ≤ 3) ∧ g < 12) (hb : hasB r.1 act = false) : ct_rsm2.fs [.t (.agg [.sl (x.1.map bankT), .int .i64 x.2]), .t (.agg [.sl (r.1.map bankT), .int .i64 r.2]), .t (.int .i64 act), .t (.int .i64 g)] [] = some (.tup [.t (.bool false), .t (.int .i64 27)], []) :=
 (ct_rsm2.eq (x, r, act, g) h).trans (by show some ((if hasB r.1 act = true then _ else _ : V), ([] : List Ob)) = _; rw [if_neg (by rw [hb]; decide)])
def smE (x r : List Bank) (act : Int) (g : Nat) : Nat → Bool
 | 0 => true
 | 1 => ag1 x r act g 0
 | _ => agB x r act g
theorem fdiv1 {x : Int} : x.fdiv 1 = x := by rw [Int.fdiv_eq_ediv_of_nonneg _ (by decide)]; omega
theorem fdiv2 {x : Int} : x.fdiv 2 = x / 2 := Int.fdiv_eq_ediv_of_nonneg _ (by decide)
def smP (r : List Bank) (act : Int) (i : Nat) : Prop := (1 ≤ i → (decide (act / 2 ^ 0 % 2 ≠ 1) || onB r 0) = true) ∧ (2 ≤ i → (decide (act / 2 ^ 1 % 2 ≠ 1) || onB r 1) = true)
theorem w_replay_same (tab : Tab) (gl : Gl) (n1 n2 : Nat) (h1 : tab.look n1 = some ct_val.fs) (h2 : tab.look n2 = some ct_eqB.fs) (x r : Rg) (act : Int) (g : Nat) (hx : ShA act x.1) (hr : RV r.1) (ha : 1 ≤ act ∧ act ≤ 3) (hg : g < 12) :
   (ac_replay_same n1 n2).wp tab gl (zipF 0 [.t (regT x.1 x.2), .t (regT r.1 r.2), .t (.int .i64 act), .t (.int .i64 g)]) (zipF 0 []) (resW [(8, none), (9, none)] 0 (fun r' o => r' = ct_rsm2.r (x, r, act, g) ∧ o = [])) := by
 have hv := hx.rv
 obtain ⟨x, u⟩ := x
 obtain ⟨r, v⟩ := r
 simp only at hx hr hv
 have hres : ct_rsm2.r ((x, u), (r, v), act, g) = if hasB r act then .tup [.t (.bool (agB x r act g)), .t (.int .i64 0)] else .tup [.t (.bool false), .t (.int .i64 27)] := rfl
 rw [hres]
 have p0 : act / 2 ^ 0 = act := by simp
 have p1 : act / 2 ^ 1 = act / 2 := by simp
 simp (disch := omega) only [go_sem, ↓reduceIte, Nat.reduceAdd, Nat.reduceEqDiff, reduceCtorEq, ac_replay_same]
 refine loop_uptoP 2 (fun i => smP r act i) (fun i => [(2, .t (.int .i64 act)), (3, .t (.int .i64 g)), (4, .ref 4096 0 0), (5, .ref 4112 0 0), (10, .t (.bool (smE x r act g i))), (15, .t (.int .i64 (i : Nat)))])
   (fun _ => [(4112, .live 2 [.t (.agg [.sl (r.map bankT), .int .i64 v])] true true), (4096, .live 2 [.t (.agg [.sl (x.map bankT), .int .i64 u])] true true)]) ⟨by omega, by omega⟩ ?_ (fun i hi hP => ?_)
 · have e0 : smE x r act g 0 = true := rfl
   refine Weak.rd id ?_ ?_ rfl
   all_goals simp (disch := omega) only [go_sem, ↓reduceIte, Nat.reduceEqDiff, Nat.reduceBEq, reduceCtorEq, id, e0]
 · rcases (show i = 0 ∨ i = 1 ∨ i = 2 by omega) with rfl | rfl | rfl
   · have s0 : smE x r act g 0 = true := rfl
     have s1 : smE x r act g 1 = ag1 x r act g 0 := rfl
     by_cases hb : act / 2 ^ 0 % 2 = 1
     · have o1 := hx.on (by omega) hb
       have hX : ct_val.fs [.t (.agg [.sl (x.map bankT), .int .i64 u]), .t (.int .i64 0), .t (.int .i64 g)] [] = _ := val_on (u := u) hv.rm (a := 0) (by omega) (show g < 16 by omega) o1
       have lX := valL_le hv (a := 0) (g := g)
       have lR := valL_le hr (a := 0) (g := g)
       have hag := ag1_on (x := x) (r := r) (g := g) hb
       have hbb : (act % 2 == 0) = false := by rw [p0] at hb; rw [hb]; rfl
       cases o2 : onB r 0
       · have hR : ct_val.fs [.t (.agg [.sl (r.map bankT), .int .i64 v]), .t (.int .i64 0), .t (.int .i64 g)] [] = _ := val_off (u := v) hr.rm (a := 0) (by omega) (show g < 16 by omega) o2
         have hn : hasB r act = false := by unfold hasB; rw [o2, decide_eq_false (by simpa using hb)]; rfl
         rw [hn]
         simp (disch := omega) only [go_sem, ↓reduceIte, Nat.reduceAdd, Nat.reduceEqDiff, Nat.reduceLeDiff, Int.reduceLT, Int.reducePow, ac_replay_same_L0, s0, fdiv1, and1, hbb, h1, hR]
       · rw [o2, Bool.true_and] at hag
         have hR : ct_val.fs [.t (.agg [.sl (r.map bankT), .int .i64 v]), .t (.int .i64 0), .t (.int .i64 g)] [] = _ := val_on (u := v) hr.rm (a := 0) (by omega) (show g < 16 by omega) o2
         have hP' : smP r act 1 := ⟨fun _ => by rw [o2]; simp, by omega⟩
         rw [hag] at s1
         generalize valL x 0 g = A at *
         generalize valL r 0 g = B at *
         have hS := eqB_eq (a := B) (b := A)
         have tA : List.take A.length A = A := List.take_length
         have tB : List.take B.length B = B := List.take_length
         have hc : decide (A = B) = decide (B = A) := decide_eq_decide.2 ⟨Eq.symm, Eq.symm⟩
         rw [hc] at s1
         generalize decide (B = A) = q at *
         simp (disch := omega) only [go_sem, ↓reduceIte, Nat.reduceAdd, Nat.reduceEqDiff, Nat.reduceLT, Nat.reduceLeDiff, Int.reduceLT, Int.reduceAdd, Int.reducePow, ac_replay_same_L0, s0, fdiv1, and1, hbb, h1, hR, hX, tA, tB, h2, hS]
         refine ⟨hP', Weak.rd id ?_ ?_ rfl⟩
         all_goals simp (disch := omega) only [go_sem, ↓reduceIte, Nat.reduceEqDiff, Nat.reduceBEq, id, s1]
     · have hbb : (act % 2 == 0) = true := by rw [p0] at hb; simpa using (show act % 2 = 0 by omega)
       rw [ag1_off hb] at s1
       have hP' : smP r act 1 := ⟨fun _ => by rw [decide_eq_true (by simpa using hb)]; rfl, by omega⟩
       simp (disch := omega) only [go_sem, ↓reduceIte, Nat.reduceAdd, Nat.reduceEqDiff, Nat.reduceLT, Int.reduceLT, Int.reduceAdd, Int.reducePow, ac_replay_same_L0, s0, fdiv1, and1, hbb]
       refine ⟨hP', Weak.rd id ?_ ?_ rfl⟩
       all_goals simp (disch := omega) only [go_sem, ↓reduceIte, Nat.reduceEqDiff, Nat.reduceBEq, id, s1]
   · have s1 : smE x r act g 1 = ag1 x r act g 0 := rfl
     have s2 : smE x r act g 2 = (ag1 x r act g 0 && ag1 x r act g 1) := rfl
     have hP0 := hP.1 (by omega)
     by_cases hb : act / 2 ^ 1 % 2 = 1
     · have o1 := hx.on (by omega) hb
       have hX : ct_val.fs [.t (.agg [.sl (x.map bankT), .int .i64 u]), .t (.int .i64 1), .t (.int .i64 g)] [] = _ := val_on (u := u) hv.rm (a := 1) (by omega) (show g < 16 by omega) o1
       have lX := valL_le hv (a := 1) (g := g)
       have lR := valL_le hr (a := 1) (g := g)
       have hag := ag1_on (x := x) (r := r) (g := g) hb
       have hbb : (act / 2 % 2 == 0) = false := by rw [p1] at hb; rw [hb]; rfl
       cases o2 : onB r 1
       · have hR : ct_val.fs [.t (.agg [.sl (r.map bankT), .int .i64 v]), .t (.int .i64 1), .t (.int .i64 g)] [] = _ := val_off (u := v) hr.rm (a := 1) (by omega) (show g < 16 by omega) o2
         have hn : hasB r act = false := by unfold hasB; rw [o2, decide_eq_false (p := act / 2 ^ 1 % 2 ≠ 1) (by simpa using hb)]; simp
         rw [hn]
         simp (disch := omega) only [go_sem, ↓reduceIte, Nat.reduceAdd, Nat.reduceEqDiff, Nat.reduceLeDiff, Int.reduceLT, Int.reducePow, ac_replay_same_L0, s1, fdiv2, and1, hbb, h1, hR]
       · rw [o2, Bool.true_and] at hag
         have hR : ct_val.fs [.t (.agg [.sl (r.map bankT), .int .i64 v]), .t (.int .i64 1), .t (.int .i64 g)] [] = _ := val_on (u := v) hr.rm (a := 1) (by omega) (show g < 16 by omega) o2
         have hP' : smP r act 2 := ⟨fun _ => hP0, fun _ => by rw [o2]; simp⟩
         rw [hag] at s2
         generalize valL x 1 g = A at *
         generalize valL r 1 g = B at *
         have hS := eqB_eq (a := B) (b := A)
         have tA : List.take A.length A = A := List.take_length
         have tB : List.take B.length B = B := List.take_length
         have hc : decide (A = B) = decide (B = A) := decide_eq_decide.2 ⟨Eq.symm, Eq.symm⟩
         rw [hc] at s2
         generalize decide (B = A) = q at *
         cases hE : ag1 x r act g 0
         · rw [hE] at s1 s2
           rw [Bool.false_and] at s2
           simp (disch := omega) only [go_sem, ↓reduceIte, Nat.reduceAdd, Nat.reduceEqDiff, Nat.reduceLT, Nat.reduceLeDiff, Int.reduceLT, Int.reduceAdd, Int.reducePow, ac_replay_same_L0, s1, fdiv2, and1, hbb, h1, hR, hX, tA, tB, h2, hS]
           refine ⟨hP', Weak.rd id ?_ ?_ rfl⟩
           all_goals simp (disch := omega) only [go_sem, ↓reduceIte, Nat.reduceEqDiff, Nat.reduceBEq, id, s2]
         · rw [hE] at s1 s2
           rw [Bool.true_and] at s2
           simp (disch := omega) only [go_sem, ↓reduceIte, Nat.reduceAdd, Nat.reduceEqDiff, Nat.reduceLT, Nat.reduceLeDiff, Int.reduceLT, Int.reduceAdd, Int.reducePow, ac_replay_same_L0, s1, fdiv2, and1, hbb, h1, hR, hX, tA, tB, h2, hS]
           refine ⟨hP', Weak.rd id ?_ ?_ rfl⟩
           all_goals simp (disch := omega) only [go_sem, ↓reduceIte, Nat.reduceEqDiff, Nat.reduceBEq, id, s2]
     · have hbb : (act / 2 % 2 == 0) = true := by rw [p1] at hb; simpa using (show act / 2 % 2 = 0 by omega)
       rw [ag1_off hb, Bool.and_true] at s2
       have hP' : smP r act 2 := ⟨fun _ => hP0, fun _ => by rw [decide_eq_true (p := act / 2 ^ 1 % 2 ≠ 1) (by simpa using hb)]; rfl⟩
       generalize ag1 x r act g 0 = E at *
       simp (disch := omega) only [go_sem, ↓reduceIte, Nat.reduceAdd, Nat.reduceEqDiff, Nat.reduceLT, Int.reduceLT, Int.reduceAdd, Int.reducePow, ac_replay_same_L0, s1, fdiv2, and1, hbb]
       refine ⟨hP', Weak.rd id ?_ ?_ rfl⟩
       all_goals simp (disch := omega) only [go_sem, ↓reduceIte, Nat.reduceEqDiff, Nat.reduceBEq, id, s2]
   · have s2 : smE x r act g 2 = agB x r act g := rfl
     have hn : hasB r act = true := by unfold hasB; rw [hP.1 (by omega), hP.2 (by omega)]; rfl
     rw [hn]
     simp (disch := omega) only [go_sem, ↓reduceIte, Nat.reduceAdd, Nat.reduceEqDiff, Int.reduceLT, ac_replay_same_L0, s2]
theorem rcN_no {r : List Bank} {act : Int} {g : Nat} (h : hasB r act = false) : ∀ {es : List Ev} {x : Rg} {n : Nat}, rcN r act g es x n = -1
 | [], _, _ => rfl
 | e :: es, x, n => by
   unfold rcN
   rw [agB_has h, rcN_no h, rcN_no h]
   split <;> simp
theorem rcV_no {r : List Bank} {act : Int} {g : Nat} {es : List Ev} (h : hasB r act = false) : rcV r act g es = -1 := by
 unfold rcV
 rw [agB_has h, if_neg (by decide), rcN_no h]
def esV (act : Int) (es : List Ev) : Prop := esM es ∧ ∀ e ∈ es, chkE e act = 0
def ct_rch : Ct where
 α := Lg × Rg × Nat
 as x := [.t (lgT x.1), .t (regT x.2.1.1 x.2.1.2), .t (.int .i64 x.2.2)]
 ins _ := []
 pre x := (esV x.1.1 x.1.2.2 ∧ 1 ≤ x.1.1 ∧ x.1.1 ≤ 3) ∧ RV x.2.1.1 ∧ x.2.2 < 12
 r x := .t (.int .i64 (rcV x.2.1.1 x.1.1 x.2.2 x.1.2.2))
 outs _ := []
 inj := by
   rintro ⟨l, ⟨a, u⟩, g⟩ ⟨m, ⟨b, v⟩, g'⟩ h _
   simp only [List.cons.injEq, V.t.injEq, T.int.injEq, true_and, and_true, Int.natCast_inj] at h
   obtain ⟨h1, h2, rfl⟩ := h
   cases lgT_inj h1
   obtain ⟨rfl, rfl⟩ := regT_inj h2
   exact ⟨rfl, rfl⟩
theorem rch_eq {act rs : Int} {es : List Ev} {r : Rg} {g : Nat} (h : (esV act es ∧ 1 ≤ act ∧ act ≤ 3) ∧ RV r.1 ∧ g < 12) : ct_rch.fs [.t (.agg [.int .i64 act, .int .i64 rs, .sl (es.map evT)]), .t (.agg [.sl (r.1.map bankT), .int .i64 r.2]), .t (.int .i64 g)] [] = some (.t (.int .i64 (rcV r.1 act g es)), []) := ct_rch.eq ((act, rs, es), r, g) h
theorem ext_valG {act : Int} {x : Rg} {n g : Nat} {k : Int} {ds : List (List UInt8)} {d : List UInt8} (hx : RQ act n x) (hn : n < 1000000) (hm : evX ((g : Int), k, ds, d)) (hc : chkE ((g : Int), k, ds, d) act = 0) (h5 : k ≠ 5) :
   ct_ext.fs [.t (.agg [.sl (x.1.map bankT), .int .i64 x.2]), .t (.int .i64 0), .t (.int .i64 g), .t (.sl (ds.map bsT))] [] = some (.tup [.t (.agg [.sl ((extP x 0 g ds).1.map bankT), .int .i64 (extP x 0 g ds).2]), .t (.int .i64 0)], []) := by
 have := ext_val0 hx hn hm (by rw [chk_len hc]; omega) hc h5
 have e : rpS x ((g : Int), k, ds, d) = extP x 0 g ds := if_neg h5
 rw [e] at this
 exact this
theorem drop_at {es : List Ev} {i : Nat} {e : Ev} (h : es[i]? = some e) : es.drop i = e :: es.drop (i + 1) := by
 obtain ⟨hl, he⟩ := List.getElem?_eq_some_iff.1 h
 rw [List.drop_eq_getElem_cons hl, he]
theorem w_replay_reached (tab : Tab) (gl : Gl) (n1 n2 n3 : Nat) (h1 : tab.look n1 = some ct_new.fs) (h2 : tab.look n2 = some ct_rsm2.fs) (h3 : tab.look n3 = some ct_ext.fs) (act rs : Int) (es : List Ev) (r : Rg) (g : Nat) (hV : esV act es) (ha : 1 ≤ act ∧ act ≤ 3) (hr : RV r.1) (hg : g < 12) :
   (ac_replay_reached n1 n2 n3).wp tab gl (zipF 0 [.t (lgT (act, rs, es)), .t (regT r.1 r.2), .t (.int .i64 g)]) (zipF 0 []) (resW [(6, none)] 0 (fun r' o => r' = .t (.int .i64 (rcV r.1 act g es)) ∧ o = [])) := by
 obtain ⟨b0, b1, hb, hl0, hl1, hN⟩ := new2 ha
 obtain ⟨hm, hc⟩ := hV
 have hlen := hm.1
 have t0 : List.take b0.length b0 = b0 := List.take_length
 have t1 : List.take b1.length b1 = b1 := List.take_length
 have hq0 := RQ.zero ha
 have hS0 := fun h => rsm2_eq (x := rp0 act) (r := r) (act := act) (g := g) ⟨⟨hq0.1, hr⟩, ha, hg⟩ h
 have hS0n := fun h => rsm2_no (x := rp0 act) (r := r) (act := act) (g := g) ⟨⟨hq0.1, hr⟩, ha, hg⟩ h
 have e0 : rp0 act = ([b0, b1], 0) := by rw [← hb]; rfl
 have eb : bankT b0 = .sl (b0.map bsT) ∧ bankT b1 = .sl (b1.map bsT) := ⟨rfl, rfl⟩
 simp only [e0, List.map_cons, List.map_nil, eb.1, eb.2] at hS0 hS0n
 have hrv : rcV r.1 act g es = if agB (newBk act) r.1 act g then 0 else rcN r.1 act g es (rp0 act) 0 := rfl
 rw [hb] at hrv
 cases hh : hasB r.1 act
 · rw [rcV_no hh]
   have hS := hS0n hh
   simp (disch := omega) only [go_sem, ↓reduceIte, Nat.reduceAdd, Nat.reduceEqDiff, Nat.reduceLeDiff, Int.reduceNeg, reduceCtorEq, ac_replay_reached, lgT_def, h1, hN, h2, hS, t0, t1]
 · have hS := hS0 hh
   generalize hR : rcV r.1 act g es = R at *
   simp (disch := omega) only [go_sem, ↓reduceIte, Nat.reduceAdd, Nat.reduceEqDiff, Nat.reduceLeDiff, Int.reduceNeg, reduceCtorEq, ac_replay_reached, lgT_def, h1, hN, h2, hS, t0, t1]
   refine loop_inv (σ := Nat × Rg × Nat × Bool) (fun s => s.1 ≤ es.length ∧ RQ act s.1 s.2.1 ∧ s.2.2.1 ≤ s.1 ∧ (if s.2.2.2 then R = s.2.2.1 else R = rcN r.1 act g (es.drop s.1) s.2.1 s.2.2.1)) (fun s => es.length - s.1)
     (fun s => [(2, .t (.int .i64 g)), (3, .ref 4096 0 0), (4, .ref 4112 0 0), (7, .ref 8240 0 0), (8, .t (.bool s.2.2.2)), (10, .t (.int .i64 (s.2.2.1 : Nat))), (11, .t (.int .i64 (s.1 : Nat)))])
     (fun s => [(8240, .live 2 [.t (.agg [.sl (s.2.1.1.map bankT), .int .i64 s.2.1.2])] true true), (4112, .live 2 [.t (.agg [.sl (r.1.map bankT), .int .i64 r.2])] true true), (4096, .live 3 [.t (.agg [.int .i64 act, .int .i64 rs, .sl (es.map evT)])] true true)]) (0, rp0 act, 0, agB [b0, b1] r.1 act g) ⟨Nat.zero_le _, hq0, Nat.le_refl _, ?_⟩ ?_ ?_
   · simp only
     cases hA : agB [b0, b1] r.1 act g
     · rw [hA, if_neg (by decide)] at hrv
       rw [if_neg (by decide)]; exact hrv
     · rw [hA, if_pos rfl] at hrv
       rw [if_pos rfl]; exact hrv
   · refine Weak.cv (hv := []) [8225, 8226, 8224] id ?_ rfl
     simp (disch := omega) only [go_sem, ↓reduceIte, Nat.reduceAdd, Nat.reduceEqDiff, Nat.reduceLeDiff, Nat.reduceBEq, reduceCtorEq, id, e0, List.map_nil, List.map_cons]
     all_goals rfl
   · rintro ⟨i, x, n, q⟩ ⟨hi, hx, hn, hE⟩
     simp only at hi hx hn hE ⊢
     cases q
     · rw [if_neg (by decide)] at hE
       by_cases hlt : i < es.length
       · obtain ⟨⟨er, k, ds, d⟩, he⟩ : ∃ e, es[i]? = some e := ⟨es[i], by simp [hlt]⟩
         have hmx := hm.2 _ (List.mem_of_getElem? he)
         have hcx := hc _ (List.mem_of_getElem? he)
         rw [drop_at he, rcN] at hE
         simp only at hE
         by_cases h5 : k = 5
         · subst h5
           rw [if_neg (fun h => h.1 rfl)] at hE
           simp (disch := omega) only [go_sem, ↓reduceIte, Nat.reduceAdd, Nat.reduceEqDiff, Nat.reduceLeDiff, Int.reduceNeg, reduceCtorEq, ac_replay_reached_L0, evT_def, he]
           repeat refine And.intro rfl ?_
           refine invG.of (i + 1, x, n, false) ⟨by simp only; omega, hx.up (by omega), by simp only; omega, hE⟩ (by simp only; omega) (Weak.rd id ?_ ?_ rfl)
           all_goals simp (disch := omega) only [go_sem, ↓reduceIte, Nat.reduceEqDiff, Nat.reduceBEq, id]
         · have h5b : (k != 5) = true := by simpa using h5
           by_cases hk : er = (g : Int)
           · subst hk
             rw [if_pos ⟨h5, rfl⟩] at hE
             have hX := ext_valG hx (by omega) hmx hcx h5
             have hqx := hx.ext 0 g ds
             have hS2 := rsm2_eq (x := extP x 0 g ds) (r := r) (act := act) (g := g) ⟨⟨hqx.1, hr⟩, ha, hg⟩ hh
             generalize extP x 0 g ds = Y at *
             simp (disch := omega) only [go_sem, ↓reduceIte, Nat.reduceAdd, Nat.reduceEqDiff, Nat.reduceLeDiff, Int.reduceNeg, reduceCtorEq, ac_replay_reached_L0, evT_def, he, h5b, beq_self_eq_true, h3, hX, h2, hS2]
             repeat refine And.intro rfl ?_
             refine invG.of (i + 1, Y, n + 1, agB Y.1 r.1 act g) ⟨by simp only; omega, hqx, by simp only; omega, ?_⟩ (by simp only; omega) (Weak.rd id ?_ ?_ rfl)
             · simp only
               cases hA : agB Y.1 r.1 act g
               · rw [hA, if_neg (by decide)] at hE
                 rw [if_neg (by decide)]; exact hE
               · rw [hA, if_pos rfl] at hE
                 rw [if_pos rfl]; exact hE
             all_goals simp (disch := omega) only [go_sem, ↓reduceIte, Nat.reduceEqDiff, Nat.reduceBEq, id]
           · have hkb : (er == (g : Int)) = false := by simpa using hk
             rw [if_neg (fun h => hk h.2)] at hE
             simp (disch := omega) only [go_sem, ↓reduceIte, Nat.reduceAdd, Nat.reduceEqDiff, Nat.reduceLeDiff, Int.reduceNeg, reduceCtorEq, ac_replay_reached_L0, evT_def, he, h5b, hkb]
             repeat refine And.intro rfl ?_
             refine invG.of (i + 1, x, n, false) ⟨by simp only; omega, hx.up (by omega), by simp only; omega, hE⟩ (by simp only; omega) (Weak.rd id ?_ ?_ rfl)
             all_goals simp (disch := omega) only [go_sem, ↓reduceIte, Nat.reduceEqDiff, Nat.reduceBEq, id]
       · have e : es.drop i = [] := List.drop_eq_nil_of_le (by omega)
         rw [e] at hE
         have hE' : R = -1 := hE
         simp (disch := omega) only [go_sem, ↓reduceIte, Nat.reduceAdd, Nat.reduceEqDiff, Nat.reduceLeDiff, Int.reduceNeg, reduceCtorEq, ac_replay_reached_L0, hE']
     · rw [if_pos rfl] at hE
       simp (disch := omega) only [go_sem, ↓reduceIte, Nat.reduceAdd, Nat.reduceEqDiff, Int.reduceNeg, ac_replay_reached_L0, hE]
def ct_rcI : Ct where
 α := Lg × Rg × Int
 as x := [.t (lgT x.1), .t (regT x.2.1.1 x.2.1.2), .t (.int .i64 x.2.2)]
 ins _ := []
 pre x := esM x.1.2.2 ∧ RV x.2.1.1
 r x := .t (.int .i64 (rcI x.2.1.1 x.1.1 x.1.2.2 x.2.2))
 outs _ := []
 inj := by
   rintro ⟨l, ⟨a, u⟩, g⟩ ⟨m, ⟨b, v⟩, g'⟩ h _
   simp only [List.cons.injEq, V.t.injEq, T.int.injEq, true_and, and_true] at h
   obtain ⟨h1, h2, rfl⟩ := h
   cases lgT_inj h1
   obtain ⟨rfl, rfl⟩ := regT_inj h2
   exact ⟨rfl, rfl⟩
theorem rcI_eq {act rs : Int} {es : List Ev} {r : Rg} {g : Int} (h : esM es ∧ RV r.1) : ct_rcI.fs [.t (.agg [.int .i64 act, .int .i64 rs, .sl (es.map evT)]), .t (.agg [.sl (r.1.map bankT), .int .i64 r.2]), .t (.int .i64 g)] [] = some (.t (.int .i64 (rcI r.1 act es g)), []) := ct_rcI.eq ((act, rs, es), r, g) h
theorem rpE_good {act : Int} {es : List Ev} (h : rpE act es = 0) : (1 ≤ act ∧ act ≤ 3) ∧ ∀ e ∈ es, chkE e act = 0 := by
 unfold rpE at h
 split at h
 · simp at h
 · exact ⟨by omega, firstE_ok h⟩
theorem w_replay_Reached (tab : Tab) (gl : Gl) (n1 n2 : Nat) (h1 : tab.look n1 = some ct_rpl.fs) (h2 : tab.look n2 = some ct_rch.fs) (act rs : Int) (es : List Ev) (r : Rg) (g : Int) (hm : esM es) (hr : RV r.1) :
   (ac_replay_Reached n1 n2).wp tab gl (zipF 0 [.t (lgT (act, rs, es)), .t (regT r.1 r.2), .t (.int .i64 g)]) (zipF 0 []) (resW [(6, none)] 0 (fun r' o => r' = .t (.int .i64 (rcI r.1 act es g)) ∧ o = [])) := by
 have hR := rpl_eq (act := act) (rs := rs) hm
 by_cases z : rpE act es = 0
 · obtain ⟨ha, hc⟩ := rpE_good z
   rw [z] at hR
   by_cases g0 : g < 0
   · have hr' : rcI r.1 act es g = -1 := if_pos (.inr (.inl g0))
     rw [hr']
     generalize rpG act es = X at *
     simp (disch := omega) only [go_sem, ↓reduceIte, Nat.reduceAdd, Nat.reduceEqDiff, Nat.reduceLeDiff, Int.reduceNeg, reduceCtorEq, ac_replay_Reached, lgT_def, h1, hR, g0]
   by_cases g1 : 12 ≤ g
   · have hr' : rcI r.1 act es g = -1 := if_pos (.inr (.inr g1))
     rw [hr']
     generalize rpG act es = X at *
     simp (disch := omega) only [go_sem, ↓reduceIte, Nat.reduceAdd, Nat.reduceEqDiff, Nat.reduceLeDiff, Int.reduceNeg, reduceCtorEq, ac_replay_Reached, lgT_def, h1, hR, g0, g1]
   obtain ⟨n, rfl⟩ := Int.eq_ofNat_of_zero_le (show 0 ≤ g by omega)
   have hr' : rcI r.1 act es n = rcV r.1 act n es := if_neg (by omega)
   have hC := rch_eq (rs := rs) (g := n) ⟨⟨⟨hm, hc⟩, ha⟩, hr, by omega⟩
   rw [hr']
   generalize rpG act es = X at *
   simp (disch := omega) only [go_sem, ↓reduceIte, Nat.reduceAdd, Nat.reduceEqDiff, Nat.reduceLeDiff, Int.reduceNeg, reduceCtorEq, ac_replay_Reached, lgT_def, h1, hR, g0, g1, h2, hC]
 · have z' : (rpE act es != 0) = true := by simpa using z
   have hr' : rcI r.1 act es g = -1 := if_pos (.inl z)
   rw [hr']
   generalize rpE act es = c at *
   generalize rpG act es = X at *
   simp (disch := omega) only [go_sem, ↓reduceIte, Nat.reduceAdd, Nat.reduceEqDiff, Nat.reduceLeDiff, Int.reduceNeg, reduceCtorEq, ac_replay_Reached, lgT_def, h1, hR, z']
theorem intsOf_map {k : IntKind} : ∀ {l : List Int}, intsOf k (l.map (T.int k)) = some l
 | [] => rfl
 | n :: l => by simp only [List.map_cons, intsOf, if_true, intsOf_map, Option.map_some]
theorem ones_ints {k : IntKind} {l : List Int} : ones (List.map V.t (List.map (T.int k) l)) = true := by
 unfold ones
 refine List.all_eq_true.2 fun x hx => ?_
 obtain ⟨y, hy, rfl⟩ := List.mem_map.1 hx
 obtain ⟨n, -, rfl⟩ := List.mem_map.1 hy
 rfl
def arL (f : Nat → Int) : List Int := (List.range 12).map f
theorem arL_len {f : Nat → Int} : (arL f).length = 12 := by simp [arL]
theorem arL_get {f : Nat → Int} {g : Nat} (h : g < 12) : (arL f)[g]? = some (f g) := by simp [arL, h]
theorem arL_set {f : Nat → Int} {g : Nat} {v : Int} : (arL f).set g v = arL (fun h => if h = g then v else f h) := by
 refine List.ext_getElem (by simp [arL]) (fun i h1 h2 => ?_)
 simp only [arL, List.getElem_set, List.getElem_map, List.getElem_range]
 by_cases h : g = i
 · subst h; simp
 · rw [if_neg h, if_neg (fun e => h e.symm)]
theorem arL_beq {f h : Nat → Int} : (arL f == arL h) = (List.range 12).all fun g => decide (h g = f g) := by
 rw [Bool.eq_iff_iff]
 simp only [beq_iff_eq, List.all_eq_true, List.mem_range, decide_eq_true_eq]
 constructor
 · intro e g hg
   have := congrArg (fun l => l[g]?) e
   simp only [arL_get hg, Option.some.injEq] at this
   exact this.symm
 · intro e
   exact List.map_congr_left (fun g hg => (e g (List.mem_range.1 hg)).symm)
theorem chk_reg {r k act : Int} {ds : List (List UInt8)} {d : List UInt8} (hc : chkE (r, k, ds, d) act = 0) : 0 ≤ r ∧ r ≤ 11 := by
 unfold chkE at hc
 split at hc
 · simp at hc
 · rename_i hb
   have := (goodE hb).2.1
   simp only at this
   omega
def mostI (r : List Bank) (act : Int) (es : List Ev) (i g : Nat) : Int := if g < i then rcV r act g es else 0
theorem mostI_s {r : List Bank} {act : Int} {es : List Ev} {i : Nat} : arL (fun h => if h = i then rcV r act i es else mostI r act es i h) = arL (mostI r act es (i + 1)) := by
 congr 1
 funext h
 unfold mostI
 by_cases e : h = i
 · subst e; rw [if_pos rfl, if_pos (by omega)]
 · rw [if_neg e]
   by_cases l : h < i
   · rw [if_pos l, if_pos (by omega)]
   · rw [if_neg l, if_neg (by omega)]
theorem mostI_12 {r : List Bank} {act : Int} {es : List Ev} : arL (mostI r act es 12) = arL (fun g => rcV r act g es) := by
 refine List.map_congr_left (fun g hg => ?_)
 exact if_pos (List.mem_range.1 hg)
def cntF (es : List Ev) (i : Nat) : Nat → Int := fun g => (cntG g (es.take i) : Int)
theorem cntG_take {es : List Ev} {i g : Nat} {e : Ev} (h : es[i]? = some e) : cntG g (es.take (i + 1)) = cntG g (es.take i) + if isG g e then 1 else 0 := by
 rw [List.take_add_one, h, Option.toList_some, cntG_app, cntG_cons, cntG_nil, Nat.add_zero]
def fsC (most : Nat → Int) (es : List Ev) (i : Nat) : Option Nat := fsN most (es.drop i) (fun g => cntG g (es.take i)) i
theorem fsC_0 {most : Nat → Int} {es : List Ev} : fsC most es 0 = fsN most es (fun _ => 0) 0 := rfl
theorem fsC_note {most : Nat → Int} {es : List Ev} {i : Nat} {e : Ev} (h : es[i]? = some e) (h5 : e.2.1 = 5) : fsC most es i = fsC most es (i + 1) ∧ arL (cntF es (i + 1)) = arL (cntF es i) := by
 have hc : ∀ g, cntG g (es.take (i + 1)) = cntG g (es.take i) := fun g => by rw [cntG_take h, if_neg (fun q => q.1 h5)]; rfl
 refine ⟨?_, ?_⟩
 · unfold fsC
   rw [drop_at h, fsN, if_pos h5]
   congr 1
   funext g; exact (hc g).symm
 · congr 1
   funext g; unfold cntF; rw [hc]
theorem fsC_stop {most : Nat → Int} {es : List Ev} {i g : Nat} {e : Ev} (h : es[i]? = some e) (h5 : e.2.1 ≠ 5) (hg : e.1.toNat = g) (hm : most g ≤ cntF es i g) : fsC most es i = some i := by
 unfold fsC
 rw [drop_at h, fsN, if_neg h5, hg]
 exact if_pos hm
theorem fsC_go {most : Nat → Int} {es : List Ev} {i g : Nat} {e : Ev} (h : es[i]? = some e) (h5 : e.2.1 ≠ 5) (hg : e.1 = (g : Int)) (hm : ¬ most g ≤ cntF es i g) : fsC most es i = fsC most es (i + 1) ∧ arL (fun k => if k = g then cntF es i g + 1 else cntF es i k) = arL (cntF es (i + 1)) := by
 have hi : ∀ k : Nat, isG k e ↔ k = g := fun k => ⟨fun q => by have := q.2; omega, fun q => ⟨h5, by omega⟩⟩
 have hgn : e.1.toNat = g := by omega
 refine ⟨?_, ?_⟩
 · unfold fsC
   rw [drop_at h, fsN, if_neg h5, hgn]
   refine (if_neg hm).trans ?_
   congr 1
   funext k
   rw [cntG_take h]
   by_cases e2 : k = g
   · rw [if_pos e2, if_pos ((hi k).2 e2)]
   · rw [if_neg e2, if_neg (fun q => e2 ((hi k).1 q))]; rfl
 · congr 1
   funext k
   unfold cntF
   rw [cntG_take h]
   by_cases e2 : k = g
   · subst e2
     rw [if_pos rfl, if_pos ((hi k).2 rfl)]; omega
   · rw [if_neg e2, if_neg (fun q => e2 ((hi k).1 q))]; omega
theorem fsC_end {most : Nat → Int} {es : List Ev} : fsC most es es.length = none := by
 unfold fsC
 rw [List.drop_length]; rfl
theorem fsI_some {r : List Bank} {act : Int} {es : List Ev} {k : Nat} (h : rpE act es = 0) (hf : fsC (fun g => rcV r act g es) es 0 = some k) : fsI r act es = k := by
 unfold fsI
 rw [if_neg (by omega), ← fsC_0, hf]
theorem fsI_none {r : List Bank} {act : Int} {es : List Ev} (h : rpE act es = 0) (hf : fsC (fun g => rcV r act g es) es 0 = none) : fsI r act es = if ((List.range 12).all fun g => decide (rcV r act g es = cntF es es.length g)) = true then (-1 : Int) else (es.length : Int) := by
 unfold fsI
 rw [if_neg (by omega), ← fsC_0, hf]
 simp only
 unfold cntF
 rw [List.take_length]
theorem cntF_le {es : List Ev} {i g : Nat} : 0 ≤ cntF es i g ∧ cntF es i g ≤ i := by
 unfold cntF cntG
 have := List.length_filter_le (fun (e : Ev) => decide (e.2.1 ≠ 5) && decide (e.1 = (g : Int))) (es.take i)
 rw [List.length_take] at this
 omega
def ct_fsI : Ct where
 α := Lg × Rg
 as x := [.t (lgT x.1), .t (regT x.2.1 x.2.2)]
 ins _ := []
 pre x := esM x.1.2.2 ∧ RV x.2.1
 r x := .t (.int .i64 (fsI x.2.1 x.1.1 x.1.2.2))
 outs _ := []
 inj := by
   rintro ⟨l, a, u⟩ ⟨m, b, v⟩ h _
   simp only [List.cons.injEq, V.t.injEq, and_true] at h
   obtain ⟨h1, h2⟩ := h
   cases lgT_inj h1
   obtain ⟨rfl, rfl⟩ := regT_inj h2
   exact ⟨rfl, rfl⟩
theorem fsI_eq {act rs : Int} {es : List Ev} {r : Rg} (h : esM es ∧ RV r.1) : ct_fsI.fs [.t (.agg [.int .i64 act, .int .i64 rs, .sl (es.map evT)]), .t (.agg [.sl (r.1.map bankT), .int .i64 r.2])] [] = some (.t (.int .i64 (fsI r.1 act es)), []) := ct_fsI.eq ((act, rs, es), r) h
theorem w_replay_First (tab : Tab) (gl : Gl) (n1 n2 : Nat) (h1 : tab.look n1 = some ct_rpl.fs) (h2 : tab.look n2 = some ct_rch.fs) (act rs : Int) (es : List Ev) (r : Rg) (hm : esM es) (hr : RV r.1) :
   (ac_replay_First n1 n2).wp tab gl (zipF 0 [.t (lgT (act, rs, es)), .t (regT r.1 r.2)]) (zipF 0 []) (resW [(4, none)] 0 (fun r' o => r' = .t (.int .i64 (fsI r.1 act es)) ∧ o = [])) := by
 have hR := rpl_eq (act := act) (rs := rs) hm
 have hlen := hm.1
 by_cases z : rpE act es = 0
 · obtain ⟨ha, hc⟩ := rpE_good z
   have hfs := fsI_some (r := r.1) (k := 0) z
   rw [z] at hR
   generalize rpG act es = X at *
   simp (disch := omega) only [go_sem, ↓reduceIte, Nat.reduceAdd, Nat.reduceEqDiff, Nat.reduceLeDiff, Int.reduceNeg, reduceCtorEq, ac_replay_First, lgT_def, h1, hR]
   refine loop_upto 12 (fun i => [(2, .ref 4096 0 0), (3, .ref 4112 0 0), (7, .ref 20480 0 0), (8, .ref 20496 0 0), (19, .t (.int .i64 (i : Nat)))])
     (fun i => [(20496, .live 1 (((arL (cntF es 0)).map (T.int .i64)).map V.t) true true), (20480, .live 1 (((arL (mostI r.1 act es i)).map (T.int .i64)).map V.t) true true), (4112, .live 2 [.t (.agg [.sl (r.1.map bankT), .int .i64 r.2])] true true), (4096, .live 3 [.t (.agg [.int .i64 act, .int .i64 rs, .sl (es.map evT)])] true true)]) ?_ (fun i hi => ?_)
   · have z1 : (arL (cntF es 0)).map (T.int .i64) = List.replicate 12 (T.int .i64 0) := rfl
     have z2 : (arL (mostI r.1 act es 0)).map (T.int .i64) = List.replicate 12 (T.int .i64 0) := rfl
     refine Weak.rd id ?_ ?_ rfl
     all_goals simp (disch := omega) only [go_sem, ↓reduceIte, Nat.reduceEqDiff, Nat.reduceBEq, id, z1, z2]
   · by_cases hlt : i < 12
     · have hC := rch_eq (rs := rs) (g := i) ⟨⟨⟨hm, hc⟩, ha⟩, hr, hlt⟩
       have hg := arL_get (f := mostI r.1 act es i) hlt
       have hl := arL_len (f := mostI r.1 act es i)
       have hs : (arL (mostI r.1 act es i)).set i (rcV r.1 act i es) = arL (mostI r.1 act es (i + 1)) := by rw [arL_set]; exact mostI_s
       generalize hA : arL (mostI r.1 act es i) = A at *
       generalize rcV r.1 act i es = v at *
       generalize mostI r.1 act es i i = v0 at *
       simp (disch := omega) only [go_sem, ↓reduceIte, Nat.reduceAdd, Nat.reduceEqDiff, Nat.reduceLeDiff, Int.reduceNeg, ac_replay_First_L0, h2, hC, hg, hl]
       refine ⟨hlt, Weak.rd id ?_ ?_ rfl⟩
       all_goals simp (disch := omega) only [go_sem, ↓reduceIte, Nat.reduceEqDiff, Nat.reduceBEq, id, hs]
     · have e : i = 12 := by omega
       subst e
       rw [mostI_12]
       have hml := arL_len (f := fun g => rcV r.1 act g es)
       simp (disch := omega) only [go_sem, ↓reduceIte, Nat.reduceAdd, Nat.reduceEqDiff, Nat.reduceLeDiff, Int.reduceLT, Int.reduceNeg, reduceCtorEq, ac_replay_First_L0]
       refine loop_uptoP es.length (fun j => fsC (fun g => rcV r.1 act g es) es 0 = fsC (fun g => rcV r.1 act g es) es j) (fun j => [(2, .ref 4096 0 0), (7, .ref 20480 0 0), (8, .ref 20496 0 0), (30, .t (.sl (es.map evT))), (31, .t (.int .i64 es.length)), (32, .t (.int .i64 (j : Nat)))])
         (fun j => [(20496, .live 1 (((arL (cntF es j)).map (T.int .i64)).map V.t) true true), (20480, .live 1 (((arL (fun g => rcV r.1 act g es)).map (T.int .i64)).map V.t) true true), (4096, .live 3 [.t (.agg [.int .i64 act, .int .i64 rs, .sl (es.map evT)])] true true)]) rfl ?_ (fun j hj hP => ?_)
       · refine Weak.rd id ?_ ?_ rfl
         all_goals simp (disch := omega) only [go_sem, ↓reduceIte, Nat.reduceEqDiff, Nat.reduceBEq, id]
       · have hcl := arL_len (f := cntF es j)
         by_cases hlt : j < es.length
         · obtain ⟨⟨er, k, ds, d⟩, he⟩ : ∃ e, es[j]? = some e := ⟨es[j], by simp [hlt]⟩
           have hcx := hc _ (List.mem_of_getElem? he)
           have hreg := chk_reg hcx
           by_cases h5 : k = 5
           · subst h5
             obtain ⟨q1, q2⟩ := fsC_note (most := fun g => rcV r.1 act g es) he rfl
             have hP' := hP.trans q1
             generalize arL (cntF es j) = C at *
             simp (disch := omega) only [go_sem, ↓reduceIte, Nat.reduceAdd, Nat.reduceEqDiff, Nat.reduceLeDiff, Int.reduceNeg, reduceCtorEq, ac_replay_First_L1, evT_def, he]
             refine ⟨hlt, hP', Weak.rd id ?_ ?_ rfl⟩
             all_goals simp (disch := omega) only [go_sem, ↓reduceIte, Nat.reduceEqDiff, Nat.reduceBEq, id, q2]
           · have h5b : (k == 5) = false := by simpa using h5
             obtain ⟨g, rfl⟩ := Int.eq_ofNat_of_zero_le hreg.1
             have hg : g < 12 := by omega
             have g1 := arL_get (f := cntF es j) hg
             have g2 := arL_get (f := fun g => rcV r.1 act g es) hg
             have hcb := cntF_le (es := es) (i := j) (g := g)
             have hrb := rcV_le (r := r.1) (act := act) (g := g) (es := es)
             by_cases hst : rcV r.1 act g es ≤ cntF es j g
             · have hF := fsC_stop (most := fun g => rcV r.1 act g es) he h5 (g := g) (by simp) hst
               rw [fsI_some z (hP.trans hF)]
               generalize arL (cntF es j) = C at *
               generalize arL (fun g => rcV r.1 act g es) = M at *
               generalize rcV r.1 act g es = vm at *
               generalize cntF es j g = vc at *
               simp (disch := omega) only [go_sem, ↓reduceIte, Nat.reduceAdd, Nat.reduceEqDiff, Nat.reduceLeDiff, Int.reduceNeg, reduceCtorEq, ac_replay_First_L1, evT_def, he, h5b, g1, g2, hcl, hml, hst]
               all_goals rfl
             · obtain ⟨q1, q2⟩ := fsC_go (most := fun g => rcV r.1 act g es) he h5 (g := g) rfl hst
               have hP' := hP.trans q1
               have hs : (arL (cntF es j)).set g (cntF es j g + 1) = arL (cntF es (j + 1)) := by rw [arL_set]; exact q2
               generalize arL (cntF es j) = C at *
               generalize arL (fun g => rcV r.1 act g es) = M at *
               generalize rcV r.1 act g es = vm at *
               generalize cntF es j g = vc at *
               simp (disch := omega) only [go_sem, ↓reduceIte, Nat.reduceAdd, Nat.reduceEqDiff, Nat.reduceLeDiff, Int.reduceNeg, reduceCtorEq, ac_replay_First_L1, evT_def, he, h5b, g1, g2, hcl, hml, hst]
               repeat refine And.intro rfl ?_
               refine ⟨hlt, hP', Weak.rd id ?_ ?_ rfl⟩
               all_goals simp (disch := omega) only [go_sem, ↓reduceIte, Nat.reduceEqDiff, Nat.reduceBEq, id, hs]
         · have e : j = es.length := by omega
           subst e
           have hF := fsI_none z (hP.trans fsC_end)
           have hbe := arL_beq (f := cntF es es.length) (h := fun g => rcV r.1 act g es)
           rw [← hbe] at hF
           rw [hF]
           have c0 := arL_get (f := cntF es es.length) (g := 0) (by omega)
           have m0 := arL_get (f := fun g => rcV r.1 act g es) (g := 0) (by omega)
           generalize cntF es es.length 0 = w0 at *
           generalize arL (cntF es es.length) = C at *
           generalize arL (fun g => rcV r.1 act g es) = M at *
           have tC : List.take 12 C = C := List.take_of_length_le (by omega)
           have tM : List.take 12 M = M := List.take_of_length_le (by omega)
           cases hq : (C == M)
           · simp (disch := omega) only [go_sem, ↓reduceIte, Nat.reduceAdd, Nat.reduceEqDiff, Nat.reduceLeDiff, Int.reduceNeg, reduceCtorEq, ac_replay_First_L1, tC, tM, c0, m0, ones_ints, intsOf_map, hcl, hml, hq]
           · simp (disch := omega) only [go_sem, ↓reduceIte, Nat.reduceAdd, Nat.reduceEqDiff, Nat.reduceLeDiff, Int.reduceNeg, ac_replay_First_L1, tC, tM, c0, m0, ones_ints, intsOf_map, hcl, hml, hq]
 · have z' : (rpE act es != 0) = true := by simpa using z
   have hr' : fsI r.1 act es = 0 := if_pos z
   rw [hr']
   generalize rpE act es = c at *
   generalize rpG act es = X at *
   simp (disch := omega) only [go_sem, ↓reduceIte, Nat.reduceAdd, Nat.reduceEqDiff, Nat.reduceLeDiff, Int.reduceNeg, reduceCtorEq, ac_replay_First, lgT_def, h1, hR, z']
def ct_dlg : Ct where
 α := List UInt8 × Int × Int
 as x := [.t (.sl (x.1.map byteT)), .t (.int .i64 x.2.1), .t (.int .i64 x.2.2)]
 ins _ := []
 pre x := x.1.length ≤ 9223372036854775807 ∧ (1 ≤ x.2.1 ∧ x.2.1 ≤ 3) ∧ rI x.2.2
 r x := .t (lgT (x.2.1, modI x.2.2 1000, lgG x.1 x.2.1))
 outs _ := []
 inj := by
   rintro ⟨a, b, c⟩ ⟨a', b', c'⟩ h _
   simp only [List.cons.injEq, V.t.injEq, T.sl.injEq, T.int.injEq, true_and, and_true, mapB_inj] at h
   obtain ⟨rfl, rfl, rfl⟩ := h
   exact ⟨rfl, rfl⟩
theorem dlg_eq {b : List UInt8} {act n : Int} (h : b.length ≤ 9223372036854775807 ∧ (1 ≤ act ∧ act ≤ 3) ∧ rI n) : ct_dlg.fs [.t (.sl (b.map byteT)), .t (.int .i64 act), .t (.int .i64 n)] [] = some (.t (.agg [.int .i64 act, .int .i64 (modI n 1000), .sl ((lgG b act).map evT)]), []) := ct_dlg.eq (b, act, n) h
theorem zE {l : List Ev} : zOkT 4 (List.map evT l) = true := by
 unfold zOkT
 refine List.all_eq_true.2 fun x hx => ?_
 obtain ⟨e, -, rfl⟩ := List.mem_map.1 hx
 rfl
theorem lgS0 {act : Int} {es : List Ev} {c c1 c2 : Cd} {i : Nat} (e1 : nx c es.length = (i, c1)) (e2 : nx c1 5 = (0, c2)) : lgS act (es, c) = (es.take i ++ es.drop (i + 1), c2) := by simp [lgS, e1, e2]
theorem lgS1 {act : Int} {es : List Ev} {c c1 c2 : Cd} {i : Nat} {e : Ev} (e1 : nx c es.length = (i, c1)) (e2 : nx c1 5 = (1, c2)) (he : es[i]? = some e) : lgS act (es, c) = (es.take i ++ [e] ++ es.drop i, c2) := by simp [lgS, e1, e2, he]
theorem lgS2 {act : Int} {es : List Ev} {c c1 c2 c3 : Cd} {i j : Nat} {e f : Ev} (e1 : nx c es.length = (i, c1)) (e2 : nx c1 5 = (2, c2)) (e3 : nx c2 es.length = (j, c3)) (he : es[i]? = some e) (hf : es[j]? = some f) : lgS act (es, c) = ((es.set i f).set j e, c3) := by simp [lgS, e1, e2, e3, he, hf]
theorem lgS3 {act : Int} {es : List Ev} {c c1 c2 : Cd} {i : Nat} (e1 : nx c es.length = (i, c1)) (e2 : nx c1 5 = (3, c2)) : lgS act (es, c) = (es.take i ++ [(evG c2 act).1] ++ es.drop i, (evG c2 act).2) := by simp [lgS, e1, e2]
theorem lgS4 {act : Int} {es : List Ev} {c c1 c2 : Cd} {i : Nat} (e1 : nx c es.length = (i, c1)) (e2 : nx c1 5 = (4, c2)) : lgS act (es, c) = (es.take i ++ [mkE 3 5 act noteL] ++ es.drop i, c2) := by simp [lgS, e1, e2]
theorem lgG_e {b : List UInt8} {act : Int} {c : Cd} (h : nx (b.take 240, 0) 3 = (0, c)) : lgG b act = (evN 14 c act []).1 := by simp [lgG, h]
theorem lgG_c {b : List UInt8} {act : Int} {i : Nat} {c : Cd} (h : nx (b.take 240, 0) 3 = (i, c)) (hi : i ≠ 0) {n : Nat} {c1 : Cd} (h4 : nx c 4 = (n, c1)) : lgG b act = (lgN act n (evsI (chG (c.1.drop c.2)) act, c1)).1 := by simp [lgG, h, hi, h4]
theorem w_draw_Log (tab : Tab) (gl : Gl) (n1 n2 n3 n4 n5 n6 n7 n8 : Nat) (h1 : tab.look n1 = some ct_dnew.fs) (h2 : tab.look n2 = some ct_mod.fs) (h3 : tab.look n3 = some ct_next.fs) (h4 : tab.look n4 = some ct_dvs.fs) (h5 : tab.look n5 = some ct_dch.fs) (h6 : tab.look n6 = some ct_evI.fs) (h7 : tab.look n7 = some ct_devt.fs) (h8 : tab.look n8 = some ct_make.fs)
   (b : List UInt8) (act rs : Int) (hb : b.length ≤ 9223372036854775807) (ha : 1 ≤ act ∧ act ≤ 3) (hrs : rI rs) :
   (ac_draw_Log n1 n2 n3 n4 n5 n6 n7 n8).wp tab gl (zipF 0 [.t (.sl (b.map byteT)), .t (.int .i64 act), .t (.int .i64 rs)]) (zipF 0 []) (resW [(6, some (3, true))] 0 (fun r o => r = .t (lgT (act, modI rs 1000, lgG b act)) ∧ o = [])) := by
 have hN : ct_dnew.fs [.t (.sl (b.map byteT)), .t (.int .i64 240)] [] = _ := dnew_eq (b := b) (n := 240) ⟨hb, by omega⟩
 have okN : cdOk (b.take 240, 0) := ⟨Nat.zero_le _, by simp only [List.length_take]; omega⟩
 have hM := mod_eq (a := rs) (b := 1000) ⟨hrs, by omega⟩
 obtain ⟨i3, b3, a3, e3, l3, ok3, hX3⟩ := nxF 3 okN (by omega) (by omega)
 simp only [show ((3 : Nat) : Int) = 3 from rfl, Int.natCast_zero] at hX3
 simp only [cdO, Int.natCast_zero] at hN
 generalize hR : modI rs 1000 = R at *
 by_cases z3 : i3 = 0
 · subst z3
   rw [lgG_e e3]
   have hV := dvs_eq (c := (b3, a3)) (act := act) (n := 14) ⟨ok3, ha, by omega⟩
   simp only [show ((14 : Nat) : Int) = 14 from rfl, cdO] at hV
   generalize b.take 240 = b0 at *
   generalize evN 14 (b3, a3) act [] = q at *
   obtain ⟨L, c'⟩ := q
   simp only [Int.natCast_zero] at hX3 hV
   simp (disch := omega) only [go_sem, ↓reduceIte, Nat.reduceAdd, Nat.reduceEqDiff, Nat.reduceSub, Nat.reduceLeDiff, reduceCtorEq, ac_draw_Log, lgT_def, h1, hN, h2, hM, h3, hX3, h4, hV]
 · have z3b : ((i3 : Int) == 0) = false := by simpa using (by omega : ¬ (i3 : Int) = 0)
   obtain ⟨n, bn, an, en, ln, okn, hXn⟩ := nxF 4 ok3 (by omega) (by omega)
   simp only [show ((4 : Nat) : Int) = 4 from rfl] at hXn
   rw [lgG_c e3 z3 en]
   simp only
   have hdl : (b3.drop a3).length ≤ 9223372036854775807 := by have := ok3.2; simp only at this; rw [List.length_drop]; omega
   have hC := dch_eq hdl
   obtain ⟨g1, g2, g3⟩ := chG_ok (b := b3.drop a3)
   have hI := evI_eq (l := chG (b3.drop a3)) (act := act) ⟨by omega, fun x hx => chkI_m (g2 x hx)⟩
   have hE := evsI_G (b := b3.drop a3) ha
   obtain ⟨q1, q2⟩ := evsC_len (act := act) (l := chG (b3.drop a3))
   have q3 := evsC_ok ha g2
   rw [← hE] at q1 q2 q3
   have l3' : a3 ≤ b3.length := ok3.1
   have htd : List.take (b3.length - a3) (List.drop a3 b3) = List.drop a3 b3 := List.take_of_length_le (by simp)
   generalize b.take 240 = b0 at *
   generalize evsI (chG (b3.drop a3)) act = E0 at *
   generalize chG (b3.drop a3) = ch at *
   generalize hP : lgN act n (E0, (bn, an)) = P
   simp (disch := omega) only [go_sem, ↓reduceIte, Nat.reduceAdd, Nat.reduceEqDiff, Nat.reduceSub, Nat.reduceLeDiff, reduceCtorEq, ac_draw_Log, lgT_def, h1, hN, h2, hM, h3, hX3, z3b, htd, h5, hC, h6, hI, hXn]
   repeat refine And.intro rfl ?_
   refine loop_inv (σ := Nat × List Ev × Cd) (fun s => cdOk s.2.2 ∧ (∀ e ∈ s.2.1, evV act e) ∧ s.1 < s.2.1.length ∧ s.2.1.length + s.1 ≤ 300 ∧ lgN act s.1 s.2 = P) (fun s => s.1)
     (fun s => [(1, .t (.int .i64 act)), (6, .ref 4096 0 0), (7, .ref 8208 0 0), (8, .ref 12352 0 0), (10, .t (.int .i64 (s.1 : Nat)))])
     (fun s => [(12352, .live 3 [.t (.agg [.int .i64 act, .int .i64 R, .sl (s.2.1.map evT)])] true true), (8208, cdO s.2.2), (4096, .live 3 [.agg [.t (.int .i64 0), .t (.int .i64 0), .nil]] true true)]) (n, E0, (bn, an)) ⟨okn, q3, by simp only; omega, by simp only; omega, hP⟩ ?_ ?_
   · refine Weak.rd id ?_ ?_ rfl
     all_goals simp (disch := omega) only [go_sem, ↓reduceIte, Nat.reduceEqDiff, Nat.reduceBEq, reduceCtorEq, id]
   · rintro ⟨k, es, ⟨b1, a1⟩⟩ ⟨ok1, hv, hk, hl, hp⟩
     simp only at ok1 hv hk hl hp ⊢
     cases k with
     | zero =>
       have hp' : P = (es, (b1, a1)) := hp.symm
       rw [hp']
       simp (disch := omega) only [go_sem, ↓reduceIte, Nat.reduceAdd, Nat.reduceEqDiff, Nat.reduceLeDiff, ac_draw_Log_L0, lgT_def]
     | succ k =>
       obtain ⟨i, bi, ai, ei, li, oki, hXi⟩ := nxF es.length ok1 (by omega) (by omega)
       obtain ⟨w, bw, aw, ew, lw, okw, hXw⟩ := nxF 5 oki (by omega) (by omega)
       simp only [show ((5 : Nat) : Int) = 5 from rfl] at hXw
       have hS := lgS_ok ha (s := (es, (b1, a1))) hv (by simp only; omega)
       have hp' : lgN act k (lgS act (es, (b1, a1))) = P := hp
       have hkk : ((k + 1 : Nat) : Int) - 1 = k := by omega
       obtain ⟨e, he⟩ : ∃ e, es[i]? = some e := ⟨es[i], by simp [li]⟩
       have td : ∀ m, List.take (es.length - m) (List.drop m es) = List.drop m es := fun m => List.take_of_length_le (by simp)
       have td0 := td i
       have td1 := td (i + 1)
       rcases (show w = 0 ∨ w = 1 ∨ w = 2 ∨ w = 3 ∨ w = 4 by omega) with rfl | rfl | rfl | rfl | rfl
       · rw [lgS0 ei ew] at hS hp'
         simp only [Int.natCast_zero] at hXw
         obtain ⟨s1, s2, s3⟩ := hS
         simp (disch := omega) only [go_sem, ↓reduceIte, Nat.reduceAdd, Nat.reduceEqDiff, Nat.reduceSub, Nat.reduceLeDiff, Int.reduceLE, reduceCtorEq, ac_draw_Log_L0, h3, hXi, hXw, hkk, td1, zE]
         repeat refine And.intro rfl ?_
         refine invG.of (k, es.take i ++ es.drop (i + 1), (bw, aw)) ⟨okw, s1, by simp only at s2; simp only; omega, by simp only at s3; simp only; omega, hp'⟩ (by simp) ?_
         have tA : List.take (i + (es.length - (i + 1))) (es.take i ++ es.drop (i + 1)) = es.take i ++ es.drop (i + 1) := List.take_of_length_le (by simp; omega)
         refine Weak.cv (hv := []) (ho := [(12352, .live 3 [.t (.agg [.int .i64 act, .int .i64 R, .sl ((es.take i ++ es.drop (i + 1)).map evT)])] true true), (8208, cdO (bw, aw)), (4096, .live 3 [.agg [.t (.int .i64 0), .t (.int .i64 0), .nil]] true true)]) [65712] id ?_ rfl
         simp (disch := omega) only [go_sem, ↓reduceIte, Nat.reduceAdd, Nat.reduceEqDiff, Nat.reduceLeDiff, Nat.reduceBEq, id, tA]
         all_goals rfl
       · rw [lgS1 ei ew he] at hS hp'
         simp only [Int.natCast_one] at hXw
         obtain ⟨s1, s2, s3⟩ := hS
         simp (disch := omega) only [go_sem, ↓reduceIte, Nat.reduceAdd, Nat.reduceEqDiff, Nat.reduceSub, Nat.reduceLT, Nat.reduceLeDiff, Int.reduceLE, reduceCtorEq, ac_draw_Log_L0, h3, hXi, hXw, hkk, td0, zE, he, evT_c, evT_p, evT_tc, evT_agg]
         repeat refine And.intro rfl ?_
         refine invG.of (k, es.take i ++ [e] ++ es.drop i, (bw, aw)) ⟨okw, s1, by simp only at s2; simp only; omega, by simp only at s3; simp only; omega, hp'⟩ (by simp) ?_
         have tA : List.take (i + 1 + (es.length - i)) (es.take i ++ [e] ++ es.drop i) = es.take i ++ [e] ++ es.drop i := List.take_of_length_le (by simp; omega)
         refine Weak.cv (hv := []) (ho := [(12352, .live 3 [.t (.agg [.int .i64 act, .int .i64 R, .sl ((es.take i ++ [e] ++ es.drop i).map evT)])] true true), (8208, cdO (bw, aw)), (4096, .live 3 [.agg [.t (.int .i64 0), .t (.int .i64 0), .nil]] true true)]) [74000] id ?_ rfl
         simp (disch := omega) only [go_sem, ↓reduceIte, Nat.reduceAdd, Nat.reduceEqDiff, Nat.reduceLeDiff, Nat.reduceBEq, id, tA]
         all_goals rfl
       · obtain ⟨j, bj, aj, ej, lj, okj, hXj⟩ := nxF es.length okw (by omega) (by omega)
         obtain ⟨f, hf⟩ : ∃ f, es[j]? = some f := ⟨es[j], by simp [lj]⟩
         obtain ⟨f', hf'⟩ : ∃ x, (es.set i f)[j]? = some x := ⟨(es.set i f)[j]'(by simp [lj]), by simp [lj]⟩
         rw [lgS2 ei ew ej he hf] at hS hp'
         simp only [show ((2 : Nat) : Int) = 2 from rfl] at hXw
         obtain ⟨s1, s2, s3⟩ := hS
         simp (disch := omega) only [go_sem, ↓reduceIte, Nat.reduceAdd, Nat.reduceEqDiff, Nat.reduceSub, Nat.reduceLeDiff, reduceCtorEq, ac_draw_Log_L0, h3, hXi, hXw, hXj, hkk, zE, he, hf, hf', evT_c, evT_p, evT_tc, evT_agg, evT_all, List.take_length]
         repeat refine And.intro rfl ?_
         refine invG.of (k, (es.set i f).set j e, (bj, aj)) ⟨okj, s1, by simp only at s2; simp only; omega, by simp only at s3; simp only; omega, hp'⟩ (by simp) ?_
         have tA : List.take es.length ((es.set i f).set j e) = (es.set i f).set j e := List.take_of_length_le (by simp)
         refine Weak.cv (hv := []) (ho := [(12352, .live 3 [.t (.agg [.int .i64 act, .int .i64 R, .sl (((es.set i f).set j e).map evT)])] true true), (8208, cdO (bj, aj)), (4096, .live 3 [.agg [.t (.int .i64 0), .t (.int .i64 0), .nil]] true true)]) [86064] id ?_ rfl
         simp (disch := omega) only [go_sem, ↓reduceIte, Nat.reduceAdd, Nat.reduceEqDiff, Nat.reduceLeDiff, Nat.reduceBEq, id, tA]
         all_goals rfl
       · have hE := devt_eq (c := (bw, aw)) (act := act) ⟨okw, ha⟩
         have okE := evG_cd (act := act) okw
         rw [lgS3 ei ew] at hS hp'
         simp only [show ((3 : Nat) : Int) = 3 from rfl] at hXw
         obtain ⟨s1, s2, s3⟩ := hS
         generalize evG (bw, aw) act = q at *
         obtain ⟨g, bg, ag⟩ := q
         simp only [cdO] at *
         simp (disch := omega) only [go_sem, ↓reduceIte, Nat.reduceAdd, Nat.reduceEqDiff, Nat.reduceSub, Nat.reduceLT, Nat.reduceLeDiff, Int.reduceLE, reduceCtorEq, ac_draw_Log_L0, h3, hXi, hXw, hkk, td0, zE, h7, hE, evT_c, evT_p, evT_tc, evT_agg]
         repeat refine And.intro rfl ?_
         refine invG.of (k, es.take i ++ [g] ++ es.drop i, (bg, ag)) ⟨okE, s1, (by first | omega | (simp only; omega)), (by first | omega | (simp only; omega)), hp'⟩ (by simp) ?_
         have tA : List.take (i + 1 + (es.length - i)) (es.take i ++ [g] ++ es.drop i) = es.take i ++ [g] ++ es.drop i := List.take_of_length_le (by simp; omega)
         refine Weak.cv (hv := []) (ho := [(12352, .live 3 [.t (.agg [.int .i64 act, .int .i64 R, .sl ((es.take i ++ [g] ++ es.drop i).map evT)])] true true), (8208, cdO (bg, ag)), (4096, .live 3 [.agg [.t (.int .i64 0), .t (.int .i64 0), .nil]] true true)]) [98544] id ?_ rfl
         simp (disch := omega) only [go_sem, ↓reduceIte, Nat.reduceAdd, Nat.reduceEqDiff, Nat.reduceLeDiff, Nat.reduceBEq, id, tA]
         all_goals rfl
       · have hK : ct_make.fs [.t (.int .i64 3), .t (.int .i64 5), .t (.int .i64 act), .t (.sl [byteT 110, byteT 111, byteT 116, byteT 101])] [] = some (.t (evT (mkE 3 5 act noteL)), []) := makeO (r := 3) (k := 5) (act := act) (d := noteL) ⟨by omega, by decide⟩
         rw [lgS4 ei ew] at hS hp'
         simp only [show ((4 : Nat) : Int) = 4 from rfl] at hXw
         obtain ⟨s1, s2, s3⟩ := hS
         generalize mkE 3 5 act noteL = g at *
         simp (disch := omega) only [go_sem, ↓reduceIte, Nat.reduceAdd, Nat.reduceEqDiff, Nat.reduceSub, Nat.reduceLT, Nat.reduceLeDiff, Int.reduceLE, reduceCtorEq, ac_draw_Log_L0, h3, hXi, hXw, hkk, td0, zE, h8, hK, evT_c, evT_p, evT_tc, evT_agg]
         repeat refine And.intro rfl ?_
         refine invG.of (k, es.take i ++ [g] ++ es.drop i, (bw, aw)) ⟨okw, s1, by simp only at s2; simp only; omega, by simp only at s3; simp only; omega, hp'⟩ (by simp) ?_
         have tA : List.take (i + 1 + (es.length - i)) (es.take i ++ [g] ++ es.drop i) = es.take i ++ [g] ++ es.drop i := List.take_of_length_le (by simp; omega)
         refine Weak.cv (hv := []) (ho := [(12352, .live 3 [.t (.agg [.int .i64 act, .int .i64 R, .sl ((es.take i ++ [g] ++ es.drop i).map evT)])] true true), (8208, cdO (bw, aw)), (4096, .live 3 [.agg [.t (.int .i64 0), .t (.int .i64 0), .nil]] true true)]) [57600] id ?_ rfl
         simp (disch := omega) only [go_sem, ↓reduceIte, Nat.reduceAdd, Nat.reduceEqDiff, Nat.reduceLeDiff, Nat.reduceBEq, id, tA]
         all_goals rfl
end Go.Eng
end
section
namespace Go.Eng
def ac_law28_awake (n_event_Make n_replay_Registers n_replay_Reached n_replay_First : Nat) : AC :=
 (.seq
 (rG 4096 [mC 0 (.t (.bool false))])
 (.seq
 (rG 8192 [oO 7 (.bslice 1 1 (.t (byteT 0)) [0]) [.cst (.t (byteT 97))],oO 8 .idsl [.tmp 7],cL 9 n_event_Make true [.cst (.t (.int .i64 0)), .cst (.t (.int .i64 3)), .cst (.t (.int .i64 2)), .tmp 8],oO 10 (.bslice 1 1 (.t (byteT 0)) [0]) [.cst (.t (byteT 98))],oO 11 .idsl [.tmp 10],cL 12 n_event_Make true [.cst (.t (.int .i64 0)), .cst (.t (.int .i64 3)), .cst (.t (.int .i64 2)), .tmp 11],oO 13 (.bslice 1 1 (.t (byteT 0)) [0]) [.cst (.t (byteT 99))],oO 14 .idsl [.tmp 13],cL 15 n_event_Make true [.cst (.t (.int .i64 4)), .cst (.t (.int .i64 3)), .cst (.t (.int .i64 2)), .tmp 14],oO 1 (.new 4 [(.agg [(.t (.int .i64 0)), (.t (.int .i64 0)), .nil, .nil])]) [],oO 2 (.new 4 [(.agg [(.t (.int .i64 0)), (.t (.int .i64 0)), .nil, .nil])]) [],oO 3 (.new 4 [(.agg [(.t (.int .i64 0)), (.t (.int .i64 0)), .nil, .nil])]) [],oS 4 1 9,oS 4 2 12,oS 4 3 15])
 (.seq
 (rG 12288 [oO 17 (.load 4 true) [.tmp 3],oO 18 (.load 4 true) [.tmp 1],oO 19 (.bslice 4 2 (.agg [(.t (.int .i64 0)), (.t (.int .i64 0)), .nil, .nil]) [0, 1]) [.tmp 17, .tmp 18],oO 20 (.build [(.t (.int .i64 0)), (.t (.int .i64 0)), .nil] [(0, 1), (2, 1)]) [.cst (.t (.int .i64 2)), .tmp 19],cL 21 n_replay_Registers true [.tmp 20],mv 16 21,oO 22 (.extract 0) [.tmp 16],oO 23 (.extract 1) [.tmp 16],oO 4 (.new 2 [(.agg [.nil, (.t (.int .i64 0))])]) [],oS 2 4 22,mv 5 23])
 (.seq
 (rG 16384 [oO 24 (.load 4 true) [.tmp 1],oO 25 (.load 4 true) [.tmp 2],oO 26 (.load 4 true) [.tmp 3],oO 27 (.bslice 4 3 (.agg [(.t (.int .i64 0)), (.t (.int .i64 0)), .nil, .nil]) [0, 1, 2]) [.tmp 24, .tmp 25, .tmp 26],oO 28 (.build [(.t (.int .i64 0)), (.t (.int .i64 0)), .nil] [(0, 1), (2, 1)]) [.cst (.t (.int .i64 2)), .tmp 27],oO 6 (.new 3 [(.agg [(.t (.int .i64 0)), (.t (.int .i64 0)), .nil])]) [],oS 3 6 28])
 (.seq
 (rG 20480 [mv 29 5,bN 30 .eql 29 0,mv 31 30,oG 32 31 (.faddr 1) [.tmp 4],oG 33 31 (.load 1 false) [.tmp 32],oG 34 31 (.bin .eql) [.tmp 33, .cst (.t (.int .i64 2))],oO 35 .pick [.tmp 31, .tmp 34, .cst (.t (.bool false))],mv 36 35,oG 37 36 (.load 3 true) [.tmp 6],oG 38 36 (.load 2 true) [.tmp 4],cG 39 36 n_replay_Reached false [.tmp 37, .tmp 38, .cst (.t (.int .i64 0))],oG 40 36 (.bin .eql) [.tmp 39, .cst (.t (.int .i64 1))],oO 41 .pick [.tmp 36, .tmp 40, .cst (.t (.bool false))],mv 42 41,oG 43 42 (.load 3 true) [.tmp 6],oG 44 42 (.load 2 true) [.tmp 4],cG 45 42 n_replay_Reached false [.tmp 43, .tmp 44, .cst (.t (.int .i64 4))],oG 46 42 (.bin .eql) [.tmp 45, .cst (.t (.int .i64 1))],oO 47 .pick [.tmp 42, .tmp 46, .cst (.t (.bool false))],mv 48 47,oG 49 48 (.load 3 true) [.tmp 6],oG 50 48 (.load 2 true) [.tmp 4],cG 51 48 n_replay_First false [.tmp 49, .tmp 50],oG 52 48 (.bin .eql) [.tmp 51, .cst (.t (.int .i64 1))],oO 53 .pick [.tmp 48, .tmp 52, .cst (.t (.bool false))],mv 0 53])
 .ret)))))
def hints_law28_awake : List (Nat × List Nat) := [(1, [2, 5, 8]), (2, [4])]
def ac_law28_few_L0 (n_draw_Cut : Nat) : AC :=
 (.seq
 (.seq
 (rG 24576 [mv 17 4,mv 18 3,oO 19 .len [.tmp 18],bT 20 .lss 17 19])
 (.cond (.tmp 20)
 .skip
 (.exit 0)))
 (.seq
 (.block 1
 (.seq
 (.seq
 (rG 32768 [mv 23 3,mv 24 4,oO 25 (.iaddr 4) [.tmp 23, .tmp 24],oO 26 (.faddr 2) [.tmp 25],oO 27 (.load 1 false) [.tmp 26],oO 28 .len [.tmp 27],bN 29 .gtr 28 4])
 (.cond (.tmp 29)
 (rG 36864 [mv 30 3,mv 31 4,mv 32 3,mv 33 4,oO 34 (.iaddr 4) [.tmp 32, .tmp 33],oO 35 (.faddr 2) [.tmp 34],oO 36 (.load 1 false) [.tmp 35],oO 37 (.slice 1 false true false) [.tmp 36, .cst (.t (.int .i64 4))],oO 38 (.iaddr 4) [.tmp 30, .tmp 31],oO 39 (.faddr 2) [.tmp 38],oS 1 39 37])
 .skip))
 (rG 40960 [mv 40 3,mv 41 4,mv 42 3,mv 43 4,oO 44 (.iaddr 4) [.tmp 42, .tmp 43],oO 45 (.faddr 3) [.tmp 44],oO 46 (.load 1 false) [.tmp 45],cL 47 n_draw_Cut true [.tmp 46, .cst (.t (.int .i64 80))],oO 48 (.iaddr 4) [.tmp 40, .tmp 41],oO 49 (.faddr 3) [.tmp 48],oS 1 49 47])))
 (rG 28672 [mv 21 4,bN 22 .add 21 1,mv 4 22])))
def ac_law28_few (n_draw_Cut : Nat) : AC :=
 (.seq
 (rG 4096 [oO 1 .box [.tmp 0],oO 2 (.new 3 [(.agg [(.t (.int .i64 0)), (.t (.int .i64 0)), .nil])]) []])
 (.seq
 (.seq
 (rG 8192 [oO 5 (.faddr 2) [.tmp 1],oO 6 (.load 1 false) [.tmp 5],oO 7 .len [.tmp 6],bN 8 .gtr 7 50])
 (.cond (.tmp 8)
 (rG 12288 [oO 9 (.faddr 2) [.tmp 1],oO 10 (.load 1 false) [.tmp 9],oO 11 (.slice 4 false true false) [.tmp 10, .cst (.t (.int .i64 50))],oO 12 (.faddr 2) [.tmp 1],oS 1 12 11])
 .skip))
 (.seq
 (rG 16384 [oO 13 (.bslice 4 0 (.agg [(.t (.int .i64 0)), (.t (.int .i64 0)), .nil, .nil]) []) [],oO 14 (.faddr 2) [.tmp 1],oO 15 (.load 1 false) [.tmp 14],oO 16 (.append 4 64) [.tmp 13, .tmp 15],mv 3 16])
 (.seq
 (.seq
 (rG 20480 [mC 4 (.t (.int .i64 0))])
 (.block 0
 (.loop (ac_law28_few_L0 n_draw_Cut))))
 (.seq
 (rG 45056 [mv 50 3,oO 51 (.faddr 2) [.tmp 1],oS 1 51 50])
 (.seq
 (rG 49152 [oO 52 (.load 3 true) [.tmp 1],oS 3 2 52])
 .ret))))))
def hints_law28_few : List (Nat × List Nat) := [(9, [7])]
def ac_law28_ReplayDigest_L0 (n_replay_Digest n_ref25_ReplayDigest n_ref1_Same : Nat) : AC :=
 (.seq
 (rG 28672 [bT 38 .lss 37 36])
 (.seq
 (.cond (.tmp 38)
 .skip
 (.exit 0))
 (.seq
 (.block 1
 (.seq
 (rG 32768 [oO 39 (.iaddr 3) [.tmp 35, .tmp 37],oO 40 (.load 3 true) [.tmp 39],oO 12 (.new 3 [(.agg [(.t (.int .i64 0)), (.t (.int .i64 0)), .nil])]) [],oS 3 12 40])
 (.seq
 (rG 36864 [oO 42 (.load 3 true) [.tmp 12],oO 43 (.load 2 true) [.tmp 8],cL 44 n_replay_Digest true [.tmp 42, .tmp 43],mv 41 44,oO 45 (.extract 0) [.tmp 41],oO 46 (.extract 1) [.tmp 41],mv 13 45,mv 14 46])
 (.seq
 (rG 40960 [oO 48 (.load 3 true) [.tmp 12],oO 49 (.load 2 true) [.tmp 8],cL 50 n_ref25_ReplayDigest true [.tmp 48, .tmp 49],mv 47 50,oO 51 (.extract 0) [.tmp 47],oO 52 (.extract 1) [.tmp 47],mv 15 51,mv 16 52])
 (.seq
 (rG 45056 [mv 53 14,mv 54 16,bT 55 .neq 53 54,mv 56 55,mF 57 13 56,mF 58 15 56,cF 59 56 n_ref1_Same false [.tmp 57, .tmp 58],oF 60 56 (.un .not) [.tmp 59],oO 61 .pick [.tmp 56, .cst (.t (.bool true)), .tmp 60]])
 (.cond (.tmp 61)
 (.seq
 (rG 49152 [mC 10 (.t (.bool false))])
 .ret)
 .skip))))))
 (rG 53248 [bN 62 .add 37 1,mv 37 62]))))
def ac_law28_ReplayDigest (n_law28_awake n_draw_Mod n_law28_few n_draw_Active n_draw_Log n_replay_Digest n_ref25_ReplayDigest n_ref1_Same : Nat) : AC :=
 (.seq
 (rG 4096 [oO 5 .box [.tmp 0],oO 8 .boxArr [.tmp 3],mC 10 (.t (.bool false))])
 (.seq
 (.seq
 (rG 8192 [cL 17 n_law28_awake false [],oO 18 (.un .not) [.tmp 17]])
 (.cond (.tmp 18)
 (.seq
 (rG 12288 [mC 10 (.t (.bool false))])
 .ret)
 .skip))
 (.seq
 (.seq
 (rG 16384 [mv 19 4,oO 20 (.un .not) [.tmp 19]])
 (.cond (.tmp 20)
 (.reg 20480 (some [0, 1, 3, 0, 8, 31, 31, 127, 255, 511]) [oO 21 (.aaddr 2 1) [.tmp 8, .cst (.t (.int .i64 0))],oO 22 (.load 1 false) [.tmp 21],cL 23 n_draw_Mod false [.tmp 22, .cst (.t (.int .i64 65536))],oO 24 (.aaddr 2 1) [.tmp 8, .cst (.t (.int .i64 1))],oO 25 (.load 1 false) [.tmp 24],cL 26 n_draw_Mod false [.tmp 25, .cst (.t (.int .i64 65536))],oO 27 (.aaddr 2 1) [.tmp 8, .cst (.t (.int .i64 0))],oS 1 27 23,oO 28 (.aaddr 2 1) [.tmp 8, .cst (.t (.int .i64 1))],oS 1 28 26])
 .skip))
 (.seq
 (.seq
 (rG 24576 [oO 29 (.load 3 true) [.tmp 5],cL 30 n_law28_few true [.tmp 29],mv 31 1,mv 32 2,cL 33 n_draw_Active false [.tmp 32],cL 34 n_draw_Log true [.tmp 31, .tmp 33, .cst (.t (.int .i64 0))],oO 35 (.bslice 3 2 (.agg [(.t (.int .i64 0)), (.t (.int .i64 0)), .nil]) [0, 1]) [.tmp 30, .tmp 34],oO 36 .len [.tmp 35],mC 37 (.t (.int .i64 0))])
 (.block 0
 (.loop (ac_law28_ReplayDigest_L0 n_replay_Digest n_ref25_ReplayDigest n_ref1_Same))))
 (.seq
 (rG 57344 [mC 10 (.t (.bool true))])
 .ret)))))
def hints_law28_ReplayDigest : List (Nat × List Nat) := [(5, [1, 5]), (8, [2]), (9, [2])]
end Go.Eng
end
section
set_option maxRecDepth 20000
set_option maxHeartbeats 64000000
namespace Go.Eng
def fewLE (e : Ev) : Ev := (e.1, e.2.1, e.2.2.1.take 4, e.2.2.2.take 80)
def fewLs (es : List Ev) : List Ev := (es.take 50).map fewLE
def lgX (es : List Ev) : Prop := es.length ≤ 9223372036854775807 ∧ ∀ e ∈ es, evX e
theorem fewLs_m {es : List Ev} (h : lgX es) : esM (fewLs es) := by
 refine ⟨?_, fun e he => ?_⟩
 · unfold fewLs; rw [List.length_map, List.length_take]; omega
 · unfold fewLs at he
   obtain ⟨x, hx, rfl⟩ := List.mem_map.1 he
   have := h.2 x (List.mem_of_mem_take hx)
   unfold fewLE
   refine ⟨?_, fun y hy => this.2.1 y (List.mem_of_mem_take hy), ?_⟩
   · simp only [List.length_take]; omega
   · simp only [List.length_take]; omega
def ct_lfew : Ct where
 α := Lg
 as x := [.t (lgT x)]
 ins _ := []
 pre x := lgX x.2.2
 r x := .t (lgT (x.1, x.2.1, fewLs x.2.2))
 outs _ := []
 inj := by
   intro a b h _
   simp only [List.cons.injEq, V.t.injEq, and_true] at h
   cases lgT_inj h
   exact ⟨rfl, rfl⟩
theorem lfew_eq {act rs : Int} {es : List Ev} (h : lgX es) : ct_lfew.fs [.t (.agg [.int .i64 act, .int .i64 rs, .sl (es.map evT)])] [] = some (.t (.agg [.int .i64 act, .int .i64 rs, .sl ((fewLs es).map evT)]), []) := ct_lfew.eq (act, rs, es) h
def fewI (es : List Ev) (i : Nat) : List Ev := (es.take i).map fewLE ++ es.drop i
theorem fewI_len {es : List Ev} {i : Nat} (h : i ≤ es.length) : (fewI es i).length = es.length := by unfold fewI; simp; omega
theorem fewI_get {es : List Ev} {i : Nat} {e : Ev} (h : es[i]? = some e) : (fewI es i)[i]? = some e := by
 have hl := (List.getElem?_eq_some_iff.1 h).1
 unfold fewI
 rw [List.getElem?_append_right (by simp; omega), List.length_map, List.length_take, Nat.min_eq_left (by omega), Nat.sub_self, List.getElem?_drop, Nat.add_zero, h]
theorem fewI_set {es : List Ev} {i : Nat} {e : Ev} (h : es[i]? = some e) : (fewI es i).set i (fewLE e) = fewI es (i + 1) := by
 have hl := (List.getElem?_eq_some_iff.1 h).1
 unfold fewI
 have h1 : ((es.take i).map fewLE).length = i := by simp; omega
 rw [List.set_append_right _ _ (by omega), h1, Nat.sub_self, drop_at h, List.set_cons_zero, List.take_add_one, h]
 simp
theorem w_law28_few (tab : Tab) (gl : Gl) (n1 : Nat) (h1 : tab.look n1 = some ct_cut.fs) (act rs : Int) (es : List Ev) (hx : lgX es) :
   (ac_law28_few n1).wp tab gl (zipF 0 [.t (lgT (act, rs, es))]) (zipF 0 []) (resW [(2, some (3, true))] 0 (fun r o => r = .t (lgT (act, rs, fewLs es)) ∧ o = [])) := by
 have hlx := hx.1
 have fin : ∀ (l : List Ev), l.length ≤ 50 → (∀ e ∈ l, evX e) → fewLs es = l.map fewLE → ∀ (fs : Fs) (hs : Hs), Weak fs hs [(1, .ref 4096 0 0), (2, .ref 4112 0 0), (3, .sl 16432 0 l.length), (4, .t (.int .i64 0))] [(16432, .live 4 ((l.map evT).map V.t) true false), (4112, .live 3 [.agg [.t (.int .i64 0), .t (.int .i64 0), .nil]] true true), (4096, .live 3 [.t (.agg [.int .i64 act, .int .i64 rs, .sl (l.map evT)])] true true)] →
     loopW tab gl (ac_law28_few_L0 n1) fs hs (blockK 0 (seqK tab gl ((rG 45056 [mv 50 3, oO 51 (.faddr 2) [.tmp 1], oS 1 51 50]).seq ((rG 49152 [oO 52 (.load 3 true) [.tmp 1], oS 3 2 52]).seq .ret)) (resW [(2, some (3, true))] 0 (fun r o => r = .t (lgT (act, rs, fewLs es)) ∧ o = [])))) := by
   intro l hl hlv hf fs hs hw
   refine loopW_weak hw ?_
   rw [hf]
   refine loop_upto l.length (fun i => [(1, .ref 4096 0 0), (2, .ref 4112 0 0), (3, .sl 16432 0 l.length), (4, .t (.int .i64 (i : Nat)))]) (fun i => [(16432, .live 4 (((fewI l i).map evT).map V.t) true false), (4112, .live 3 [.agg [.t (.int .i64 0), .t (.int .i64 0), .nil]] true true), (4096, .live 3 [.t (.agg [.int .i64 act, .int .i64 rs, .sl (l.map evT)])] true true)]) ?_ (fun i hi => ?_)
   · have e0 : fewI l 0 = l := by simp [fewI]
     simp only [e0]
     exact Weak.refl
   · have hlen := fewI_len hi
     by_cases hlt : i < l.length
     · obtain ⟨⟨er, ek, eds, ed⟩, he⟩ : ∃ e, l[i]? = some e := ⟨l[i], by simp [hlt]⟩
       have hev := hlv _ (List.mem_of_getElem? he)
       have hg := fewI_get he
       have hst := fewI_set he
       have hc : ct_cut.fs [.t (.sl (ed.map byteT)), .t (.int .i64 80)] [] = _ := cut_eq (b := ed) (n := 80) ⟨hev.2.2, by omega⟩
       have hd1 := hev.1
       simp only at hd1
       have hfe : fewLE (er, ek, eds, ed) = (er, ek, eds.take 4, ed.take 80) := rfl
       rw [hfe] at hst
       have hset : List.set ((fewI l i).map evT) i (.agg [.int .i64 er, .int .i64 ek, .sl ((eds.take 4).map bsT), .sl ((ed.take 80).map byteT)]) = (fewI l (i + 1)).map evT := by
         rw [← hst, List.map_set]; rfl
       have hgs : ∀ a : T, (List.set ((fewI l i).map evT) i a)[i]? = some a := fun a => by rw [List.getElem?_set_self]; simp [hlen, hlt]
       generalize hL : fewI l i = L at *
       by_cases h4 : 4 < eds.length
       · simp (disch := omega) only [go_sem, ↓reduceIte, Nat.reduceAdd, Nat.reduceEqDiff, Nat.reduceLeDiff, Int.reduceLE, reduceCtorEq, ac_law28_few_L0, hg, evT_def, h4, h1, hc, hgs, List.set_set]
         refine ⟨hlt, Weak.rd id ?_ ?_ rfl⟩
         all_goals simp (disch := omega) only [go_sem, ↓reduceIte, Nat.reduceAdd, Nat.reduceEqDiff, Nat.reduceBEq, id, hset]
       · have e4 : eds.take 4 = eds := List.take_of_length_le (by omega)
         rw [e4] at hset
         simp (disch := omega) only [go_sem, ↓reduceIte, Nat.reduceAdd, Nat.reduceEqDiff, Nat.reduceLeDiff, reduceCtorEq, ac_law28_few_L0, hg, evT_def, h4, h1, hc, hgs, List.set_set]
         refine ⟨hlt, Weak.rd id ?_ ?_ rfl⟩
         all_goals simp (disch := omega) only [go_sem, ↓reduceIte, Nat.reduceAdd, Nat.reduceEqDiff, Nat.reduceBEq, id, hset]
     · have e : i = l.length := by omega
       subst e
       have e1 : fewI l l.length = l.map fewLE := by simp [fewI]
       rw [e1] at hlen ⊢
       generalize l.map fewLE = L at *
       have tL : List.take l.length L = L := List.take_of_length_le (by omega)
       simp (disch := omega) only [go_sem, ↓reduceIte, Nat.reduceAdd, Nat.reduceEqDiff, Nat.reduceLeDiff, reduceCtorEq, ac_law28_few_L0, lgT_def, tL]
 by_cases h50 : 50 < es.length
 · have hl : (es.take 50).length = 50 := by rw [List.length_take]; omega
   have hv : ∀ e ∈ es.take 50, evX e := fun e he => hx.2 e (List.mem_of_mem_take he)
   generalize hQ : es.take 50 = Q at *
   have hf : fewLs es = Q.map fewLE := by unfold fewLs; rw [hQ]
   simp (disch := omega) only [go_sem, ↓reduceIte, Nat.reduceAdd, Nat.reduceEqDiff, Nat.reduceMul, Nat.reduceLeDiff, Int.reduceLE, reduceCtorEq, ac_law28_few, lgT_def, h50, hQ, hl, zE]
   refine fin Q (by omega) hv hf _ _ (Weak.rd id ?_ ?_ rfl)
   all_goals simp (disch := omega) only [go_sem, ↓reduceIte, Nat.reduceAdd, Nat.reduceEqDiff, Nat.reduceBEq, id, hl]
 · have hf : fewLs es = es.map fewLE := by unfold fewLs; rw [List.take_of_length_le (by omega)]
   simp (disch := omega) only [go_sem, ↓reduceIte, Nat.reduceAdd, Nat.reduceEqDiff, Nat.reduceLeDiff, reduceCtorEq, ac_law28_few, lgT_def, h50, zE]
   refine fin es (by omega) hx.2 hf _ _ (Weak.rd id ?_ ?_ rfl)
   all_goals simp (disch := omega) only [go_sem, ↓reduceIte, Nat.reduceAdd, Nat.reduceEqDiff, Nat.reduceBEq, id]
def aA : Ev := mkE 0 3 2 [97]
def aB : Ev := mkE 0 3 2 [98]
def aC : Ev := mkE 4 3 2 [99]
theorem aw_facts : rpE 2 [aC, aA] = 0 ∧ (rpG 2 [aC, aA]).2 = 2 ∧ rcI (rpG 2 [aC, aA]).1 2 [aA, aB, aC] 0 = 1 ∧ rcI (rpG 2 [aC, aA]).1 2 [aA, aB, aC] 4 = 1 ∧ fsI (rpG 2 [aC, aA]).1 2 [aA, aB, aC] = 1 := by decide +kernel
theorem w_awake28 (tab : Tab) (gl : Gl) (n1 n2 n3 n4 : Nat) (h1 : tab.look n1 = some ct_make.fs) (h2 : tab.look n2 = some ct_rpl.fs) (h3 : tab.look n3 = some ct_rcI.fs) (h4 : tab.look n4 = some ct_fsI.fs) :
   (ac_law28_awake n1 n2 n3 n4).wp tab gl (zipF 0 []) (zipF 0 []) (resW [(0, none)] 0 (fun r o => r = .t (.bool true) ∧ o = [])) := by
 have mA : ct_make.fs [.t (.int .i64 0), .t (.int .i64 3), .t (.int .i64 2), .t (.sl [byteT 97])] [] = some (.t (evT aA), []) := makeO (r := 0) (k := 3) (act := 2) (d := [97]) ⟨by omega, by decide⟩
 have mB : ct_make.fs [.t (.int .i64 0), .t (.int .i64 3), .t (.int .i64 2), .t (.sl [byteT 98])] [] = some (.t (evT aB), []) := makeO (r := 0) (k := 3) (act := 2) (d := [98]) ⟨by omega, by decide⟩
 have mC : ct_make.fs [.t (.int .i64 4), .t (.int .i64 3), .t (.int .i64 2), .t (.sl [byteT 99])] [] = some (.t (evT aC), []) := makeO (r := 4) (k := 3) (act := 2) (d := [99]) ⟨by omega, by decide⟩
 have vA : evX aA := (mkE_m (r := 0) (k := 3) (act := 2) (d := [97]) (by decide)).x
 have vB : evX aB := (mkE_m (r := 0) (k := 3) (act := 2) (d := [98]) (by decide)).x
 have vC : evX aC := (mkE_m (r := 4) (k := 3) (act := 2) (d := [99]) (by decide)).x
 obtain ⟨f1, f2, f3, f4, f5⟩ := aw_facts
 have e1 : esM [aC, aA] := ⟨by simp, fun e he => by
   simp only [List.mem_cons, List.not_mem_nil, or_false] at he
   rcases he with rfl | rfl
   · exact vC
   · exact vA⟩
 have e2 : esM [aA, aB, aC] := ⟨by simp, fun e he => by
   simp only [List.mem_cons, List.not_mem_nil, or_false] at he
   rcases he with rfl | rfl | rfl
   · exact vA
   · exact vB
   · exact vC⟩
 have hv := (rpG_rv (act := 2) (es := [aC, aA])).1
 have hR := rpl_eq (act := 2) (rs := 0) e1
 rw [f1, f2] at hR
 have hr0 := rcI_eq (act := 2) (rs := 0) (g := 0) (r := rpG 2 [aC, aA]) ⟨e2, hv⟩
 have hr4 := rcI_eq (act := 2) (rs := 0) (g := 4) (r := rpG 2 [aC, aA]) ⟨e2, hv⟩
 have hf := fsI_eq (act := 2) (rs := 0) (r := rpG 2 [aC, aA]) ⟨e2, hv⟩
 rw [f2, f3] at hr0
 rw [f2, f4] at hr4
 rw [f2, f5] at hf
 simp only [List.map_cons, List.map_nil] at hR hr0 hr4 hf
 clear f1 f2 f3 f4 f5 e1 e2 hv vA vB vC
 generalize rpG 2 [aC, aA] = X at *
 generalize aA = eA at *
 generalize aB = eB at *
 generalize aC = eC at *
 simp (config := { maxSteps := 2000000 }) (disch := (first | omega | (simp only [lens, lenm]; omega))) only [go_sem, ↓reduceIte, Nat.reduceAdd, Nat.reduceEqDiff, Nat.reduceLT, Nat.reduceLeDiff, reduceCtorEq, ac_law28_awake, h1, mA, mB, mC, evT_c, evT_p, evT_tc, evT_agg, evT_all, h2, hR, h3, hr0, hr4, h4, hf]
theorem lgG_facts {cs : List UInt8} {A : Int} (hA : 1 ≤ A ∧ A ≤ 3) : (∀ e ∈ lgG cs A, evV A e) ∧ (lgG cs A).length ≤ 200 ∧ esM (lgG cs A) := by
 obtain ⟨h1, h2⟩ := lgG_ok (b := cs) hA
 exact ⟨h1, h2, by omega, fun e he => (h1 e he).2.x⟩
theorem w_ReplayDigest (tab : Tab) (gl : Gl) (n1 n2 n3 n4 n5 n6 n7 n8 : Nat) (h1 : tab.look n1 = some ct_awake.fs) (h2 : tab.look n2 = some ct_mod.fs) (h3 : tab.look n3 = some ct_lfew.fs) (h4 : tab.look n4 = some ct_dact.fs) (h5 : tab.look n5 = some ct_dlg.fs) (h6 : tab.look n6 = some ct_rdg.fs) (h7 : tab.look n7 = some ct_rdg.fs) (h8 : tab.look n8 = some ct_same.fs)
   (raw : Lg) (hx : lgX raw.2.2) (cs : List UInt8) (hcs : cs.length ≤ 9223372036854775807) (a : Int) (ha : rI a) (s0 s1 : Int) (hs0 : rI s0) (hs1 : rI s1) (any : Bool) :
   (ac_law28_ReplayDigest n1 n2 n3 n4 n5 n6 n7 n8).wp tab gl (zipF 0 [.t (lgT raw), .t (.sl (cs.map byteT)), .t (.int .i64 a), .t (.agg [.int .i64 s0, .int .i64 s1]), .t (.bool any)]) (zipF 0 []) (resW [(10, none)] 0 (fun r' o => r' = .t (.bool true) ∧ o = [])) := by
 obtain ⟨ra, rr, res⟩ := raw
 have lA := modI_lt (a := a) (m := 3) (by omega)
 have hA := dact_eq ha
 obtain ⟨A, hAe⟩ : ∃ A, 1 + modI a 3 = A := ⟨_, rfl⟩
 rw [hAe] at hA
 have lA2 : 1 ≤ A ∧ A ≤ 3 := by omega
 have hF := lfew_eq (act := ra) (rs := rr) hx
 have mF := fewLs_m hx
 simp only at hF mF
 have hL := dlg_eq (b := cs) (act := A) (n := 0) ⟨hcs, lA2, by unfold rI; omega⟩
 obtain ⟨_, _, mL⟩ := lgG_facts (cs := cs) lA2
 have m0 := mod_eq (a := s0) (b := 65536) ⟨hs0, by omega⟩
 have m1 := mod_eq (a := s1) (b := 65536) ⟨hs1, by omega⟩
 generalize fewLs res = F at *
 generalize lgG cs A = L at *
 generalize modI 0 1000 = R at *
 generalize modI s0 65536 = t0 at *
 generalize modI s1 65536 = t1 at *
 have main : ∀ (p q : Int) (fs : Fs) (hs : Hs), Weak fs hs [(8, .ref 4112 0 0), (35, .t (.sl [lgT (ra, rr, F), lgT (A, R, L)])), (36, .t (.int .i64 2)), (37, .t (.int .i64 0))] [(4112, .live 1 [.t (.int .i64 p), .t (.int .i64 q)] true true)] →
     loopW tab gl (ac_law28_ReplayDigest_L0 n6 n7 n8) fs hs (blockK 0 (seqK tab gl ((rG 57344 [mC 10 (.t (.bool true))]).seq AC.ret) (resW [(10, none)] 0 (fun r' o => r' = .t (.bool true) ∧ o = [])))) := by
   intro p q fs hs hw
   refine loopW_weak hw ?_
   have one : ∀ (k : Nat) (E : Lg), k < 2 → esM E.2.2 → [lgT (ra, rr, F), lgT (A, R, L)][k]? = some (lgT E) → (ac_law28_ReplayDigest_L0 n6 n7 n8).wp tab gl [(8, .ref 4112 0 0), (35, .t (.sl [lgT (ra, rr, F), lgT (A, R, L)])), (36, .t (.int .i64 2)), (37, .t (.int .i64 (k : Nat)))] [(4112, .live 1 [.t (.int .i64 p), .t (.int .i64 q)] true true)] (upK 2 (fun i => [(8, .ref 4112 0 0), (35, .t (.sl [lgT (ra, rr, F), lgT (A, R, L)])), (36, .t (.int .i64 2)), (37, .t (.int .i64 (i : Nat)))]) (fun _ => [(4112, .live 1 [.t (.int .i64 p), .t (.int .i64 q)] true true)]) k (blockK 0 (seqK tab gl ((rG 57344 [mC 10 (.t (.bool true))]).seq AC.ret) (resW [(10, none)] 0 (fun r' o => r' = .t (.bool true) ∧ o = []))))) := by
     rintro k ⟨ea, er, es⟩ hk hm hg
     simp only at hm
     simp only [lgT_def] at hg
     have hR := rdg_eq (act := ea) (rs := er) (s0 := p) (s1 := q) hm
     have hbl : (rdgB ea es p q).length < 1000000000 := by
       rcases digs_cases (act := ea) hm p q with ⟨_, _, b⟩ | ⟨_, _, b, _⟩ | ⟨_, _, b, _⟩
       · rw [b]; decide
       · rw [b]; decide
       · omega
     have hq := same_refl hbl
     generalize rdgB ea es p q = B at *
     generalize rdgE ea es p q = e at *
     simp (disch := omega) only [go_sem, ↓reduceIte, Nat.reduceAdd, Nat.reduceEqDiff, Nat.reduceLeDiff, ac_law28_ReplayDigest_L0, hg, lgT_def, h6, hR, h7, bne_self_eq_false, h8, hq]
     repeat refine And.intro rfl ?_
     refine ⟨hk, Weak.rd id ?_ ?_ rfl⟩
     all_goals simp (disch := omega) only [go_sem, ↓reduceIte, Nat.reduceEqDiff, id, lgT_def]
   refine loop_upto 2 (fun i => [(8, .ref 4112 0 0), (35, .t (.sl [lgT (ra, rr, F), lgT (A, R, L)])), (36, .t (.int .i64 2)), (37, .t (.int .i64 (i : Nat)))]) (fun _ => [(4112, .live 1 [.t (.int .i64 p), .t (.int .i64 q)] true true)]) ?_ (fun k hk => ?_)
   · refine Weak.rd id ?_ ?_ rfl
     all_goals simp (disch := omega) only [go_sem, ↓reduceIte, Nat.reduceEqDiff, id]
   · rcases (show k = 0 ∨ k = 1 ∨ k = 2 by omega) with rfl | rfl | rfl
     · exact one 0 (ra, rr, F) (by omega) mF rfl
     · exact one 1 (A, R, L) (by omega) mL rfl
     · simp (disch := omega) only [go_sem, ↓reduceIte, Nat.reduceAdd, Nat.reduceEqDiff, Int.reduceLT, ac_law28_ReplayDigest_L0]
 cases any
 · simp (disch := omega) only [go_sem, ↓reduceIte, Nat.reduceAdd, Nat.reduceEqDiff, Nat.reduceLT, Nat.reduceLeDiff, Int.reduceLT, Int.reduceLE, reduceCtorEq, ac_law28_ReplayDigest, lgT_def, h1, awake_eq, h2, m0, m1, h3, hF, h4, hA, h5, hL]
   repeat refine And.intro rfl ?_
   refine main t0 t1 _ _ (Weak.cv (hv := []) [24672] id ?_ rfl)
   simp (disch := omega) only [go_sem, ↓reduceIte, Nat.reduceAdd, Nat.reduceEqDiff, Nat.reduceLeDiff, id, lgT_def]
   all_goals rfl
 · simp (disch := omega) only [go_sem, ↓reduceIte, Nat.reduceAdd, Nat.reduceEqDiff, Nat.reduceLT, Nat.reduceLeDiff, reduceCtorEq, ac_law28_ReplayDigest, lgT_def, h1, awake_eq, h2, m0, m1, h3, hF, h4, hA, h5, hL]
   repeat refine And.intro rfl ?_
   refine main s0 s1 _ _ (Weak.cv (hv := []) [24672] id ?_ rfl)
   simp (disch := omega) only [go_sem, ↓reduceIte, Nat.reduceAdd, Nat.reduceEqDiff, Nat.reduceLeDiff, id, lgT_def]
   all_goals rfl
end Go.Eng
end
section
set_option maxRecDepth 20000
namespace Go.Eng
open Go.MuLone
theorem tieW {P : Program} {G : Gl} {tab : Tab} {f : FuncId} {fn : Func} {c : Code} {ac : AC} {hints : List (Nat × List Nat)} {rs : List (Nat × Option (Nat × Bool))} (hf : P.funcs[f]? = some fn) (hname : (fn.name == "runtime.NumGoroutine") = false) (hb : fn.body = some c) (hann : ann P fn.ntmps hints c = some ac) (hmx : P.follows .mixedOrders = true)
   (ht : TabOk P G tab) (hrs : resOf P fn.results.toList = some rs) (ct : Ct) (hn : ∀ x, (ct.as x).length ≤ fn.ntmps) (hi : ∀ x, (ct.ins x).length ≤ 100)
   (h : ∀ x, ct.pre x → ac.wp tab G (zipF 0 (ct.as x)) (zipF 0 (ct.ins x)) (resW rs (ct.ins x).length (fun r' o' => r' = ct.r x ∧ o' = ct.outs x))) : FOk P G f ct.fs :=
 ct.ok (fun args w => run_callFunc_enter hf hname hb args w) (fun x hx => spec_of hf hb hann hmx ht hrs (hn x) (hi x) (h x hx))
theorem tieF {P : Program} {G : Gl} {tab : Tab} {f : FuncId} {fn : Func} {c : Code} {ac : AC} {hints : List (Nat × List Nat)} {rs : List (Nat × Option (Nat × Bool))} (fz : List Nat) (hf : P.funcs[f]? = some fn) (hname : (fn.name == "runtime.NumGoroutine") = false) (hb : fn.body = some c) (hann : ann P fn.ntmps hints c = some ac) (hmx : P.follows .mixedOrders = true)
   (ht : TabOk P G tab) (hrs : resOf P fn.results.toList = some rs) (ct : Ct) (hn : ∀ x, (ct.as x).length ≤ fn.ntmps) (hi : ∀ x, (ct.ins x).length ≤ 100)
   (h : ∀ x, ct.pre x → ac.wp tab G (zipF 0 (ct.as x)) (zipF 0 (ct.ins x)) (resF fz rs (ct.ins x).length (fun r' o' => r' = ct.r x ∧ o' = ct.outs x))) : FOk P G f ct.fs :=
 ct.ok (fun args w => run_callFunc_enter hf hname hb args w) (fun x hx => spec_live fz hf hb hann hmx ht hrs (hn x) (hi x) (h x hx))
theorem tieL {P : Program} {G : Gl} {tab : Tab} {f : FuncId} {fn : Func} {c : Code} {ac : AC} {hints : List (Nat × List Nat)} {rs : List (Nat × Option (Nat × Bool))} (hf : P.funcs[f]? = some fn) (hb : fn.body = some c) (hann : ann P fn.ntmps hints c = some ac) (hmx : P.follows .mixedOrders = true)
   (ht : TabOk P G tab) (hrs : resOf P fn.results.toList = some rs) {as : List V} (hn : as.length ≤ fn.ntmps)
   (h : ac.wp tab G (zipF 0 as) (zipF 0 []) (resW rs 0 (fun r o => r = .t (.bool true) ∧ o = []))) : Spec P G f as [] (.t (.bool true)) [] :=
 spec_of hf hb hann hmx ht hrs hn (Nat.zero_le _) h
theorem tieW' {P : Program} {G : Gl} {tab : Tab} {f : FuncId} (fn : Func) (hints : List (Nat × List Nat)) (ac : AC) (rs : List (Nat × Option (Nat × Bool))) (ht : TabOk P G tab) (ct : Ct)
   (h : ∀ x, ct.pre x → ac.wp tab G (zipF 0 (ct.as x)) (zipF 0 (ct.ins x)) (resW rs (ct.ins x).length (fun r' o' => r' = ct.r x ∧ o' = ct.outs x)))
   (hf : P.funcs[f]? = some fn := by kernel_rfl) (hname : (fn.name == "runtime.NumGoroutine") = false := by kernel_rfl) (hb : fn.body = some (fn.body.getD .skip) := by kernel_rfl) (hann : ann P fn.ntmps hints (fn.body.getD .skip) = some ac := by kernel_rfl) (hmx : P.follows .mixedOrders = true := by kernel_rfl)
   (hrs : resOf P fn.results.toList = some rs := by kernel_rfl) (hn : ∀ x, (ct.as x).length ≤ fn.ntmps := by exact fun _ => Nat.le_of_ble_eq_true (by kernel_rfl)) (hi : ∀ x, (ct.ins x).length ≤ 100 := by exact fun _ => Nat.le_of_ble_eq_true (by kernel_rfl)) : FOk P G f ct.fs := tieW hf hname hb hann hmx ht hrs ct hn hi h
theorem tieF' {P : Program} {G : Gl} {tab : Tab} {f : FuncId} (fz : List Nat) (fn : Func) (hints : List (Nat × List Nat)) (ac : AC) (rs : List (Nat × Option (Nat × Bool))) (ht : TabOk P G tab) (ct : Ct)
   (h : ∀ x, ct.pre x → ac.wp tab G (zipF 0 (ct.as x)) (zipF 0 (ct.ins x)) (resF fz rs (ct.ins x).length (fun r' o' => r' = ct.r x ∧ o' = ct.outs x)))
   (hf : P.funcs[f]? = some fn := by kernel_rfl) (hname : (fn.name == "runtime.NumGoroutine") = false := by kernel_rfl) (hb : fn.body = some (fn.body.getD .skip) := by kernel_rfl) (hann : ann P fn.ntmps hints (fn.body.getD .skip) = some ac := by kernel_rfl) (hmx : P.follows .mixedOrders = true := by kernel_rfl)
   (hrs : resOf P fn.results.toList = some rs := by kernel_rfl) (hn : ∀ x, (ct.as x).length ≤ fn.ntmps := by exact fun _ => Nat.le_of_ble_eq_true (by kernel_rfl)) (hi : ∀ x, (ct.ins x).length ≤ 100 := by exact fun _ => Nat.le_of_ble_eq_true (by kernel_rfl)) : FOk P G f ct.fs := tieF fz hf hname hb hann hmx ht hrs ct hn hi h
theorem tieL' {P : Program} {G : Gl} {tab : Tab} {f : FuncId} (fn : Func) (hints : List (Nat × List Nat)) (ac : AC) (rs : List (Nat × Option (Nat × Bool))) (ht : TabOk P G tab) {as : List V}
   (h : ac.wp tab G (zipF 0 as) (zipF 0 []) (resW rs 0 (fun r o => r = .t (.bool true) ∧ o = [])))
   (hf : P.funcs[f]? = some fn := by kernel_rfl) (hb : fn.body = some (fn.body.getD .skip) := by kernel_rfl) (hann : ann P fn.ntmps hints (fn.body.getD .skip) = some ac := by kernel_rfl) (hmx : P.follows .mixedOrders = true := by kernel_rfl)
   (hrs : resOf P fn.results.toList = some rs := by kernel_rfl) (hn : as.length ≤ fn.ntmps := by exact Nat.le_of_ble_eq_true (by kernel_rfl)) : Spec P G f as [] (.t (.bool true)) [] := tieL hf hb hann hmx ht hrs hn h
end Go.Eng
end
section
set_option maxRecDepth 20000
namespace Go.Eng
theorem ok_mnz {P : Program} {G : Nat → Option (List T)} {f : FuncId} {fn : Func} {ps : Array TypeId} {t e : TypeId} (hf : P.funcs[f]? = some fn) (hname : (fn.name == "runtime.NumGoroutine") = false) (hb : fn.body.isNone = true) (hn : Extern.findNext fn = none)
   (he : Extern.find fn = some (Extern.BytealgMakeNoZero.makeNoZero ps #[t])) (ht : P.underlying t = some (.slice e)) : FOk P G f ct_mnz.fs := by
 intro as ins r outs hs
 have key : ∃ n : Nat, (n = 20 ∨ n = 32) ∧ as = [.t (.int .i64 n)] ∧ ins = [] ∧ r = .sl 0 0 n ∧ outs = [.live 1 [] true false] := by
   unfold Ct.fs at hs
   split at hs
   · rename_i hx
     cases hs
     have h1 := hx.choose_spec
     generalize hx.choose = y at h1 ⊢
     obtain ⟨⟨rfl, rfl⟩, h3⟩ := h1
     have h4 : (show Int from y) = 20 ∨ (show Int from y) = 32 := h3
     rcases h4 with h4 | h4
     · refine ⟨20, .inl rfl, ?_⟩
       have h5 : y = (20 : Int) := h4
       subst h5
       exact ⟨rfl, rfl, rfl, rfl⟩
     · refine ⟨32, .inr rfl, ?_⟩
       have h5 : y = (32 : Int) := h4
       subst h5
       exact ⟨rfl, rfl, rfl, rfl⟩
   · cases hs
 obtain ⟨n, hn2, rfl, rfl, rfl, rfl⟩ := key
 intro w β F vals env fits hargs
 have hvals : vals = #[.int .i64 n] := by
   obtain ⟨l⟩ := vals
   cases hargs with
   | cons h1 h2 =>
     cases h2
     cases h1 with
     | t h => cases h; rfl
 subst hvals
 obtain ⟨cs, hrun, hle, hmx⟩ := Lib.run_makeNoZero (P := P) w ps t e ht n (by omega)
 refine .inr ⟨.slice (some ⟨w.heap.size, 0, none⟩) n cs.size, w.drew.drew.alloc (.cells cs e), ?_, .slice (some ⟨w.heap.size, 0, none⟩) n cs.size, fun k => if k = 0 then some ⟨some w.heap.size, 1, cs.size⟩ else none, F, rfl, ?_⟩
 · rw [run_callFunc_extern hf hname hb hn he, hrun]; rfl
 · have hsz : (w.drew.drew.alloc (.cells cs e)).heap.size = w.heap.size + 1 := by
     show (w.heap.push _).size = _
     exact Array.size_push _
   have hnew : (w.drew.drew.alloc (.cells cs e)).heap[w.heap.size]? = some (.cells cs e) := by
     show (w.heap.push _)[w.heap.size]? = _
     simp
   have hold : ∀ b, b < w.heap.size → (w.drew.drew.alloc (.cells cs e)).heap[b]? = w.heap[b]? := by
     intro b hb
     show (w.heap.push _)[b]? = _
     rw [Array.getElem?_push, if_neg (by omega)]
   have hFb : ¬ F w.heap.size := fun h => absurd (env.Fw _ h) (by omega)
   have mx : n ≤ maxLen := by have : (32 : Nat) ≤ maxLen := by decide
                              omega
   refine ⟨⟨fun k o hk => ?_, fun k hk => ?_, fun i j bi bj b h1 h2 h3 h4 => ?_, fun k bi b h1 h2 => ?_⟩, ?_, fun k hk => ?_, fun k bi b _ h1 h2 => ?_, fun b _ => Iff.rfl, fun b hb => ?_, rfl, rfl, rfl, ?_, fun b hb _ => hold b hb⟩
   · cases k with
     | succ k => simp at hk
     | zero =>
       simp only [List.getElem?_cons_zero, Option.some.injEq] at hk
       subst hk
       refine ⟨_, if_pos rfl, ⟨rfl, by simp, cs, e, (0, 0), hnew, by omega, by simp, by simp, hmx mx, fun i x h => by simp at h, ?_⟩, 1, [], false, rfl⟩
       simpa using hFb
   · have : k ≠ 0 := by simp at hk; omega
     exact if_neg this
   · split at h1 <;> split at h2 <;> simp_all
   · split at h1
     · cases h1
       cases h2
       exact ⟨by rw [hsz]; omega, hFb⟩
     · cases h1
   · exact .sl 0 0 n cs.size w.heap.size 1 cs.size _ (if_pos rfl) hle (by omega) (fun _ => by simp) rfl
   · simp at hk
   · split at h1
     · cases h1
       cases h2
       exact Nat.le_refl _
     · cases h1
   · have := env.Fw b hb
     rw [hsz]; omega
   · rw [hsz]; omega
end Go.Eng
end
