/- My own text: an abstract machine, its walks over the functions reached, and their tie to the program. -/
import Derived.Test.YtgpbjaleeeacdaaGreatDoorV3
import Derived.Test.YtgpbjaleeeacdaaGreatDoorV4
set_option linter.unusedSimpArgs false
set_option linter.unusedVariables false
section
namespace Go.Eng
def qAh:AC:=
 (.seq
 (rG 16384 [bN 6 .lss 5 2])
 (.seq
 (.cond (.tmp 6)
 .skip
 (.exit 0))
 (.seq
 (.block 1
 (.seq
 (rG 20480 [mv 7 5,mv 4 7])
 (.seq
 (rG 24576 [mv 8 0,mv 9 4,bT 10 .shr 8 9,bN 11 .and 10 1,bN 12 .eql 11 1])
 (.cond (.tmp 12)
 (rG 28672 [mv 13 4,oO 14 (.aaddr 2 1) [.tmp 3,.tmp 13],⟨none,(.op (.store 1)),[.tmp 14,.cst (.t (.int .i64 4095))],none⟩])
 .skip))))
 (rG 32768 [bN 15 .add 5 1,mv 5 15]))))
def qBx:AC:=
 (.seq
 (rG 4096 [oO 2 (.new 1 [(.t (.int .i64 0)),(.t (.int .i64 0))]) []])
 (.seq
 (rG 8192 [oO 3 (.new 1 [(.t (.int .i64 0)),(.t (.int .i64 0))]) []])
 (.seq
 (.seq
 (rG 12288 [mC 5 (.t (.int .i64 0))])
 (.block 0
 (.loop qAh)))
 (.seq
 (rG 36864 [oO 16 (.load 2 true) [.tmp 3],oS 2 2 16])
 .ret))))
def qBy:AC:=
 (.seq
 (.seq
 (rG 16384 [mv 5 4,bN 6 .lss 5 2])
 (.cond (.tmp 6)
 .skip
 (.exit 0)))
 (.seq
 (.block 1
 (.seq
 (rG 24576 [mv 9 0,mv 10 4,oO 11 (.conv .u64) [.tmp 10],bT 12 .shr 9 11,bN 13 .and 12 1,bN 14 .eql 13 1])
 (.cond (.tmp 14)
 (rG 28672 [mv 15 4,oO 16 (.aaddr 2 1) [.tmp 3,.tmp 15],⟨none,(.op (.store 1)),[.tmp 16,.cst (.t (.int .i64 4095))],none⟩])
 .skip)))
 (rG 20480 [mv 7 4,bN 8 .add 7 1,mv 4 8])))
def qEd:AC:=
 (.seq
 (rG 4096 [oO 2 (.new 1 [(.t (.int .i64 0)),(.t (.int .i64 0))]) []])
 (.seq
 (rG 8192 [oO 3 (.new 1 [(.t (.int .i64 0)),(.t (.int .i64 0))]) []])
 (.seq
 (.seq
 (rG 12288 [mC 4 (.t (.int .i64 0))])
 (.block 0
 (.loop qBy)))
 (.seq
 (rG 32768 [oO 17 (.load 2 true) [.tmp 3],oS 2 2 17])
 .ret))))
def qEa:AC:=
 (.seq
 (rG 4096 [mC 2 (.t (.int .i64 0))])
 (.seq
 (.seq
 (rG 8192 [mv 3 0])
 (.cond (.tmp 3)
 (.seq
 (rG 12288 [mC 2 (.t (.int .i64 0))])
 .ret)
 .skip))
 (.seq
 (rG 16384 [mC 2 (.t (.int .i64 1))])
 .ret)))
def qGm:AC:=
 (.seq
 (rG 4096 [mC 6 (.t (.bool false))])
 (.seq
 (rG 8192 [mv 7 0,mv 8 1,bT 9 .geq 7 8,mv 10 9,mG 11 0 10,mG 12 2 10,oG 13 10 (.bin .leq) [.tmp 11,.tmp 12],oO 14 .pick [.tmp 10,.tmp 13,.cst (.t (.bool false))],mv 6 14])
 .ret))
def qAs:AC:=
 (.seq
 (rG 90112 [bT 87 .lss 86 85])
 (.seq
 (.cond (.tmp 87)
 .skip
 (.exit 1))
 (.seq
 (.block 2
 (.seq
 (rG 94208 [oO 88 (.iaddr 1) [.tmp 84,.tmp 86],oO 89 (.load 1 false) [.tmp 88],mv 6 89])
 (rG 98304 [mv 90 4,mv 91 90,mG 92 6 91,oG 93 91 .len [.tmp 92],oG 94 91 (.bin .eql) [.tmp 93,.cst (.t (.int .i64 32))],oO 95 .pick [.tmp 91,.tmp 94,.cst (.t (.bool false))],mv 4 95])))
 (rG 102400 [bN 96 .add 86 1,mv 86 96]))))
def qC5 (n_policy_within n_policy_argument n_policy_short:Nat):AC:=
 (.seq
 (rG 4096 [oO 1 .box [.tmp 0],mC 2 (.t (.int .i64 0))])
 (.seq
 (rG 8192 [oO 7 (.faddr 7) [.tmp 1],oO 8 (.load 1 false) [.tmp 7],oO 9 .len [.tmp 8],bN 10 .eql 9 32,mv 3 10])
 (.seq
 (.seq
 (rG 12288 [oO 11 (.faddr 0) [.tmp 1],oO 12 (.load 1 false) [.tmp 11]])
 (.block 0
 (.seq
 (rG 16384 [bN 14 .eql 12 1,mv 13 14])
 (.cond (.tmp 13)
 (.seq
 (rG 20480 [oO 15 (.faddr 1) [.tmp 1],oO 16 (.aaddr 2 1) [.tmp 15,.cst (.t (.int .i64 0))],oO 17 (.load 1 false) [.tmp 16],cL 18 n_policy_within false [.tmp 17,.cst (.t (.int .i64 0)),.cst (.t (.int .i64 65535))],mv 19 18,oG 20 19 (.faddr 1) [.tmp 1],oG 21 19 (.aaddr 2 1) [.tmp 20,.cst (.t (.int .i64 1))],oG 22 19 (.load 1 false) [.tmp 21],cG 23 19 n_policy_within false [.tmp 22,.cst (.t (.int .i64 0)),.cst (.t (.int .i64 65535))],oO 24 .pick [.tmp 19,.tmp 23,.cst (.t (.bool false))],mv 25 24,oG 26 25 (.faddr 3) [.tmp 1],oG 27 25 (.load 1 false) [.tmp 26],oG 28 25 .len [.tmp 27],oG 29 25 (.bin .eql) [.tmp 28,.cst (.t (.int .i64 32))],oO 30 .pick [.tmp 25,.tmp 29,.cst (.t (.bool false))],cL 31 n_policy_argument false [.tmp 30],mv 2 31])
 .ret)
 (.seq
 (rG 24576 [bN 33 .eql 12 2,mv 32 33])
 (.cond (.tmp 32)
 (.seq
 (rG 28672 [oO 34 (.faddr 4) [.tmp 1],oO 35 (.load 1 false) [.tmp 34],cL 36 n_policy_within false [.tmp 35,.cst (.t (.int .i64 1)),.cst (.t (.int .i64 31))],cL 37 n_policy_argument false [.tmp 36],mv 2 37])
 .ret)
 (.seq
 (rG 32768 [bN 39 .eql 12 3,mv 38 39])
 (.cond (.tmp 38)
 (.seq
 (rG 36864 [oO 40 (.faddr 4) [.tmp 1],oO 41 (.load 1 false) [.tmp 40],cL 42 n_policy_within false [.tmp 41,.cst (.t (.int .i64 1)),.cst (.t (.int .i64 255))],cL 43 n_policy_argument false [.tmp 42],mv 2 43])
 .ret)
 (.seq
 (rG 40960 [bN 45 .eql 12 4,mv 44 45])
 (.cond (.tmp 44)
 (.seq
 (.reg 45056 (some [0,1,3,7,15,31,63,0,128,511,1023]) [oO 46 (.faddr 5) [.tmp 1],oO 47 (.load 1 false) [.tmp 46],cL 48 n_policy_within false [.tmp 47,.cst (.t (.int .i64 0)),.cst (.t (.int .i64 3))],mv 49 48,mG 50 3 49,oO 51 .pick [.tmp 49,.tmp 50,.cst (.t (.bool false))],cL 52 n_policy_argument false [.tmp 51],oO 53 (.faddr 6) [.tmp 1],oO 54 (.load 1 false) [.tmp 53],cL 55 n_policy_short false [.tmp 52,.tmp 54],mv 2 55])
 .ret)
 (.seq
 (rG 49152 [bN 57 .eql 12 5,mv 56 57])
 (.cond (.tmp 56)
 (.seq
 (rG 53248 [oO 58 (.faddr 5) [.tmp 1],oO 59 (.load 1 false) [.tmp 58],cL 60 n_policy_within false [.tmp 59,.cst (.t (.int .i64 0)),.cst (.t (.int .i64 3))],mv 61 60,oG 62 61 (.faddr 4) [.tmp 1],oG 63 61 (.load 1 false) [.tmp 62],cG 64 61 n_policy_within false [.tmp 63,.cst (.t (.int .i64 0)),.cst (.t (.int .i64 1099511627776))],oO 65 .pick [.tmp 61,.tmp 64,.cst (.t (.bool false))],cL 66 n_policy_argument false [.tmp 65],mv 2 66])
 .ret)
 (.seq
 (.seq
 (rG 57344 [bN 68 .eql 12 6,mv 67 68])
 (.cond (.tmp 67)
 .skip
 (rG 61440 [bN 69 .eql 12 9,mv 67 69])))
 (.cond (.tmp 67)
 (.seq
 (.reg 65536 (some [0,1,0,4,15,31]) [mv 70 3,cL 71 n_policy_argument false [.tmp 70],oO 72 (.faddr 8) [.tmp 1],oO 73 (.load 1 false) [.tmp 72],cL 74 n_policy_short false [.tmp 71,.tmp 73],mv 2 74])
 .ret)
 (.seq
 (rG 69632 [bN 76 .eql 12 7,mv 75 76])
 (.cond (.tmp 75)
 (.seq
 (rG 73728 [mC 2 (.t (.int .i64 0))])
 .ret)
 (.seq
 (rG 77824 [bN 78 .eql 12 8,mv 77 78])
 (.cond (.tmp 77)
 (.seq
 (rG 81920 [oO 79 (.faddr 9) [.tmp 1],oO 80 (.load 1 false) [.tmp 79],oO 81 .len [.tmp 80],cL 82 n_policy_within false [.tmp 81,.cst (.t (.int .i64 2)),.cst (.t (.int .i64 8))],mv 4 82])
 (.seq
 (.seq
 (rG 86016 [oO 83 (.faddr 9) [.tmp 1],oO 84 (.load 1 false) [.tmp 83],oO 85 .len [.tmp 84],mC 86 (.t (.int .i64 0))])
 (.block 1
 (.loop qAs)))
 (.seq
 (rG 106496 [mv 97 4,cL 98 n_policy_argument false [.tmp 97],mv 2 98])
 .ret)))
 .skip))))))))))))))))))
 (.seq
 (rG 110592 [mC 2 (.t (.int .i64 19))])
 .ret))))
def qCe (n_wire_Uint:Nat):AC:=
 (.seq
 (rG 4096 [oO 3 .box [.tmp 1],mC 4 .nil])
 (.seq
 (.seq
 (rG 8192 [oO 5 (.faddr 0) [.tmp 3],oO 6 (.load 1 false) [.tmp 5]])
 (.block 0
 (.seq
 (rG 12288 [bN 8 .eql 6 1,mv 7 8])
 (.cond (.tmp 7)
 (.seq
 (.reg 16384 (some [0,0,2,6,14,0,32,96,254,0,512,2047,4095]) [mv 9 0,oO 10 (.faddr 1) [.tmp 3],oO 11 (.aaddr 2 1) [.tmp 10,.cst (.t (.int .i64 0))],oO 12 (.load 1 false) [.tmp 11],cL 13 n_wire_Uint false [.cst .nil,.cst (.t (.int .i64 2)),.tmp 12],oO 14 (.faddr 1) [.tmp 3],oO 15 (.aaddr 2 1) [.tmp 14,.cst (.t (.int .i64 1))],oO 16 (.load 1 false) [.tmp 15],cL 17 n_wire_Uint false [.tmp 13,.cst (.t (.int .i64 2)),.tmp 16],oO 18 (.faddr 3) [.tmp 3],oO 19 (.load 1 false) [.tmp 18],oO 20 (.bslice 1 3 .nil [0,1,2]) [.tmp 9,.tmp 17,.tmp 19],mv 4 20])
 .ret)
 (.seq
 (.seq
 (rG 20480 [bN 22 .eql 6 2,mv 21 22])
 (.cond (.tmp 21)
 .skip
 (rG 24576 [bN 23 .eql 6 3,mv 21 23])))
 (.cond (.tmp 21)
 (.seq
 (rG 28672 [mv 24 0,oO 25 (.faddr 4) [.tmp 3],oO 26 (.load 1 false) [.tmp 25],oO 27 (.conv .u8) [.tmp 26],oO 28 (.bslice 1 1 (.t (qA 0)) [0]) [.tmp 27],oO 29 (.bslice 1 2 .nil [0,1]) [.tmp 24,.tmp 28],mv 4 29])
 .ret)
 (.seq
 (rG 32768 [bN 31 .eql 6 4,mv 30 31])
 (.cond (.tmp 30)
 (.seq
 (rG 36864 [mv 32 0,oO 33 (.faddr 5) [.tmp 3],oO 34 (.load 1 false) [.tmp 33],oO 35 (.conv .u8) [.tmp 34],oO 36 (.bslice 1 1 (.t (qA 0)) [0]) [.tmp 35],oO 37 (.faddr 6) [.tmp 3],oO 38 (.load 1 false) [.tmp 37],oO 39 (.faddr 7) [.tmp 3],oO 40 (.load 1 false) [.tmp 39],oO 41 (.bslice 1 4 .nil [0,1,2,3]) [.tmp 32,.tmp 36,.tmp 38,.tmp 40],mv 4 41])
 .ret)
 (.seq
 (rG 40960 [bN 43 .eql 6 5,mv 42 43])
 (.cond (.tmp 42)
 (.seq
 (.reg 45056 (some [0,0,2,6,14,0,32,96,255,511]) [mv 44 0,oO 45 (.faddr 5) [.tmp 3],oO 46 (.load 1 false) [.tmp 45],oO 47 (.conv .u8) [.tmp 46],oO 48 (.bslice 1 1 (.t (qA 0)) [0]) [.tmp 47],oO 49 (.faddr 4) [.tmp 3],oO 50 (.load 1 false) [.tmp 49],cL 51 n_wire_Uint false [.cst .nil,.cst (.t (.int .i64 8)),.tmp 50],oO 52 (.bslice 1 3 .nil [0,1,2]) [.tmp 44,.tmp 48,.tmp 51],mv 4 52])
 .ret)
 (.seq
 (rG 49152 [bN 54 .eql 6 6,mv 53 54])
 (.cond (.tmp 53)
 (.seq
 (rG 53248 [mv 55 0,oO 56 (.faddr 7) [.tmp 3],oO 57 (.load 1 false) [.tmp 56],oO 58 (.faddr 8) [.tmp 3],oO 59 (.load 1 false) [.tmp 58],oO 60 (.bslice 1 3 .nil [0,1,2]) [.tmp 55,.tmp 57,.tmp 59],mv 4 60])
 .ret)
 (.seq
 (rG 57344 [bN 62 .eql 6 8,mv 61 62])
 (.cond (.tmp 61)
 (.seq
 (rG 61440 [oO 63 (.faddr 9) [.tmp 3],oO 64 (.load 1 false) [.tmp 63],mv 4 64])
 .ret)
 (.seq
 (rG 65536 [bN 66 .eql 6 9,mv 65 66])
 (.cond (.tmp 65)
 (.seq
 (rG 69632 [oO 67 (.faddr 7) [.tmp 3],oO 68 (.load 1 false) [.tmp 67],oO 69 (.faddr 8) [.tmp 3],oO 70 (.load 1 false) [.tmp 69],oO 71 (.bslice 1 2 .nil [0,1]) [.tmp 68,.tmp 70],mv 4 71])
 .ret)
 .skip))))))))))))))))
 (.seq
 (rG 73728 [mv 72 0,oO 73 (.bslice 1 1 .nil [0]) [.tmp 72],mv 4 73])
 .ret)))
def qHd:AC:=
 (.seq
 (rG 4096 [mC 0 .nil])
 (.seq
 (rG 8192 [oO 1 (.mkslice 1 1 (.t (qA 0))) [.cst (.t (.int .i64 32)),.cst (.t (.int .i64 32))],mv 0 1])
 .ret))
def qCd (n_policy_Check n_policy_fields n_digest_Hash:Nat):AC:=
 (.seq
 (rG 4096 [oO 3 .box [.tmp 1],mC 4 .nil])
 (.seq
 (.seq
 (rG 8192 [oO 5 (.load 10 true) [.tmp 3],cL 6 n_policy_Check false [.tmp 5],bN 7 .neq 6 0])
 (.cond (.tmp 7)
 (.seq
 (rG 12288 [mC 4 .nil])
 .ret)
 .skip))
 (.seq
 (.reg 16384 (some [0,1,3,7,15,0,0,96,255,511,1023]) [oO 8 (.faddr 0) [.tmp 3],oO 9 (.load 1 false) [.tmp 8],oO 10 (.conv .u8) [.tmp 9],oO 11 (.bslice 1 1 (.t (qA 0)) [0]) [.tmp 10],oO 12 (.bslice 1 1 .nil [0]) [.tmp 11],mv 13 0,oO 14 (.load 10 true) [.tmp 3],cL 15 n_policy_fields true [.tmp 13,.tmp 14],oO 16 (.append 1 24) [.tmp 12,.tmp 15],cL 17 n_digest_Hash false [.cst (.t (.int .i64 8)),.tmp 16],mv 4 17])
 .ret)))
def qC6 (n_policy_Extend:Nat):AC:=
 (.seq
 (rG 16384 [bT 10 .lss 9 8])
 (.seq
 (.cond (.tmp 10)
 .skip
 (.exit 0))
 (.seq
 (.block 1
 (.seq
 (rG 20480 [oO 11 (.iaddr 10) [.tmp 7,.tmp 9],oO 12 (.load 10 true) [.tmp 11],oO 5 (.new 10 [(.agg [(.t (.int .i64 0)),(.t (.int .i64 0)),(.t (.int .i64 0)),.nil,(.t (.int .i64 0)),(.t (.int .i64 0)),.nil,.nil,.nil,.nil])]) [],oS 10 5 12])
 (.seq
 (rG 24576 [mv 13 3,oO 14 (.load 10 true) [.tmp 5],cL 15 n_policy_Extend false [.tmp 13,.tmp 14],mv 3 15])
 (.seq
 (rG 28672 [mv 16 3,oO 17 (.nileq false) [.tmp 16,.cst .nil]])
 (.cond (.tmp 17)
 (.seq
 (rG 32768 [mC 2 .nil])
 .ret)
 .skip)))))
 (rG 36864 [bN 18 .add 9 1,mv 9 18]))))
def qGl (n_policy_Start n_policy_Extend:Nat):AC:=
 (.seq
 (rG 4096 [mC 2 .nil])
 (.seq
 (rG 8192 [cL 6 n_policy_Start false [],mv 3 6])
 (.seq
 (.seq
 (rG 12288 [mv 7 0,oO 8 .len [.tmp 7],mC 9 (.t (.int .i64 0))])
 (.block 0
 (.loop (qC6 n_policy_Extend))))
 (.seq
 (rG 40960 [mv 19 3,mv 2 19])
 .ret))))
def qLg:AC:=
 (.seq
 (rG 4096 [mC 0 .nil])
 (.seq
 (rG 8192 [oO 1 (.mkslice 1 1 (.t (qA 0))) [.cst (.t (.int .i64 32)),.cst (.t (.int .i64 32))],mv 0 1])
 .ret))
def qHl:AC:=
 (.seq
 (rG 4096 [oO 1 .boxArr [.tmp 0],mC 2 (.t (.bool false))])
 (.seq
 (rG 8192 [oO 3 (.aaddr 2 1) [.tmp 1,.cst (.t (.int .i64 0))],oO 4 (.load 1 false) [.tmp 3],bN 5 .geq 4 0,mv 6 5,oG 7 6 (.aaddr 2 1) [.tmp 1,.cst (.t (.int .i64 0))],oG 8 6 (.load 1 false) [.tmp 7],oG 9 6 (.bin .leq) [.tmp 8,.cst (.t (.int .i64 65535))],oO 10 .pick [.tmp 6,.tmp 9,.cst (.t (.bool false))],mv 11 10,oG 12 11 (.aaddr 2 1) [.tmp 1,.cst (.t (.int .i64 1))],oG 13 11 (.load 1 false) [.tmp 12],oG 14 11 (.bin .geq) [.tmp 13,.cst (.t (.int .i64 0))],oO 15 .pick [.tmp 11,.tmp 14,.cst (.t (.bool false))],mv 16 15,oG 17 16 (.aaddr 2 1) [.tmp 1,.cst (.t (.int .i64 1))],oG 18 16 (.load 1 false) [.tmp 17],oG 19 16 (.bin .leq) [.tmp 18,.cst (.t (.int .i64 65535))],oO 20 .pick [.tmp 16,.tmp 19,.cst (.t (.bool false))],mv 2 20])
 .ret))
def qAd:AC:=
 (.seq
 (.seq
 (rG 20480 [mv 12 3,mv 13 0,oO 14 .len [.tmp 13],bT 15 .lss 12 14])
 (.cond (.tmp 15)
 .skip
 (.exit 0)))
 (.seq
 (.block 1
 (.seq
 (rG 28672 [mv 18 0,mv 19 3,oO 20 (.iaddr 1) [.tmp 18,.tmp 19],oO 21 (.load 1 false) [.tmp 20],oO 22 .len [.tmp 21],bN 23 .neq 22 32])
 (.cond (.tmp 23)
 (.seq
 (rG 32768 [mC 2 (.t (.bool false))])
 .ret)
 .skip)))
 (rG 24576 [mv 16 3,bN 17 .add 16 1,mv 3 17])))
def qGq:AC:=
 (.seq
 (rG 4096 [mC 2 (.t (.bool false))])
 (.seq
 (.seq
 (rG 8192 [mv 4 0,oO 5 .len [.tmp 4],bN 6 .lss 5 2,mv 7 6,mF 8 0 7,oF 9 7 .len [.tmp 8],oF 10 7 (.bin .gtr) [.tmp 9,.cst (.t (.int .i64 8))],oO 11 .pick [.tmp 7,.cst (.t (.bool true)),.tmp 10]])
 (.cond (.tmp 11)
 (.seq
 (rG 12288 [mC 2 (.t (.bool false))])
 .ret)
 .skip))
 (.seq
 (.seq
 (rG 16384 [mC 3 (.t (.int .i64 0))])
 (.block 0
 (.loop qAd)))
 (.seq
 (rG 36864 [mC 2 (.t (.bool true))])
 .ret))))
def qFx (n_ref9_Selects n_ref9_named n_ref9_branches:Nat):AC:=
 (.seq
 (rG 4096 [oO 1 .box [.tmp 0],mC 2 (.t (.int .i64 0))])
 (.seq
 (rG 8192 [mC 3 (.t (.bool true))])
 (.seq
 (.seq
 (rG 12288 [oO 4 (.faddr 0) [.tmp 1],oO 5 (.load 1 false) [.tmp 4]])
 (.block 0
 (.seq
 (rG 20480 [bN 7 .eql 5 1,mv 6 7])
 (.cond (.tmp 6)
 (rG 24576 [oO 8 (.faddr 1) [.tmp 1],oO 9 (.load 2 true) [.tmp 8],cL 10 n_ref9_Selects false [.tmp 9],mv 11 10,oG 12 11 (.faddr 3) [.tmp 1],oG 13 11 (.load 1 false) [.tmp 12],oG 14 11 .len [.tmp 13],oG 15 11 (.bin .eql) [.tmp 14,.cst (.t (.int .i64 32))],oO 16 .pick [.tmp 11,.tmp 15,.cst (.t (.bool false))],mv 3 16])
 (.seq
 (rG 28672 [bN 18 .eql 5 2,mv 17 18])
 (.cond (.tmp 17)
 (rG 32768 [oO 19 (.faddr 4) [.tmp 1],oO 20 (.load 1 false) [.tmp 19],bN 21 .geq 20 1,mv 22 21,oG 23 22 (.faddr 4) [.tmp 1],oG 24 22 (.load 1 false) [.tmp 23],oG 25 22 (.bin .leq) [.tmp 24,.cst (.t (.int .i64 31))],oO 26 .pick [.tmp 22,.tmp 25,.cst (.t (.bool false))],mv 3 26])
 (.seq
 (rG 36864 [bN 28 .eql 5 3,mv 27 28])
 (.cond (.tmp 27)
 (rG 40960 [oO 29 (.faddr 4) [.tmp 1],oO 30 (.load 1 false) [.tmp 29],bN 31 .geq 30 1,mv 32 31,oG 33 32 (.faddr 4) [.tmp 1],oG 34 32 (.load 1 false) [.tmp 33],oG 35 32 (.bin .leq) [.tmp 34,.cst (.t (.int .i64 255))],oO 36 .pick [.tmp 32,.tmp 35,.cst (.t (.bool false))],mv 3 36])
 (.seq
 (rG 45056 [bN 38 .eql 5 4,mv 37 38])
 (.cond (.tmp 37)
 (.seq
 (.seq
 (rG 49152 [oO 39 (.faddr 5) [.tmp 1],oO 40 (.load 1 false) [.tmp 39],bN 41 .lss 40 0,mv 42 41,oF 43 42 (.faddr 5) [.tmp 1],oF 44 42 (.load 1 false) [.tmp 43],oF 45 42 (.bin .gtr) [.tmp 44,.cst (.t (.int .i64 3))],oO 46 .pick [.tmp 42,.cst (.t (.bool true)),.tmp 45]])
 (.cond (.tmp 46)
 (.seq
 (rG 53248 [mC 2 (.t (.int .i64 1))])
 .ret)
 .skip))
 (.seq
 (rG 57344 [oO 47 (.faddr 7) [.tmp 1],oO 48 (.load 1 false) [.tmp 47],oO 49 (.faddr 6) [.tmp 1],oO 50 (.load 1 false) [.tmp 49],cL 51 n_ref9_named false [.tmp 48,.tmp 50],mv 2 51])
 .ret))
 (.seq
 (rG 61440 [bN 53 .eql 5 5,mv 52 53])
 (.cond (.tmp 52)
 (rG 65536 [oO 54 (.faddr 5) [.tmp 1],oO 55 (.load 1 false) [.tmp 54],bN 56 .geq 55 0,mv 57 56,oG 58 57 (.faddr 5) [.tmp 1],oG 59 57 (.load 1 false) [.tmp 58],oG 60 57 (.bin .leq) [.tmp 59,.cst (.t (.int .i64 3))],oO 61 .pick [.tmp 57,.tmp 60,.cst (.t (.bool false))],mv 62 61,oG 63 62 (.faddr 4) [.tmp 1],oG 64 62 (.load 1 false) [.tmp 63],oG 65 62 (.bin .geq) [.tmp 64,.cst (.t (.int .i64 0))],oO 66 .pick [.tmp 62,.tmp 65,.cst (.t (.bool false))],mv 67 66,oG 68 67 (.faddr 4) [.tmp 1],oG 69 67 (.load 1 false) [.tmp 68],oG 70 67 (.bin .leq) [.tmp 69,.cst (.t (.int .i64 1099511627776))],oO 71 .pick [.tmp 67,.tmp 70,.cst (.t (.bool false))],mv 3 71])
 (.seq
 (.seq
 (rG 69632 [bN 73 .eql 5 6,mv 72 73])
 (.cond (.tmp 72)
 .skip
 (rG 73728 [bN 74 .eql 5 9,mv 72 74])))
 (.cond (.tmp 72)
 (.seq
 (rG 77824 [oO 75 (.faddr 7) [.tmp 1],oO 76 (.load 1 false) [.tmp 75],oO 77 (.faddr 8) [.tmp 1],oO 78 (.load 1 false) [.tmp 77],cL 79 n_ref9_named false [.tmp 76,.tmp 78],mv 2 79])
 .ret)
 (.seq
 (rG 81920 [bN 81 .eql 5 7,mv 80 81])
 (.cond (.tmp 80)
 .skip
 (.seq
 (rG 86016 [bN 83 .eql 5 8,mv 82 83])
 (.cond (.tmp 82)
 (rG 90112 [oO 84 (.faddr 9) [.tmp 1],oO 85 (.load 1 false) [.tmp 84],cL 86 n_ref9_branches false [.tmp 85],mv 3 86])
 (.seq
 (rG 16384 [mC 2 (.t (.int .i64 19))])
 .ret)))))))))))))))))))
 (.seq
 (.seq
 (rG 94208 [mv 87 3,oO 88 (.un .not) [.tmp 87]])
 (.cond (.tmp 88)
 (.seq
 (rG 98304 [mC 2 (.t (.int .i64 1))])
 .ret)
 .skip))
 (.seq
 (rG 102400 [mC 2 (.t (.int .i64 0))])
 .ret)))))
def qFy (n_ref3_Uint n_ref1_Frame:Nat):AC:=
 (.seq
 (rG 4096 [oO 3 .box [.tmp 1],mC 4 .nil])
 (.seq
 (rG 8192 [oO 6 (.faddr 0) [.tmp 3],oO 7 (.load 1 false) [.tmp 6],oO 8 (.conv .u8) [.tmp 7],oO 9 (.bslice 1 1 (.t (qA 0)) [0]) [.tmp 8],oO 10 (.bslice 1 1 .nil [0]) [.tmp 9],mv 5 10])
 (.seq
 (.seq
 (rG 12288 [oO 11 (.faddr 0) [.tmp 3],oO 12 (.load 1 false) [.tmp 11]])
 (.block 0
 (.seq
 (rG 16384 [bN 14 .eql 12 1,mv 13 14])
 (.cond (.tmp 13)
 (.reg 20480 (some [0,0,0,4,12,28,0,64,192,508,0,1024,4094,8191,16383]) [mv 15 5,mv 16 0,oO 17 (.faddr 1) [.tmp 3],oO 18 (.aaddr 2 1) [.tmp 17,.cst (.t (.int .i64 0))],oO 19 (.load 1 false) [.tmp 18],cL 20 n_ref3_Uint false [.cst .nil,.cst (.t (.int .i64 2)),.tmp 19],oO 21 (.faddr 1) [.tmp 3],oO 22 (.aaddr 2 1) [.tmp 21,.cst (.t (.int .i64 1))],oO 23 (.load 1 false) [.tmp 22],cL 24 n_ref3_Uint false [.tmp 20,.cst (.t (.int .i64 2)),.tmp 23],oO 25 (.faddr 3) [.tmp 3],oO 26 (.load 1 false) [.tmp 25],oO 27 (.bslice 1 3 .nil [0,1,2]) [.tmp 16,.tmp 24,.tmp 26],oO 28 (.append 1 24) [.tmp 15,.tmp 27],mv 5 28])
 (.seq
 (.seq
 (rG 24576 [bN 30 .eql 12 2,mv 29 30])
 (.cond (.tmp 29)
 .skip
 (rG 28672 [bN 31 .eql 12 3,mv 29 31])))
 (.cond (.tmp 29)
 (rG 32768 [mv 32 5,mv 33 0,oO 34 (.faddr 4) [.tmp 3],oO 35 (.load 1 false) [.tmp 34],oO 36 (.conv .u8) [.tmp 35],oO 37 (.bslice 1 1 (.t (qA 0)) [0]) [.tmp 36],oO 38 (.bslice 1 2 .nil [0,1]) [.tmp 33,.tmp 37],oO 39 (.append 1 24) [.tmp 32,.tmp 38],mv 5 39])
 (.seq
 (rG 36864 [bN 41 .eql 12 4,mv 40 41])
 (.cond (.tmp 40)
 (rG 40960 [mv 42 5,mv 43 0,oO 44 (.faddr 5) [.tmp 3],oO 45 (.load 1 false) [.tmp 44],oO 46 (.conv .u8) [.tmp 45],oO 47 (.bslice 1 1 (.t (qA 0)) [0]) [.tmp 46],oO 48 (.faddr 6) [.tmp 3],oO 49 (.load 1 false) [.tmp 48],oO 50 (.faddr 7) [.tmp 3],oO 51 (.load 1 false) [.tmp 50],oO 52 (.bslice 1 4 .nil [0,1,2,3]) [.tmp 43,.tmp 47,.tmp 49,.tmp 51],oO 53 (.append 1 24) [.tmp 42,.tmp 52],mv 5 53])
 (.seq
 (rG 45056 [bN 55 .eql 12 5,mv 54 55])
 (.cond (.tmp 54)
 (.reg 49152 (some [0,0,0,4,12,28,0,64,192,510,1023,2047]) [mv 56 5,mv 57 0,oO 58 (.faddr 5) [.tmp 3],oO 59 (.load 1 false) [.tmp 58],oO 60 (.conv .u8) [.tmp 59],oO 61 (.bslice 1 1 (.t (qA 0)) [0]) [.tmp 60],oO 62 (.faddr 4) [.tmp 3],oO 63 (.load 1 false) [.tmp 62],cL 64 n_ref3_Uint false [.cst .nil,.cst (.t (.int .i64 8)),.tmp 63],oO 65 (.bslice 1 3 .nil [0,1,2]) [.tmp 57,.tmp 61,.tmp 64],oO 66 (.append 1 24) [.tmp 56,.tmp 65],mv 5 66])
 (.seq
 (rG 53248 [bN 68 .eql 12 6,mv 67 68])
 (.cond (.tmp 67)
 (rG 57344 [mv 69 5,mv 70 0,oO 71 (.faddr 7) [.tmp 3],oO 72 (.load 1 false) [.tmp 71],oO 73 (.faddr 8) [.tmp 3],oO 74 (.load 1 false) [.tmp 73],oO 75 (.bslice 1 3 .nil [0,1,2]) [.tmp 70,.tmp 72,.tmp 74],oO 76 (.append 1 24) [.tmp 69,.tmp 75],mv 5 76])
 (.seq
 (rG 61440 [bN 78 .eql 12 7,mv 77 78])
 (.cond (.tmp 77)
 (rG 65536 [mv 79 5,mv 80 0,oO 81 (.bslice 1 1 .nil [0]) [.tmp 80],oO 82 (.append 1 24) [.tmp 79,.tmp 81],mv 5 82])
 (.seq
 (rG 69632 [bN 84 .eql 12 8,mv 83 84])
 (.cond (.tmp 83)
 (rG 73728 [mv 85 5,oO 86 (.faddr 9) [.tmp 3],oO 87 (.load 1 false) [.tmp 86],oO 88 (.append 1 24) [.tmp 85,.tmp 87],mv 5 88])
 (.seq
 (rG 77824 [bN 90 .eql 12 9,mv 89 90])
 (.cond (.tmp 89)
 (rG 81920 [mv 91 5,oO 92 (.faddr 7) [.tmp 3],oO 93 (.load 1 false) [.tmp 92],oO 94 (.faddr 8) [.tmp 3],oO 95 (.load 1 false) [.tmp 94],oO 96 (.bslice 1 2 .nil [0,1]) [.tmp 93,.tmp 95],oO 97 (.append 1 24) [.tmp 91,.tmp 96],mv 5 97])
 .skip))))))))))))))))))
 (.seq
 (rG 86016 [mv 98 5,cL 99 n_ref1_Frame false [.cst (.t (.int .i64 8)),.tmp 98],mv 4 99])
 .ret))))
def qEz (n_ref9_Check n_ref9_Frame n_ref1_Sum256:Nat):AC:=
 (.seq
 (rG 4096 [oO 3 .box [.tmp 1],mC 4 .nil])
 (.seq
 (.seq
 (rG 8192 [oO 5 (.load 10 true) [.tmp 3],cL 6 n_ref9_Check false [.tmp 5],bN 7 .neq 6 0])
 (.cond (.tmp 7)
 (.seq
 (rG 12288 [mC 4 .nil])
 .ret)
 .skip))
 (.seq
 (rG 16384 [mv 8 0,oO 9 (.load 10 true) [.tmp 3],cL 10 n_ref9_Frame false [.tmp 8,.tmp 9],cL 11 n_ref1_Sum256 false [.tmp 10],mv 4 11])
 .ret)))
def qFb (n_ref9_Extend:Nat):AC:=
 (.seq
 (.seq
 (rG 16384 [mv 6 4,mv 7 0,oO 8 .len [.tmp 7],bT 9 .lss 6 8])
 (.cond (.tmp 9)
 .skip
 (.exit 0)))
 (.seq
 (.block 1
 (.seq
 (rG 24576 [mv 12 3,mv 13 0,mv 14 4,oO 15 (.iaddr 10) [.tmp 13,.tmp 14],oO 16 (.load 10 true) [.tmp 15],cL 17 n_ref9_Extend false [.tmp 12,.tmp 16],mv 3 17])
 (.seq
 (rG 28672 [mv 18 3,oO 19 .len [.tmp 18],bN 20 .eql 19 0])
 (.cond (.tmp 20)
 (.seq
 (rG 32768 [mC 2 .nil])
 .ret)
 .skip))))
 (rG 20480 [mv 10 4,bN 11 .add 10 1,mv 4 11])))
def qJj (n_ref9_Start n_ref9_Extend:Nat):AC:=
 (.seq
 (rG 4096 [mC 2 .nil])
 (.seq
 (rG 8192 [cL 5 n_ref9_Start false [],mv 3 5])
 (.seq
 (.seq
 (rG 12288 [mC 4 (.t (.int .i64 0))])
 (.block 0
 (.loop (qFb n_ref9_Extend))))
 (.seq
 (rG 36864 [mv 21 3,mv 2 21])
 .ret))))
end Go.Eng
end
section
set_option maxRecDepth 20000
set_option maxHeartbeats 64000000
namespace Go.Eng
def jA8 (b:Bool):Int:=if b then 4095 else 0
def qDx (act:Int):Int×Int:=(jA8 (decide (act%2=1)),jA8 (decide (act/2%2=1)))
theorem zW7 {b:Bool} : ¬ zA1 (jA8 b):=by cases b<;>decide
inductive As where
 | reg (s0 s1:Int) (d:List UInt8)
 | alt (bs:List (List UInt8))
def asT:As→T
 | .reg s0 s1 d=> .agg [.int .i64 1,.int .i64 s0,.int .i64 s1,.sl (d.map qA),.int .i64 0,.int .i64 0,.sl [],.sl [],.sl [],.sl []]
 | .alt bs=> .agg [.int .i64 8,.int .i64 0,.int .i64 0,.sl [],.int .i64 0,.int .i64 0,.sl [],.sl [],.sl [],.sl (bs.map bsT)]
def As.Ok:As→Prop
 | .reg s0 s1 d=>(0≤s0∧s0≤65535)∧(0≤s1∧s1≤65535)∧d.length=32
 | .alt bs=>(2≤bs.length∧bs.length≤8) ∧ ∀ b∈bs,b.length=32
theorem qVq {a b:As} (h:asT a=asT b):a=b:=by
 cases a<;>cases b<;>simp only[asT,T.agg.injEq,List.cons.injEq,T.int.injEq,T.sl.injEq,true_and,and_true,qZ,qA6] at h
 ·obtain⟨rfl,rfl,rfl⟩:=h;rfl
 ·exact absurd h.1 (by decide)
 ·exact absurd h.1 (by decide)
 ·subst h;rfl
def qO5 (d0:List UInt8):As→List (List UInt8)
 | .reg s0 s1 d=>[d0,qB3 s0 s1,d]
 | .alt bs=>bs
def knd:As→UInt8
 | .reg .. => 1
 | .alt _=>8
def qKa (d0:List UInt8) (a:As):List UInt8:=qD5 8 ([knd a]::qO5 d0 a)
theorem qAf {d0:List UInt8} {a:As}:(qKa d0 a).length=32:=qM
def z32:List UInt8:=List.replicate 32 0
theorem qIt:z32.length=32:=rfl
def qF2:Ct where
 α:=Int
 as x:=[.t (.int .i64 x)]
 ins _:=[]
 pre x := -1000≤x∧x≤1000
 r x:= .t (.agg [.int .i64 (qDx x).1,.int .i64 (qDx x).2])
 outs _:=[]
 inj:=by
  intro a b h _
  simp only[List.cons.injEq,V.t.injEq,T.int.injEq,true_and,and_true] at h
  subst h
  exact⟨rfl,rfl⟩
theorem zBz {x:Int} (h : -1000≤x∧x≤1000):qF2.fs [.t (.int .i64 x)] []=some (.t (.agg [.int .i64 (qDx x).1,.int .i64 (qDx x).2]),[]):=qF2.eq x h
theorem qI0 (tab:Tab) (gl:Gl) (x:Int) (hx : -1000≤x∧x≤1000) :
  qBx.wp tab gl (qE 0 [.t (.int .i64 x)]) (qE 0 []) (zZ [(2,some (2,true))] 0 (fun r o=>r = .t (.agg [.int .i64 (qDx x).1,.int .i64 (qDx x).2])∧o=[])):=by
 simp (disch:=omega) only [go_sem,seval,qBx]
 refine qF 3 ?_
 have b0:(x.fdiv 1%2==1)=decide (x%2=1):=by rw[Int.fdiv_one];rfl
 have b1:(x.fdiv 2%2==1)=decide (x/2%2=1):=by rw[Int.fdiv_eq_ediv_of_nonneg _ (by decide)];rfl
 simp only[qDx]
 generalize decide (x%2=1)=p at *
 generalize decide (x/2%2=1)=q at *
 cases p<;>cases q
 all_goals simp (disch:=omega) only [go_sem,seval,qB,qAh,b0,b1]
 all_goals first | exact⟨rfl,rfl⟩ | rfl
theorem qNo (tab:Tab) (gl:Gl) (x:Int) (hx : -1000≤x∧x≤1000) :
  qEd.wp tab gl (qE 0 [.t (.int .i64 x)]) (qE 0 []) (zZ [(2,some (2,true))] 0 (fun r o=>r = .t (.agg [.int .i64 (qDx x).1,.int .i64 (qDx x).2])∧o=[])):=by
 simp (disch:=omega) only [go_sem,seval,qEd]
 refine qF 3 ?_
 have b0:(x.fdiv 1%2==1)=decide (x%2=1):=by rw[Int.fdiv_one];rfl
 have b1:(x.fdiv 2%2==1)=decide (x/2%2=1):=by rw[Int.fdiv_eq_ediv_of_nonneg _ (by decide)];rfl
 simp only[qDx]
 generalize decide (x%2=1)=p at *
 generalize decide (x/2%2=1)=q at *
 cases p<;>cases q
 all_goals simp (disch:=omega) only [go_sem,seval,qB,qBy,b0,b1]
 all_goals first | exact⟨rfl,rfl⟩ | rfl
def qRb:Ct where
 α:=Int×Int×Int
 as x:=[.t (.int .i64 x.1),.t (.int .i64 x.2.1),.t (.int .i64 x.2.2)]
 ins _:=[]
 pre _:=True
 r x:= .t (.bool (decide (x.2.1≤x.1)&&decide (x.1≤x.2.2)))
 outs _:=[]
 inj:=by
  rintro⟨a,b,c⟩ ⟨d,e,f⟩ h _
  simp only[List.cons.injEq,V.t.injEq,T.int.injEq,true_and,and_true] at h
  obtain⟨rfl,rfl,rfl⟩:=h
  exact⟨rfl,rfl⟩
theorem zCv {n a b:Int} (h:a≤n∧n≤b):qRb.fs [.t (.int .i64 n),.t (.int .i64 a),.t (.int .i64 b)] []=some (.t (.bool true),[]):=by
 refine (qRb.eq (n,a,b) trivial).trans ?_
 show some (V.t (T.bool (decide (a≤n)&&decide (n≤b))),[])=_
 simp[h.1,h.2]
theorem qSw (tab:Tab) (gl:Gl) (n a b:Int) :
  qGm.wp tab gl (qE 0 [.t (.int .i64 n),.t (.int .i64 a),.t (.int .i64 b)]) (qE 0 []) (zZ [(6,none)] 0 (fun r o=>r = .t (.bool (decide (a≤n)&&decide (n≤b)))∧o=[])):=by
 by_cases h:a≤n<;>by_cases k:n≤b
 all_goals simp (disch:=omega) only [go_sem,seval,qGm,h,k]
 all_goals simp[h,k]
def qQ6:Ct where
 α:=Bool
 as x:=[.t (.bool x)]
 ins _:=[]
 pre _:=True
 r x:= .t (.int .i64 (if x then 0 else 1))
 outs _:=[]
 inj:=by
  intro a b h _
  simp only[List.cons.injEq,V.t.injEq,T.bool.injEq,and_true] at h
  subst h
  exact⟨rfl,rfl⟩
theorem zCs:qQ6.fs [.t (.bool true)] []=some (.t (.int .i64 0),[]):=qQ6.eq true trivial
theorem qNm (tab:Tab) (gl:Gl) (x:Bool) :
  qEa.wp tab gl (qE 0 [.t (.bool x)]) (qE 0 []) (zZ [(2,none)] 0 (fun r o=>r = .t (.int .i64 (if x then 0 else 1))∧o=[])):=by
 cases x
 all_goals simp (disch:=omega) only [go_sem,seval,qEa]
 all_goals rfl
def qCm:Ct where
 α:=As
 as x:=[.t (asT x)]
 ins _:=[]
 pre x:=x.Ok
 r _:= .t (.int .i64 0)
 outs _:=[]
 inj:=fun _ _ _ _=>⟨rfl,rfl⟩
theorem qWf {s0 s1:Int} {d:List UInt8} (h:(As.reg s0 s1 d).Ok):qCm.fs [.t (.agg [.int .i64 1,.int .i64 s0,.int .i64 s1,.sl (d.map qA),.int .i64 0,.int .i64 0,.sl [],.sl [],.sl [],.sl []])] []=some (.t (.int .i64 0),[]):=qCm.eq (.reg s0 s1 d) h
theorem zFs {bs:List (List UInt8)} (h:(As.alt bs).Ok):qCm.fs [.t (.agg [.int .i64 8,.int .i64 0,.int .i64 0,.sl [],.int .i64 0,.int .i64 0,.sl [],.sl [],.sl [],.sl (bs.map bsT)])] []=some (.t (.int .i64 0),[]):=qCm.eq (.alt bs) h
theorem zB9 {bs:List (List UInt8)} (h : ∀ b∈bs,b.length=32) {k:Nat} (hk:k<bs.length):(bs.getD k []).length=32:=by
 rw[List.getD_eq_getElem?_getD,List.getElem?_eq_getElem hk]
 exact h _ (List.getElem_mem hk)
theorem qT0 (tab:Tab) (gl:Gl) (n1 n2 n3:Nat) (h1:tab.look n1=some qRb.fs) (h2:tab.look n2=some qQ6.fs) (a:As) (ha:a.Ok) :
  (qC5 n1 n2 n3).wp tab gl (qE 0 [.t (asT a)]) (qE 0 []) (zZ [(2,none)] 0 (fun r o=>r = .t (.int .i64 0)∧o=[])):=by
 cases a with
 | reg s0 s1 d=>
  obtain⟨a0,a1,a2⟩:=ha
  simp (disch:=omega) only [go_sem,seval,qC5,asT,h1,h2,zCv a0,zCv a1,zCs,a2]
 | alt bs=>
  obtain⟨a0,a1⟩:=ha
  have w:=zCv (n:=(bs.length:Int)) (a:=2) (b:=8) (by omega)
  simp (disch:=omega) only [go_sem,seval,qC5,asT,h1,h2,w,zCs]
  refine qD bs.length (fun k=>[(4,.t (.bool true)),(84,.t (.sl (bs.map bsT))),(85,.t (.int .i64 bs.length)),(86,.t (.int .i64 k))]) (fun _=>[]) ?_ (fun k hk=>?_)
  ·refine qI.rd id ?_ ?_ rfl
   all_goals simp (disch:=omega) only [go_sem,seval,id]
  ·by_cases hlt:k<bs.length
   ·have hb:=zB9 a1 hlt
    simp (disch:=omega) only [go_sem,seval,qAs,hlt,hb]
    refine qI.rd id ?_ ?_ rfl
    all_goals simp (disch:=omega) only [go_sem,seval,id]
   ·have e:k=bs.length:=by omega
    subst e
    simp (disch:=omega) only [go_sem,seval,qAs,h2,zCs]
def qJ8:Ct where
 α:=List UInt8×As
 as x:=[.t (.sl (x.1.map qA)),.t (asT x.2)]
 ins _:=[]
 pre _:=True
 r x:= .t (.sl ((qO5 x.1 x.2).map bsT))
 outs _:=[]
 inj:=by
  rintro⟨a,b⟩ ⟨c,d⟩ h _
  simp only[List.cons.injEq,V.t.injEq,T.sl.injEq,and_true,qZ] at h
  obtain⟨rfl,h⟩:=h
  rw[qVq h]
  exact⟨rfl,rfl⟩
theorem zQa {d0:List UInt8} {s0 s1:Int} {d:List UInt8}:qJ8.fs [.t (.sl (d0.map qA)),.t (.agg [.int .i64 1,.int .i64 s0,.int .i64 s1,.sl (d.map qA),.int .i64 0,.int .i64 0,.sl [],.sl [],.sl [],.sl []])] []=some (.t (.sl [bsT d0,bsT (qB3 s0 s1),bsT d]),[]):=qJ8.eq (d0,.reg s0 s1 d) trivial
theorem zP9 {d0:List UInt8} {bs:List (List UInt8)}:qJ8.fs [.t (.sl (d0.map qA)),.t (.agg [.int .i64 8,.int .i64 0,.int .i64 0,.sl [],.int .i64 0,.int .i64 0,.sl [],.sl [],.sl [],.sl (bs.map bsT)])] []=some (.t (.sl (bs.map bsT)),[]):=qJ8.eq (d0,.alt bs) trivial
theorem qSv (tab:Tab) (gl:Gl) (n1:Nat) (h1:tab.look n1=some vT.fs) (d0:List UInt8) (a:As) :
  (qCe n1).wp tab gl (qE 0 [.t (.sl (d0.map qA)),.t (asT a)]) (qE 0 []) (zZ [(4,none)] 0 (fun r o=>r = .t (.sl ((qO5 d0 a).map bsT))∧o=[])):=by
 cases a with
 | reg s0 s1 d=>
  have hu:=qMo (b:=[]) (n:=s0) (by decide)
  simp only[List.map_nil,List.length_nil,List.nil_append] at hu
  have hv:=qMo (b:=beI 2 s0 2) (n:=s1) (by rw[zJ];omega)
  rw[zJ] at hv
  have t2:List.take 2 (beI 2 s0 2)=beI 2 s0 2:=List.take_of_length_le (by rw[zJ];exact Nat.le_refl _)
  have t4:List.take 4 (beI 2 s0 2++beI 2 s1 2)=beI 2 s0 2++beI 2 s1 2:=List.take_of_length_le (by rw[List.length_append,zJ,zJ];exact Nat.le_refl _)
  simp (disch:=omega) only [go_sem,seval,qCe,asT,h1,hu,hv,zJ,t2,t4,qO5,qB3]
  all_goals rfl
 | alt bs=>
  simp (disch:=omega) only [go_sem,seval,qCe,asT,qO5]
  all_goals rfl
theorem qUy : ∀ {fs:List (List UInt8)} {t n:Nat},(∀ x∈fs,x.length≤n)→(zH t fs).length≤1+(4+n)*fs.length:=by
 intro fs
 induction fs with
 | nil=>intro t n _;simp[zH]
 | cons x r ih=>
  intro t n h
  have h1:=h x (by simp)
  have h2:=ih (t:=t) (fun y hy=>h y (by simp[hy]))
  simp only[zH,List.length_cons,List.flatMap_cons,List.length_append,qIh] at h2 ⊢
  rw[Nat.mul_add]
  omega
theorem zKn {d0:List UInt8} {a:As} (h0:d0.length=32) (ha:a.Ok):(zH 8 ([knd a]::qO5 d0 a)).length<1000000000:=by
 have h : ∀ x∈[knd a]::qO5 d0 a,x.length≤32:=by
  intro x hx
  rcases List.mem_cons.1 hx with rfl | hx
  ·exact Nat.le_of_ble_eq_true rfl
  ·cases a with
   | reg s0 s1 d=>
    simp only[qO5,List.mem_cons,List.not_mem_nil,or_false] at hx
    rcases hx with rfl | rfl | rfl
    ·omega
    ·simp[qB3,zJ]
    ·have:=ha.2.2;omega
   | alt bs=>have:=ha.2 x hx;omega
 have hl:([knd a]::qO5 d0 a).length≤9:=by
  cases a with
  | reg s0 s1 d=>simp[qO5]
  | alt bs=>have:=ha.1.2;simp[qO5];omega
 have:=qUy (t:=8) h
 omega
theorem zO5 {d0 d:List UInt8} {s0 s1:Int} (h0:d0.length=32) (ha:(As.reg s0 s1 d).Ok):yE.fs [.t (.int .i64 8),.t (.sl [.sl [qA 1],.sl (d0.map qA),.sl ((qB3 s0 s1).map qA),.sl (d.map qA)])] []=some (.sl 0 0 32,[.live 1 (((qKa d0 (.reg s0 s1 d)).map qA).map V.t) true false]):=yE.eq (8,[1]::qO5 d0 (.reg s0 s1 d)) ⟨by show 8<256;omega,zKn h0 ha⟩
theorem zO4 {d0:List UInt8} {bs:List (List UInt8)} (h0:d0.length=32) (ha:(As.alt bs).Ok):yE.fs [.t (.int .i64 8),.t (.sl (.sl [qA 8]::bs.map bsT))] []=some (.sl 0 0 32,[.live 1 (((qKa d0 (.alt bs)).map qA).map V.t) true false]):=yE.eq (8,[8]::qO5 d0 (.alt bs)) ⟨by show 8<256;omega,zKn h0 ha⟩
def qF4:Ct where
 α:=List UInt8×As
 as x:=[.t (.sl (x.1.map qA)),.t (asT x.2)]
 ins _:=[]
 pre x:=x.1.length=32∧x.2.Ok
 r x:= .sl 0 0 32
 outs x:=[.live 1 (((qKa x.1 x.2).map qA).map V.t) true false]
 inj:=by
  rintro⟨a,b⟩ ⟨c,d⟩ h _
  simp only[List.cons.injEq,V.t.injEq,T.sl.injEq,and_true,qZ] at h
  obtain⟨rfl,h⟩:=h
  rw[qVq h]
  exact⟨rfl,rfl⟩
theorem zCu {d0:List UInt8} {a:As} (h0:d0.length=32) (ha:a.Ok):qF4.fs [.t (.sl (d0.map qA)),.t (asT a)] []=some (.sl 0 0 32,[.live 1 (((qKa d0 a).map qA).map V.t) true false]):=qF4.eq (d0,a) ⟨h0,ha⟩
theorem k1b:T.int .u8 (IntKind.u8.wrap 1)=qA 1:=rfl
theorem k8b:T.int .u8 (IntKind.u8.wrap 8)=qA 8:=rfl
theorem qSu (tab:Tab) (gl:Gl) (n1 n2 n3:Nat) (h1:tab.look n1=some qCm.fs) (h2:tab.look n2=some qJ8.fs) (h3:tab.look n3=some yE.fs) (d0:List UInt8) (a:As) (h0:d0.length=32) (ha:a.Ok) :
  (qCd n1 n2 n3).wp tab gl (qE 0 [.t (.sl (d0.map qA)),.t (asT a)]) (qE 0 []) (xM [] [(4,none)] 0 (fun r o=>r = .sl 0 0 32∧o=[.live 1 (((qKa d0 a).map qA).map V.t) true false])):=by
 cases a with
 | reg s0 s1 d=>
  simp (disch:=omega) only [go_sem,seval,qCd,asT,h1,h2,h3,qWf ha,zQa,k1b,zO5 h0 ha]
  all_goals rfl
 | alt bs=>
  have l:=ha.1
  have t1:List.take (1+bs.length) (T.sl [qA 8]::List.map bsT bs)=T.sl [qA 8]::List.map bsT bs:=List.take_of_length_le (by simp;omega)
  simp (disch:=omega) only [go_sem,seval,qCd,asT,h1,h2,h3,zFs ha,zP9,k8b,t1,zO4 h0 ha]
  all_goals rfl
def qOp:Ct where
 α:=Unit
 as _:=[]
 ins _:=[]
 pre _:=True
 r _:= .sl 0 0 32
 outs _:=[.live 1 ((z32.map qA).map V.t) true false]
 inj:=fun _ _ _ _=>⟨rfl,rfl⟩
theorem zTg:qOp.fs [] []=some (.sl 0 0 32,[.live 1 ((z32.map qA).map V.t) true false]):=qOp.eq () trivial
theorem qT1 (tab:Tab) (gl:Gl):qHd.wp tab gl (qE 0 []) (qE 0 []) (xM [] [(0,none)] 0 (fun r o=>r = .sl 0 0 32∧o=[.live 1 ((z32.map qA).map V.t) true false])):=by
 simp (disch:=omega) only [go_sem,seval,qHd,z32]
theorem zAs (tab:Tab) (gl:Gl):qLg.wp tab gl (qE 0 []) (qE 0 []) (xM [] [(0,none)] 0 (fun r o=>r = .sl 0 0 32∧o=[.live 1 ((z32.map qA).map V.t) true false])):=by
 simp (disch:=omega) only [go_sem,seval,qLg,z32]
def qCn:Ct where
 α:=As
 as x:=[.t (.sl [asT x])]
 ins _:=[]
 pre x:=x.Ok
 r x:= .t (.sl ((qKa z32 x).map qA))
 outs _:=[]
 inj:=by
  intro a b h _
  simp only[List.cons.injEq,V.t.injEq,T.sl.injEq,and_true] at h
  rw[qVq h]
  exact⟨rfl,rfl⟩
theorem qR2 {a:As} (h:a.Ok):qCn.fs [.t (.sl [asT a])] []=some (.t (.sl ((qKa z32 a).map qA)),[]):=qCn.eq a h
theorem qSt (tab:Tab) (gl:Gl) (n1 n2:Nat) (h1:tab.look n1=some qOp.fs) (h2:tab.look n2=some qF4.fs) (a:As) (ha:a.Ok) :
  (qGl n1 n2).wp tab gl (qE 0 [.t (.sl [asT a])]) (qE 0 []) (zZ [(2,none)] 0 (fun r o=>r = .t (.sl ((qKa z32 a).map qA))∧o=[])):=by
 have hE:=zCu qIt ha
 have t1:List.take 32 z32=z32:=rfl
 have t2:List.take 32 (qKa z32 a)=qKa z32 a:=List.take_of_length_le (by rw[qAf];exact Nat.le_refl _)
 have l1:=qAf (d0:=z32) (a:=a)
 have l2:=qIt
 cases a
 all_goals simp only[asT] at *
 all_goals simp (disch:=omega) only [go_sem,seval,qGl,h1,zTg]
 all_goals refine qF 2 ?_
 all_goals simp (disch:=omega) only [go_sem,seval,qB,qC6,h2,t1,t2,l1,l2,hE]
theorem qXo (tab:Tab) (gl:Gl) (n1 n2:Nat) (h1:tab.look n1=some qOp.fs) (h2:tab.look n2=some qF4.fs) (a:As) (ha:a.Ok) :
  (qJj n1 n2).wp tab gl (qE 0 [.t (.sl [asT a])]) (qE 0 []) (zZ [(2,none)] 0 (fun r o=>r = .t (.sl ((qKa z32 a).map qA))∧o=[])):=by
 have hE:=zCu qIt ha
 have t1:List.take 32 z32=z32:=rfl
 have t2:List.take 32 (qKa z32 a)=qKa z32 a:=List.take_of_length_le (by rw[qAf];exact Nat.le_refl _)
 have l1:=qAf (d0:=z32) (a:=a)
 have l2:=qIt
 cases a
 all_goals simp only[asT] at *
 all_goals simp (disch:=omega) only [go_sem,seval,qJj,h1,zTg]
 all_goals refine qF 2 ?_
 all_goals simp (disch:=omega) only [go_sem,seval,qB,qFb,h2,t1,t2,l1,l2,hE]
def qQ9:Ct where
 α:=Int×Int
 as x:=[.t (.agg [.int .i64 x.1,.int .i64 x.2])]
 ins _:=[]
 pre x:=(0≤x.1∧x.1≤65535)∧(0≤x.2∧x.2≤65535)
 r _:= .t (.bool true)
 outs _:=[]
 inj:=fun _ _ _ _=>⟨rfl,rfl⟩
theorem zV5 {s0 s1:Int} (h0:0≤s0∧s0≤65535) (h1:0≤s1∧s1≤65535):qQ9.fs [.t (.agg [.int .i64 s0,.int .i64 s1])] []=some (.t (.bool true),[]):=qQ9.eq (s0,s1) ⟨h0,h1⟩
theorem qUc (tab:Tab) (gl:Gl) (s0 s1:Int) (h0:0≤s0∧s0≤65535) (h1:0≤s1∧s1≤65535):qHl.wp tab gl (qE 0 [.t (.agg [.int .i64 s0,.int .i64 s1])]) (qE 0 []) (zZ [(2,none)] 0 (fun r o=>r = .t (.bool true)∧o=[])):=by
 have a1:=h0.1
 have a2:=h0.2
 have a3:=h1.1
 have a4:=h1.2
 simp (disch:=omega) only [go_sem,seval,qHl,a1,a2,a3,a4]
def qQ7:Ct where
 α:=List (List UInt8)
 as x:=[.t (.sl (x.map bsT))]
 ins _:=[]
 pre x:=(As.alt x).Ok
 r _:= .t (.bool true)
 outs _:=[]
 inj:=fun _ _ _ _=>⟨rfl,rfl⟩
theorem zV1 {bs:List (List UInt8)} (h:(As.alt bs).Ok):qQ7.fs [.t (.sl (bs.map bsT))] []=some (.t (.bool true),[]):=qQ7.eq bs h
theorem qS3 (tab:Tab) (gl:Gl) (bs:List (List UInt8)) (ha:(As.alt bs).Ok) :
  qGq.wp tab gl (qE 0 [.t (.sl (bs.map bsT))]) (qE 0 []) (zZ [(2,none)] 0 (fun r o=>r = .t (.bool true)∧o=[])):=by
 obtain⟨⟨a0,a2⟩,a1⟩:=ha
 simp (disch:=omega) only [go_sem,seval,qGq,a0,a2]
 refine qD bs.length (fun k=>[(0,.t (.sl (bs.map bsT))),(3,.t (.int .i64 k))]) (fun _=>[]) ?_ (fun k hk=>?_)
 ·refine qI.rd id ?_ ?_ rfl
  all_goals simp (disch:=omega) only [go_sem,seval,id]
 ·by_cases hlt:k<bs.length
  ·have hb:=zB9 a1 hlt
   simp (disch:=omega) only [go_sem,seval,qAd,hlt,hb]
   refine qI.rd id ?_ ?_ rfl
   all_goals simp (disch:=omega) only [go_sem,seval,id]
  ·have e:k=bs.length:=by omega
   subst e
   simp (disch:=omega) only [go_sem,seval,qAd]
theorem zAq (tab:Tab) (gl:Gl) (n1 n2 n3:Nat) (h1:tab.look n1=some qQ9.fs) (h3:tab.look n3=some qQ7.fs) (a:As) (ha:a.Ok) :
  (qFx n1 n2 n3).wp tab gl (qE 0 [.t (asT a)]) (qE 0 []) (zZ [(2,none)] 0 (fun r o=>r = .t (.int .i64 0)∧o=[])):=by
 cases a with
 | reg s0 s1 d=>
  have l:=ha.2.2
  simp (disch:=omega) only [go_sem,seval,qFx,asT,h1,zV5 ha.1 ha.2.1,l]
 | alt bs=>
  simp (disch:=omega) only [go_sem,seval,qFx,asT,h3,zV1 ha]
def qQ8:Ct where
 α:=List UInt8×As
 as x:=[.t (.sl (x.1.map qA)),.t (asT x.2)]
 ins _:=[]
 pre x:=x.1.length=32∧x.2.Ok
 r x:= .sl 0 0 (zH 8 ([knd x.2]::qO5 x.1 x.2)).length
 outs x:=[.live 1 (((zH 8 ([knd x.2]::qO5 x.1 x.2)).map qA).map V.t) true false]
 inj:=by
  rintro⟨a,b⟩ ⟨c,d⟩ h _
  simp only[List.cons.injEq,V.t.injEq,T.sl.injEq,and_true,qZ] at h
  obtain⟨rfl,h⟩:=h
  rw[qVq h]
  exact⟨rfl,rfl⟩
theorem zV2 {d0:List UInt8} {a:As} (h0:d0.length=32) (ha:a.Ok):qQ8.fs [.t (.sl (d0.map qA)),.t (asT a)] []=some (.sl 0 0 (zH 8 ([knd a]::qO5 d0 a)).length,[.live 1 (((zH 8 ([knd a]::qO5 d0 a)).map qA).map V.t) true false]):=qQ8.eq (d0,a) ⟨h0,ha⟩
theorem zAr (tab:Tab) (gl:Gl) (n1 n2:Nat) (h1:tab.look n1=some vT.fs) (h2:tab.look n2=some qA2.fs) (d0:List UInt8) (a:As) (h0:d0.length=32) (ha:a.Ok) :
  (qFy n1 n2).wp tab gl (qE 0 [.t (.sl (d0.map qA)),.t (asT a)]) (qE 0 []) (xM [] [(4,none)] 0 (fun r o=>r = .sl 0 0 (zH 8 ([knd a]::qO5 d0 a)).length∧o=[.live 1 (((zH 8 ([knd a]::qO5 d0 a)).map qA).map V.t) true false])):=by
 have hF:=qLv (t:=8) (fs:=[knd a]::qO5 d0 a) ⟨by omega,zKn h0 ha⟩
 have hM:=zKn h0 ha
 generalize zH 8 ([knd a]::qO5 d0 a)=f at *
 have tf:List.take f.length f=f:=List.take_length
 cases a with
 | reg s0 s1 d=>
  have hu:=qMo (b:=[]) (n:=s0) (by decide)
  simp only[List.map_nil,List.length_nil,List.nil_append] at hu
  have hv:=qMo (b:=beI 2 s0 2) (n:=s1) (by rw[zJ];omega)
  rw[zJ] at hv
  have t2:List.take 2 (beI 2 s0 2)=beI 2 s0 2:=List.take_of_length_le (by rw[zJ];exact Nat.le_refl _)
  have t4:List.take 4 (beI 2 s0 2++beI 2 s1 2)=beI 2 s0 2++beI 2 s1 2:=List.take_of_length_le (by rw[List.length_append,zJ,zJ];exact Nat.le_refl _)
  simp only[qO5,qB3,knd,List.map_cons,List.map_nil,qCj] at hF
  rw[show ((8:Nat):Int)=8 from rfl] at hF
  simp (disch:=omega) only [go_sem,seval,qFy,asT,h1,hu,hv,zJ,t2,t4,k1b,h2,hF,tf]
  all_goals rfl
 | alt bs=>
  have l:=ha.1
  have t1:List.take (1+bs.length) (T.sl [qA 8]::List.map bsT bs)=T.sl [qA 8]::List.map bsT bs:=List.take_of_length_le (by simp;omega)
  simp only[qO5,knd,List.map_cons,List.map_nil] at hF
  rw[show ((8:Nat):Int)=8 from rfl,qCj] at hF
  simp only[List.map_cons,List.map_nil] at hF
  simp (disch:=omega) only [go_sem,seval,qFy,asT,k8b,t1,h2,hF,tf]
  all_goals rfl
theorem qXp (tab:Tab) (gl:Gl) (n1 n2 n3:Nat) (h1:tab.look n1=some qCm.fs) (h2:tab.look n2=some qQ8.fs) (h3:tab.look n3=some (qFj 32 zK).fs) (d0:List UInt8) (a:As) (h0:d0.length=32) (ha:a.Ok) :
  (qEz n1 n2 n3).wp tab gl (qE 0 [.t (.sl (d0.map qA)),.t (asT a)]) (qE 0 []) (xM [] [(4,none)] 0 (fun r o=>r = .sl 0 0 32∧o=[.live 1 (((qKa d0 a).map qA).map V.t) true false])):=by
 have hF:=zV2 h0 ha
 have hM:=zKn h0 ha
 have hS:=qSo (n:=32) (f:=zK) hM
 have hX:zK (zH 8 ([knd a]::qO5 d0 a))=qKa d0 a:=rfl
 rw[hX] at hS
 generalize zH 8 ([knd a]::qO5 d0 a)=f at *
 have t1:List.take f.length f=f:=List.take_length
 cases a with
 | reg s0 s1 d=>
  have hC:=qWf ha
  generalize qKa d0 (.reg s0 s1 d)=x at *
  simp only[asT] at *
  simp (disch:=omega) only [go_sem,seval,qEz,h1,hC,h2,hF,t1,h3,hS]
 | alt bs=>
  have hC:=zFs ha
  generalize qKa d0 (.alt bs)=x at *
  simp only[asT] at *
  simp (disch:=omega) only [go_sem,seval,qEz,h1,hC,h2,hF,t1,h3,hS]
end Go.Eng
end
section
namespace Go.Eng
def qLb (n_ref2_Derive:Nat):AC:=
 (.seq
 (rG 4096 [mC 6 .nil])
 (.seq
 (rG 8192 [mv 7 0,mv 8 1,oO 9 (.conv .u8) [.tmp 8],mv 10 2,oO 11 (.conv .u8) [.tmp 10],oO 12 (.bslice 1 2 (.t (qA 0)) [0,1]) [.tmp 9,.tmp 11],cL 13 n_ref2_Derive true [.tmp 7,.cst (.t (zU [99,104,97,105,110])),.tmp 12,.cst (.t (.int .i64 16))],mv 6 13])
 .ret))
def qLd (n_ref1_Hash:Nat):AC:=
 (.seq
 (rG 4096 [mC 4 .nil])
 (.seq
 (rG 8192 [mv 5 0,oO 6 (.conv .u8) [.tmp 5],oO 7 (.bslice 1 1 (.t (qA 0)) [0]) [.tmp 6],mv 8 1,oO 9 (.bslice 1 2 .nil [0,1]) [.tmp 7,.tmp 8],cL 10 n_ref1_Hash false [.cst (.t (.int .i64 2)),.tmp 9],oO 11 (.slice 1 false true false) [.tmp 10,.cst (.t (.int .i64 16))],mv 4 11])
 .ret))
def qCh (n_ref1_Hash:Nat):AC:=
 (.seq
 (.seq
 (rG 12288 [mv 13 11,mv 14 3,bT 15 .lss 13 14])
 (.cond (.tmp 15)
 .skip
 (.exit 0)))
 (.seq
 (.block 1
 (rG 20480 [mv 18 0,oO 19 (.conv .u8) [.tmp 18],mv 20 1,oO 21 (.conv .u8) [.tmp 20],mv 22 11,oO 23 (.conv .u8) [.tmp 22],oO 24 (.bslice 1 3 (.t (qA 0)) [0,1,2]) [.tmp 19,.tmp 21,.tmp 23],mv 25 4,oO 26 (.bslice 1 2 .nil [0,1]) [.tmp 24,.tmp 25],cL 27 n_ref1_Hash false [.cst (.t (.int .i64 1)),.tmp 26],oO 28 (.slice 1 false true false) [.tmp 27,.cst (.t (.int .i64 16))],mv 4 28]))
 (rG 16384 [mv 16 11,bN 17 .add 16 1,mv 11 17])))
def qLc (n_ref1_Hash:Nat):AC:=
 (.seq
 (rG 4096 [mC 10 .nil])
 (.seq
 (.seq
 (rG 8192 [mv 12 2,mv 11 12])
 (.block 0
 (.loop (qCh n_ref1_Hash))))
 (.seq
 (rG 24576 [mv 29 4,mv 10 29])
 .ret)))
def qBk (n_ref5_start n_ref5_steps:Nat):AC:=
 (.seq
 (.seq
 (rG 24576 [mv 13 6,bN 14 .lss 13 35])
 (.cond (.tmp 14)
 .skip
 (.exit 0)))
 (.seq
 (.block 1
 (rG 32768 [mv 17 5,mv 18 1,mv 19 6,mv 20 0,mv 21 1,mv 22 6,cL 23 n_ref5_start true [.tmp 20,.tmp 21,.tmp 22],cL 24 n_ref5_steps true [.tmp 18,.tmp 19,.cst (.t (.int .i64 0)),.cst (.t (.int .i64 15)),.tmp 23],oO 25 (.append 1 1) [.tmp 17,.tmp 24],mv 5 25]))
 (rG 28672 [mv 15 6,bN 16 .add 15 1,mv 6 16])))
def qJf (n_ref5_start n_ref5_steps n_ref5_value:Nat):AC:=
 (.seq
 (rG 4096 [mC 4 .nil])
 (.seq
 (.seq
 (rG 8192 [mv 7 1,bN 8 .lss 7 0,mv 9 8,mF 10 1 9,oF 11 9 (.bin .gtr) [.tmp 10,.cst (.t (.int .i64 255))],oO 12 .pick [.tmp 9,.cst (.t (.bool true)),.tmp 11]])
 (.cond (.tmp 12)
 (.seq
 (rG 12288 [mC 4 .nil])
 .ret)
 .skip))
 (.seq
 (rG 16384 [mC 5 .nil])
 (.seq
 (.seq
 (rG 20480 [mC 6 (.t (.int .i64 0))])
 (.block 0
 (.loop (qBk n_ref5_start n_ref5_steps))))
 (.seq
 (rG 36864 [mv 26 1,mv 27 5,cL 28 n_ref5_value true [.tmp 26,.tmp 27],mv 4 28])
 .ret)))))
def qOc:AC:=
 (.seq
 (rG 4096 [mC 2 (.t (.bool false))])
 (.seq
 (rG 8192 [mv 3 0,bN 4 .eql 3 1,mv 5 4,mF 6 0 5,oF 7 5 (.bin .eql) [.tmp 6,.cst (.t (.int .i64 2))],oO 8 .pick [.tmp 5,.cst (.t (.bool true)),.tmp 7],mv 9 8,mF 10 0 9,oF 11 9 (.bin .eql) [.tmp 10,.cst (.t (.int .i64 4))],oO 12 .pick [.tmp 9,.cst (.t (.bool true)),.tmp 11],mv 13 12,mF 14 0 13,oF 15 13 (.bin .eql) [.tmp 14,.cst (.t (.int .i64 8))],oO 16 .pick [.tmp 13,.cst (.t (.bool true)),.tmp 15],mv 2 16])
 .ret))
def qOd (n_ref1_Hash:Nat):AC:=
 (.seq
 (rG 4096 [mC 8 .nil])
 (.seq
 (rG 8192 [mv 9 0,oO 10 (.conv .u8) [.tmp 9],mv 11 1,oO 12 (.conv .u8) [.tmp 11],oO 13 (.bslice 1 2 (.t (qA 0)) [0,1]) [.tmp 10,.tmp 12],mv 14 2,mv 15 3,oO 16 (.bslice 1 3 .nil [0,1,2]) [.tmp 13,.tmp 14,.tmp 15],cL 17 n_ref1_Hash false [.cst (.t (.int .i64 3)),.tmp 16],oO 18 (.slice 1 false true false) [.tmp 17,.cst (.t (.int .i64 16))],mv 8 18])
 .ret))
def qLe (n_ref6_join:Nat):AC:=
 (.seq
 (.seq
 (rG 16384 [mv 7 6,oO 8 (.bin .mul) [.cst (.t (.int .i64 2)),.tmp 7],bN 9 .add 8 1,mv 10 1,oO 11 .len [.tmp 10],bT 12 .lss 9 11])
 (.cond (.tmp 12)
 .skip
 (.exit 0)))
 (.seq
 (.block 1
 (.reg 24576 (some [0,0,0,0,0,16,56,120,0,0,512,1536,3840,7936,16382,32766,65535,131071]) [mv 15 5,mv 16 0,mv 17 6,mv 18 1,mv 19 6,oO 20 (.bin .mul) [.cst (.t (.int .i64 2)),.tmp 19],oO 21 (.iaddr 1) [.tmp 18,.tmp 20],oO 22 (.load 1 false) [.tmp 21],mv 23 1,mv 24 6,oO 25 (.bin .mul) [.cst (.t (.int .i64 2)),.tmp 24],bN 26 .add 25 1,oO 27 (.iaddr 1) [.tmp 23,.tmp 26],oO 28 (.load 1 false) [.tmp 27],cL 29 n_ref6_join true [.tmp 16,.tmp 17,.tmp 22,.tmp 28],oO 30 (.bslice 1 1 .nil [0]) [.tmp 29],oO 31 (.append 1 24) [.tmp 15,.tmp 30],mv 5 31]))
 (rG 20480 [mv 13 6,bN 14 .add 13 1,mv 6 14])))
def qUn (n_ref6_join:Nat):AC:=
 (.seq
 (rG 4096 [mC 4 .nil])
 (.seq
 (rG 8192 [mC 5 .nil])
 (.seq
 (.seq
 (rG 12288 [mC 6 (.t (.int .i64 0))])
 (.block 0
 (.loop (qLe n_ref6_join))))
 (.seq
 (rG 28672 [mv 32 5,mv 4 32])
 .ret))))
def qHi (n_ref6_up:Nat):AC:=
 (.seq
 (.seq
 (rG 24576 [mv 10 3,oO 11 .len [.tmp 10],bN 12 .gtr 11 1])
 (.cond (.tmp 12)
 .skip
 (.exit 0)))
 (.seq
 (.block 1
 (rG 32768 [mv 15 4,mv 16 3,cL 17 n_ref6_up true [.tmp 15,.tmp 16],mv 3 17]))
 (rG 28672 [mv 13 4,bN 14 .add 13 1,mv 4 14])))
def qOb (n_ref6_fits n_ref6_up n_ref1_Copy:Nat):AC:=
 (.seq
 (rG 4096 [mC 2 .nil])
 (.seq
 (.seq
 (rG 8192 [mv 5 0,oO 6 .len [.tmp 5],cL 7 n_ref6_fits false [.tmp 6],oO 8 (.un .not) [.tmp 7]])
 (.cond (.tmp 8)
 (.seq
 (rG 12288 [mC 2 .nil])
 .ret)
 .skip))
 (.seq
 (rG 16384 [mv 9 0,mv 3 9])
 (.seq
 (.seq
 (rG 20480 [mC 4 (.t (.int .i64 0))])
 (.block 0
 (.loop (qHi n_ref6_up))))
 (.seq
 (rG 36864 [mv 18 3,oO 19 (.iaddr 1) [.tmp 18,.cst (.t (.int .i64 0))],oO 20 (.load 1 false) [.tmp 19],cL 21 n_ref1_Copy false [.tmp 20],mv 2 21])
 .ret)))))
def qGp (n_ref2_Derive:Nat):AC:=
 (.seq
 (rG 4096 [mC 4 .nil])
 (.seq
 (rG 8192 [mv 5 0,mv 6 1,oO 7 (.conv .u8) [.tmp 6],oO 8 (.bslice 1 1 (.t (qA 0)) [0]) [.tmp 7],cL 9 n_ref2_Derive true [.tmp 5,.cst (.t (zU [115,105,103,110,101,114])),.tmp 8,.cst (.t (.int .i64 32))],mv 4 9])
 .ret))
def xF (n_ref5_Public:Nat):AC:=
 (.seq
 (.seq
 (rG 20480 [mv 11 7,mv 12 1,oO 13 (.conv .u64) [.tmp 12],oO 14 (.bin .shl) [.cst (.t (.int .i64 1)),.tmp 13],bT 15 .lss 11 14])
 (.cond (.tmp 15)
 .skip
 (.exit 0)))
 (.seq
 (.block 1
 (rG 28672 [mv 18 5,mv 19 6,mv 20 7,cL 21 n_ref5_Public true [.tmp 19,.tmp 20],oO 22 (.bslice 1 1 .nil [0]) [.tmp 21],oO 23 (.append 1 24) [.tmp 18,.tmp 22],mv 5 23]))
 (rG 24576 [mv 16 7,bN 17 .add 16 1,mv 7 17])))
def qJh (n_ref7_leafSeed n_ref5_Public:Nat):AC:=
 (.seq
 (rG 4096 [mC 4 .nil])
 (.seq
 (rG 8192 [mC 5 .nil])
 (.seq
 (rG 12288 [mv 8 0,mv 9 1,cL 10 n_ref7_leafSeed true [.tmp 8,.tmp 9],mv 6 10])
 (.seq
 (.seq
 (rG 16384 [mC 7 (.t (.int .i64 0))])
 (.block 0
 (.loop (xF n_ref5_Public))))
 (.seq
 (rG 32768 [mv 24 5,mv 4 24])
 .ret)))))
def qJg (n_ref7_leaves n_ref6_Root:Nat):AC:=
 (.seq
 (rG 4096 [mC 4 .nil])
 (.seq
 (.seq
 (rG 8192 [mv 5 1,bN 6 .lss 5 0,mv 7 6,mF 8 1 7,oF 9 7 (.bin .gtr) [.tmp 8,.cst (.t (.int .i64 3))],oO 10 .pick [.tmp 7,.cst (.t (.bool true)),.tmp 9]])
 (.cond (.tmp 10)
 (.seq
 (rG 12288 [mC 4 .nil])
 .ret)
 .skip))
 (.seq
 (rG 16384 [mv 11 1,oO 12 (.conv .u8) [.tmp 11],oO 13 (.bslice 1 1 (.t (qA 0)) [0]) [.tmp 12],mv 14 0,mv 15 1,cL 16 n_ref7_leaves true [.tmp 14,.tmp 15],cL 17 n_ref6_Root true [.tmp 16],oO 18 (.append 1 1) [.tmp 13,.tmp 17],mv 4 18])
 .ret)))
def qC2 (n_ref1_Sum256:Nat):AC:=
 (.seq
 (rG 4096 [mC 2 .nil])
 (.seq
 (rG 8192 [mv 3 0,oO 4 (.conv .u8) [.tmp 3],oO 5 (.bslice 1 2 (.t (qA 0)) [0,1]) [.cst (.t (qA 113)),.tmp 4],cL 6 n_ref1_Sum256 false [.tmp 5],mv 2 6])
 .ret))
def qG9 (n_draw_QuoteSecret n_ref7_Public:Nat):AC:=
 (.seq
 (rG 4096 [oO 2 (.new 5 [(.agg [(.t (.int .i64 0)),(.t (.int .i64 0)),(.t (.int .i64 0)),.nil,.nil])]) []])
 (.seq
 (rG 8192 [mv 3 0,cL 4 n_draw_QuoteSecret true [.tmp 3],cL 5 n_ref7_Public true [.tmp 4,.cst (.t (.int .i64 1))],oO 6 (.build [(.t (.int .i64 0)),(.t (.int .i64 0)),(.t (.int .i64 0)),.nil,.nil] [(0,1),(1,1),(2,1),(4,1)]) [.cst (.t (.int .i64 2)),.cst (.t (.int .i64 7)),.cst (.t (.int .i64 1)),.tmp 5],oS 5 2 6])
 .ret))
def qGj (n_draw_Quoting n_ref1_Sum256:Nat):AC:=
 (.seq
 (rG 4096 [oO 4 (.new 11 [(.agg [(.t (.int .i64 0)),(.t (.int .i64 0)),.nil,.nil,.nil,.nil,(.t (.int .i64 0)),(.t (.int .i64 0)),(.t (.int .i64 0)),.nil,.nil])]) []])
 (.seq
 (.reg 8192 (some [0,0,0,4,12,0,32,96,252,508,0,1024,3072,7676,15868,0,32768,131071,262143]) [mv 5 0,mv 6 1,mv 7 0,oO 8 (.bin .mul) [.cst (.t (.int .i64 2)),.tmp 7],cL 9 n_draw_Quoting true [.tmp 8],mv 10 0,oO 11 (.bin .mul) [.cst (.t (.int .i64 2)),.tmp 10],bN 12 .add 11 1,cL 13 n_draw_Quoting true [.tmp 12],oO 14 (.bslice 5 2 (.agg [(.t (.int .i64 0)),(.t (.int .i64 0)),(.t (.int .i64 0)),.nil,.nil]) [0,1]) [.tmp 9,.tmp 13],mv 15 0,oO 16 (.conv .u8) [.tmp 15],oO 17 (.bslice 1 2 (.t (qA 0)) [0,1]) [.cst (.t (qA 112)),.tmp 16],cL 18 n_ref1_Sum256 false [.tmp 17],oO 19 (.build [.nil,.nil,.nil] [(1,1)]) [.tmp 18],oO 20 (.mkslice 1 1 (.t (qA 0))) [.cst (.t (.int .i64 32)),.cst (.t (.int .i64 32))],oO 21 (.build [(.t (.int .i64 0)),(.t (.int .i64 0)),(.t (.int .i64 0)),.nil,.nil] [(0,1),(1,1),(4,1)]) [.cst (.t (.int .i64 1)),.cst (.t (.int .i64 3)),.tmp 20],oO 22 (.build [(.t (.int .i64 0)),(.t (.int .i64 0)),.nil,.nil,.nil,.nil,(.t (.int .i64 0)),(.t (.int .i64 0)),(.t (.int .i64 0)),.nil,.nil] [(0,1),(1,1),(2,1),(3,3),(6,5)]) [.tmp 5,.tmp 6,.tmp 14,.tmp 19,.tmp 21],oS 11 4 22])
 .ret))
end Go.Eng
end
section
set_option maxRecDepth 20000
set_option maxHeartbeats 64000000
namespace Go.Eng
def zUz (t:Nat) (fs:List (List UInt8)):List UInt8:=(qD5 t fs).take 16
theorem qKd {t:Nat} {fs:List (List UInt8)}:(zUz t fs).length=16:=by simp[zUz,qD5,qM]
theorem zKu {t:Nat} {fs:List (List UInt8)}:List.take 16 (qD5 t fs)=zUz t fs:=rfl
theorem qH3 {t:Nat} {fs:List (List UInt8)}:(qD5 t fs).length=32:=qM
def jJa:List UInt8:=[99,104,97,105,110]
def jJj:List UInt8:=[115,105,103,110,101,114]
def zTt (seed:List UInt8) (leaf c:Nat):List UInt8:=drv seed jJa [UInt8.ofNat leaf,UInt8.ofNat c] 16
def qYp:Ct where
 α:=List UInt8×Nat×Nat
 as x:=[.t (.sl (x.1.map qA)),.t (.int .i64 x.2.1),.t (.int .i64 x.2.2)]
 ins _:=[]
 pre x:=x.1.length≤64
 r x:= .t (.sl ((zTt x.1 x.2.1 x.2.2).map qA))
 outs _:=[]
 inj:=by
  rintro⟨a,b,c⟩ ⟨d,e,f⟩ h _
  simp only[List.cons.injEq,V.t.injEq,T.sl.injEq,T.int.injEq,true_and,and_true,qZ,Int.natCast_inj] at h
  obtain⟨rfl,rfl,rfl⟩:=h
  exact⟨rfl,rfl⟩
theorem jBe {s:List UInt8} {l c:Nat} (h:s.length≤64):qYp.fs [.t (.sl (s.map qA)),.t (.int .i64 l),.t (.int .i64 c)] []=some (.t (.sl ((zTt s l c).map qA)),[]):=qYp.eq (s,l,c) h
theorem zAk (tab:Tab) (gl:Gl) (n1:Nat) (h1:tab.look n1=some xK.fs) (s:List UInt8) (l c:Nat) (h:s.length≤64) :
  (qLb n1).wp tab gl (qE 0 [.t (.sl (s.map qA)),.t (.int .i64 l),.t (.int .i64 c)]) (qE 0 []) (zZ [(6,none)] 0 (fun r o=>r = .t (.sl ((zTt s l c).map qA))∧o=[])):=by
 have hD:xK.fs [.t (.sl (s.map qA)),.t (zU [99,104,97,105,110]),.t (.sl [qA (UInt8.ofNat l),qA (UInt8.ofNat c)]),.t (.int .i64 16)] []=some (.t (.sl ((zTt s l c).map qA)),[]):=qUv (l:=jJa) (c:=[UInt8.ofNat l,UInt8.ofNat c]) (n:=16) ⟨h,by decide,by simp,by omega,by omega⟩
 simp (disch:=omega) only [go_sem,seval,qLb,h1,hD]
theorem jDn {t:Nat} {fs:List (List UInt8)} (h : ∀ x∈fs,x.length≤1000) (hl:fs.length≤10):(zH t fs).length<1000000000:=by
 have h1:=qUy (t:=t) h
 omega
theorem zE9 {t:Nat} {fs:List (List UInt8)} (ht:t<256) (h : ∀ x∈fs,x.length≤1000) (hl:fs.length≤10):yE.fs [.t (.int .i64 t),.t (.sl (fs.map bsT))] []=some (.sl 0 0 32,[.live 1 (((qD5 t fs).map qA).map V.t) true false]):=yE.eq (t,fs) ⟨ht,jDn h hl⟩
def zYm (leaf:Nat) (ends:List UInt8):List UInt8:=zUz 2 [[UInt8.ofNat leaf],ends]
def qRh:Ct where
 α:=Nat×List UInt8
 as x:=[.t (.int .i64 x.1),.t (.sl (x.2.map qA))]
 ins _:=[]
 pre x:=x.2.length≤1000
 r x:= .t (.sl ((zYm x.1 x.2).map qA))
 outs _:=[]
 inj:=by
  rintro⟨a,b⟩ ⟨c,d⟩ h _
  simp only[List.cons.injEq,V.t.injEq,T.sl.injEq,T.int.injEq,true_and,and_true,qZ,Int.natCast_inj] at h
  obtain⟨rfl,rfl⟩:=h
  exact⟨rfl,rfl⟩
theorem zXv {l:Nat} {e:List UInt8} (h:e.length≤1000):qRh.fs [.t (.int .i64 l),.t (.sl (e.map qA))] []=some (.t (.sl ((zYm l e).map qA)),[]):=qRh.eq (l,e) h
theorem zAm (tab:Tab) (gl:Gl) (n1:Nat) (h1:tab.look n1=some yE.fs) (l:Nat) (e:List UInt8) (h:e.length≤1000) :
  (qLd n1).wp tab gl (qE 0 [.t (.int .i64 l),.t (.sl (e.map qA))]) (qE 0 []) (zZ [(4,none)] 0 (fun r o=>r = .t (.sl ((zYm l e).map qA))∧o=[])):=by
 have hH:=zE9 (t:=2) (fs:=[[UInt8.ofNat l],e]) (by omega) (by intro x hx;simp only[List.mem_cons,List.not_mem_nil,or_false] at hx;rcases hx with rfl | rfl;simp;exact h) (by simp)
 simp only[List.map_cons,List.map_nil,qCj] at hH
 rw[show ((2:Nat):Int)=2 from rfl] at hH
 have lH:=qH3 (t:=2) (fs:=[[UInt8.ofNat l],e])
 have tH:=zKu (t:=2) (fs:=[[UInt8.ofNat l],e])
 rw[zYm]
 generalize zUz 2 [[UInt8.ofNat l],e]=z at *
 generalize qD5 2 [[UInt8.ofNat l],e]=y at *
 simp (disch:=omega) only [go_sem,seval,qLd,h1,hH,lH,tH]
def zA9 (leaf c:Nat) (x:List UInt8):Nat→List UInt8
 | 0=>x
 | p+1=>zUz 1 [[UInt8.ofNat leaf,UInt8.ofNat c,UInt8.ofNat p],zA9 leaf c x p]
theorem zDc {l c:Nat} {x:List UInt8} (h:x.length=16) : ∀ {p:Nat},(zA9 l c x p).length=16
 | 0=>h
 | p+1=>qKd
def qRf:Ct where
 α:=Nat×Nat×List UInt8
 as x:=[.t (.int .i64 x.1),.t (.int .i64 x.2.1),.t (.int .i64 0),.t (.int .i64 15),.t (.sl (x.2.2.map qA))]
 ins _:=[]
 pre x:=x.2.2.length=16
 r x:= .t (.sl ((zA9 x.1 x.2.1 x.2.2 15).map qA))
 outs _:=[]
 inj:=by
  rintro⟨a,b,c⟩ ⟨d,e,f⟩ h _
  simp only[List.cons.injEq,V.t.injEq,T.sl.injEq,T.int.injEq,true_and,and_true,qZ,Int.natCast_inj] at h
  obtain⟨rfl,rfl,rfl⟩:=h
  exact⟨rfl,rfl⟩
theorem zXm {l c:Nat} {x:List UInt8} (h:x.length=16):qRf.fs [.t (.int .i64 l),.t (.int .i64 c),.t (.int .i64 0),.t (.int .i64 15),.t (.sl (x.map qA))] []=some (.t (.sl ((zA9 l c x 15).map qA)),[]):=qRf.eq (l,c,x) h
theorem zAl (tab:Tab) (gl:Gl) (n1:Nat) (h1:tab.look n1=some yE.fs) (l c:Nat) (x:List UInt8) (h:x.length=16) :
  (qLc n1).wp tab gl (qE 0 [.t (.int .i64 l),.t (.int .i64 c),.t (.int .i64 0),.t (.int .i64 15),.t (.sl (x.map qA))]) (qE 0 []) (zZ [(10,none)] 0 (fun r o=>r = .t (.sl ((zA9 l c x 15).map qA))∧o=[])):=by
 simp (disch:=omega) only [go_sem,seval,qLc]
 refine qD 15 (fun p=>[(0,.t (.int .i64 l)),(1,.t (.int .i64 c)),(3,.t (.int .i64 15)),(4,.t (.sl ((zA9 l c x p).map qA))),(11,.t (.int .i64 p))]) (fun _=>[]) ?_ (fun p hp=>?_)
 ·refine qI.rd id ?_ ?_ rfl
  all_goals simp (disch:=omega) only [go_sem,seval,id]
  all_goals rfl
 ·by_cases hlt:p<15
  ·have hq:=zDc (l:=l) (c:=c) h (p:=p)
   have hH:=zE9 (t:=1) (fs:=[[UInt8.ofNat l,UInt8.ofNat c,UInt8.ofNat p],zA9 l c x p]) (by omega) (by intro x hx;simp only[List.mem_cons,List.not_mem_nil,or_false] at hx;rcases hx with rfl | rfl;simp;omega) (by simp)
   simp only[List.map_cons,List.map_nil,qCj] at hH
   rw[show ((1:Nat):Int)=1 from rfl] at hH
   have lH:=qH3 (t:=1) (fs:=[[UInt8.ofNat l,UInt8.ofNat c,UInt8.ofNat p],zA9 l c x p])
   have tH:List.take 16 (qD5 1 [[UInt8.ofNat l,UInt8.ofNat c,UInt8.ofNat p],zA9 l c x p])=zA9 l c x (p+1):=rfl
   obtain⟨z,hz⟩ : ∃ z,zA9 l c x (p+1)=z:=⟨_,rfl⟩
   rw[hz] at tH
   generalize qD5 1 [[UInt8.ofNat l,UInt8.ofNat c,UInt8.ofNat p],zA9 l c x p]=y at *
   generalize zA9 l c x p=w at *
   simp (disch:=omega) only [go_sem,seval,qCh,hlt,h1,hH,lH]
   refine qI.cv (hv:=[]) [20624] id ?_ rfl
   simp (disch:=omega) only [go_sem,seval,id,tH,hz]
   all_goals rfl
  ·have e:p=15:=by omega
   subst e
   simp (disch:=omega) only [go_sem,seval,qCh]
def zBx (seed:List UInt8) (leaf:Nat):Nat→List UInt8
 | 0=>[]
 | c+1=>zBx seed leaf c++zA9 leaf c (zTt seed leaf c) 15
theorem qKm {s:List UInt8} {l c:Nat}:(zTt s l c).length=16:=yU
theorem qRk {s:List UInt8} {l:Nat} : ∀ {c:Nat},(zBx s l c).length=16*c
 | 0=>rfl
 | c+1=>by rw[zBx,List.length_append,qRk,zDc qKm];omega
def qR5 (seed:List UInt8) (leaf:Nat):List UInt8:=zYm leaf (zBx seed leaf 35)
theorem qR6 {s:List UInt8} {l:Nat}:(qR5 s l).length=16:=qKd
def qRa:Ct where
 α:=List UInt8×Nat
 as x:=[.t (.sl (x.1.map qA)),.t (.int .i64 x.2)]
 ins _:=[]
 pre x:=x.1.length≤64∧x.2≤255
 r x:= .t (.sl ((qR5 x.1 x.2).map qA))
 outs _:=[]
 inj:=by
  rintro⟨a,b⟩ ⟨c,d⟩ h _
  simp only[List.cons.injEq,V.t.injEq,T.sl.injEq,T.int.injEq,true_and,and_true,qZ,Int.natCast_inj] at h
  obtain⟨rfl,rfl⟩:=h
  exact⟨rfl,rfl⟩
theorem zLs {s:List UInt8} {l:Nat} (h:s.length≤64∧l≤255):qRa.fs [.t (.sl (s.map qA)),.t (.int .i64 l)] []=some (.t (.sl ((qR5 s l).map qA)),[]):=qRa.eq (s,l) h
theorem qXi (tab:Tab) (gl:Gl) (n1 n2 n3:Nat) (h1:tab.look n1=some qYp.fs) (h2:tab.look n2=some qRf.fs) (h3:tab.look n3=some qRh.fs) (s:List UInt8) (l:Nat) (h:s.length≤64∧l≤255) :
  (qJf n1 n2 n3).wp tab gl (qE 0 [.t (.sl (s.map qA)),.t (.int .i64 l)]) (qE 0 []) (zZ [(4,none)] 0 (fun r o=>r = .t (.sl ((qR5 s l).map qA))∧o=[])):=by
 obtain⟨hs,hl⟩:=h
 have g1 : ¬ (l:Int)<0:=by omega
 have g2 : ¬ (255:Int)<l:=by omega
 simp (disch:=omega) only [go_sem,seval,qJf,g1,g2]
 refine qD 35 (fun c=>[(0,.t (.sl (s.map qA))),(1,.t (.int .i64 l)),(5,.sl 9000 0 (16*c)),(6,.t (.int .i64 c))]) (fun c=>[(9000,.live 1 (((zBx s l c).map qA).map V.t) true false)]) ?_ (fun c hc=>?_)
 ·refine qI.cv0 (hv:=[(9000,.live 1 [] true false)]) (ho:=[]) id ?_ ?_ rfl rfl
  all_goals simp (disch:=omega) only [go_sem,seval,id]
  all_goals rfl
 ·have hR:=qRk (s:=s) (l:=l) (c:=c)
  by_cases hlt:c<35
  ·have hA:=jBe (l:=l) (c:=c) hs
   have hB:=zXm (l:=l) (c:=c) (qKm (s:=s) (l:=l) (c:=c))
   have lB:=zDc (l:=l) (c:=c) (qKm (s:=s) (l:=l) (c:=c)) (p:=15)
   have hE:zBx s l c++zA9 l c (zTt s l c) 15=zBx s l (c+1):=rfl
   obtain⟨z,hz⟩ : ∃ z,zBx s l (c+1)=z:=⟨_,rfl⟩
   rw[hz] at hE
   generalize zA9 l c (zTt s l c) 15=y at *
   simp (disch:=omega) only [go_sem,seval,qBk,hlt,h1,hA,h2,hB,hR,lB,hE]
   refine qI.rd (fun j=>if j=9000 then 32896 else j) ?_ ?_ rfl
   all_goals simp (disch:=omega) only [go_sem,seval,id,hE,hz]
   all_goals first | omega | rfl
  ·have e:c=35:=by omega
   subst e
   have hV:=zXv (l:=l) (e:=zBx s l 35) (by omega)
   have hX:zYm l (zBx s l 35)=qR5 s l:=rfl
   rw[hX] at hV
   have tE:List.take (16*35) (zBx s l 35)=zBx s l 35:=List.take_of_length_le (by omega)
   have tE':List.take 560 (zBx s l 35)=zBx s l 35:=List.take_of_length_le (by omega)
   generalize zBx s l 35=z at *
   simp (disch:=omega) only [go_sem,seval,qBk,h3,tE,tE',hR,hV]
def qQ1:Ct where
 α:=Unit
 as _:=[.t (.int .i64 2)]
 ins _:=[]
 pre _:=True
 r _:= .t (.bool true)
 outs _:=[]
 inj:=fun _ _ _ _=>⟨rfl,rfl⟩
theorem zUs:qQ1.fs [.t (.int .i64 2)] []=some (.t (.bool true),[]):=qQ1.eq () trivial
theorem zD1 (tab:Tab) (gl:Gl):qOc.wp tab gl (qE 0 [.t (.int .i64 2)]) (qE 0 []) (zZ [(2,none)] 0 (fun r o=>r = .t (.bool true)∧o=[])):=by
 simp (disch:=omega) only [go_sem,seval,qOc]
def zA4 (x y:List UInt8):List UInt8:=zUz 3 [[0,0],x,y]
theorem qRt {x y:List UInt8}:(zA4 x y).length=16:=qKd
def qYd:Ct where
 α:=List UInt8×List UInt8
 as x:=[.t (.int .i64 0),.t (.int .i64 0),.t (.sl (x.1.map qA)),.t (.sl (x.2.map qA))]
 ins _:=[]
 pre x:=x.1.length≤1000∧x.2.length≤1000
 r x:= .t (.sl ((zA4 x.1 x.2).map qA))
 outs _:=[]
 inj:=by
  rintro⟨a,b⟩ ⟨c,d⟩ h _
  simp only[List.cons.injEq,V.t.injEq,T.sl.injEq,true_and,and_true,qZ] at h
  obtain⟨rfl,rfl⟩:=h
  exact⟨rfl,rfl⟩
theorem zZq {x y:List UInt8} (h:x.length≤1000∧y.length≤1000):qYd.fs [.t (.int .i64 0),.t (.int .i64 0),.t (.sl (x.map qA)),.t (.sl (y.map qA))] []=some (.t (.sl ((zA4 x y).map qA)),[]):=qYd.eq (x,y) h
theorem zD2 (tab:Tab) (gl:Gl) (n1:Nat) (h1:tab.look n1=some yE.fs) (x y:List UInt8) (h:x.length≤1000∧y.length≤1000) :
  (qOd n1).wp tab gl (qE 0 [.t (.int .i64 0),.t (.int .i64 0),.t (.sl (x.map qA)),.t (.sl (y.map qA))]) (qE 0 []) (zZ [(8,none)] 0 (fun r o=>r = .t (.sl ((zA4 x y).map qA))∧o=[])):=by
 have hH:=zE9 (t:=3) (fs:=[[0,0],x,y]) (by omega) (by intro z hx;simp only[List.mem_cons,List.not_mem_nil,or_false] at hx;rcases hx with rfl | rfl | rfl;simp;exact h.1;exact h.2) (by simp)
 simp only[List.map_cons,List.map_nil,qCj] at hH
 rw[show ((3:Nat):Int)=3 from rfl] at hH
 have lH:=qH3 (t:=3) (fs:=[[0,0],x,y])
 have tH:List.take 16 (qD5 3 [[0,0],x,y])=zA4 x y:=rfl
 have k0:T.int .u8 (IntKind.u8.wrap 0)=qA 0:=rfl
 generalize zA4 x y=z at *
 generalize qD5 3 [[0,0],x,y]=w at *
 simp (disch:=omega) only [go_sem,seval,qOd,h1,k0,hH,lH,tH]
def zJs:Ct where
 α:=List UInt8×List UInt8
 as x:=[.t (.int .i64 0),.t (.sl [.sl (x.1.map qA),.sl (x.2.map qA)])]
 ins _:=[]
 pre x:=x.1.length≤1000∧x.2.length≤1000
 r x:= .t (.sl [.sl ((zA4 x.1 x.2).map qA)])
 outs _:=[]
 inj:=by
  rintro⟨a,b⟩ ⟨c,d⟩ h _
  simp only[List.cons.injEq,V.t.injEq,T.sl.injEq,true_and,and_true,qZ] at h
  obtain⟨rfl,rfl⟩:=h
  exact⟨rfl,rfl⟩
theorem jGj {x y:List UInt8} (h:x.length≤1000∧y.length≤1000):zJs.fs [.t (.int .i64 0),.t (.sl [.sl (x.map qA),.sl (y.map qA)])] []=some (.t (.sl [.sl ((zA4 x y).map qA)]),[]):=zJs.eq (x,y) h
theorem zNe (tab:Tab) (gl:Gl) (n1:Nat) (h1:tab.look n1=some qYd.fs) (x y:List UInt8) (h:x.length≤1000∧y.length≤1000) :
  (qUn n1).wp tab gl (qE 0 [.t (.int .i64 0),.t (.sl [.sl (x.map qA),.sl (y.map qA)])]) (qE 0 []) (zZ [(4,none)] 0 (fun r o=>r = .t (.sl [.sl ((zA4 x y).map qA)])∧o=[])):=by
 have hJ:=zZq h
 generalize zA4 x y=z at *
 simp (disch:=omega) only [go_sem,seval,qUn]
 refine qF 2 ?_
 simp (disch:=omega) only [go_sem,seval,qB,qLe,h1,hJ]
 all_goals rfl
def qRd:Ct where
 α:=List UInt8×List UInt8
 as x:=[.t (.sl [.sl (x.1.map qA),.sl (x.2.map qA)])]
 ins _:=[]
 pre x:=x.1.length≤1000∧x.2.length≤1000
 r x:= .t (.sl ((zA4 x.1 x.2).map qA))
 outs _:=[]
 inj:=by
  rintro⟨a,b⟩ ⟨c,d⟩ h _
  simp only[List.cons.injEq,V.t.injEq,T.sl.injEq,true_and,and_true,qZ] at h
  obtain⟨rfl,rfl⟩:=h
  exact⟨rfl,rfl⟩
theorem zWv {x y:List UInt8} (h:x.length≤1000∧y.length≤1000):qRd.fs [.t (.sl [.sl (x.map qA),.sl (y.map qA)])] []=some (.t (.sl ((zA4 x y).map qA)),[]):=qRd.eq (x,y) h
theorem zD0 (tab:Tab) (gl:Gl) (n1 n2 n3:Nat) (h1:tab.look n1=some qQ1.fs) (h2:tab.look n2=some zJs.fs) (h3:tab.look n3=some qF1.fs) (x y:List UInt8) (h:x.length≤1000∧y.length≤1000) :
  (qOb n1 n2 n3).wp tab gl (qE 0 [.t (.sl [.sl (x.map qA),.sl (y.map qA)])]) (qE 0 []) (zZ [(2,none)] 0 (fun r o=>r = .t (.sl ((zA4 x y).map qA))∧o=[])):=by
 have hU:=jGj h
 have lJ:=qRt (x:=x) (y:=y)
 generalize zA4 x y=z at *
 have hC:=jS (bs:=z) (by omega)
 have tz:List.take 16 z=z:=List.take_of_length_le (by omega)
 rw[lJ] at hC
 simp (disch:=omega) only [go_sem,seval,qOb,h1,zUs]
 refine qF 2 ?_
 simp (disch:=omega) only [go_sem,seval,qB,qHi,h2,hU,h3,hC,lJ,tz]
def qOu (seed:List UInt8):List UInt8:=drv seed jJj [1] 32
theorem zCk {s:List UInt8}:(qOu s).length=32:=yU
def qYf:Ct where
 α:=List UInt8
 as x:=[.t (.sl (x.map qA)),.t (.int .i64 1)]
 ins _:=[]
 pre x:=x.length≤64
 r x:= .t (.sl ((qOu x).map qA))
 outs _:=[]
 inj:=by
  intro a b h _
  simp only[List.cons.injEq,V.t.injEq,T.sl.injEq,and_true,qZ] at h
  subst h
  exact⟨rfl,rfl⟩
theorem zZw {s:List UInt8} (h:s.length≤64):qYf.fs [.t (.sl (s.map qA)),.t (.int .i64 1)] []=some (.t (.sl ((qOu s).map qA)),[]):=qYf.eq s h
theorem qS2 (tab:Tab) (gl:Gl) (n1:Nat) (h1:tab.look n1=some xK.fs) (s:List UInt8) (h:s.length≤64) :
  (qGp n1).wp tab gl (qE 0 [.t (.sl (s.map qA)),.t (.int .i64 1)]) (qE 0 []) (zZ [(4,none)] 0 (fun r o=>r = .t (.sl ((qOu s).map qA))∧o=[])):=by
 have hD:xK.fs [.t (.sl (s.map qA)),.t (zU [115,105,103,110,101,114]),.t (.sl [qA 1]),.t (.int .i64 32)] []=some (.t (.sl ((qOu s).map qA)),[]):=qUv (l:=jJj) (c:=[1]) (n:=32) ⟨h,by decide,by simp,by omega,by omega⟩
 simp (disch:=omega) only [go_sem,seval,qGp,h1,k1b,hD]
def qYg:Ct where
 α:=List UInt8
 as x:=[.t (.sl (x.map qA)),.t (.int .i64 1)]
 ins _:=[]
 pre x:=x.length≤64
 r x:= .t (.sl [.sl ((qR5 (qOu x) 0).map qA),.sl ((qR5 (qOu x) 1).map qA)])
 outs _:=[]
 inj:=by
  intro a b h _
  simp only[List.cons.injEq,V.t.injEq,T.sl.injEq,and_true,qZ] at h
  subst h
  exact⟨rfl,rfl⟩
theorem zZx {s:List UInt8} (h:s.length≤64):qYg.fs [.t (.sl (s.map qA)),.t (.int .i64 1)] []=some (.t (.sl [.sl ((qR5 (qOu s) 0).map qA),.sl ((qR5 (qOu s) 1).map qA)]),[]):=qYg.eq s h
theorem qXk (tab:Tab) (gl:Gl) (n1 n2:Nat) (h1:tab.look n1=some qYf.fs) (h2:tab.look n2=some qRa.fs) (s:List UInt8) (h:s.length≤64) :
  (qJh n1 n2).wp tab gl (qE 0 [.t (.sl (s.map qA)),.t (.int .i64 1)]) (qE 0 []) (zZ [(4,none)] 0 (fun r o=>r = .t (.sl [.sl ((qR5 (qOu s) 0).map qA),.sl ((qR5 (qOu s) 1).map qA)])∧o=[])):=by
 have hS:=zZw h
 have lS:=zCk (s:=s)
 have p0:=zLs (s:=qOu s) (l:=0) ⟨by omega,by omega⟩
 have p1:=zLs (s:=qOu s) (l:=1) ⟨by omega,by omega⟩
 rw[show ((0:Nat):Int)=0 from rfl] at p0
 rw[show ((1:Nat):Int)=1 from rfl] at p1
 generalize qR5 (qOu s) 0=a at *
 generalize qR5 (qOu s) 1=b at *
 generalize qOu s=k at *
 simp (disch:=omega) only [go_sem,seval,qJh,h1,hS]
 refine qD 2 (fun i=>[(1,.t (.int .i64 1)),(5,.sl 9000 0 i),(6,.t (.sl (k.map qA))),(7,.t (.int .i64 i))]) (fun i=>[(9000,.live 1 ((([a,b].take i).map bsT).map V.t) true false)]) ?_ (fun i hi=>?_)
 ·refine qI.cv0 (hv:=[(9000,.live 1 [] true false)]) (ho:=[]) id ?_ ?_ rfl rfl
  all_goals simp (disch:=omega) only [go_sem,seval,id]
  all_goals rfl
 ·rcases (show i=0∨i=1∨i=2 by omega) with rfl | rfl | rfl
  ·simp (disch:=omega) only [go_sem,seval,xF,h2,p0]
   refine qI.rd (fun j=>if j=9000 then 28752 else j) ?_ ?_ rfl
   all_goals simp (disch:=omega) only [go_sem,seval,id]
   all_goals rfl
  ·simp (disch:=omega) only [go_sem,seval,xF,h2,p1]
   refine qI.rd (fun j=>if j=9000 then 28752 else j) ?_ ?_ rfl
   all_goals simp (disch:=omega) only [go_sem,seval,id]
   all_goals rfl
  ·simp (disch:=omega) only [go_sem,seval,xF]
   all_goals rfl
def zYk (seed:List UInt8):List UInt8:=1::zA4 (qR5 (qOu seed) 0) (qR5 (qOu seed) 1)
def qYl:Ct where
 α:=List UInt8
 as x:=[.t (.sl (x.map qA)),.t (.int .i64 1)]
 ins _:=[]
 pre x:=x.length≤64
 r x:= .t (.sl ((zYk x).map qA))
 outs _:=[]
 inj:=by
  intro a b h _
  simp only[List.cons.injEq,V.t.injEq,T.sl.injEq,and_true,qZ] at h
  subst h
  exact⟨rfl,rfl⟩
theorem jAl {s:List UInt8} (h:s.length≤64):qYl.fs [.t (.sl (s.map qA)),.t (.int .i64 1)] []=some (.t (.sl ((zYk s).map qA)),[]):=qYl.eq s h
theorem qXj (tab:Tab) (gl:Gl) (n1 n2:Nat) (h1:tab.look n1=some qYg.fs) (h2:tab.look n2=some qRd.fs) (s:List UInt8) (h:s.length≤64) :
  (qJg n1 n2).wp tab gl (qE 0 [.t (.sl (s.map qA)),.t (.int .i64 1)]) (qE 0 []) (zZ [(4,none)] 0 (fun r o=>r = .t (.sl ((zYk s).map qA))∧o=[])):=by
 have hL:=zZx h
 have hR:=zWv (x:=qR5 (qOu s) 0) (y:=qR5 (qOu s) 1) ⟨by rw[qR6];omega,by rw[qR6];omega⟩
 have lJ:=qRt (x:=qR5 (qOu s) 0) (y:=qR5 (qOu s) 1)
 rw[zYk]
 generalize zA4 (qR5 (qOu s) 0) (qR5 (qOu s) 1)=z at *
 generalize qR5 (qOu s) 0=a at *
 generalize qR5 (qOu s) 1=b at *
 have tz:List.take 17 (qA 1::List.map qA z)=qA 1::List.map qA z:=List.take_of_length_le (by simp;omega)
 simp (disch:=omega) only [go_sem,seval,qJg,h1,hL,h2,hR,k1b,lJ,tz]
def zTh (i:Nat):List UInt8:=zK [113,UInt8.ofNat i]
def qYm:Ct where
 α:=Nat
 as x:=[.t (.int .i64 x)]
 ins _:=[]
 pre _:=True
 r x:= .t (.sl ((zTh x).map qA))
 outs _:=[]
 inj:=by
  intro a b h _
  simp only[List.cons.injEq,V.t.injEq,T.int.injEq,true_and,and_true,Int.natCast_inj] at h
  subst h
  exact⟨rfl,rfl⟩
theorem jAm {i:Nat}:qYm.fs [.t (.int .i64 i)] []=some (.t (.sl ((zTh i).map qA)),[]):=qYm.eq i trivial
theorem zCw {i:Nat}:(zTh i).length=32:=qM
theorem qMr (tab:Tab) (gl:Gl) (n1:Nat) (h1:tab.look n1=some (qFj 32 zK).fs) (i:Nat) :
  (qC2 n1).wp tab gl (qE 0 [.t (.int .i64 i)]) (qE 0 []) (zZ [(2,none)] 0 (fun r o=>r = .t (.sl ((zTh i).map qA))∧o=[])):=by
 have hS:=qSo (n:=32) (f:=zK) (bs:=[113,UInt8.ofNat i]) (by simp)
 have lS:(zK [113,UInt8.ofNat i]).length=32:=qM
 rw[zTh]
 generalize zK [113,UInt8.ofNat i]=z at *
 have tz:List.take 32 z=z:=List.take_of_length_le (by omega)
 simp only[List.map_cons,List.map_nil] at hS
 simp (disch:=omega) only [go_sem,seval,qC2,h1,hS,tz,lS]
def zWa (i:Nat):T:= .agg [.int .i64 2,.int .i64 7,.int .i64 1,.sl [],.sl ((zYk (zTh i)).map qA)]
def qYn:Ct where
 α:=Nat
 as x:=[.t (.int .i64 x)]
 ins _:=[]
 pre _:=True
 r x:= .t (zWa x)
 outs _:=[]
 inj:=by
  intro a b h _
  simp only[List.cons.injEq,V.t.injEq,T.int.injEq,true_and,and_true,Int.natCast_inj] at h
  subst h
  exact⟨rfl,rfl⟩
theorem zTi {i:Nat}:qYn.fs [.t (.int .i64 i)] []=some (.t (.agg [.int .i64 2,.int .i64 7,.int .i64 1,.sl [],.sl ((zYk (zTh i)).map qA)]),[]):=qYn.eq i trivial
theorem qTv (tab:Tab) (gl:Gl) (n1 n2:Nat) (h1:tab.look n1=some qYm.fs) (h2:tab.look n2=some qYl.fs) (i:Nat) :
  (qG9 n1 n2).wp tab gl (qE 0 [.t (.int .i64 i)]) (qE 0 []) (zZ [(2,some (5,true))] 0 (fun r o=>r = .t (zWa i)∧o=[])):=by
 have hP:=jAl (s:=zTh i) (by rw[zCw];omega)
 simp (disch:=omega) only [go_sem,seval,qG9,zWa,h1,jAm,h2,hP]
 all_goals rfl
def zIr (m:Nat):List UInt8:=zK [112,UInt8.ofNat m]
theorem qKi {m:Nat}:(zIr m).length=32:=qM
def qMy (m:Nat) (act:Int):T:= .agg [.int .i64 m,.int .i64 act,.sl [zWa (2*m),zWa (2*m+1)],.sl [],.sl ((zIr m).map qA),.sl [],.int .i64 1,.int .i64 3,.int .i64 0,.sl [],.sl (z32.map qA)]
def qUu:Ct where
 α:=Nat×Int
 as x:=[.t (.int .i64 x.1),.t (.int .i64 x.2)]
 ins _:=[]
 pre x:=x.1≤1000000
 r x:= .t (qMy x.1 x.2)
 outs _:=[]
 inj:=by
  rintro⟨a,b⟩ ⟨c,d⟩ h _
  simp only[List.cons.injEq,V.t.injEq,T.int.injEq,true_and,and_true,Int.natCast_inj] at h
  obtain⟨rfl,rfl⟩:=h
  exact⟨rfl,rfl⟩
theorem zSr {m:Nat} {a:Int} (h:m≤1000000):qUu.fs [.t (.int .i64 m),.t (.int .i64 a)] []=some (.t (qMy m a),[]):=qUu.eq (m,a) h
theorem qSq (tab:Tab) (gl:Gl) (n1 n2:Nat) (h1:tab.look n1=some qYn.fs) (h2:tab.look n2=some (qFj 32 zK).fs) (m:Nat) (a:Int) (h:m≤1000000) :
  (qGj n1 n2).wp tab gl (qE 0 [.t (.int .i64 m),.t (.int .i64 a)]) (qE 0 []) (zZ [(4,some (11,true))] 0 (fun r o=>r = .t (qMy m a)∧o=[])):=by
 have q0:=zTi (i:=2*m)
 have q1:=zTi (i:=2*m+1)
 have hS:=qSo (n:=32) (f:=zK) (bs:=[112,UInt8.ofNat m]) (by simp)
 have lS:=qKi (m:=m)
 have hP:zK [112,UInt8.ofNat m]=zIr m:=rfl
 rw[hP] at hS
 have tz:List.take 32 (zIr m)=zIr m:=List.take_of_length_le (by omega)
 simp only[List.map_cons,List.map_nil] at hS
 rw[qMy,zWa,zWa,z32]
 simp (config := { maxSteps:=2000000 }) (disch:=(first | omega | (simp only[wL,wK];omega))) only [go_sem,↓reduceIte,Nat.reduceAdd,Nat.reduceEqDiff,Nat.reduceSub,Nat.reduceMul,Nat.reduceLT,Nat.reduceLeDiff,Nat.reduceBEq,Int.reduceEq,Int.reduceLT,Int.reduceLE,Int.reduceToNat,Int.reduceNeg,Int.reduceAdd,Int.reduceSub,Int.reduceMul,Int.reduceMod,Int.reduceDiv,reduceCtorEq,Nat.reducePow,Int.reducePow,qGj,h1,q0,q1,h2,hS,tz,lS]
 exact⟨rfl,rfl⟩
def qJp:Ct where
 α:=Int×Int
 as x:=[.t (.int .i64 x.1),.t (.int .i64 x.2)]
 ins _:=[]
 pre x:=(-9223372036854775808≤x.1∧x.1<9223372036854775808)∧(-9223372036854775808≤x.2∧x.2<9223372036854775808)
 r x:= .t (.int .i64 (qIw x.1 x.2))
 outs _:=[]
 inj:=by
  rintro⟨a,b⟩ ⟨c,d⟩ h _
  simp only[List.cons.injEq,V.t.injEq,T.int.injEq,true_and,and_true] at h
  obtain⟨rfl,rfl⟩:=h
  exact⟨rfl,rfl⟩
theorem qH9 {a b:Int} (h:(-9223372036854775808≤a∧a<9223372036854775808)∧(-9223372036854775808≤b∧b<9223372036854775808)):qJp.fs [.t (.int .i64 a),.t (.int .i64 b)] []=some (.t (.int .i64 (qIw a b)),[]):=qJp.eq (a,b) h
theorem zCn {k act:Int} {d:List UInt8} {a:Nat}:(mkD k act d a).length=qE6 k act a:=by
 unfold mkD qE6
 split
 ·exact qBq
 ·rfl
theorem qP7 {k act:Int} {a:Nat}:qE6 k act a≤32:=by
 unfold qE6 szA
 split
 ·split
  ·omega
  ·split<;>omega
 ·omega
theorem jDv {r k act:Int} {d:List UInt8} (h:d.length<1000000000):evM (mkE r k act d):=by
 have w0:=qP7 (k:=k) (act:=act) (a:=0)
 have w1:=qP7 (k:=k) (act:=act) (a:=1)
 refine⟨⟨by simp[mkE],fun x hx=>?_⟩,h⟩
 simp only[mkE,List.mem_cons,List.not_mem_nil,or_false] at hx
 rcases hx with rfl | rfl<;>(rw[zCn];omega)
theorem zZ0 {r k act:Int} {d:List UInt8} (hr:0≤r∧r≤11) (hk:1≤k∧k≤5) (ha:1≤act∧act≤3) (hd:d.length≤64):qD0 (mkE r k act d) act=0:=by
 unfold qD0 mkE
 simp only
 rw[if_neg (by unfold zI3;omega),if_neg (by omega),if_pos]
 rw[qPu,zCn,zCn,decide_eq_true rfl,decide_eq_true rfl];rfl
theorem qDp {a m:Int} (h:1≤m):0≤qIw a m∧qIw a m<m:=by
 unfold qIw
 rw[if_neg (by omega)]
 exact⟨Int.emod_nonneg _ (by omega),Int.emod_lt_of_pos _ (by omega)⟩
def qL1 (i:Nat):List UInt8:=match i with
 | 0=>[97,61,49]
 | 1=>[99,111,117,110,116,61,53]
 | 2=>[99,111,117,110,116,61,49,55]
 | 3=>[104,111,115,116,61,120]
 | 4=>[109,111,100,101,32,98]
 | _=>[126]
theorem qY9 {i:Nat}:1≤(qL1 i).length∧(qL1 i).length≤8:=by
 unfold qL1;split<;>decide
def qQ2:Ct where
 α:=Cd
 as _:=[.ref 0 0 0]
 ins x:=[qTd x]
 pre x:=qEi x
 r x:= .t (.sl ((qL1 (nx x 6).1).map qA))
 outs x:=[qTd (nx x 6).2]
 inj:=by
  intro s t _ h2
  simp only[List.cons.injEq,and_true] at h2
  cases qPr h2
  exact⟨rfl,rfl⟩
theorem zVe {c:Cd} (h:qEi c):qQ2.fs [.ref 0 0 0] [cdO c]=some (.t (.sl ((qL1 (nx c 6).1).map qA)),[cdO (nx c 6).2]):=qQ2.eq c h
theorem zDh (tab:Tab) (gl:Gl) (n1:Nat) (h1:tab.look n1=some qE2.fs) (c:Cd) (hc:qEi c) :
  (qD8 n1).wp tab gl (qE 0 [.ref 0 0 0]) (qE 0 [qTd c]) (zZ [(2,none)] 1 (fun r o=>r = .t (.sl ((qL1 (nx c 6).1).map qA))∧o=[qTd (nx c 6).2])):=by
 have hn:=zCp (c:=c) (n:=6) ⟨hc,by omega,by omega⟩
 have hl:=qV8 (c:=c) (n:=6) (by omega)
 have k6:((6:Nat):Int)=6:=rfl
 rw[k6] at hn
 generalize nx c 6=q at *
 obtain⟨i,b',a'⟩:=q
 obtain⟨b,a⟩:=c
 simp only at hl hn
 rcases (show i=0∨i=1∨i=2∨i=3∨i=4∨i=5 by omega) with rfl | rfl | rfl | rfl | rfl | rfl
 all_goals simp only[cdO,Int.natCast_zero,Int.natCast_one,Int.cast_ofNat_Int] at hn
 all_goals simp (disch:=omega) only [go_sem,↓reduceIte,Nat.reduceAdd,Nat.reduceEqDiff,Nat.reduceSub,Nat.reduceLeDiff,Nat.reduceBEq,Int.reduceLT,Int.reduceLE,reduceCtorEq,qD8,qA0,h1,hn,qL1,List.map_cons,List.map_nil]
theorem nxF (n:Nat) {c:Cd} (h:qEi c) (h1:1≤n) (h2:n≤1000000000) : ∃ i b a,nx c n=(i,(b,a))∧i<n∧qEi (b,a)∧qE2.fs [.ref 0 0 0,.t (.int .i64 n)] [.live 2 [.t (.agg [.sl (c.1.map qA),.int .i64 (c.2:Int)])] true true]=some (.t (.int .i64 i),[.live 2 [.t (.agg [.sl (b.map qA),.int .i64 (a:Int)])] true true]):=by
 have e:=zCp (c:=c) (n:=n) ⟨h,h1,h2⟩
 have l:=qV8 (c:=c) (n:=n) h1
 have k:=qG2 (n:=n) h
 obtain⟨⟨i,b,a⟩,hq⟩ : ∃ q,nx c n=q:=⟨_,rfl⟩
 rw[hq] at e l k
 exact⟨i,b,a,hq,l,k,e⟩
def rI (n:Int):Prop := -9223372036854775808≤n∧n<9223372036854775808
def qM1:Ct where
 α:=Int
 as x:=[.t (.int .i64 x)]
 ins _:=[]
 pre x:=rI x
 r x:= .t (.int .i64 (1+qIw x 3))
 outs _:=[]
 inj:=by
  intro a b h _
  simp only[List.cons.injEq,V.t.injEq,T.int.injEq,true_and,and_true] at h
  subst h;exact⟨rfl,rfl⟩
theorem zJu {a:Int} (h:rI a):qM1.fs [.t (.int .i64 a)] []=some (.t (.int .i64 (1+qIw a 3)),[]):=qM1.eq a h
theorem qW5 (tab:Tab) (gl:Gl) (n1:Nat) (h1:tab.look n1=some qJp.fs) (a:Int) (ha:rI a) :
  (qI5 n1).wp tab gl (qE 0 [.t (.int .i64 a)]) (qE 0 []) (zZ [(2,none)] 0 (fun r o=>r = .t (.int .i64 (1+qIw a 3))∧o=[])):=by
 have hm:=qH9 (a:=a) (b:=3) ⟨ha,by omega⟩
 have lm:=qDp (a:=a) (m:=3) (by omega)
 generalize qIw a 3=M at *
 simp (disch:=omega) only [go_sem,seval,qI5,h1,hm]
def qQz:Ct where
 α:=Int
 as x:=[.t (.int .i64 x)]
 ins _:=[]
 pre x:=rI x
 r x:= .t (.int .i64 (2+qIw x 2))
 outs _:=[]
 inj:=by
  intro a b h _
  simp only[List.cons.injEq,V.t.injEq,T.int.injEq,true_and,and_true] at h
  subst h;exact⟨rfl,rfl⟩
theorem zUn {a:Int} (h:rI a):qQz.fs [.t (.int .i64 a)] []=some (.t (.int .i64 (2+qIw a 2)),[]):=qQz.eq a h
theorem qW6 (tab:Tab) (gl:Gl) (n1:Nat) (h1:tab.look n1=some qJp.fs) (a:Int) (ha:rI a) :
  (qI6 n1).wp tab gl (qE 0 [.t (.int .i64 a)]) (qE 0 []) (zZ [(2,none)] 0 (fun r o=>r = .t (.int .i64 (2+qIw a 2))∧o=[])):=by
 have hm:=qH9 (a:=a) (b:=2) ⟨ha,by omega⟩
 have lm:=qDp (a:=a) (m:=2) (by omega)
 generalize qIw a 2=M at *
 simp (disch:=omega) only [go_sem,seval,qI6,h1,hm]
def evX (e:Ev):Prop:=e.2.2.1.length≤9223372036854775807∧(∀ x∈e.2.2.1,x.length≤9223372036854775807)∧e.2.2.2.length≤9223372036854775807
abbrev Im:=Int×List UInt8×Int×List UInt8
def imT (x:Im):T:= .agg [.int .i64 x.1,zU x.2.1,.int .i64 x.2.2.1,.sl (x.2.2.2.map qA)]
theorem qN {a v:Int} {s p:List UInt8}:imT (a,s,v,p) = .agg [.int .i64 a,zU s,.int .i64 v,.sl (p.map qA)]:=Eq.trans (Eq.refl _) rfl
theorem qF8 {e f:Im} (h:imT e=imT f):e=f:=by
 obtain⟨a,b,c,d⟩:=e
 obtain⟨a',b',c',d'⟩:=f
 simp only[qN,T.agg.injEq,List.cons.injEq,T.int.injEq,T.sl.injEq,true_and,and_true,qMn,qZ] at h
 obtain⟨rfl,rfl,rfl,rfl⟩:=h
 rfl
def imM (x:Im):Prop:=x.2.1.length≤9223372036854775807∧x.2.2.2.length<1000000000∧rI x.1∧rI x.2.2.1
def imX (x:Im):Prop:=rI x.1∧rI x.2.2.1∧x.2.1.length≤9223372036854775807∧x.2.2.2.length≤9223372036854775807
def qKe (l:List Im):Prop:=l.length≤9223372036854775807 ∧ ∀ x∈l,imX x
theorem imM.x {x:Im} (h:imM x):imX x:=⟨h.2.2.1,h.2.2.2,h.1,by have:=h.2.1;omega⟩
def okN (c:UInt8):Bool:=(!decide (c.toNat<97) && !decide (c.toNat>122))||((!decide (c.toNat<48) && !decide (c.toNat>57))||decide (c=45))
def qAn (s:List UInt8):Bool:=(!decide (s.length<1) && !decide (12<s.length))&&s.all okN
def lnS (out:List (List UInt8)) (line:List UInt8):List UInt8→List (List UInt8)
 | []=>if 0<line.length then [] else out
 | c::r=>if c=10 then (if line.length=0∨4≤out.length then [] else lnS (out++[line]) [] r) else if okC c=true then lnS out (line++[c]) r else []
def lnL (p:List UInt8):List (List UInt8):=lnS [] [] p
def zI4 (r v:Int):Prop:=r<1∨4<r∨v<0∨1000000<v
instance {r v:Int}:Decidable (zI4 r v):=by unfold zI4;infer_instance
def qCw (x:Im):Int:=if zI4 x.1 x.2.2.1 then 1 else if qAn x.2.1=false then 43 else if 64<x.2.2.2.length then 4 else if x.1=4∧(lnL x.2.2.2).length=0 then 40 else 0
def jDm (x:Im):List UInt8:=blL (blL (beI 1 x.1 1++beI 4 x.2.2.1 4) x.2.1) x.2.2.2
def qCp (x:Im):List UInt8:=if qCw x=0 then jDm x else []
def qR8 (r:Int):Int:=if r=1 then 0 else if r=2 then 4 else if r=3 then 8 else if r=4 then 9 else -1
def qPs:Nat→Nat→List UInt8
 | 0,n=>[UInt8.ofNat (48+n)]
 | k+1,n=>if n<10 then [UInt8.ofNat (48+n)] else qPs k (n/10)++[UInt8.ofNat (48+n%10)]
def zIq (n:Nat):List UInt8:=qPs 7 n
def zK5 (s:List UInt8) (n:Nat):List UInt8:=s++[32]++zIq n
def qJt (x:Im) (act:Int) (a:Nat):List UInt8:=if 0<(qCp x).length∧act/2^a%2=1 then qX0 a (qCp x) else []
def ofI (x:Im) (act:Int):Ev:=if qCw x≠0∨x.1=4 then (0,0,[],[]) else (qR8 x.1,1,[qJt x act 0,qJt x act 1],zK5 x.2.1 x.2.2.1.toNat)
def chF (pre:List Im):List Im→Int
 | []=>if pre.any (fun y=>decide (y.1=1))&&pre.any (fun y=>decide (y.1=3)) then 0 else 40
 | x::r=>if qCw x≠0 then qCw x else if pre≠[]∧x.1<(pre.getLastD (0,[],0,[])).1 then 41 else if pre.any (fun y=>decide (y.1=x.1)&&decide (y.2.1=x.2.1)) then 42 else chF (pre++[x]) r
def qGr (l:List Im):Int:=if l.length=0∨8<l.length then 1 else chF [] l
def kZ (act r:Int) (l:List Im):List Ev:=(l.filter (fun x=>decide (x.1=r))).flatMap fun x=>if r=4 then (lnL x.2.2.2).map (mkE 9 3 act) else [ofI x act]
def zMk (act:Int):List Ev:=(List.range 8).map fun (i:Nat)=>mkE (i:Int) 2 act qNh
def qRl (act:Int) (l:List Im):List Ev:=(kZ act 1 l++kZ act 2 l)++zMk act++(kZ act 3 l++kZ act 4 l)
def qTe (l:List Im) (act:Int):List Ev:=if qGr l≠0∨act<1∨3<act then [] else qRl act l
theorem zVg {p:List UInt8} : ∀ {out:List (List UInt8)} {line:List UInt8},out.length≤4→(lnS out line p).length≤4:=by
 induction p with
 | nil=>intro out line h;unfold lnS;split<;>simp_all
 | cons c r ih=>
  intro out line h
  unfold lnS
  split
  ·split
   ·simp
   ·rename_i hq
    exact ih (by simp;omega)
  ·split
   ·exact ih h
   ·simp
theorem qRv {p:List UInt8}:(lnL p).length≤4:=zVg (by simp)
theorem zZu {p:List UInt8} : ∀ {out:List (List UInt8)} {line:List UInt8} {n:Nat},(∀ x∈out,x.length≤n)→line.length+p.length≤n → ∀ x∈lnS out line p,x.length≤n:=by
 induction p with
 | nil=>intro out line n h1 h2 x hx;unfold lnS at hx;split at hx<;>simp_all
 | cons c r ih=>
  intro out line n h1 h2
  simp only[List.length_cons] at h2
  unfold lnS
  split
  ·split
   ·simp
   ·refine ih (fun x hx=>?_) (by simp;omega)
    simp only[List.mem_append,List.mem_cons,List.not_mem_nil,or_false] at hx
    rcases hx with hx | rfl
    ·exact h1 x hx
    ·omega
  ·split
   ·exact ih h1 (by simp;omega)
   ·simp
theorem zK8 {p:List UInt8} : ∀ x∈lnL p,x.length≤p.length:=zZu (by simp) (by simp)
theorem qLr : ∀ {k n:Nat},1≤(qPs k n).length∧(qPs k n).length≤k+1
 | 0,n=>by simp[qPs]
 | k+1,n=>by
  unfold qPs
  split
  ·simp
  ·have:=qLr (k:=k) (n:=n/10)
   simp;omega
def nmL (i:Nat):List UInt8:=match i with
 | 0=>[97]
 | 1=>[103,114,117,98]
 | 2=>[108,105,110,117,120]
 | 3=>[110,101,116,45,48]
 | _=>[116,119,101,108,118,101,45,98,121,116,101,115]
def zG8:Nat→Cd→List UInt8→List UInt8×Cd
 | 0,c,b=>(b,c)
 | k+1,c,b=>zG8 k (nx c 6).2 (b++qL1 (nx c 6).1++[10])
def qU3 (c:Cd):List UInt8×Cd:=zG8 (1+(nx c 4).1) (nx c 4).2 []
def vrG (c:Cd):Int×Cd:=if (nx (nx c 5).2 9).1=8 then ((1000000-((nx (nx (nx c 5).2 9).2 3).1:Int)),(nx (nx (nx c 5).2 9).2 3).2) else (((nx c 5).1:Int),(nx (nx c 5).2 9).2)
def byN:Nat→Cd→List UInt8→List UInt8×Cd
 | 0,c,b=>(b,c)
 | k+1,c,b=>byN k (nx c 256).2 (b++[UInt8.ofNat (nx c 256).1])
def plG (c:Cd) (role:Int):List UInt8×Cd:=if role=4 then qU3 c else byN (nx c 7).1 (nx c 7).2 []
def imG (c:Cd) (role:Int):Im×Cd:=((role,nmL (nx c 5).1,(vrG (nx c 5).2).1,(plG (vrG (nx c 5).2).2 role).1),(plG (vrG (nx c 5).2).2 role).2)
def isD (l:List Im) (x:Im):Bool:=l.any (fun y=>decide (y.1=x.1)&&decide (y.2.1=x.2.1))
def chN:Nat→Cd→Int→List Im→List Im×Cd
 | 0,c,_,l=>(l,c)
 | k+1,c,r,l=>chN k (imG c r).2 r (if isD l (imG c r).1 then l else l++[(imG c r).1])
def chK (c:Cd) (r:Int):Nat×Cd:=if r=1∨r=3 then (1+(nx (nx c 3).2 2).1,(nx (nx c 3).2 2).2) else nx c 3
def chR (r:Int) (s:List Im×Cd):List Im×Cd:=chN (chK s.2 r).1 (chK s.2 r).2 r s.1
def chG (b:List UInt8):List Im:=(chR 4 (chR 3 (chR 2 (chR 1 ([],(b.take 200,0)))))).1
def ev0:Ev:=(0,0,[],[])
theorem jDw {c:UInt8} (h:okC c=true):c≠10:=by rintro rfl;revert h;decide
theorem zVf {s r:List UInt8} {out:List (List UInt8)} : ∀ {l:List UInt8},s.all okC=true→lnS out l (s++r)=lnS out (l++s) r:=by
 induction s with
 | nil=>intro l _;simp
 | cons c s ih=>
  intro l h
  simp only[List.all_cons,Bool.and_eq_true] at h
  rw[List.cons_append,lnS,if_neg (jDw h.1),if_pos h.1,ih h.2];simp
theorem zZv {r l:List UInt8} {out:List (List UInt8)} (h1:0<l.length) (h2:out.length<4):lnS out l (10::r)=lnS (out++[l]) [] r:=by
 rw[lnS,if_pos rfl,if_neg (by omega)]
theorem zPg {i:Nat}:(qL1 i).all okC=true:=by unfold qL1;split<;>decide
theorem zLn : ∀ {k:Nat} {c:Cd} {b:List UInt8} {out:List (List UInt8)},(∀ r,lnS [] [] (b++r)=lnS out [] r)→out.length+k≤4→(lnL (zG8 k c b).1).length=out.length+k∧(zG8 k c b).1.length≤b.length+9*k
 | 0,c,b,out,h,hk=>by
  have:=h []
  rw[List.append_nil] at this
  refine⟨?_,by simp[zG8]⟩
  show (lnS [] [] b).length=_
  rw[this];simp[lnS]
 | k+1,c,b,out,h,hk=>by
  have hl:=qY9 (i:=(nx c 6).1)
  have:=zLn (k:=k) (c:=(nx c 6).2) (b:=b++qL1 (nx c 6).1++[10]) (out:=out++[qL1 (nx c 6).1]) (fun r=>by
   rw[List.append_assoc,List.append_assoc,h,zVf zPg]
   exact zZv hl.1 (by omega)) (by simp;omega)
  simp only[List.length_append,List.length_cons,List.length_nil] at this
  refine⟨by unfold zG8;omega,?_⟩
  unfold zG8
  omega
theorem zLm {c:Cd}:1≤(lnL (qU3 c).1).length∧(qU3 c).1.length≤36:=by
 have hn:=qV8 (c:=c) (n:=4) (by omega)
 have:=zLn (k:=1+(nx c 4).1) (c:=(nx c 4).2) (b:=[]) (out:=[]) (fun r=>rfl) (by simp;omega)
 simp only[List.length_nil] at this
 unfold qU3
 omega
theorem qWe : ∀ {k:Nat} {c:Cd} {b:List UInt8},qEi c→qEi (zG8 k c b).2
 | 0,_,_,h=>h
 | k+1,_,_,h=>qWe (k:=k) (qG2 h)
theorem zSk : ∀ {k:Nat} {c:Cd} {b:List UInt8},qEi c→qEi (byN k c b).2
 | 0,_,_,h=>h
 | k+1,_,_,h=>zSk (k:=k) (qG2 h)
theorem zJb : ∀ {k:Nat} {c:Cd} {b:List UInt8},(byN k c b).1.length=b.length+k
 | 0,_,_=>rfl
 | k+1,c,b=>by
  have:=zJb (k:=k) (c:=(nx c 256).2) (b:=b++[UInt8.ofNat (nx c 256).1])
  unfold byN
  rw[this];simp;omega
theorem jAi {c:Cd} {r:Int} (h:qEi c):qEi (plG c r).2:=by
 unfold plG
 split
 ·exact qWe (qG2 h)
 ·exact zSk (qG2 h)
theorem zV3 {c:Cd} {r:Int}:(plG c r).1.length≤36:=by
 unfold plG
 split
 ·exact zLm.2
 ·have:=qV8 (c:=c) (n:=7) (by omega)
  rw[zJb];simp;omega
theorem jCh {c:Cd} (h:qEi c):qEi (vrG c).2:=by
 unfold vrG
 split
 ·exact qG2 (qG2 (qG2 h))
 ·exact qG2 (qG2 h)
theorem jCi {c:Cd}:0≤(vrG c).1∧(vrG c).1≤1000000:=by
 unfold vrG
 split
 ·have:=qV8 (c:=(nx (nx c 5).2 9).2) (n:=3) (by omega)
  simp only;omega
 ·have:=qV8 (c:=c) (n:=5) (by omega)
  simp only;omega
theorem zZ9 {i:Nat}:qAn (nmL i)=true:=by unfold nmL;split<;>decide
theorem zKx {c:Cd} {r:Int} (h:qEi c):qEi (imG c r).2:=jAi (jCh (qG2 h))
theorem zFc {c:Cd} {r:Int}:(imG c r).1.1=r:=rfl
theorem zS0 {c:Cd} {r:Int} (hr:1≤r∧r≤4):qCw (imG c r).1=0:=by
 have hv:=jCi (c:=(nx c 5).2)
 have hl:=zV3 (c:=(vrG (nx c 5).2).2) (r:=r)
 unfold qCw imG
 simp only
 rw[if_neg (by unfold zI4;omega),zZ9,if_neg (by decide),if_neg (by omega),if_neg]
 rintro⟨rfl,h⟩
 have hp:=zLm (c:=(vrG (nx c 5).2).2)
 have e:(plG (vrG (nx c 5).2).2 4).1=(qU3 (vrG (nx c 5).2).2).1:=by unfold plG;rw[if_pos rfl]
 rw[e] at h
 omega
theorem xU {x:Im} (h:qCw x=0):(1≤x.1∧x.1≤4)∧(0≤x.2.2.1∧x.2.2.1≤1000000)∧qAn x.2.1=true∧x.2.2.2.length≤64∧(x.1=4→1≤(lnL x.2.2.2).length):=by
 unfold qCw at h
 split at h
 ·simp at h
 ·rename_i h1
  split at h
  ·simp at h
  ·rename_i h2
   split at h
   ·simp at h
   ·rename_i h3
    split at h
    ·simp at h
    ·rename_i h4
     unfold zI4 at h1
     refine⟨by omega,by omega,by simpa using h2,by omega,fun h5=>?_⟩
     by_cases h6:(lnL x.2.2.2).length=0
     ·exact absurd ⟨h5,h6⟩ h4
     ·omega
theorem qDr {s:List UInt8} (h:qAn s=true):1≤s.length∧s.length≤12:=by
 unfold qAn at h
 simp only[Bool.and_eq_true,Bool.not_eq_true',decide_eq_false_iff_not] at h
 omega
theorem zSn {x:Im} (h:qCw x=0):imM x:=by
 obtain⟨h1,h2,h3,h4,h5⟩:=xU h
 have h6:=qDr h3
 exact⟨by omega,by omega,by unfold rI;omega,by unfold rI;omega⟩
def chP (l:List Im):Prop := ∀ r,chF [] (l++r)=chF l r
theorem zUe:chP []:=fun _=>rfl
theorem zOf {l:List Im} {x:Im} (h:chP l) (h1:qCw x=0) (h2 : ∀ y∈l,y.1≤x.1) (h3:isD l x=false):chP (l++[x]):=by
 intro r
 rw[List.append_assoc,h,List.cons_append,List.nil_append,chF,if_neg (by omega),if_neg,if_neg (by unfold isD at h3;rw[h3];decide)]
 rintro⟨h4,h5⟩
 have hg:l.getLastD (0,[],0,[])=l.getLast h4:=by
  rw[List.getLastD_eq_getLast?,List.getLast?_eq_some_getLast h4];rfl
 rw[hg] at h5
 have:=h2 _ (List.getLast_mem h4)
 omega
structure ChO (r:Int) (l:List Im):Prop where
 p:chP l
 ok : ∀ x∈l,qCw x=0
 le : ∀ x∈l,x.1≤r
theorem ChO.up {r q:Int} {l:List Im} (h:ChO r l) (hq:r≤q):ChO q l:=⟨h.p,h.ok,fun x hx=>by have:=h.le x hx;omega⟩
theorem zU6 {l:List Im} {x:Im} (h:isD l x=true) : ∃ y∈l,y.1=x.1:=by
 unfold isD at h
 obtain⟨y,hy,h2⟩:=List.any_eq_true.1 h
 simp only[Bool.and_eq_true,decide_eq_true_eq] at h2
 exact⟨y,hy,h2.1⟩
theorem zJh {r:Int} (hr:1≤r∧r≤4) : ∀ {k:Nat} {c:Cd} {l:List Im},ChO r l→qEi c→ChO r (chN k c r l).1∧qEi (chN k c r l).2∧(∀ x∈l,x∈(chN k c r l).1)∧(chN k c r l).1.length≤l.length+k∧(1≤k → ∃ y∈(chN k c r l).1,y.1=r)
 | 0,c,l,h,hc=>⟨h,hc,fun _ hx=>hx,by simp[chN],by omega⟩
 | k+1,c,l,h,hc=>by
  unfold chN
  cases hd:isD l (imG c r).1
  ·have h':ChO r (l++[(imG c r).1]):=by
    refine⟨zOf h.p (zS0 hr) (fun y hy=>h.le y hy) hd,fun x hx=>?_,fun x hx=>?_⟩
    ·simp only[List.mem_append,List.mem_cons,List.not_mem_nil,or_false] at hx
     rcases hx with hx | rfl
     ·exact h.ok x hx
     ·exact zS0 hr
    ·simp only[List.mem_append,List.mem_cons,List.not_mem_nil,or_false] at hx
     rcases hx with hx | rfl
     ·exact h.le x hx
     ·exact Int.le_of_eq zFc
   obtain⟨g1,g2,g3,g4,g5⟩:=zJh hr (k:=k) h' (zKx (r:=r) hc)
   rw[if_neg (by decide)]
   refine⟨g1,g2,fun x hx=>g3 x (by simp[hx]),by simp at g4;omega,fun _=>⟨_,g3 (imG c r).1 (by simp),zFc⟩⟩
  ·obtain⟨g1,g2,g3,g4,g5⟩:=zJh hr (k:=k) h (zKx (r:=r) hc)
   rw[if_pos rfl]
   obtain⟨y,hy,hy2⟩:=zU6 hd
   exact⟨g1,g2,g3,by omega,fun _=>⟨y,g3 y hy,hy2⟩⟩
theorem zY1 {c:Cd} {r:Int} (hc:qEi c):qEi (chK c r).2∧(chK c r).1≤2∧(r=1∨r=3→1≤(chK c r).1):=by
 unfold chK
 split
 ·have:=qV8 (c:=(nx c 3).2) (n:=2) (by omega)
  exact⟨qG2 (qG2 hc),by simp only;omega,fun _=>by simp only;omega⟩
 ·rename_i h
  have:=qV8 (c:=c) (n:=3) (by omega)
  exact⟨qG2 hc,by omega,fun h'=>absurd h' h⟩
theorem zEq {r:Int} (hr:1≤r∧r≤4) {s:List Im×Cd} (h:ChO r s.1) (hc:qEi s.2):ChO r (chR r s).1∧qEi (chR r s).2∧(∀ x∈s.1,x∈(chR r s).1)∧(chR r s).1.length≤s.1.length+2∧(r=1∨r=3 → ∃ y∈(chR r s).1,y.1=r):=by
 obtain⟨k1,k2,k3⟩:=zY1 (r:=r) hc
 obtain⟨g1,g2,g3,g4,g5⟩:=zJh hr (k:=(chK s.2 r).1) h k1
 exact⟨g1,g2,g3,by unfold chR;omega,fun h=>g5 (k3 h)⟩
theorem zJg {b:List UInt8}:qGr (chG b)=0∧(∀ x∈chG b,qCw x=0)∧(chG b).length≤8:=by
 have c0:qEi (b.take 200,0):=⟨Nat.zero_le _,by simp only[List.length_take];omega⟩
 obtain⟨a1,a2,a3,a4,a5⟩:=zEq (r:=1) (by omega) (s:=([],(b.take 200,0))) ⟨zUe,by simp,by simp⟩ c0
 obtain⟨b1,b2,b3,b4,b5⟩:=zEq (r:=2) (by omega) (a1.up (by omega)) a2
 obtain⟨c1,c2,c3,c4,c5⟩:=zEq (r:=3) (by omega) (b1.up (by omega)) b2
 obtain⟨d1,d2,d3,d4,d5⟩:=zEq (r:=4) (by omega) (c1.up (by omega)) c2
 have hg:(chR 4 (chR 3 (chR 2 (chR 1 ([],(b.take 200,0)))))).1=chG b:=rfl
 rw[hg] at d1 d3 d4
 simp only[List.length_nil] at a4
 obtain⟨y,hy,hy1⟩:=a5 (.inl rfl)
 obtain⟨z,hz,hz1⟩:=c5 (.inr rfl)
 have my:=d3 _ (c3 _ (b3 _ hy))
 have mz:=d3 _ hz
 refine⟨?_,d1.ok,by omega⟩
 have hp:0<(chG b).length:=List.length_pos_of_mem my
 unfold qGr
 rw[if_neg (by omega)]
 have:=d1.p []
 rw[List.append_nil] at this
 rw[this,chF,List.any_eq_true.2 ⟨y,my,by simp[hy1]⟩,List.any_eq_true.2 ⟨z,mz,by simp[hz1]⟩]
 rfl
theorem zSl : ∀ {l pre:List Im},chF pre l=0 → ∀ x∈l,qCw x=0
 | [],_,_,x,hx=>by simp at hx
 | y::l,pre,h,x,hx=>by
  unfold chF at h
  split at h
  ·omega
  ·rename_i h1
   split at h
   ·simp at h
   ·split at h
    ·simp at h
    ·rcases List.mem_cons.1 hx with rfl | hx
     ·omega
     ·exact zSl h x hx
theorem qM0 {l:List Im} (h:qGr l=0):(∀ x∈l,qCw x=0)∧1≤l.length∧l.length≤8:=by
 unfold qGr at h
 split at h
 ·simp at h
 ·exact⟨zSl h,by omega⟩
def evV (act:Int) (e:Ev):Prop:=qD0 e act=0∧evM e
theorem zEu {x:Im} {act:Int} {a:Nat} (h:qCw x=0):(qJt x act a).length=qE6 1 act a:=by
 have he:0<(qCp x).length:=by
  unfold qCp
  rw[if_pos h]
  unfold jDm
  rw[vD];omega
 unfold qJt qE6
 by_cases hb:act/2^a%2=1
 ·rw[if_pos ⟨he,hb⟩,if_pos ⟨by decide,hb⟩];exact qBq
 ·rw[if_neg (fun h=>hb h.2),if_neg (fun h=>hb h.2)];rfl
theorem zPe {s:List UInt8} {n:Nat}:(zK5 s n).length≤s.length+9:=by
 have:=qLr (k:=7) (n:=n)
 unfold zK5 zIq
 simp only[List.length_append,List.length_cons,List.length_nil];omega
theorem zWo {r:Int} (h:1≤r∧r≤3):0≤qR8 r∧qR8 r≤11:=by
 unfold qR8
 split
 ·omega
 ·split
  ·omega
  ·split<;>omega
theorem jAc {x:Im} {act:Int} (ha:1≤act∧act≤3) (h:qCw x=0) (h4:x.1≠4):evV act (ofI x act):=by
 obtain⟨h1,h2,h3,_,_⟩:=xU h
 have h6:=qDr h3
 have h7:=zPe (s:=x.2.1) (n:=x.2.2.1.toNat)
 have h8:=zWo (r:=x.1) (by omega)
 have d0:=zEu (act:=act) (a:=0) h
 have d1:=zEu (act:=act) (a:=1) h
 have w0:=qP7 (k:=1) (act:=act) (a:=0)
 have w1:=qP7 (k:=1) (act:=act) (a:=1)
 unfold ofI
 rw[if_neg (by omega)]
 refine⟨?_,⟨by simp,fun y hy=>?_⟩,by simp only;omega⟩
 ·unfold qD0
  simp only
  rw[if_neg (by unfold zI3;omega),if_neg (by omega),if_pos]
  rw[qPu,d0,d1,decide_eq_true rfl,decide_eq_true rfl];rfl
 ·simp only[List.mem_cons,List.not_mem_nil,or_false] at hy
  rcases hy with rfl | rfl<;>omega
theorem zZ1 {r k act:Int} {d:List UInt8} (hr:0≤r∧r≤11) (hk:1≤k∧k≤5) (ha:1≤act∧act≤3) (hd:d.length≤64):evV act (mkE r k act d):=⟨zZ0 hr hk ha hd,jDv (by omega)⟩
theorem qVz {act r:Int} {l:List Im} (ha:1≤act∧act≤3) (h : ∀ x∈l,qCw x=0) : ∀ e∈kZ act r l,evV act e:=by
 intro e he
 unfold kZ at he
 obtain⟨x,hx,he⟩:=List.mem_flatMap.1 he
 obtain⟨hx,hr⟩:=List.mem_filter.1 hx
 have hr:x.1=r:=by simpa using hr
 split at he
 ·obtain⟨s,hs,rfl⟩:=List.mem_map.1 he
  have:=zK8 s hs
  have:=(xU (h x hx)).2.2.2.1
  exact zZ1 (by omega) (by omega) ha (by omega)
 ·rename_i h4
  simp only[List.mem_cons,List.not_mem_nil,or_false] at he
  subst he
  exact jAc ha (h x hx) (by omega)
theorem zE5 {α γ:Type} {f:α→List γ} {n:Nat} : ∀ {l:List α},(∀ x∈l,(f x).length≤n)→(l.flatMap f).length≤l.length*n
 | [],_=>by simp
 | a::l,h=>by
  have h1:=h a (by simp)
  have h2:=zE5 (l:=l) (fun x hx=>h x (by simp[hx]))
  rw[List.flatMap_cons,List.length_append,List.length_cons,Nat.add_mul]
  omega
theorem zE1 {act r:Int} {l:List Im}:(kZ act r l).length≤(l.filter (fun x=>decide (x.1=r))).length*4:=by
 unfold kZ
 refine zE5 (fun x _=>?_)
 split
 ·rw[List.length_map];exact qRv
 ·simp
theorem zF4 {act:Int}:(zMk act).length=8:=by simp[zMk]
theorem zE0 {act:Int} {l:List Im}:8≤(qRl act l).length∧(qRl act l).length≤8+16*l.length:=by
 have f : ∀ r:Int,(kZ act r l).length≤l.length*4:=fun r=>Nat.le_trans zE1 (Nat.mul_le_mul_right _ (List.length_filter_le _ _))
 have:=f 1
 have:=f 2
 have:=f 3
 have:=f 4
 unfold qRl
 simp only[List.length_append,zF4]
 omega
theorem zJ4 {act:Int} {l:List Im} (ha:1≤act∧act≤3) (h : ∀ x∈l,qCw x=0) : ∀ e∈qRl act l,evV act e:=by
 intro e he
 unfold qRl at he
 simp only[List.mem_append] at he
 rcases he with ((he | he) | he) | (he | he)
 ·exact qVz ha h e he
 ·exact qVz ha h e he
 ·unfold zMk at he
  obtain⟨i,hi,rfl⟩:=List.mem_map.1 he
  have:=List.mem_range.1 hi
  exact zZ1 (by omega) (by omega) ha (by decide)
 ·exact qVz ha h e he
 ·exact qVz ha h e he
end Go.Eng
end
section
namespace Go.Eng
def qK4:AC:=
 (.seq
 (rG 4096 [oO 0 (.new 1 [(.t (zU [])),(.t (zU [])),(.t (zU [])),(.t (zU [])),(.t (zU []))]) []])
 (.seq
 (rG 8192 [oO 1 (.build [(.t (zU [])),(.t (zU [])),(.t (zU [])),(.t (zU [])),(.t (zU []))] [(0,1),(1,1),(2,1),(3,1),(4,1)]) [.cst (.t (zU [97])),.cst (.t (zU [103,114,117,98])),.cst (.t (zU [108,105,110,117,120])),.cst (.t (zU [110,101,116,45,48])),.cst (.t (zU [116,119,101,108,118,101,45,98,121,116,101,115]))],oS 5 0 1])
 .ret))
def wF (n_draw_Codes_Line:Nat):AC:=
 (.seq
 (.seq
 (rG 16384 [mv 8 4,bN 9 .gtr 8 0])
 (.cond (.tmp 9)
 .skip
 (.exit 0)))
 (.seq
 (.block 1
 (rG 24576 [mv 12 3,mv 13 0,cL 14 n_draw_Codes_Line true [.tmp 13],oO 15 (.append 1 1) [.tmp 12,.tmp 14],oO 16 (.bslice 1 1 (.t (qA 0)) [0]) [.cst (.t (qA 10))],oO 17 (.append 1 1) [.tmp 15,.tmp 16],mv 3 17]))
 (rG 20480 [mv 10 4,bN 11 .sub 10 1,mv 4 11])))
def qBw (n_draw_Codes_Next n_draw_Codes_Line:Nat):AC:=
 (.seq
 (rG 4096 [mC 2 .nil])
 (.seq
 (rG 8192 [mC 3 .nil])
 (.seq
 (.seq
 (rG 12288 [mv 5 0,cL 6 n_draw_Codes_Next true [.tmp 5,.cst (.t (.int .i64 4))],oO 7 (.bin .add) [.cst (.t (.int .i64 1)),.tmp 6],mv 4 7])
 (.block 0
 (.loop (wF n_draw_Codes_Line))))
 (.seq
 (rG 28672 [mv 18 3,mv 2 18])
 .ret))))
def yK (n_draw_Codes_Next:Nat):AC:=
 (.seq
 (.seq
 (rG 40960 [mv 32 6,oO 33 (.faddr 3) [.tmp 5],oO 34 (.load 1 false) [.tmp 33],oO 35 .len [.tmp 34],bT 36 .lss 32 35])
 (.cond (.tmp 36)
 .skip
 (.exit 0)))
 (.seq
 (.block 1
 (.reg 49152 (some [0,1,0,0,8,24,63,127]) [oO 39 (.faddr 3) [.tmp 5],oO 40 (.load 1 false) [.tmp 39],mv 41 6,mv 42 0,cL 43 n_draw_Codes_Next true [.tmp 42,.cst (.t (.int .i64 256))],oO 44 (.conv .u8) [.tmp 43],oO 45 (.iaddr 1) [.tmp 40,.tmp 41],oS 1 45 44]))
 (rG 45056 [mv 37 6,bN 38 .add 37 1,mv 6 38])))
def vK (n_draw_names n_draw_Codes_Next n_draw_Codes_Payload:Nat):AC:=
 (.seq
 (rG 4096 [oO 4 (.new 4 [(.agg [(.t (.int .i64 0)),(.t (zU [])),(.t (.int .i64 0)),.nil])]) []])
 (.seq
 (.reg 8192 (some [0,0,0,6,14,0,46,127,0,511]) [mv 7 1,cL 8 n_draw_names false [],mv 9 0,cL 10 n_draw_Codes_Next true [.tmp 9,.cst (.t (.int .i64 5))],oO 11 (.index 5 1 false) [.tmp 8,.tmp 10],mv 12 0,cL 13 n_draw_Codes_Next true [.tmp 12,.cst (.t (.int .i64 5))],oO 14 (.build [(.t (.int .i64 0)),(.t (zU [])),(.t (.int .i64 0)),.nil] [(0,1),(1,1),(2,1)]) [.tmp 7,.tmp 11,.tmp 13],oO 5 (.new 4 [(.agg [(.t (.int .i64 0)),(.t (zU [])),(.t (.int .i64 0)),.nil])]) [],oS 4 5 14])
 (.seq
 (.seq
 (rG 12288 [mv 15 0,cL 16 n_draw_Codes_Next true [.tmp 15,.cst (.t (.int .i64 9))],bN 17 .eql 16 8])
 (.cond (.tmp 17)
 (rG 16384 [mv 18 0,cL 19 n_draw_Codes_Next true [.tmp 18,.cst (.t (.int .i64 3))],oO 20 (.bin .sub) [.cst (.t (.int .i64 1000000)),.tmp 19],oO 21 (.faddr 2) [.tmp 5],oS 1 21 20])
 .skip))
 (.seq
 (.seq
 (rG 20480 [mv 22 1,bN 23 .eql 22 4])
 (.cond (.tmp 23)
 (.seq
 (rG 24576 [mv 24 0,cL 25 n_draw_Codes_Payload true [.tmp 24],oO 26 (.faddr 3) [.tmp 5],oS 1 26 25])
 (.seq
 (rG 28672 [oO 27 (.load 4 true) [.tmp 5],oS 4 4 27])
 .ret))
 .skip))
 (.seq
 (rG 32768 [mv 28 0,cL 29 n_draw_Codes_Next true [.tmp 28,.cst (.t (.int .i64 7))],oO 30 (.mkslice 1 1 (.t (qA 0))) [.tmp 29,.tmp 29],oO 31 (.faddr 3) [.tmp 5],oS 1 31 30])
 (.seq
 (.seq
 (rG 36864 [mC 6 (.t (.int .i64 0))])
 (.block 0
 (.loop (yK n_draw_Codes_Next))))
 (.seq
 (rG 53248 [oO 46 (.load 4 true) [.tmp 5],oS 4 4 46])
 .ret)))))))
def xY:AC:=
 (.seq
 (.seq
 (rG 20480 [mv 13 3,mv 14 0,oO 15 .slen [.tmp 14],bT 16 .lss 13 15])
 (.cond (.tmp 16)
 .skip
 (.exit 0)))
 (.seq
 (.block 1
 (.seq
 (rG 28672 [mv 19 0,mv 20 3,oO 21 .sindex [.tmp 19,.tmp 20],mv 4 21])
 (.seq
 (rG 32768 [mv 22 4,oO 23 (.bin .lss) [.tmp 22,.cst (.t (qA 97))],mv 24 23,mF 25 4 24,oF 26 24 (.bin .gtr) [.tmp 25,.cst (.t (qA 122))],oO 27 .pick [.tmp 24,.cst (.t (.bool true)),.tmp 26],mv 28 27,mG 29 4 28,oG 30 28 (.bin .lss) [.tmp 29,.cst (.t (qA 48))],mG 31 30 28,mF 32 4 31,oF 33 31 (.bin .gtr) [.tmp 32,.cst (.t (qA 57))],oG 34 28 .pick [.tmp 31,.cst (.t (.bool true)),.tmp 33],oO 35 .pick [.tmp 28,.tmp 34,.cst (.t (.bool false))],mv 36 35,mG 37 4 36,oG 38 36 (.bin .neq) [.tmp 37,.cst (.t (qA 45))],oO 39 .pick [.tmp 36,.tmp 38,.cst (.t (.bool false))]])
 (.cond (.tmp 39)
 (.seq
 (rG 36864 [mC 2 (.t (.bool false))])
 .ret)
 .skip))))
 (rG 24576 [mv 17 3,bN 18 .add 17 1,mv 3 18])))
def qCv:AC:=
 (.seq
 (rG 4096 [mC 2 (.t (.bool false))])
 (.seq
 (.seq
 (rG 8192 [mv 5 0,oO 6 .slen [.tmp 5],bN 7 .lss 6 1,mv 8 7,mF 9 0 8,oF 10 8 .slen [.tmp 9],oF 11 8 (.bin .gtr) [.tmp 10,.cst (.t (.int .i64 12))],oO 12 .pick [.tmp 8,.cst (.t (.bool true)),.tmp 11]])
 (.cond (.tmp 12)
 (.seq
 (rG 12288 [mC 2 (.t (.bool false))])
 .ret)
 .skip))
 (.seq
 (.seq
 (rG 16384 [mC 3 (.t (.int .i64 0))])
 (.block 0
 (.loop xY)))
 (.seq
 (rG 40960 [mC 2 (.t (.bool true))])
 .ret))))
def jI:AC:=
 (.seq
 (.seq
 (rG 20480 [mv 7 5,oO 8 (.faddr 3) [.tmp 1],oO 9 (.load 1 false) [.tmp 8],oO 10 .len [.tmp 9],bT 11 .lss 7 10])
 (.cond (.tmp 11)
 .skip
 (.exit 0)))
 (.seq
 (.block 1
 (.seq
 (rG 28672 [oO 14 (.faddr 3) [.tmp 1],oO 15 (.load 1 false) [.tmp 14],mv 16 5,oO 17 (.iaddr 1) [.tmp 15,.tmp 16],oO 18 (.load 1 false) [.tmp 17],mv 6 18])
 (.seq
 (.seq
 (rG 32768 [mv 19 6,oO 20 (.bin .eql) [.tmp 19,.cst (.t (qA 10))]])
 (.cond (.tmp 20)
 (.seq
 (.seq
 (rG 36864 [mv 21 4,oO 22 .len [.tmp 21],bN 23 .eql 22 0,mv 24 23,mF 25 3 24,oF 26 24 .len [.tmp 25],oF 27 24 (.bin .geq) [.tmp 26,.cst (.t (.int .i64 4))],oO 28 .pick [.tmp 24,.cst (.t (.bool true)),.tmp 27]])
 (.cond (.tmp 28)
 (.seq
 (rG 40960 [mC 2 .nil])
 .ret)
 .skip))
 (.seq
 (rG 45056 [mv 29 3,mv 30 4,oO 31 (.bslice 1 1 .nil [0]) [.tmp 30],oO 32 (.append 1 24) [.tmp 29,.tmp 31],mv 3 32])
 (.seq
 (rG 49152 [mC 4 .nil])
 (.exit 1))))
 .skip))
 (.seq
 (.seq
 (rG 53248 [mv 33 6,oO 34 (.bin .lss) [.tmp 33,.cst (.t (qA 32))],mv 35 34,mF 36 6 35,oF 37 35 (.bin .gtr) [.tmp 36,.cst (.t (qA 126))],oO 38 .pick [.tmp 35,.cst (.t (.bool true)),.tmp 37]])
 (.cond (.tmp 38)
 (.seq
 (rG 57344 [mC 2 .nil])
 .ret)
 .skip))
 (rG 61440 [mv 39 4,mv 40 6,oO 41 (.bslice 1 1 (.t (qA 0)) [0]) [.tmp 40],oO 42 (.append 1 1) [.tmp 39,.tmp 41],mv 4 42])))))
 (rG 24576 [mv 12 5,bN 13 .add 12 1,mv 5 13])))
def qJc:AC:=
 (.seq
 (rG 4096 [oO 1 .box [.tmp 0],mC 2 .nil])
 (.seq
 (rG 8192 [mC 3 .nil])
 (.seq
 (rG 12288 [mC 4 .nil])
 (.seq
 (.seq
 (rG 16384 [mC 5 (.t (.int .i64 0))])
 (.block 0
 (.loop jI)))
 (.seq
 (.seq
 (rG 65536 [mv 43 4,oO 44 .len [.tmp 43],bN 45 .gtr 44 0])
 (.cond (.tmp 45)
 (.seq
 (rG 69632 [mC 2 .nil])
 .ret)
 .skip))
 (.seq
 (rG 73728 [mv 46 3,mv 2 46])
 .ret))))))
def yB (n_ref25_Name n_ref25_Lines:Nat):AC:=
 (.seq
 (rG 4096 [oO 1 .box [.tmp 0],mC 2 (.t (.int .i64 0))])
 (.seq
 (.seq
 (rG 8192 [oO 3 (.faddr 0) [.tmp 1],oO 4 (.load 1 false) [.tmp 3],bN 5 .lss 4 1,mv 6 5,oF 7 6 (.faddr 0) [.tmp 1],oF 8 6 (.load 1 false) [.tmp 7],oF 9 6 (.bin .gtr) [.tmp 8,.cst (.t (.int .i64 4))],oO 10 .pick [.tmp 6,.cst (.t (.bool true)),.tmp 9],mv 11 10,oF 12 11 (.faddr 2) [.tmp 1],oF 13 11 (.load 1 false) [.tmp 12],oF 14 11 (.bin .lss) [.tmp 13,.cst (.t (.int .i64 0))],oO 15 .pick [.tmp 11,.cst (.t (.bool true)),.tmp 14],mv 16 15,oF 17 16 (.faddr 2) [.tmp 1],oF 18 16 (.load 1 false) [.tmp 17],oF 19 16 (.bin .gtr) [.tmp 18,.cst (.t (.int .i64 1000000))],oO 20 .pick [.tmp 16,.cst (.t (.bool true)),.tmp 19]])
 (.cond (.tmp 20)
 (.seq
 (rG 12288 [mC 2 (.t (.int .i64 1))])
 .ret)
 .skip))
 (.seq
 (.seq
 (rG 16384 [oO 21 (.faddr 1) [.tmp 1],oO 22 (.load 1 false) [.tmp 21],cL 23 n_ref25_Name false [.tmp 22],oO 24 (.un .not) [.tmp 23]])
 (.cond (.tmp 24)
 (.seq
 (rG 20480 [mC 2 (.t (.int .i64 43))])
 .ret)
 .skip))
 (.seq
 (.seq
 (rG 24576 [oO 25 (.faddr 3) [.tmp 1],oO 26 (.load 1 false) [.tmp 25],oO 27 .len [.tmp 26],bN 28 .gtr 27 64])
 (.cond (.tmp 28)
 (.seq
 (rG 28672 [mC 2 (.t (.int .i64 4))])
 .ret)
 .skip))
 (.seq
 (.seq
 (rG 32768 [oO 29 (.faddr 0) [.tmp 1],oO 30 (.load 1 false) [.tmp 29],bN 31 .eql 30 4,mv 32 31,oG 33 32 (.load 4 true) [.tmp 1],cG 34 32 n_ref25_Lines true [.tmp 33],oG 35 32 .len [.tmp 34],oG 36 32 (.bin .eql) [.tmp 35,.cst (.t (.int .i64 0))],oO 37 .pick [.tmp 32,.tmp 36,.cst (.t (.bool false))]])
 (.cond (.tmp 37)
 (.seq
 (rG 36864 [mC 2 (.t (.int .i64 40))])
 .ret)
 .skip))
 (.seq
 (rG 40960 [mC 2 (.t (.int .i64 0))])
 .ret))))))
def xQ (n_ref25_Image n_ref3_Uint n_ref3_Blob:Nat):AC:=
 (.seq
 (rG 4096 [oO 1 .box [.tmp 0],mC 2 .nil])
 (.seq
 (.seq
 (rG 8192 [oO 4 (.load 4 true) [.tmp 1],cL 5 n_ref25_Image false [.tmp 4],bN 6 .neq 5 0])
 (.cond (.tmp 6)
 (.seq
 (rG 12288 [mC 2 .nil])
 .ret)
 .skip))
 (.seq
 (rG 16384 [oO 7 (.faddr 0) [.tmp 1],oO 8 (.load 1 false) [.tmp 7],cL 9 n_ref3_Uint false [.cst .nil,.cst (.t (.int .i64 1)),.tmp 8],mv 3 9])
 (.seq
 (rG 20480 [mv 10 3,oO 11 (.faddr 2) [.tmp 1],oO 12 (.load 1 false) [.tmp 11],cL 13 n_ref3_Uint false [.tmp 10,.cst (.t (.int .i64 4)),.tmp 12],mv 3 13])
 (.seq
 (rG 24576 [mv 14 3,oO 15 (.faddr 1) [.tmp 1],oO 16 (.load 1 false) [.tmp 15],oO 17 .s2b [.tmp 16],cL 18 n_ref3_Blob false [.tmp 14,.tmp 17],mv 3 18])
 (.seq
 (rG 28672 [mv 19 3,oO 20 (.faddr 3) [.tmp 1],oO 21 (.load 1 false) [.tmp 20],cL 22 n_ref3_Blob false [.tmp 19,.tmp 21],mv 2 22])
 .ret))))))
def vH:AC:=
 (.seq
 (rG 4096 [mC 2 (.t (.int .i64 0))])
 (.seq
 (.seq
 (rG 8192 [mv 3 0])
 (.block 0
 (.seq
 (rG 12288 [bN 5 .eql 3 1,mv 4 5])
 (.cond (.tmp 4)
 (.seq
 (rG 16384 [mC 2 (.t (.int .i64 0))])
 .ret)
 (.seq
 (rG 20480 [bN 7 .eql 3 2,mv 6 7])
 (.cond (.tmp 6)
 (.seq
 (rG 24576 [mC 2 (.t (.int .i64 4))])
 .ret)
 (.seq
 (rG 28672 [bN 9 .eql 3 3,mv 8 9])
 (.cond (.tmp 8)
 (.seq
 (rG 32768 [mC 2 (.t (.int .i64 8))])
 .ret)
 (.seq
 (rG 36864 [bN 11 .eql 3 4,mv 10 11])
 (.cond (.tmp 10)
 (.seq
 (rG 40960 [mC 2 (.t (.int .i64 9))])
 .ret)
 .skip))))))))))
 (.seq
 (rG 45056 [mC 2 (.t (.int .i64 (-1)))])
 .ret)))
def jF (n_ref25_has n_ref1_Sum:Nat):AC:=
 (.seq
 (.seq
 (rG 20480 [mv 11 7,bN 12 .lss 11 2])
 (.cond (.tmp 12)
 .skip
 (.exit 0)))
 (.seq
 (.block 1
 (.seq
 (rG 28672 [mv 15 6,oO 16 .len [.tmp 15],bN 17 .gtr 16 0,mv 18 17,mG 19 1 18,mG 20 7 18,cG 21 18 n_ref25_has false [.tmp 19,.tmp 20],oO 22 .pick [.tmp 18,.tmp 21,.cst (.t (.bool false))]])
 (.cond (.tmp 22)
 (rG 32768 [mv 23 5,mv 24 7,mv 25 7,mv 26 6,cL 27 n_ref1_Sum false [.tmp 25,.tmp 26],oO 28 (.iaddr 1) [.tmp 23,.tmp 24],oS 1 28 27])
 .skip)))
 (rG 24576 [mv 13 7,bN 14 .add 13 1,mv 7 14])))
def qGo (n_ref25_EncodeImage n_ref25_has n_ref1_Sum:Nat):AC:=
 (.seq
 (rG 4096 [oO 2 .box [.tmp 0],mC 4 .nil])
 (.seq
 (rG 8192 [oO 8 (.mkslice 1 24 .nil) [.cst (.t (.int .i64 2)),.cst (.t (.int .i64 2))],mv 5 8])
 (.seq
 (rG 12288 [oO 9 (.load 4 true) [.tmp 2],cL 10 n_ref25_EncodeImage true [.tmp 9],mv 6 10])
 (.seq
 (.seq
 (rG 16384 [mC 7 (.t (.int .i64 0))])
 (.block 0
 (.loop (jF n_ref25_has n_ref1_Sum))))
 (.seq
 (rG 36864 [mv 29 5,mv 4 29])
 .ret)))))
def kQ (n_ref25_Number:Nat):AC:=
 (.seq
 (rG 4096 [mC 2 .nil])
 (.seq
 (.seq
 (rG 8192 [mv 3 0,bN 4 .lss 3 10])
 (.cond (.tmp 4)
 (.seq
 (rG 12288 [mv 5 0,oO 6 (.bin .add) [.cst (.t (.int .i64 48)),.tmp 5],oO 7 (.conv .u8) [.tmp 6],oO 8 (.bslice 1 1 (.t (qA 0)) [0]) [.tmp 7],mv 2 8])
 .ret)
 .skip))
 (.seq
 (rG 16384 [mv 9 0,bN 10 .quo 9 10,cL 11 n_ref25_Number false [.tmp 10],mv 12 0,bN 13 .rem 12 10,oO 14 (.bin .add) [.cst (.t (.int .i64 48)),.tmp 13],oO 15 (.conv .u8) [.tmp 14],oO 16 (.bslice 1 1 (.t (qA 0)) [0]) [.tmp 15],oO 17 (.append 1 1) [.tmp 11,.tmp 16],mv 2 17])
 .ret)))
def qJb (n_ref25_Number:Nat):AC:=
 (.seq
 (rG 4096 [mC 4 .nil])
 (.seq
 (rG 8192 [mv 5 0,oO 6 .s2b [.tmp 5],oO 7 (.bslice 1 1 (.t (qA 0)) [0]) [.cst (.t (qA 32))],oO 8 (.append 1 1) [.tmp 6,.tmp 7],mv 9 1,cL 10 n_ref25_Number false [.tmp 9],oO 11 (.append 1 1) [.tmp 8,.tmp 10],mv 4 11])
 .ret))
def xZ (n_ref25_Image n_ref25_Register n_ref25_Digests n_ref25_Label:Nat):AC:=
 (.seq
 (rG 4096 [oO 2 .box [.tmp 0],oO 4 (.new 4 [(.agg [(.t (.int .i64 0)),(.t (.int .i64 0)),.nil,.nil])]) []])
 (.seq
 (.seq
 (rG 8192 [oO 5 (.load 4 true) [.tmp 2],cL 6 n_ref25_Image false [.tmp 5],bN 7 .neq 6 0,mv 8 7,oF 9 8 (.faddr 0) [.tmp 2],oF 10 8 (.load 1 false) [.tmp 9],oF 11 8 (.bin .eql) [.tmp 10,.cst (.t (.int .i64 4))],oO 12 .pick [.tmp 8,.cst (.t (.bool true)),.tmp 11]])
 (.cond (.tmp 12)
 (.seq
 (rG 12288 [oO 13 (.build [(.t (.int .i64 0)),(.t (.int .i64 0)),.nil,.nil] []) [],oS 4 4 13])
 .ret)
 .skip))
 (.seq
 (.reg 16384 (some [0,1,3,0,0,31,0,64,0,256,1023,2047,4095]) [oO 14 (.faddr 0) [.tmp 2],oO 15 (.load 1 false) [.tmp 14],cL 16 n_ref25_Register false [.tmp 15],oO 17 (.load 4 true) [.tmp 2],mv 18 1,cL 19 n_ref25_Digests true [.tmp 17,.tmp 18],oO 20 (.faddr 1) [.tmp 2],oO 21 (.load 1 false) [.tmp 20],oO 22 (.faddr 2) [.tmp 2],oO 23 (.load 1 false) [.tmp 22],cL 24 n_ref25_Label true [.tmp 21,.tmp 23],oO 25 (.build [(.t (.int .i64 0)),(.t (.int .i64 0)),.nil,.nil] [(0,1),(1,1),(2,1),(3,1)]) [.tmp 16,.cst (.t (.int .i64 1)),.tmp 19,.tmp 24],oS 4 4 25])
 .ret)))
end Go.Eng
end
section
set_option maxRecDepth 20000
set_option maxHeartbeats 64000000
namespace Go.Eng
def qCl:Ct where
 α:=List UInt8
 as x:=[.t (zU x)]
 ins _:=[]
 pre x:=x.length≤9223372036854775807
 r x:= .t (.bool (qAn x))
 outs _:=[]
 inj:=by
  intro a b h _
  simp only[List.cons.injEq,V.t.injEq,qMn,and_true] at h
  subst h;exact⟨rfl,rfl⟩
theorem zLf {s:List UInt8} (h:s.length≤9223372036854775807):qCl.fs [.t (zU s)] []=some (.t (.bool (qAn s)),[]):=qCl.eq s h
theorem zIy {s:List UInt8} {i:Nat} (h:i<s.length):(s.take (i+1)).all okN=((s.take i).all okN&&okN (s.getD i 0)):=by
 rw[qDy (d:=0) h,List.all_append];simp
theorem zNz {s:List UInt8} {i:Nat} (h:i<s.length) (hc:okN (s.getD i 0)=false):s.all okN=false:=by
 have e:s.getD i 0=s[i]:=by simp[List.getD,h]
 rw[e] at hc
 exact Bool.eq_false_iff.2 fun ha=>by
  have:=List.all_eq_true.1 ha _ (List.getElem_mem h)
  rw[hc] at this;cases this
theorem zAh (tab:Tab) (gl:Gl) (s:List UInt8) (hs:s.length≤9223372036854775807) :
  qCv.wp tab gl (qE 0 [.t (zU s)]) (qE 0 []) (zZ [(2,none)] 0 (fun r o=>r = .t (.bool (qAn s))∧o=[])):=by
 by_cases c1:s.length<1
 ·have hr:qAn s=false:=by unfold qAn;rw[decide_eq_true c1];rfl
  simp (disch:=omega) only [go_sem,seval,qCv,c1,hr]
 by_cases c2:12<s.length
 ·have hr:qAn s=false:=by unfold qAn;rw[decide_eq_true c2];simp
  simp (disch:=omega) only [go_sem,seval,qCv,c1,c2,hr]
 have hr:qAn s=s.all okN:=by unfold qAn;rw[decide_eq_false c1,decide_eq_false c2];simp
 rw[hr]
 simp (disch:=omega) only [go_sem,seval,qCv,c1,c2]
 refine yO s.length (fun i=>(s.take i).all okN=true) (fun i=>[(0,.t (zU s)),(3,.t (.int .i64 (i:Nat)))]) (fun _=>[]) rfl ?_ (fun i hi hP=>?_)
 ·refine qI.rd id ?_ ?_ rfl
  all_goals simp (disch:=omega) only [go_sem,seval,id]
 ·by_cases hlt:i<s.length
  ·have hs:=zIy hlt
   rw[hP,Bool.true_and] at hs
   obtain⟨c,hc⟩ : ∃ c,s.getD i 0=c:=⟨_,rfl⟩
   cases hok:okN (s.getD i 0)
   ·have hn:=zNz hlt hok
    rw[hc] at hok
    unfold okN at hok
    by_cases a1:c.toNat<97<;>by_cases a2:c.toNat>122<;>by_cases a3:c.toNat<48<;>by_cases a4:c.toNat>57<;>by_cases a5:c=45
    all_goals simp only[a1,a2,a3,a4,a5,decide_true,decide_false,Bool.not_true,Bool.not_false,Bool.and_true,Bool.true_and,Bool.and_false,Bool.false_and,Bool.or_true,Bool.true_or,Bool.or_false,Bool.false_or,reduceCtorEq] at hok
    all_goals have a5b:decide (c=45)=false:=decide_eq_false a5
    all_goals have a2':(122<c.toNat)=(c.toNat>122):=rfl
    all_goals have a4':(57<c.toNat)=(c.toNat>57):=rfl
    all_goals simp (disch:=omega) only [go_sem,seval,xY,hc,a1,a2,a3,a4,a5,a2',a4',hn]
   ·rw[hc] at hok
    rw[hc,hok] at hs
    unfold okN at hok
    by_cases a1:c.toNat<97<;>by_cases a2:c.toNat>122<;>by_cases a3:c.toNat<48<;>by_cases a4:c.toNat>57<;>by_cases a5:c=45
    all_goals simp only[a1,a2,a3,a4,a5,decide_true,decide_false,Bool.not_true,Bool.not_false,Bool.and_true,Bool.true_and,Bool.and_false,Bool.false_and,Bool.or_true,Bool.true_or,Bool.or_false,Bool.false_or,reduceCtorEq] at hok
    all_goals have a2':(122<c.toNat)=(c.toNat>122):=rfl
    all_goals have a4':(57<c.toNat)=(c.toNat>57):=rfl
    all_goals simp (disch:=omega) only [go_sem,seval,xY,hc,a1,a2,a3,a4,a5,a2',a4']
    all_goals refine⟨hlt,hs,qI.rd id ?_ ?_ rfl⟩
    all_goals simp (disch:=omega) only [go_sem,seval,id]
  ·have e:i=s.length:=by omega
   subst e
   rw[List.take_length] at hP
   simp (disch:=omega) only [go_sem,seval,xY,hP]
def qGt:Ct where
 α:=Im
 as x:=[.t (imT x)]
 ins _:=[]
 pre x:=imM x
 r x:= .t (.sl ((lnL x.2.2.2).map bsT))
 outs _:=[]
 inj:=by
  intro a b h _
  simp only[List.cons.injEq,V.t.injEq,and_true] at h
  cases qF8 h
  exact⟨rfl,rfl⟩
theorem zFf {a v:Int} {s p:List UInt8} (h:imM (a,s,v,p)):qGt.fs [.t (.agg [.int .i64 a,zU s,.int .i64 v,.sl (p.map qA)])] []=some (.t (.sl ((lnL p).map bsT)),[]):=qGt.eq (a,s,v,p) h
theorem zGq {p:List UInt8} {i:Nat} (h:i<p.length):p.drop i=p.getD i 0::p.drop (i+1):=by
 rw[List.drop_eq_getElem_cons h];simp[List.getD,h]
theorem qXf (tab:Tab) (gl:Gl) (x:Im) (hm:imM x) :
  qJc.wp tab gl (qE 0 [.t (imT x)]) (qE 0 []) (zZ [(2,none)] 0 (fun r o=>r = .t (.sl ((lnL x.2.2.2).map bsT))∧o=[])):=by
 obtain⟨a,s,v,p⟩:=x
 have hp:=hm.2.1
 simp only at hp ⊢
 simp (disch:=omega) only [go_sem,seval,qJc,qN]
 refine qEm (σ:=Nat×List (List UInt8)×List UInt8) (fun t=>t.1≤p.length∧lnS t.2.1 t.2.2 (p.drop t.1)=lnL p∧t.2.1.length≤4∧t.2.2.length≤t.1) (fun t=>p.length-t.1)
  (fun t=>[(1,.ref 4096 0 0),(3,.sl 9000 0 t.2.1.length),(4,.sl 9001 0 t.2.2.length),(5,.t (.int .i64 (t.1:Nat)))])
  (fun t=>[(9001,.live 1 ((t.2.2.map qA).map V.t) true false),(9000,.live 1 ((t.2.1.map bsT).map V.t) true false),(4096,.live 4 [.t (.agg [.int .i64 a,zU s,.int .i64 v,.sl (p.map qA)])] true true)]) (0,[],[]) ⟨Nat.zero_le _,rfl,by simp,by simp⟩ ?_ ?_
 ·refine qI.cv0 (hv:=[(9001,.live 1 [] true false),(9000,.live 1 [] true false)]) (ho:=[(4096,.live 4 [.t (.agg [.int .i64 a,zU s,.int .i64 v,.sl (p.map qA)])] true true)]) id ?_ ?_ rfl rfl
  all_goals simp (disch:=omega) only [go_sem,seval,id]
 ·rintro⟨i,out,line⟩ ⟨hi,hE,ho,hl⟩
  simp only at hi hE ho hl ⊢
  by_cases hlt:i<p.length
  ·rw[zGq hlt] at hE
   obtain⟨c,hc⟩ : ∃ c,p.getD i 0=c:=⟨_,rfl⟩
   rw[hc] at hE
   by_cases c10:c=10
   ·have hcb:decide (c=10)=true:=decide_eq_true c10
    rw[lnS,if_pos c10] at hE
    by_cases z1:line.length=0
    ·rw[if_pos (.inl z1)] at hE
     have z1i:((line.length:Int)==0)=true:=by simp[z1]
     rw[←hE]
     simp (disch:=omega) only [go_sem,seval,jI,hc,hcb,z1,List.map_nil]
    ·have z1i:((line.length:Int)==0)=false:=by simpa using (by omega : ¬ (line.length:Int)=0)
     by_cases z2:4≤out.length
     ·rw[if_pos (.inr z2)] at hE
      rw[←hE]
      simp (disch:=omega) only [go_sem,seval,jI,hc,hcb,z1,z1i,z2,List.map_nil]
     ·rw[if_neg (by omega)] at hE
      simp (disch:=omega) only [go_sem,seval,jI,hc,hcb,z1,z1i,z2]
      refine zCi.of (i+1,out++[line],[]) ⟨by simp only;omega,hE,by simp;omega,by simp⟩ (by simp only;omega) ?_
      refine qI.cv (hv:=[(9001,.live 1 [] true false)]) (ho:=[(9000,.live 1 (((out++[line]).map bsT).map V.t) true false),(4096,.live 4 [.t (.agg [.int .i64 a,zU s,.int .i64 v,.sl (p.map qA)])] true true)]) [9001] (fun j=>if j=9000 then 45104 else j) ?_ rfl
      simp (disch:=omega) only [go_sem,seval,id,List.map_cons,List.map_nil,List.take_length]
      rfl
   ·have hcb:decide (c=10)=false:=decide_eq_false c10
    rw[lnS,if_neg c10] at hE
    cases hok:okC c
    ·rw[hok,if_neg (by decide)] at hE
     rw[←hE]
     unfold okC at hok
     by_cases a1:c.toNat<32
     ·simp (disch:=omega) only [go_sem,seval,jI,hc,hcb,a1,List.map_nil]
     ·have a2:126<c.toNat:=by
       rw[decide_eq_false a1] at hok
       simpa using hok
      simp (disch:=omega) only [go_sem,seval,jI,hc,hcb,a1,a2,List.map_nil]
    ·rw[hok,if_pos rfl] at hE
     unfold okC at hok
     simp only[Bool.and_eq_true,Bool.not_eq_true',decide_eq_false_iff_not] at hok
     obtain⟨a1,a2⟩:=hok
     have a3 : ¬ 126<c.toNat:=a2
     simp (disch:=omega) only [go_sem,seval,jI,hc,hcb,a1,a3]
     refine zCi.of (i+1,out,line++[c]) ⟨by simp only;omega,hE,ho,by simp;omega⟩ (by simp only;omega) (qI.rd (fun j=>if j=9001 then 61488 else j) ?_ ?_ rfl)
     all_goals simp (disch:=omega) only [go_sem,seval,id,List.map_cons,List.map_nil]
  ·have e:p.drop i=[]:=List.drop_eq_nil_of_le (by omega)
   rw[e,lnS] at hE
   by_cases z:0<line.length
   ·rw[if_pos z] at hE
    rw[←hE]
    simp (disch:=omega) only [go_sem,seval,jI,z,List.map_nil]
   ·rw[if_neg z] at hE
    rw[←hE]
    have z0:line.length=0:=by omega
    simp (disch:=omega) only [go_sem,seval,jI,z,z0,List.take_length]
def qFh:Ct where
 α:=Im
 as x:=[.t (imT x)]
 ins _:=[]
 pre x:=imX x
 r x:= .t (.int .i64 (qCw x))
 outs _:=[]
 inj:=by
  intro a b h _
  simp only[List.cons.injEq,V.t.injEq,and_true] at h
  cases qF8 h
  exact⟨rfl,rfl⟩
theorem zCh {a v:Int} {s p:List UInt8} (h:imX (a,s,v,p)):qFh.fs [.t (.agg [.int .i64 a,zU s,.int .i64 v,.sl (p.map qA)])] []=some (.t (.int .i64 (qCw (a,s,v,p))),[]):=qFh.eq (a,s,v,p) h
theorem zFd {a v:Int} {s p:List UInt8} (h:imM (a,s,v,p)):qFh.fs [.t (.agg [.int .i64 a,zU s,.int .i64 v,.sl (p.map qA)])] []=some (.t (.int .i64 (qCw (a,s,v,p))),[]):=zCh h.x
theorem qXd (tab:Tab) (gl:Gl) (n1 n2:Nat) (h1:tab.look n1=some qCl.fs) (h2:tab.look n2=some qGt.fs) (x:Im) (hm:imX x) :
  (yB n1 n2).wp tab gl (qE 0 [.t (imT x)]) (qE 0 []) (zZ [(2,none)] 0 (fun r o=>r = .t (.int .i64 (qCw x))∧o=[])):=by
 obtain⟨a,s,v,p⟩:=x
 have hp:=hm.2.2.2
 have hN:=zLf hm.2.2.1
 have hL:=fun h:p.length<1000000000=>zFf (a:=a) (v:=v) (s:=s) (p:=p) ⟨hm.2.2.1,h,hm.1,hm.2.1⟩
 have lL:=qRv (p:=p)
 simp only at hp hN
 have hl2:((lnL p).map bsT).length=(lnL p).length:=List.length_map _
 by_cases hb:zI4 a v
 ·have hr:qCw (a,s,v,p)=1:=if_pos hb
  rw[hr]
  by_cases c1:a<1
  ·simp (disch:=omega) only [go_sem,seval,yB,qN,c1]
  by_cases c2:4<a
  ·simp (disch:=omega) only [go_sem,seval,yB,qN,c1,c2]
  by_cases c3:v<0
  ·simp (disch:=omega) only [go_sem,seval,yB,qN,c1,c2,c3]
  have c4:1000000<v:=by unfold zI4 at hb;omega
  simp (disch:=omega) only [go_sem,seval,yB,qN,c1,c2,c3,c4]
 ·have hb':=hb
  unfold zI4 at hb'
  have c1 : ¬ a<1:=by omega
  have c2 : ¬ 4<a:=by omega
  have c3 : ¬ v<0:=by omega
  have c4 : ¬ 1000000<v:=by omega
  cases hn:qAn s
  ·have hr:qCw (a,s,v,p)=43:=by unfold qCw;rw[if_neg hb,if_pos hn]
   rw[hr]
   rw[hn] at hN
   simp (disch:=omega) only [go_sem,seval,yB,qN,c1,c2,c3,c4,h1,hN]
  ·rw[hn] at hN
   have hn2 : ¬ qAn s=false:=by rw[hn];decide
   by_cases c5:64<p.length
   ·have hr:qCw (a,s,v,p)=4:=by unfold qCw;rw[if_neg hb,if_neg hn2,if_pos c5]
    rw[hr]
    simp (disch:=omega) only [go_sem,seval,yB,qN,c1,c2,c3,c4,h1,hN,c5]
   ·have hr:qCw (a,s,v,p)=if a=4∧(lnL p).length=0 then 40 else 0:=by unfold qCw;rw[if_neg hb,if_neg hn2,if_neg c5]
    rw[hr]
    have hL:=hL (by omega)
    generalize lnL p=L at *
    by_cases c6:a=4
    ·subst c6
     by_cases c7:L.length=0
     ·simp (disch:=omega) only [go_sem,seval,yB,qN,c3,c4,h1,hN,c5,h2,hL,c7]
     ·have c8:((L.length:Int)==0)=false:=by simpa using (by omega : ¬ (L.length:Int)=0)
      simp (disch:=omega) only [go_sem,seval,yB,qN,c3,c4,h1,hN,c5,h2,hL,c7,c8]
    ·have c8:(a==4)=false:=by simpa using c6
     simp (disch:=omega) only [go_sem,seval,yB,qN,c1,c2,c3,c4,h1,hN,c5,c6,c8]
def qOj:Ct where
 α:=Im
 as x:=[.t (imT x)]
 ins _:=[]
 pre x:=imM x
 r x:= .t (.sl ((qCp x).map qA))
 outs _:=[]
 inj:=by
  intro a b h _
  simp only[List.cons.injEq,V.t.injEq,and_true] at h
  cases qF8 h
  exact⟨rfl,rfl⟩
theorem zSq {a v:Int} {s p:List UInt8} (h:imM (a,s,v,p)):qOj.fs [.t (.agg [.int .i64 a,zU s,.int .i64 v,.sl (p.map qA)])] []=some (.t (.sl ((qCp (a,s,v,p)).map qA)),[]):=qOj.eq (a,s,v,p) h
theorem zRr {b:List UInt8} {k:Nat} {n:Int} (hb:b.length<1000000000∧1≤k∧k≤8):vT.fs [.t (.sl (b.map qA)),.t (.int .i64 k),.t (.int .i64 n)] []=some (.sl 0 0 (b.length+k),[.live 1 (((b++beI k n k).map qA).map V.t) true false]):=vT.eq (b,k,n) hb
theorem qKq (tab:Tab) (gl:Gl) (n1 n2 n3:Nat) (h1:tab.look n1=some qFh.fs) (h2:tab.look n2=some vT.fs) (h3:tab.look n3=some qA1.fs) (x:Im) (hm:imM x) :
  (xQ n1 n2 n3).wp tab gl (qE 0 [.t (imT x)]) (qE 0 []) (zZ [(2,none)] 0 (fun r o=>r = .t (.sl ((qCp x).map qA))∧o=[])):=by
 obtain⟨a,s,v,p⟩:=x
 have hC:=zFd hm
 by_cases hz:qCw (a,s,v,p)=0
 ·obtain⟨g1,g2,g3,g4,g5⟩:=xU hz
  have g6:=qDr g3
  simp only at g1 g2 g3 g4 g6
  have hr:qCp (a,s,v,p)=blL (blL (beI 1 a 1++beI 4 v 4) s) p:=if_pos hz
  rw[hr]
  rw[hz] at hC
  have u1:vT.fs [.t (.sl []),.t (.int .i64 1),.t (.int .i64 a)] []=_:=zRr (b:=[]) (k:=1) (n:=a) ⟨by decide,by decide,by decide⟩
  rw[List.nil_append] at u1
  have l1:(beI 1 a 1).length=1:=zJ
  have u2:vT.fs [.t (.sl ((beI 1 a 1).map qA)),.t (.int .i64 4),.t (.int .i64 v)] []=_:=zRr (b:=beI 1 a 1) (k:=4) (n:=v) ⟨by rw[l1];decide,by decide,by decide⟩
  have l2:(beI 1 a 1++beI 4 v 4).length=5:=by rw[List.length_append,zJ,zJ]
  have b1:=wY (b:=beI 1 a 1++beI 4 v 4) (x:=s) ⟨by omega,by omega⟩
  have l3:(blL (beI 1 a 1++beI 4 v 4) s).length=5+2+s.length:=by rw[vD,l2]
  have b2:=wY (b:=blL (beI 1 a 1++beI 4 v 4) s) (x:=p) ⟨by omega,by omega⟩
  have l4:(blL (blL (beI 1 a 1++beI 4 v 4) s) p).length=5+2+s.length+2+p.length:=by rw[vD,l3]
  rw[l1] at u2
  rw[l2] at b1
  rw[l3] at b2
  generalize blL (blL (beI 1 a 1++beI 4 v 4) s) p=B4 at *
  generalize blL (beI 1 a 1++beI 4 v 4) s=B3 at *
  generalize beI 1 a 1++beI 4 v 4=B2 at *
  generalize beI 1 a 1=B1 at *
  have t1:List.take 1 B1=B1:=List.take_of_length_le (by omega)
  have t2:List.take 5 B2=B2:=List.take_of_length_le (by omega)
  have t3:List.take (5+2+s.length) B3=B3:=List.take_of_length_le (by omega)
  have t4:List.take (5+2+s.length+2+p.length) B4=B4:=List.take_of_length_le (by omega)
  simp (disch:=omega) only [go_sem,seval,xQ,qN,h1,hC,h2,u1,l1,t1,u2,l2,t2,h3,b1,l3,t3,b2,l4,t4,List.length_nil,List.map_nil,List.take_length]
 ·have hr:qCp (a,s,v,p)=[]:=if_neg hz
  rw[hr]
  have hz':(qCw (a,s,v,p) != 0)=true:=by simpa using hz
  simp (disch:=omega) only [go_sem,seval,xQ,qN,h1,hC,hz',List.map_nil]
def qJr:Ct where
 α:=Int
 as x:=[.t (.int .i64 x)]
 ins _:=[]
 pre _:=True
 r x:= .t (.int .i64 (qR8 x))
 outs _:=[]
 inj:=by
  intro a b h _
  simp only[List.cons.injEq,V.t.injEq,T.int.injEq,true_and,and_true] at h
  subst h;exact⟨rfl,rfl⟩
theorem zLz {a:Int}:qJr.fs [.t (.int .i64 a)] []=some (.t (.int .i64 (qR8 a)),[]):=qJr.eq a trivial
theorem qPf (tab:Tab) (gl:Gl) (a:Int):vH.wp tab gl (qE 0 [.t (.int .i64 a)]) (qE 0 []) (zZ [(2,none)] 0 (fun r o=>r = .t (.int .i64 (qR8 a))∧o=[])):=by
 by_cases c1:a=1
 ·subst c1
  simp (disch:=omega) only [go_sem,seval,vH,qR8]
 by_cases c2:a=2
 ·subst c2
  simp (disch:=omega) only [go_sem,seval,vH,qR8]
 by_cases c3:a=3
 ·subst c3
  simp (disch:=omega) only [go_sem,seval,vH,qR8]
 by_cases c4:a=4
 ·subst c4
  simp (disch:=omega) only [go_sem,seval,vH,qR8]
 have d1:(a==1)=false:=by simpa using c1
 have d2:(a==2)=false:=by simpa using c2
 have d3:(a==3)=false:=by simpa using c3
 have d4:(a==4)=false:=by simpa using c4
 have hr:qR8 a = -1:=by unfold qR8;rw[if_neg c1,if_neg c2,if_neg c3,if_neg c4]
 simp (disch:=omega) only [go_sem,seval,vH,d1,d2,d3,d4,hr]
def qOl:Ct where
 α:=Im×Int
 as x:=[.t (imT x.1),.t (.int .i64 x.2)]
 ins _:=[]
 pre x:=imM x.1∧0≤x.2∧x.2<4
 r x:= .t (.sl [bsT (qJt x.1 x.2 0),bsT (qJt x.1 x.2 1)])
 outs _:=[]
 inj:=by
  rintro⟨e,a⟩ ⟨f,b⟩ h _
  simp only[List.cons.injEq,V.t.injEq,T.int.injEq,true_and,and_true] at h
  obtain⟨h1,rfl⟩:=h
  cases qF8 h1
  exact⟨rfl,rfl⟩
theorem zS1 {a v:Int} {s p:List UInt8} {act:Int} (h:imM (a,s,v,p)∧0≤act∧act<4):qOl.fs [.t (.agg [.int .i64 a,zU s,.int .i64 v,.sl (p.map qA)]),.t (.int .i64 act)] []=some (.t (.sl [bsT (qJt (a,s,v,p) act 0),bsT (qJt (a,s,v,p) act 1)]),[]):=qOl.eq ((a,s,v,p),act) h
theorem zEz {x:Im} (h:imM x):(qCp x).length≤100:=by
 unfold qCp
 split
 ·rename_i hz
  obtain⟨g1,g2,g3,g4,g5⟩:=xU hz
  have g6:=qDr g3
  unfold jDm
  rw[vD,vD,List.length_append,zJ,zJ]
  omega
 ·simp
theorem qSy (tab:Tab) (gl:Gl) (n1 n2 n3:Nat) (h1:tab.look n1=some qOj.fs) (h2:tab.look n2=some qFg.fs) (h3:tab.look n3=some kA.fs) (x:Im) (act:Int) (hm:imM x) (ha:0≤act∧act<4) :
  (qGo n1 n2 n3).wp tab gl (qE 0 [.t (imT x),.t (.int .i64 act)]) (qE 0 []) (zZ [(4,none)] 0 (fun r o=>r = .t (.sl [bsT (qJt x act 0),bsT (qJt x act 1)])∧o=[])):=by
 have hl:=zEz hm
 have e0:qJt x act 0=if 0<(qCp x).length∧act%2=1 then qJy (qCp x) else []:=by unfold qJt;simp[qX0]
 have e1:qJt x act 1=if 0<(qCp x).length∧act/2%2=1 then zK (qCp x) else []:=by unfold qJt;simp[qX0]
 obtain⟨a,s,v,p⟩:=x
 have hE:=zSq hm
 have q0:=zCe ha
 have q1:=zCf ha
 generalize qCp (a,s,v,p)=B at *
 have s0:=qT (bs:=B) (by omega)
 have s1:=qS (bs:=B) (by omega)
 have l0:(qJy B).length=20:=jV
 have l1:(zK B).length=32:=qM
 have t0:List.take 20 (qJy B)=qJy B:=wW
 have t1:List.take 32 (zK B)=zK B:=yY
 generalize qJy B=S0 at *
 generalize zK B=S1 at *
 simp only[qCj]
 simp (disch:=omega) only [go_sem,seval,qGo,qN,h1,hE]
 repeat refine And.intro rfl ?_
 refine qD 2 (fun i=>[(1,.t (.int .i64 act)),(5,.sl 8192 0 2),(6,.t (.sl (B.map qA))),(7,.t (.int .i64 (i:Nat)))])
  (fun i=>[(8192,.live 1 [.t (.sl ((if 0<i then qJt (a,s,v,p) act 0 else []).map qA)),.t (.sl ((if 1<i then qJt (a,s,v,p) act 1 else []).map qA))] true false),(4096,.live 4 [.t (.agg [.int .i64 a,zU s,.int .i64 v,.sl (p.map qA)])] true true)]) ?_ (fun i hi=>?_)
 ·refine qI.rd id ?_ ?_ rfl
  all_goals simp (disch:=omega) only [go_sem,seval,id,List.map_nil,Nat.lt_irrefl,Nat.not_lt_zero]
 ·rcases (show i=0∨i=1∨i=2 by omega) with rfl | rfl | rfl
  ·by_cases z:0<B.length
   ·by_cases b0:act%2=1
    ·rw[if_pos ⟨z,b0⟩] at e0
     simp (disch:=omega) only [go_sem,seval,jF,h2,q0,b0,z,h3,s0,List.map_nil,Nat.lt_irrefl,Nat.not_lt_zero]
     refine qI.cv (hv:=[]) [32832] id ?_ rfl
     simp (disch:=omega) only [go_sem,seval,id,e0,l0,t0,List.map_nil]
     rfl
    ·rw[if_neg (fun h=>b0 h.2)] at e0
     simp (disch:=omega) only [go_sem,seval,jF,h2,q0,b0,z,List.map_nil,Nat.lt_irrefl,Nat.not_lt_zero]
     refine qI.rd id ?_ ?_ rfl
     all_goals simp (disch:=omega) only [go_sem,seval,id,e0,List.map_nil,Nat.lt_irrefl]
   ·rw[if_neg (fun h=>z h.1)] at e0
    simp (disch:=omega) only [go_sem,seval,jF,z,List.map_nil,Nat.lt_irrefl,Nat.not_lt_zero]
    refine qI.rd id ?_ ?_ rfl
    all_goals simp (disch:=omega) only [go_sem,seval,id,e0,List.map_nil,Nat.lt_irrefl]
  ·by_cases z:0<B.length
   ·by_cases b0:act/2%2=1
    ·rw[if_pos ⟨z,b0⟩] at e1
     simp (disch:=omega) only [go_sem,seval,jF,h2,q1,b0,z,h3,s1,List.map_nil,Nat.lt_irrefl,Nat.not_lt_zero]
     refine qI.cv (hv:=[]) [32832] id ?_ rfl
     simp (disch:=omega) only [go_sem,seval,id,e1,l1,t1,List.map_nil]
     rfl
    ·rw[if_neg (fun h=>b0 h.2)] at e1
     simp (disch:=omega) only [go_sem,seval,jF,h2,q1,b0,z,List.map_nil,Nat.lt_irrefl,Nat.not_lt_zero]
     refine qI.rd id ?_ ?_ rfl
     all_goals simp (disch:=omega) only [go_sem,seval,id,e1,List.map_nil,Nat.lt_irrefl]
   ·rw[if_neg (fun h=>z h.1)] at e1
    simp (disch:=omega) only [go_sem,seval,jF,z,List.map_nil,Nat.lt_irrefl,Nat.not_lt_zero]
    refine qI.rd id ?_ ?_ rfl
    all_goals simp (disch:=omega) only [go_sem,seval,id,e1,List.map_nil,Nat.lt_irrefl]
  ·simp (disch:=omega) only [go_sem,seval,jF]
def qAi (k:Nat):Ct where
 α:=Nat
 as x:=[.t (.int .i64 x)]
 ins _:=[]
 pre x:=x<10^(k+1)∧x<1000000000
 r x:= .sl 0 0 (qPs k x).length
 outs x:=[.live 1 (((qPs k x).map qA).map V.t) true (decide (x<10))]
 inj:=by
  intro a b h _
  simp only[List.cons.injEq,V.t.injEq,T.int.injEq,true_and,and_true,Int.natCast_inj] at h
  subst h;exact⟨rfl,rfl⟩
theorem zTc {k n:Nat} (h:n<10^(k+1)∧n<1000000000):(qAi k).fs [.t (.int .i64 n)] []=some (.sl 0 0 (qPs k n).length,[.live 1 (((qPs k n).map qA).map V.t) true (decide (n<10))]):=(qAi k).eq n h
theorem zJn {m:Nat}:IntKind.u8.wrap (m:Int)=((UInt8.ofNat m).toNat:Int):=by
 rw[qXu,UInt8.toNat_ofNat'];omega
theorem qSz (tab:Tab) (gl:Gl) (n1:Nat) (n:Nat) (hn:n<10) :
  (kQ n1).wp tab gl (qE 0 [.t (.int .i64 n)]) (qE 0 []) (xM [] [(2,none)] 0 (fun r o=>r = .sl 0 0 (qPs 0 n).length∧o=[.live 1 (((qPs 0 n).map qA).map V.t) true (decide (n<10))])):=by
 have h1:(n:Int)<10:=by omega
 have e:qPs 0 n=[UInt8.ofNat (48+n)]:=rfl
 rw[e,decide_eq_true hn]
 have hw:T.int .u8 (IntKind.u8.wrap ((48:Int)+n))=qA (UInt8.ofNat (48+n)):=by
  rw[show (48:Int)+n=((48+n:Nat):Int) by omega,zJn];rfl
 simp (disch:=omega) only [go_sem,seval,kQ,hw]
theorem vP (tab:Tab) (gl:Gl) (n1 k:Nat) (h1:tab.look n1=some (qAi k).fs) (n:Nat) (hn:n<10^(k+2)) (hn2:n<1000000000) (hk:k≤20) :
  (kQ n1).wp tab gl (qE 0 [.t (.int .i64 n)]) (qE 0 []) (xM [] [(2,none)] 0 (fun r o=>r = .sl 0 0 (qPs (k+1) n).length∧o=[.live 1 (((qPs (k+1) n).map qA).map V.t) true (decide (n<10))])):=by
 by_cases h10:n<10
 ·have h1:(n:Int)<10:=by omega
  have e:qPs (k+1) n=[UInt8.ofNat (48+n)]:=if_pos h10
  rw[e,decide_eq_true h10]
  have hw:T.int .u8 (IntKind.u8.wrap ((48:Int)+n))=qA (UInt8.ofNat (48+n)):=by
   rw[show (48:Int)+n=((48+n:Nat):Int) by omega,zJn];rfl
  simp (disch:=omega) only [go_sem,seval,kQ,hw]
 ·have h1' : ¬ (n:Int)<10:=by omega
  have e:qPs (k+1) n=qPs k (n/10)++[UInt8.ofNat (48+n%10)]:=if_neg h10
  rw[e,decide_eq_false h10]
  have hp:n/10<10^(k+1):=by rw[Nat.div_lt_iff_lt_mul (by omega)];rw[←Nat.pow_succ];exact hn
  have hN:=zTc (k:=k) (n:=n/10) ⟨hp,by omega⟩
  have hl:=qLr (k:=k) (n:=n/10)
  have hw:T.int .u8 (IntKind.u8.wrap ((48:Int)+((n%10:Nat):Int)))=qA (UInt8.ofNat (48+n%10)):=by
   rw[show (48:Int)+((n%10:Nat):Int)=((48+n%10:Nat):Int) by omega,zJn];rfl
  have hd:((n:Int).tdiv 10)=((n/10:Nat):Int):=by rw[Int.tdiv_eq_ediv_of_nonneg (by omega)];omega
  have hm:((n:Int).tmod 10)=((n%10:Nat):Int):=by rw[Int.tmod_eq_emod_of_nonneg (by omega)];omega
  generalize qPs k (n/10)=D at *
  generalize decide (n/10<10)=fu at *
  simp (disch:=omega) only [go_sem,seval,kQ,h1',hd,hm,hw,h1,hN,List.map_cons,List.map_nil]
def qYe:Ct where
 α:=List UInt8×Nat
 as x:=[.t (zU x.1),.t (.int .i64 x.2)]
 ins _:=[]
 pre x:=x.1.length<1000000∧x.2≤1000000
 r x:= .t (.sl ((zK5 x.1 x.2).map qA))
 outs _:=[]
 inj:=by
  rintro⟨a,b⟩ ⟨c,d⟩ h _
  simp only[List.cons.injEq,V.t.injEq,T.int.injEq,qMn,true_and,and_true,Int.natCast_inj] at h
  obtain⟨rfl,rfl⟩:=h
  exact⟨rfl,rfl⟩
theorem zZr {s:List UInt8} {n:Nat} (h:s.length<1000000∧n≤1000000):qYe.fs [.t (zU s),.t (.int .i64 n)] []=some (.t (.sl ((zK5 s n).map qA)),[]):=qYe.eq (s,n) h
theorem qXe (tab:Tab) (gl:Gl) (n1:Nat) (h1:tab.look n1=some (qAi 7).fs) (s:List UInt8) (n:Nat) (hs:s.length<1000000) (hn:n≤1000000) :
  (qJb n1).wp tab gl (qE 0 [.t (zU s),.t (.int .i64 n)]) (qE 0 []) (zZ [(4,none)] 0 (fun r o=>r = .t (.sl ((zK5 s n).map qA))∧o=[])):=by
 have hN:=zTc (k:=7) (n:=n) ⟨by omega,by omega⟩
 have hl:=qLr (k:=7) (n:=n)
 have e:zK5 s n=s++[32]++qPs 7 n:=rfl
 rw[e]
 generalize qPs 7 n=D at *
 generalize decide (n<10)=fu at *
 have ht:List.take (s.length+1+D.length) (s++[32]++D)=s++[32]++D:=List.take_of_length_le (by simp;omega)
 simp (disch:=omega) only [go_sem,seval,qJb,h1,hN,List.map_cons,List.map_nil,List.take_length,ht]
def qGu:Ct where
 α:=Im×Int
 as x:=[.t (imT x.1),.t (.int .i64 x.2)]
 ins _:=[]
 pre x:=imM x.1∧0≤x.2∧x.2<4
 r x:= .t (evT (ofI x.1 x.2))
 outs _:=[]
 inj:=by
  rintro⟨e,a⟩ ⟨f,b⟩ h _
  simp only[List.cons.injEq,V.t.injEq,T.int.injEq,true_and,and_true] at h
  obtain⟨h1,rfl⟩:=h
  cases qF8 h1
  exact⟨rfl,rfl⟩
theorem zFo {x:Im} {act:Int} (h:imM x∧0≤act∧act<4):qGu.fs [.t (imT x),.t (.int .i64 act)] []=some (.t (evT (ofI x act)),[]):=qGu.eq (x,act) h
theorem qS0 (tab:Tab) (gl:Gl) (n1 n2 n3 n4:Nat) (h1:tab.look n1=some qFh.fs) (h2:tab.look n2=some qJr.fs) (h3:tab.look n3=some qOl.fs) (h4:tab.look n4=some qYe.fs) (x:Im) (act:Int) (hm:imM x) (ha:0≤act∧act<4) :
  (xZ n1 n2 n3 n4).wp tab gl (qE 0 [.t (imT x),.t (.int .i64 act)]) (qE 0 []) (zZ [(4,some (4,true))] 0 (fun r o=>r = .t (evT (ofI x act))∧o=[])):=by
 obtain⟨a,s,v,p⟩:=x
 have hC:=zFd hm
 have hD:=zS1 (act:=act) ⟨hm,ha⟩
 have hR:=zLz (a:=a)
 by_cases hz:qCw (a,s,v,p)=0
 ·obtain⟨g1,g2,g3,g4,g5⟩:=xU hz
  have g6:=qDr g3
  simp only at g1 g2 g3 g4 g6
  rw[hz] at hC
  by_cases c4:a=4
  ·subst c4
   have hr:ofI (4,s,v,p) act=(0,0,[],[]):=if_pos (.inr rfl)
   rw[hr]
   simp (disch:=omega) only [go_sem,seval,xZ,qN,zP,h1,hC,List.map_nil]
  ·have d4:(a==4)=false:=by simpa using c4
   obtain⟨m,rfl⟩:=Int.eq_ofNat_of_zero_le g2.1
   have hL:=zZr (s:=s) (n:=m) ⟨by omega,by omega⟩
   have hr:ofI (a,s,(m:Int),p) act=(qR8 a,1,[qJt (a,s,(m:Int),p) act 0,qJt (a,s,(m:Int),p) act 1],zK5 s m):=by
    unfold ofI;rw[if_neg (by simp only;omega)];rfl
   rw[hr]
   generalize qJt (a,s,(m:Int),p) act 0=D0 at *
   generalize qJt (a,s,(m:Int),p) act 1=D1 at *
   generalize zK5 s m=L at *
   generalize qR8 a=R at *
   simp (disch:=omega) only [go_sem,seval,xZ,qN,zP,h1,hC,d4,h2,hR,h3,hD,h4,hL,List.map_nil,List.map_cons]
   all_goals rfl
 ·have hr:ofI (a,s,v,p) act=(0,0,[],[]):=if_pos (.inl hz)
  rw[hr]
  have hz':(qCw (a,s,v,p) != 0)=true:=by simpa using hz
  simp (disch:=omega) only [go_sem,seval,xZ,qN,zP,h1,hC,hz',List.map_nil]
def qYj:Ct where
 α:=Unit
 as _:=[]
 ins _:=[]
 pre _:=True
 r _:= .t (.agg [zU (nmL 0),zU (nmL 1),zU (nmL 2),zU (nmL 3),zU (nmL 4)])
 outs _:=[]
 inj:=by intro a b _ _;exact⟨rfl,rfl⟩
theorem jAb:qYj.fs [] []=some (.t (.agg [zU (nmL 0),zU (nmL 1),zU (nmL 2),zU (nmL 3),zU (nmL 4)]),[]):=qYj.eq () trivial
theorem qZ7 (tab:Tab) (gl:Gl):qK4.wp tab gl (qE 0 []) (qE 0 []) (zZ [(0,some (5,true))] 0 (fun r o=>r = .t (.agg [zU (nmL 0),zU (nmL 1),zU (nmL 2),zU (nmL 3),zU (nmL 4)])∧o=[])):=by
 simp (disch:=omega) only [go_sem,seval,qK4,nmL]
def qYk:Ct where
 α:=Cd
 as _:=[.ref 0 0 0]
 ins x:=[qTd x]
 pre x:=qEi x
 r x:= .t (.sl ((qU3 x).1.map qA))
 outs x:=[qTd (qU3 x).2]
 inj:=by
  intro s t _ h2
  simp only[List.cons.injEq,and_true] at h2
  cases qPr h2
  exact⟨rfl,rfl⟩
theorem zTe {c:Cd} (h:qEi c):qYk.fs [.ref 0 0 0] [cdO c]=some (.t (.sl ((qU3 c).1.map qA)),[cdO (qU3 c).2]):=qYk.eq c h
theorem qTu (tab:Tab) (gl:Gl) (n1 n2:Nat) (h1:tab.look n1=some qE2.fs) (h2:tab.look n2=some qQ2.fs) (c:Cd) (hc:qEi c) :
  (qBw n1 n2).wp tab gl (qE 0 [.ref 0 0 0]) (qE 0 [qTd c]) (zZ [(2,none)] 1 (fun r o=>r = .t (.sl ((qU3 c).1.map qA))∧o=[qTd (qU3 c).2])):=by
 have e:qU3 c=zG8 (1+(nx c 4).1) (nx c 4).2 []:=rfl
 rw[e]
 obtain⟨i,b,a,e,l,ok,hN⟩:=nxF 4 hc (by omega) (by omega)
 rw[show ((4:Nat):Int)=4 from rfl] at hN
 rw[e]
 simp only
 obtain⟨cb,ca⟩:=c
 generalize hP:zG8 (1+i) (b,a) []=P
 simp (disch:=omega) only [go_sem,seval,qBw,qA0,h1,hN]
 refine qEm (σ:=Nat×Cd×List UInt8) (fun s=>qEi s.2.1∧s.2.2.length+9*s.1≤100∧zG8 s.1 s.2.1 s.2.2=P) (fun s=>s.1)
  (fun s=>[(0,.ref 0 0 0),(3,.sl 9000 0 s.2.2.length),(4,.t (.int .i64 (s.1:Nat)))]) (fun s=>[(9000,.live 1 ((s.2.2.map qA).map V.t) true false),(0,cdO s.2.1)]) (1+i,(b,a),[]) ⟨ok,by simp;omega,hP⟩ ?_ ?_
 ·refine qI.cv0 (hv:=[(9000,.live 1 [] true false)]) (ho:=[(0,cdO (b,a))]) id ?_ ?_ rfl rfl
  all_goals simp (disch:=omega) only [go_sem,seval,id]
 ·rintro⟨k,⟨b1,a1⟩,p⟩ ⟨ok1,hl,hp⟩
  simp only at ok1 hl hp ⊢
  cases k with
  | zero=>
   rw[←hp]
   simp (disch:=omega) only [go_sem,seval,wF,zG8,qA0,List.take_length]
  | succ k=>
   have hL:=zVe ok1
   have ll:=qY9 (i:=(nx (b1,a1) 6).1)
   have lok:=qG2 (n:=6) ok1
   have hp':zG8 k (nx (b1,a1) 6).2 (p++qL1 (nx (b1,a1) 6).1++[10])=P:=hp
   generalize nx (b1,a1) 6=q at *
   obtain⟨j,b2,a2⟩:=q
   simp only[cdO] at *
   generalize qL1 j=L at *
   have hkk:((k+1:Nat):Int)-1=k:=by omega
   simp (disch:=omega) only [go_sem,seval,wF,h2,hL,hkk,List.take_length]
   refine zCi.of (k,(b2,a2),p++L++[10]) ⟨lok,by simp;omega,hp'⟩ (by simp) (qI.rd (fun j=>if j=9000 then 24656 else j) ?_ ?_ rfl)
   all_goals simp (disch:=omega) only [go_sem,seval,id,List.map_cons,List.map_nil,List.append_assoc]
   all_goals try omega
def qYb:Ct where
 α:=Cd×Nat
 as x:=[.ref 0 0 0,.t (.int .i64 x.2)]
 ins x:=[qTd x.1]
 pre x:=qEi x.1∧1≤x.2∧x.2≤4
 r x:= .t (imT (imG x.1 x.2).1)
 outs x:=[qTd (imG x.1 x.2).2]
 inj:=by
  rintro⟨s,a⟩ ⟨t,c⟩ h1 h2
  simp only[List.cons.injEq,V.t.injEq,T.int.injEq,true_and,and_true,Int.natCast_inj] at h1
  simp only[List.cons.injEq,and_true] at h2
  subst h1
  cases qPr h2
  exact⟨rfl,rfl⟩
theorem zY4 {c:Cd} {r:Nat} (h:qEi c∧1≤r∧r≤4):qYb.fs [.ref 0 0 0,.t (.int .i64 r)] [cdO c]=some (.t (imT (imG c r).1),[cdO (imG c r).2]):=qYb.eq (c,r) h
theorem jAa {i:Nat} (h:i<5):[V.t (zU (nmL 0)),V.t (zU (nmL 1)),V.t (zU (nmL 2)),V.t (zU (nmL 3)),V.t (zU (nmL 4))][i]?=some (.t (zU (nmL i))):=by
 rcases (show i=0∨i=1∨i=2∨i=3∨i=4 by omega) with rfl | rfl | rfl | rfl | rfl<;>rfl
theorem zMq {d:List UInt8} {j n:Nat} {x:UInt8} (h:d.length=j) (hj:j<n):(d++List.replicate (n-j) 0).set j x=d++[x]++List.replicate (n-(j+1)) 0:=by
 rw[List.set_append_right _ _ (by omega),h,Nat.sub_self,show n-j=(n-(j+1))+1 by omega,List.replicate_succ,List.set_cons_zero]
 simp
theorem qZ6 (tab:Tab) (gl:Gl) (n1 n2 n3:Nat) (h1:tab.look n1=some qYj.fs) (h2:tab.look n2=some qE2.fs) (h3:tab.look n3=some qYk.fs) (c:Cd) (r:Nat) (hc:qEi c) (hr:1≤r∧r≤4) :
  (vK n1 n2 n3).wp tab gl (qE 0 [.ref 0 0 0,.t (.int .i64 r)]) (qE 0 [qTd c]) (zZ [(4,some (4,true))] 1 (fun r' o=>r' = .t (imT (imG c r).1)∧o=[qTd (imG c r).2])):=by
 have hn0:=jAb
 obtain⟨i,bI,aI,eI,lI,okI,hI⟩:=nxF 5 hc (by omega) (by omega)
 obtain⟨v,bV,aV,eV,lV,okV,hV⟩:=nxF 5 okI (by omega) (by omega)
 obtain⟨w,bW,aW,eW,lW,okW,hW⟩:=nxF 9 okV (by omega) (by omega)
 obtain⟨bC,aC⟩:=c
 simp only[show ((5:Nat):Int)=5 from rfl,show ((9:Nat):Int)=9 from rfl] at hI hV hW
 have hg:=jAa lI
 by_cases w8:w=8
 ·subst w8
  obtain⟨j,bX,aX,eJ,lJ,okX,hJ⟩:=nxF 3 okW (by omega) (by omega)
  simp only[show ((3:Nat):Int)=3 from rfl,show ((8:Nat):Int)=8 from rfl] at hJ hW
  obtain⟨U,nV⟩ : ∃ U:Nat,(1000000:Int)-j=U:=⟨1000000-j,by omega⟩
  have hVr:vrG (bI,aI)=((U:Int),(bX,aX)):=by unfold vrG;rw[eV];simp only;rw[eW];simp only[↓reduceIte];rw[eJ,←nV]
  by_cases r4:r=4
  ·subst r4
   have hP:=zTe okX
   have okP:=qWe (k:=1+(nx (bX,aX) 4).1) (b:=[]) (qG2 (n:=4) okX)
   have eP:(plG (bX,aX) ((4:Nat):Int))=qU3 (bX,aX):=by unfold plG;exact if_pos rfl
   have eG:imG (bC,aC) ((4:Nat):Int)=((((4:Nat):Int),nmL i,((U:Int):Int),(qU3 (bX,aX)).1),(qU3 (bX,aX)).2):=by unfold imG;rw[eI,hVr,eP]
   rw[eG]
   generalize qU3 (bX,aX)=q at *
   obtain⟨L,bP,aP⟩:=q
   simp only[cdO] at hP
   simp (disch:=omega) only [go_sem,seval,vK,qN,qA0,h1,hn0,h2,hI,hV,hW,hg,hJ,nV,h3,hP]
   all_goals rfl
  ·have r4b:((r:Int)==4)=false:=by simpa using (by omega : ¬ (r:Int)=4)
   obtain⟨k,bK,aK,eK,lK,okK,hK⟩:=nxF 7 okX (by omega) (by omega)
   simp only[show ((7:Nat):Int)=7 from rfl] at hK
   have eP:(plG (bX,aX) (r:Int))=byN k (bK,aK) []:=by unfold plG;rw[if_neg (by omega),eK]
   have eG:imG (bC,aC) (r:Int)=(((r:Int),nmL i,((U:Int):Int),(byN k (bK,aK) []).1),(byN k (bK,aK) []).2):=by unfold imG;rw[eI,hVr,eP]
   rw[eG]
   generalize hP:byN k (bK,aK) []=P
   simp (disch:=omega) only [go_sem,seval,vK,qA0,h1,hn0,h2,hI,hV,hW,hg,hJ,nV,r4b,hK]
   repeat refine And.intro rfl ?_
   refine qEm (σ:=Nat×Cd×List UInt8) (fun s=>qEi s.2.1∧s.1≤k∧s.2.2.length=s.1∧byN (k-s.1) s.2.1 s.2.2=P) (fun s=>k-s.1)
    (fun s=>[(0,.ref 0 0 0),(4,.ref 4096 0 0),(5,.ref 8320 0 0),(6,.t (.int .i64 (s.1:Nat)))])
    (fun s=>[(32800,.live 1 (((s.2.2++List.replicate (k-s.1) 0).map qA).map V.t) true false),(8320,.live 4 [.agg [.t (.int .i64 (r:Int)),.t (zU (nmL i)),.t (.int .i64 (U:Int)),.sl 32800 0 k]] true true),(4096,.live 4 [.agg [.t (.int .i64 0),.t (zU []),.t (.int .i64 0),.nil]] true true),(0,cdO s.2.1)]) (0,(bK,aK),[]) ⟨okK,Nat.zero_le _,rfl,hP⟩ ?_ ?_
   ·refine qI.rd id ?_ ?_ rfl
    all_goals simp (disch:=omega) only [go_sem,seval,id,List.nil_append]
   ·rintro⟨j,⟨b1,a1⟩,d⟩ ⟨ok1,hj,hd,hp⟩
    simp only at ok1 hj hd hp ⊢
    by_cases hlt:j<k
    ·obtain⟨x,b2,a2,e2,l2,ok2,hX⟩:=nxF 256 ok1 (by omega) (by omega)
     simp only[show ((256:Nat):Int)=256 from rfl] at hX
     have hst:=zMq (x:=UInt8.ofNat x) (n:=k) hd hlt
     have hp':byN (k-(j+1)) (b2,a2) (d++[UInt8.ofNat x])=P:=by
      rw[show k-j=(k-(j+1))+1 by omega,byN,e2] at hp
      exact hp
     have hw:T.int .u8 (IntKind.u8.wrap (x:Int))=qA (UInt8.ofNat x):=by rw[zJn];rfl
     have hL:(d++List.replicate (k-j) 0).length=k:=by simp;omega
     generalize d++List.replicate (k-j) 0=D at *
     simp (disch:=omega) only [go_sem,seval,yK,h2,hX,hw,hL]
     repeat refine And.intro rfl ?_
     refine zCi.of (j+1,(b2,a2),d++[UInt8.ofNat x]) ⟨ok2,by simp only;omega,by simp;omega,hp'⟩ (by simp only;omega) (qI.rd id ?_ ?_ rfl)
     all_goals simp (disch:=omega) only [go_sem,seval,id,hst]
    ·have e:j=k:=by omega
     subst e
     rw[Nat.sub_self] at hp ⊢
     rw[←hp]
     have hb:byN 0 (b1,a1) d=(d,(b1,a1)):=rfl
     rw[hb]
     simp only[List.replicate_zero,List.append_nil]
     have ht:List.take j d=d:=List.take_of_length_le (by omega)
     simp (disch:=omega) only [go_sem,seval,yK,qN,qA0,hd,ht]
 ·have w8b:((w:Int)==8)=false:=by simpa using (by omega : ¬ (w:Int)=8)
  have hVr:vrG (bI,aI)=((v:Int),(bW,aW)):=by unfold vrG;rw[eV];simp only;rw[eW];simp only[if_neg w8]
  obtain⟨bX,hbX⟩ : ∃ b,b=bW:=⟨_,rfl⟩
  obtain⟨aX,haX⟩ : ∃ a,a=aW:=⟨_,rfl⟩
  rw[←hbX,←haX] at okW hW hVr
  have okX:=okW
  by_cases r4:r=4
  ·subst r4
   have hP:=zTe okX
   have okP:=qWe (k:=1+(nx (bX,aX) 4).1) (b:=[]) (qG2 (n:=4) okX)
   have eP:(plG (bX,aX) ((4:Nat):Int))=qU3 (bX,aX):=by unfold plG;exact if_pos rfl
   have eG:imG (bC,aC) ((4:Nat):Int)=((((4:Nat):Int),nmL i,((v:Int):Int),(qU3 (bX,aX)).1),(qU3 (bX,aX)).2):=by unfold imG;rw[eI,hVr,eP]
   rw[eG]
   generalize qU3 (bX,aX)=q at *
   obtain⟨L,bP,aP⟩:=q
   simp only[cdO] at hP
   simp (disch:=omega) only [go_sem,seval,vK,qN,qA0,h1,hn0,h2,hI,hV,hW,hg,w8b,h3,hP]
   all_goals rfl
  ·have r4b:((r:Int)==4)=false:=by simpa using (by omega : ¬ (r:Int)=4)
   obtain⟨k,bK,aK,eK,lK,okK,hK⟩:=nxF 7 okX (by omega) (by omega)
   simp only[show ((7:Nat):Int)=7 from rfl] at hK
   have eP:(plG (bX,aX) (r:Int))=byN k (bK,aK) []:=by unfold plG;rw[if_neg (by omega),eK]
   have eG:imG (bC,aC) (r:Int)=(((r:Int),nmL i,((v:Int):Int),(byN k (bK,aK) []).1),(byN k (bK,aK) []).2):=by unfold imG;rw[eI,hVr,eP]
   rw[eG]
   generalize hP:byN k (bK,aK) []=P
   simp (disch:=omega) only [go_sem,seval,vK,qA0,h1,hn0,h2,hI,hV,hW,hg,w8b,r4b,hK]
   repeat refine And.intro rfl ?_
   refine qEm (σ:=Nat×Cd×List UInt8) (fun s=>qEi s.2.1∧s.1≤k∧s.2.2.length=s.1∧byN (k-s.1) s.2.1 s.2.2=P) (fun s=>k-s.1)
    (fun s=>[(0,.ref 0 0 0),(4,.ref 4096 0 0),(5,.ref 8320 0 0),(6,.t (.int .i64 (s.1:Nat)))])
    (fun s=>[(32800,.live 1 (((s.2.2++List.replicate (k-s.1) 0).map qA).map V.t) true false),(8320,.live 4 [.agg [.t (.int .i64 (r:Int)),.t (zU (nmL i)),.t (.int .i64 (v:Int)),.sl 32800 0 k]] true true),(4096,.live 4 [.agg [.t (.int .i64 0),.t (zU []),.t (.int .i64 0),.nil]] true true),(0,cdO s.2.1)]) (0,(bK,aK),[]) ⟨okK,Nat.zero_le _,rfl,hP⟩ ?_ ?_
   ·refine qI.rd id ?_ ?_ rfl
    all_goals simp (disch:=omega) only [go_sem,seval,id,List.nil_append]
   ·rintro⟨j,⟨b1,a1⟩,d⟩ ⟨ok1,hj,hd,hp⟩
    simp only at ok1 hj hd hp ⊢
    by_cases hlt:j<k
    ·obtain⟨x,b2,a2,e2,l2,ok2,hX⟩:=nxF 256 ok1 (by omega) (by omega)
     simp only[show ((256:Nat):Int)=256 from rfl] at hX
     have hst:=zMq (x:=UInt8.ofNat x) (n:=k) hd hlt
     have hp':byN (k-(j+1)) (b2,a2) (d++[UInt8.ofNat x])=P:=by
      rw[show k-j=(k-(j+1))+1 by omega,byN,e2] at hp
      exact hp
     have hw:T.int .u8 (IntKind.u8.wrap (x:Int))=qA (UInt8.ofNat x):=by rw[zJn];rfl
     have hL:(d++List.replicate (k-j) 0).length=k:=by simp;omega
     generalize d++List.replicate (k-j) 0=D at *
     simp (disch:=omega) only [go_sem,seval,yK,h2,hX,hw,hL]
     repeat refine And.intro rfl ?_
     refine zCi.of (j+1,(b2,a2),d++[UInt8.ofNat x]) ⟨ok2,by simp only;omega,by simp;omega,hp'⟩ (by simp only;omega) (qI.rd id ?_ ?_ rfl)
     all_goals simp (disch:=omega) only [go_sem,seval,id,hst]
    ·have e:j=k:=by omega
     subst e
     rw[Nat.sub_self] at hp ⊢
     rw[←hp]
     have hb:byN 0 (b1,a1) d=(d,(b1,a1)):=rfl
     rw[hb]
     simp only[List.replicate_zero,List.append_nil]
     have ht:List.take j d=d:=List.take_of_length_le (by omega)
     simp (disch:=omega) only [go_sem,seval,yK,qN,qA0,hd,ht]
end Go.Eng
end
section
namespace Go.Eng
def yX:AC:=
 (.seq
 (.seq
 (rG 61440 [mv 34 9,mv 35 4,oO 36 .len [.tmp 35],bT 37 .lss 34 36])
 (.cond (.tmp 37)
 .skip
 (.exit 4)))
 (.seq
 (.block 5
 (.reg 69632 (some [0,1,3,3,15,31,63,3,131,511,1023,2047,2047,8191,16383,32767,2047,67583,262143,524287,1048575,2097151]) [mv 40 8,mv 41 40,mF 42 4 41,mF 43 9 41,oF 44 41 (.iaddr 4) [.tmp 42,.tmp 43],oF 45 41 (.faddr 0) [.tmp 44],oF 46 41 (.load 1 false) [.tmp 45],oF 47 41 (.faddr 0) [.tmp 7],oF 48 41 (.load 1 false) [.tmp 47],oF 49 41 (.bin .eql) [.tmp 46,.tmp 48],mF 50 49 41,mG 51 4 50,mG 52 9 50,oG 53 50 (.iaddr 4) [.tmp 51,.tmp 52],oG 54 50 (.faddr 1) [.tmp 53],oG 55 50 (.load 1 false) [.tmp 54],oG 56 50 (.faddr 1) [.tmp 7],oG 57 50 (.load 1 false) [.tmp 56],oG 58 50 (.bin .eql) [.tmp 55,.tmp 57],oF 59 41 .pick [.tmp 50,.tmp 58,.cst (.t (.bool false))],oO 60 .pick [.tmp 41,.cst (.t (.bool true)),.tmp 59],mv 8 60]))
 (rG 65536 [mv 38 9,bN 39 .add 38 1,mv 9 39])))
def xV (n_draw_Codes_Image:Nat):AC:=
 (.seq
 (.seq
 (rG 40960 [mv 27 6,bN 28 .gtr 27 0])
 (.cond (.tmp 28)
 .skip
 (.exit 2)))
 (.seq
 (.block 3
 (.seq
 (rG 49152 [mv 31 3,mv 32 5,cL 33 n_draw_Codes_Image true [.tmp 31,.tmp 32],oO 7 (.new 4 [(.agg [(.t (.int .i64 0)),(.t (zU [])),(.t (.int .i64 0)),.nil])]) [],oS 4 7 33])
 (.seq
 (rG 53248 [mC 8 (.t (.bool false))])
 (.seq
 (.seq
 (rG 57344 [mC 9 (.t (.int .i64 0))])
 (.block 4
 (.loop yX)))
 (.seq
 (rG 73728 [mv 61 8,oO 62 (.un .not) [.tmp 61]])
 (.cond (.tmp 62)
 (rG 77824 [mv 63 4,oO 64 (.load 4 true) [.tmp 7],oO 65 (.bslice 4 1 (.agg [(.t (.int .i64 0)),(.t (zU [])),(.t (.int .i64 0)),.nil]) [0]) [.tmp 64],oO 66 (.append 4 56) [.tmp 63,.tmp 65],mv 4 66])
 .skip))))))
 (rG 45056 [mv 29 6,bN 30 .sub 29 1,mv 6 30])))
def wR (n_draw_Codes_Next n_draw_Codes_Image:Nat):AC:=
 (.seq
 (.seq
 (rG 20480 [mv 12 5,bN 13 .leq 12 4])
 (.cond (.tmp 13)
 .skip
 (.exit 0)))
 (.seq
 (.block 1
 (.seq
 (rG 28672 [mv 16 3,cL 17 n_draw_Codes_Next true [.tmp 16,.cst (.t (.int .i64 3))],mv 6 17])
 (.seq
 (.seq
 (rG 32768 [mv 18 5,bN 19 .eql 18 1,mv 20 19,mF 21 5 20,oF 22 20 (.bin .eql) [.tmp 21,.cst (.t (.int .i64 3))],oO 23 .pick [.tmp 20,.cst (.t (.bool true)),.tmp 22]])
 (.cond (.tmp 23)
 (rG 36864 [mv 24 3,cL 25 n_draw_Codes_Next true [.tmp 24,.cst (.t (.int .i64 2))],oO 26 (.bin .add) [.cst (.t (.int .i64 1)),.tmp 25],mv 6 26])
 .skip))
 (.block 2
 (.loop (xV n_draw_Codes_Image))))))
 (rG 24576 [mv 14 5,bN 15 .add 14 1,mv 5 15])))
def qK3 (n_draw_New n_draw_Codes_Next n_draw_Codes_Image:Nat):AC:=
 (.seq
 (rG 4096 [mC 2 .nil])
 (.seq
 (rG 8192 [mv 10 0,cL 11 n_draw_New true [.tmp 10,.cst (.t (.int .i64 200))],mv 3 11])
 (.seq
 (rG 12288 [mC 4 .nil])
 (.seq
 (.seq
 (rG 16384 [mC 5 (.t (.int .i64 1))])
 (.block 0
 (.loop (wR n_draw_Codes_Next n_draw_Codes_Image))))
 (.seq
 (rG 81920 [mv 67 4,mv 2 67])
 .ret)))))
def zX:AC:=
 (.seq
 (.seq
 (rG 57344 [mv 46 7,mv 47 5,bT 48 .lss 46 47])
 (.cond (.tmp 48)
 .skip
 (.exit 2)))
 (.seq
 (.block 3
 (.seq
 (.reg 65536 (some [0,0,3,7,15,0,0,96,224,480,1023,2047,4095,4095,16383,32767,65535,4095,4095,397311,921599,1970175,4194303,8388607]) [mv 51 0,mv 52 7,oO 53 (.iaddr 4) [.tmp 51,.tmp 52],oO 54 (.faddr 0) [.tmp 53],oO 55 (.load 1 false) [.tmp 54],mv 56 0,mv 57 5,oO 58 (.iaddr 4) [.tmp 56,.tmp 57],oO 59 (.faddr 0) [.tmp 58],oO 60 (.load 1 false) [.tmp 59],bT 61 .eql 55 60,mv 62 61,mG 63 0 62,mG 64 7 62,oG 65 62 (.iaddr 4) [.tmp 63,.tmp 64],oG 66 62 (.faddr 1) [.tmp 65],oG 67 62 (.load 1 false) [.tmp 66],mG 68 0 62,mG 69 5 62,oG 70 62 (.iaddr 4) [.tmp 68,.tmp 69],oG 71 62 (.faddr 1) [.tmp 70],oG 72 62 (.load 1 false) [.tmp 71],oG 73 62 (.bin .eql) [.tmp 67,.tmp 72],oO 74 .pick [.tmp 62,.tmp 73,.cst (.t (.bool false))]])
 (.cond (.tmp 74)
 (.seq
 (rG 69632 [mC 2 (.t (.int .i64 42))])
 .ret)
 .skip)))
 (rG 61440 [mv 49 7,bN 50 .add 49 1,mv 7 50])))
def vG (n_ref25_Image:Nat):AC:=
 (.seq
 (.seq
 (rG 24576 [mv 16 5,mv 17 0,oO 18 .len [.tmp 17],bT 19 .lss 16 18])
 (.cond (.tmp 19)
 .skip
 (.exit 0)))
 (.seq
 (.block 1
 (.seq
 (.seq
 (rG 32768 [mv 22 0,mv 23 5,oO 24 (.iaddr 4) [.tmp 22,.tmp 23],oO 25 (.load 4 true) [.tmp 24],cL 26 n_ref25_Image false [.tmp 25],mv 6 26])
 (.seq
 (rG 36864 [mv 27 6,bN 28 .neq 27 0])
 (.cond (.tmp 28)
 (.seq
 (rG 40960 [mv 29 6,mv 2 29])
 .ret)
 .skip)))
 (.seq
 (.seq
 (.reg 45056 (some [0,1,3,7,7,31,63,127,7,7,519,1799,3847,7943,16383,32767]) [mv 30 5,bN 31 .gtr 30 0,mv 32 31,mG 33 0 32,mG 34 5 32,oG 35 32 (.iaddr 4) [.tmp 33,.tmp 34],oG 36 32 (.faddr 0) [.tmp 35],oG 37 32 (.load 1 false) [.tmp 36],mG 38 0 32,mG 39 5 32,oG 40 32 (.bin .sub) [.tmp 39,.cst (.t (.int .i64 1))],oG 41 32 (.iaddr 4) [.tmp 38,.tmp 40],oG 42 32 (.faddr 0) [.tmp 41],oG 43 32 (.load 1 false) [.tmp 42],oG 44 32 (.bin .lss) [.tmp 37,.tmp 43],oO 45 .pick [.tmp 32,.tmp 44,.cst (.t (.bool false))]])
 (.cond (.tmp 45)
 (.seq
 (rG 49152 [mC 2 (.t (.int .i64 41))])
 .ret)
 .skip))
 (.seq
 (.seq
 (rG 53248 [mC 7 (.t (.int .i64 0))])
 (.block 2
 (.loop zX)))
 (.seq
 (rG 73728 [mv 75 3,mv 76 75,mF 77 0 76,mF 78 5 76,oF 79 76 (.iaddr 4) [.tmp 77,.tmp 78],oF 80 76 (.faddr 0) [.tmp 79],oF 81 76 (.load 1 false) [.tmp 80],oF 82 76 (.bin .eql) [.tmp 81,.cst (.t (.int .i64 1))],oO 83 .pick [.tmp 76,.cst (.t (.bool true)),.tmp 82],mv 3 83])
 (rG 77824 [mv 84 4,mv 85 84,mF 86 0 85,mF 87 5 85,oF 88 85 (.iaddr 4) [.tmp 86,.tmp 87],oF 89 85 (.faddr 0) [.tmp 88],oF 90 85 (.load 1 false) [.tmp 89],oF 91 85 (.bin .eql) [.tmp 90,.cst (.t (.int .i64 3))],oO 92 .pick [.tmp 85,.cst (.t (.bool true)),.tmp 91],mv 4 92]))))))
 (rG 28672 [mv 20 5,bN 21 .add 20 1,mv 5 21])))
def qBt (n_ref25_Image:Nat):AC:=
 (.seq
 (rG 4096 [mC 2 (.t (.int .i64 0))])
 (.seq
 (.seq
 (rG 8192 [mv 8 0,oO 9 .len [.tmp 8],bN 10 .eql 9 0,mv 11 10,mF 12 0 11,oF 13 11 .len [.tmp 12],oF 14 11 (.bin .gtr) [.tmp 13,.cst (.t (.int .i64 8))],oO 15 .pick [.tmp 11,.cst (.t (.bool true)),.tmp 14]])
 (.cond (.tmp 15)
 (.seq
 (rG 12288 [mC 2 (.t (.int .i64 1))])
 .ret)
 .skip))
 (.seq
 (rG 16384 [mC 3 (.t (.bool false)),mC 4 (.t (.bool false))])
 (.seq
 (.seq
 (rG 20480 [mC 5 (.t (.int .i64 0))])
 (.block 0
 (.loop (vG n_ref25_Image))))
 (.seq
 (.seq
 (rG 81920 [mv 93 3,oO 94 (.un .not) [.tmp 93],mv 95 94,mF 96 4 95,oF 97 95 (.un .not) [.tmp 96],oO 98 .pick [.tmp 95,.cst (.t (.bool true)),.tmp 97]])
 (.cond (.tmp 98)
 (.seq
 (rG 86016 [mC 2 (.t (.int .i64 40))])
 .ret)
 .skip))
 (.seq
 (rG 90112 [mC 2 (.t (.int .i64 0))])
 .ret))))))
def qAw (n_ref25_Separator n_ref25_Make:Nat):AC:=
 (.seq
 (.seq
 (rG 40960 [mv 28 7,bN 29 .lss 28 8])
 (.cond (.tmp 29)
 .skip
 (.exit 2)))
 (.seq
 (.block 3
 (rG 49152 [mv 32 5,mv 33 7,mv 34 1,cL 35 n_ref25_Separator false [],cL 36 n_ref25_Make true [.tmp 33,.cst (.t (.int .i64 2)),.tmp 34,.tmp 35],oO 37 (.bslice 4 1 (.agg [(.t (.int .i64 0)),(.t (.int .i64 0)),.nil,.nil]) [0]) [.tmp 36],oO 38 (.append 4 64) [.tmp 32,.tmp 37],mv 5 38]))
 (rG 45056 [mv 30 7,bN 31 .add 30 1,mv 7 31])))
def qAx (n_ref25_Make:Nat):AC:=
 (.seq
 (.seq
 (rG 86016 [mv 68 10,mv 69 9,oO 70 .len [.tmp 69],bT 71 .lss 68 70])
 (.cond (.tmp 71)
 .skip
 (.exit 6)))
 (.seq
 (.block 7
 (rG 94208 [mv 74 5,mv 75 1,mv 76 9,mv 77 10,oO 78 (.iaddr 1) [.tmp 76,.tmp 77],oO 79 (.load 1 false) [.tmp 78],cL 80 n_ref25_Make true [.cst (.t (.int .i64 9)),.cst (.t (.int .i64 3)),.tmp 75,.tmp 79],oO 81 (.bslice 4 1 (.agg [(.t (.int .i64 0)),(.t (.int .i64 0)),.nil,.nil]) [0]) [.tmp 80],oO 82 (.append 4 64) [.tmp 74,.tmp 81],mv 5 82]))
 (rG 90112 [mv 72 10,bN 73 .add 72 1,mv 10 73])))
def yT (n_ref25_OfImage n_ref25_Lines n_ref25_Make:Nat):AC:=
 (.seq
 (.seq
 (rG 57344 [mv 39 8,mv 40 0,oO 41 .len [.tmp 40],bT 42 .lss 39 41])
 (.cond (.tmp 42)
 .skip
 (.exit 4)))
 (.seq
 (.block 5
 (.seq
 (.seq
 (rG 65536 [mv 45 0,mv 46 8,oO 47 (.iaddr 4) [.tmp 45,.tmp 46],oO 48 (.faddr 0) [.tmp 47],oO 49 (.load 1 false) [.tmp 48],mv 50 6,bT 51 .neq 49 50])
 (.cond (.tmp 51)
 (.exit 5)
 .skip))
 (.seq
 (.seq
 (rG 69632 [mv 52 6,bN 53 .neq 52 4])
 (.cond (.tmp 53)
 (.seq
 (rG 73728 [mv 54 5,mv 55 0,mv 56 8,oO 57 (.iaddr 4) [.tmp 55,.tmp 56],oO 58 (.load 4 true) [.tmp 57],mv 59 1,cL 60 n_ref25_OfImage true [.tmp 58,.tmp 59],oO 61 (.bslice 4 1 (.agg [(.t (.int .i64 0)),(.t (.int .i64 0)),.nil,.nil]) [0]) [.tmp 60],oO 62 (.append 4 64) [.tmp 54,.tmp 61],mv 5 62])
 (.exit 5))
 .skip))
 (.seq
 (rG 77824 [mv 63 0,mv 64 8,oO 65 (.iaddr 4) [.tmp 63,.tmp 64],oO 66 (.load 4 true) [.tmp 65],cL 67 n_ref25_Lines true [.tmp 66],mv 9 67])
 (.seq
 (rG 81920 [mC 10 (.t (.int .i64 0))])
 (.block 6
 (.loop (qAx n_ref25_Make))))))))
 (rG 61440 [mv 43 8,bN 44 .add 43 1,mv 8 44])))
def yS (n_ref25_Separator n_ref25_Make n_ref25_OfImage n_ref25_Lines:Nat):AC:=
 (.seq
 (.seq
 (rG 24576 [mv 22 6,bN 23 .leq 22 4])
 (.cond (.tmp 23)
 .skip
 (.exit 0)))
 (.seq
 (.block 1
 (.seq
 (.seq
 (rG 32768 [mv 26 6,bN 27 .eql 26 3])
 (.cond (.tmp 27)
 (.seq
 (rG 36864 [mC 7 (.t (.int .i64 0))])
 (.block 2
 (.loop (qAw n_ref25_Separator n_ref25_Make))))
 .skip))
 (.seq
 (rG 53248 [mC 8 (.t (.int .i64 0))])
 (.block 4
 (.loop (yT n_ref25_OfImage n_ref25_Lines n_ref25_Make))))))
 (rG 28672 [mv 24 6,bN 25 .add 24 1,mv 6 25])))
def kP (n_ref25_Chain n_ref25_Separator n_ref25_Make n_ref25_OfImage n_ref25_Lines:Nat):AC:=
 (.seq
 (rG 4096 [mC 4 .nil])
 (.seq
 (.seq
 (rG 8192 [mv 11 0,cL 12 n_ref25_Chain false [.tmp 11],bN 13 .neq 12 0,mv 14 13,mF 15 1 14,oF 16 14 (.bin .lss) [.tmp 15,.cst (.t (.int .i64 1))],oO 17 .pick [.tmp 14,.cst (.t (.bool true)),.tmp 16],mv 18 17,mF 19 1 18,oF 20 18 (.bin .gtr) [.tmp 19,.cst (.t (.int .i64 3))],oO 21 .pick [.tmp 18,.cst (.t (.bool true)),.tmp 20]])
 (.cond (.tmp 21)
 (.seq
 (rG 12288 [mC 4 .nil])
 .ret)
 .skip))
 (.seq
 (rG 16384 [mC 5 .nil])
 (.seq
 (.seq
 (rG 20480 [mC 6 (.t (.int .i64 1))])
 (.block 0
 (.loop (yS n_ref25_Separator n_ref25_Make n_ref25_OfImage n_ref25_Lines))))
 (.seq
 (rG 98304 [mv 83 5,mv 4 83])
 .ret)))))
end Go.Eng
end
section
set_option maxRecDepth 20000
set_option maxHeartbeats 64000000
namespace Go.Eng
theorem zLc {l:List Im} {a v:Int} {s p:List UInt8}:List.map imT (l++[(a,s,v,p)])=List.map imT l++[.agg [.int .i64 a,zU s,.int .i64 v,.sl (p.map qA)]]:=by simp[qN]
def chT:Nat→Int→List Im×Cd→List Im×Cd
 | 0,_,s=>s
 | k+1,r,s=>chT k (r+1) (chR r s)
theorem jDh {b:List UInt8}:chG b=(chT 4 1 ([],(b.take 200,0))).1:=rfl
def qQy:Ct where
 α:=List UInt8
 as x:=[.t (.sl (x.map qA))]
 ins _:=[]
 pre x:=x.length≤9223372036854775807
 r x:= .t (.sl ((chG x).map imT))
 outs _:=[]
 inj:=by
  intro a b h _
  simp only[List.cons.injEq,V.t.injEq,T.sl.injEq,and_true,qZ] at h
  subst h;exact⟨rfl,rfl⟩
theorem zEs {b:List UInt8} (h:b.length≤9223372036854775807):qQy.fs [.t (.sl (b.map qA))] []=some (.t (.sl ((chG b).map imT)),[]):=qQy.eq b h
theorem qV4 {l:List Im} {x y:Im} {i:Nat} (h:l[i]?=some y):isD (l.take (i+1)) x=(isD (l.take i) x||(decide (y.1=x.1)&&decide (y.2.1=x.2.1))):=by
 unfold isD
 rw[List.take_add_one,h,List.any_append];simp
theorem qZ5 (tab:Tab) (gl:Gl) (n1 n2 n3:Nat) (h1:tab.look n1=some qJ6.fs) (h2:tab.look n2=some qE2.fs) (h3:tab.look n3=some qYb.fs) (b:List UInt8) (hb:b.length≤9223372036854775807) :
  (qK3 n1 n2 n3).wp tab gl (qE 0 [.t (.sl (b.map qA))]) (qE 0 []) (zZ [(2,none)] 0 (fun r o=>r = .t (.sl ((chG b).map imT))∧o=[])):=by
 have hN:qJ6.fs [.t (.sl (b.map qA)),.t (.int .i64 200)] []=_:=zJv (b:=b) (n:=200) ⟨hb,by omega⟩
 have okN:qEi (b.take 200,0):=⟨Nat.zero_le _,by simp only[List.length_take];omega⟩
 rw[jDh]
 simp only[cdO,Int.natCast_zero] at hN
 generalize b.take 200=b0 at *
 generalize hP:chT 4 1 ([],(b0,0))=P
 simp (disch:=omega) only [go_sem,seval,qK3,h1,hN]
 refine qEm (σ:=Nat×List Im×Cd) (fun s=>qEi s.2.2∧s.1≤4∧s.2.1.length≤2*(4-s.1)∧chT s.1 (5-s.1:Nat) s.2=P) (fun s=>s.1)
  (fun s=>[(3,.ref 8208 0 0),(4,.sl 9000 0 s.2.1.length),(5,.t (.int .i64 (5-s.1:Nat)))]) (fun s=>[(9000,.live 4 ((s.2.1.map imT).map V.t) true false),(8208,cdO s.2.2)]) (4,[],(b0,0)) ⟨okN,by simp,by simp,hP⟩ ?_ ?_
 ·refine qI.cv0 (hv:=[(9000,.live 4 [] true false)]) (ho:=[(8208,cdO (b0,0))]) id ?_ ?_ rfl rfl
  all_goals simp (disch:=omega) only [go_sem,seval,id,Nat.reduceSub]
 ·rintro⟨k,l,⟨b1,a1⟩⟩ ⟨ok1,hk,hl,hp⟩
  simp only at ok1 hk hl hp ⊢
  cases k with
  | zero=>
   rw[←hp]
   simp (disch:=omega) only [go_sem,seval,wR,chT,List.take_length]
  | succ k=>
   obtain⟨r,hr⟩ : ∃ r:Nat,5-(k+1)=r:=⟨_,rfl⟩
   rw[hr] at hp ⊢
   have r4:1≤r∧r≤4:=by omega
   obtain⟨i3,b2,a2,e3,l3,ok2,hX3⟩:=nxF 3 ok1 (by omega) (by omega)
   simp only[show ((3:Nat):Int)=3 from rfl] at hX3
   have main : ∀ (m:Nat) (b3:List UInt8) (a3:Nat) (fs:Fs) (hs:Hs),qEi (b3,a3)→m≤2→chK (b1,a1) (r:Int)=(m,(b3,a3))→qI fs hs [(3,.ref 8208 0 0),(4,.sl 9000 0 l.length),(5,.t (.int .i64 r)),(6,.t (.int .i64 m))] [(9000,.live 4 ((l.map imT).map V.t) true false),(8208,cdO (b3,a3))]→
     qIv tab gl (xV n3) fs hs (qFe 2 (qFe 1 (zMl tab gl (rG 24576 [mv 14 5,bN 15 .add 14 1,mv 5 15]) (zZm (fun s:Nat×List Im×Cd=>qEi s.2.2∧s.1≤4∧s.2.1.length≤2*(4-s.1)∧chT s.1 (5-s.1:Nat) s.2=P) (fun s=>s.1)
  (fun s=>[(3,.ref 8208 0 0),(4,.sl 9000 0 s.2.1.length),(5,.t (.int .i64 (5-s.1:Nat)))]) (fun s=>[(9000,.live 4 ((s.2.1.map imT).map V.t) true false),(8208,cdO s.2.2)]) (k+1,l,(b1,a1)) (qFe 0 (zMl tab gl ((rG 81920 [mv 67 4,mv 2 67]).seq AC.ret) (zZ [(2,none)] 0 (fun r o=>r = .t (.sl (P.1.map imT))∧o=[])))))))):=by
    intro m b3 a3 fs hs ok3 hm hck hw
    refine jQ hw ?_
    have hT:chT k ((5-k:Nat):Int) (chN m (b3,a3) r l)=P:=by
     have:chT (k+1) (r:Int) (l,(b1,a1))=chT k ((r:Int)+1) (chR r (l,(b1,a1))):=rfl
     rw[this] at hp
     unfold chR at hp
     simp only at hp
     rw[hck] at hp
     rw[show ((5-k:Nat):Int)=(r:Int)+1 by omega]
     exact hp
    generalize hQ:chN m (b3,a3) r l=Q at *
    refine qEm (σ:=Nat×Cd×List Im) (fun s=>qEi s.2.1∧s.2.2.length+s.1≤8∧s.2.2.length+s.1≤l.length+m∧chN s.1 s.2.1 r s.2.2=Q) (fun s=>s.1)
     (fun s=>[(3,.ref 8208 0 0),(4,.sl 9000 0 s.2.2.length),(5,.t (.int .i64 r)),(6,.t (.int .i64 (s.1:Nat)))]) (fun s=>[(9000,.live 4 ((s.2.2.map imT).map V.t) true false),(8208,cdO s.2.1)]) (m,(b3,a3),l) ⟨ok3,by simp only;omega,Nat.le_refl _,hQ⟩ qI.refl ?_
    rintro⟨j,⟨b4,a4⟩,l4⟩ ⟨ok4,hj,hj2,hq⟩
    simp only at ok4 hj hj2 hq ⊢
    cases j with
    | zero=>
     have hq':Q=(l4,(b4,a4)):=hq.symm
     rw[hq'] at hT
     simp (disch:=omega) only [go_sem,seval,xV]
     refine zCi.of (k,l4,(b4,a4)) ⟨ok4,by simp only;omega,by simp only;omega,hT⟩ (by simp) (qI.rd id ?_ ?_ rfl)
     all_goals simp (disch:=omega) only [go_sem,seval,id,show ((5-k:Nat):Int)=(r:Int)+1 by omega]
    | succ j=>
     have hD:=zY4 (c:=(b4,a4)) (r:=r) ⟨ok4,r4⟩
     have lok:=zKx (r:=(r:Int)) ok4
     have hq':chN j (imG (b4,a4) r).2 r (if isD l4 (imG (b4,a4) r).1 then l4 else l4++[(imG (b4,a4) r).1])=Q:=hq
     generalize imG (b4,a4) (r:Int)=w at *
     obtain⟨⟨xa,xs,xv,xp⟩,b5,a5⟩:=w
     simp only[cdO] at *
     have hkk:((j+1:Nat):Int)-1=j:=by omega
     simp (disch:=omega) only [go_sem,seval,xV,qN,h3,hD]
     refine qD l4.length (fun i=>[(3,.ref 8208 0 0),(4,.sl 9000 0 l4.length),(5,.t (.int .i64 r)),(6,.t (.int .i64 ((j+1:Nat):Int))),(7,.ref 49200 0 0),(8,.t (.bool (isD (l4.take i) (xa,xs,xv,xp)))),(9,.t (.int .i64 (i:Nat)))])
      (fun _=>[(49200,.live 4 [.t (imT (xa,xs,xv,xp))] true true),(9000,.live 4 ((l4.map imT).map V.t) true false),(8208,.live 2 [.t (.agg [.sl (b5.map qA),.int .i64 (a5:Int)])] true true)]) ?_ (fun i hi=>?_)
     ·have h0:isD [] (xa,xs,xv,xp)=false:=rfl
      refine qI.rd id ?_ ?_ rfl
      all_goals simp (disch:=omega) only [go_sem,seval,id,qN,h0,List.take_zero]
     ·by_cases hlt:i<l4.length
      ·obtain⟨⟨ya,ys,yv,yp⟩,hy⟩ : ∃ y,l4[i]?=some y:=⟨l4[i],by simp[hlt]⟩
       have hst:=qV4 (x:=(xa,xs,xv,xp)) hy
       simp only at hst
       cases hb0:isD (l4.take i) (xa,xs,xv,xp)
       ·rw[hb0,Bool.false_or] at hst
        by_cases q1:ya=xa
        ·subst q1
         by_cases q2:ys=xs
         ·subst q2
          rw[decide_eq_true rfl,decide_eq_true rfl] at hst
          simp (disch:=omega) only [go_sem,seval,yX,qN,hy,hb0,beq_self_eq_true]
          repeat refine And.intro rfl ?_
          refine⟨hlt,qI.rd id ?_ ?_ rfl⟩
          all_goals simp (disch:=omega) only [go_sem,seval,id,hst,qN]
         ·rw[decide_eq_true rfl,decide_eq_false q2] at hst
          have q2b:decide (ys=xs)=false:=decide_eq_false q2
          simp (disch:=omega) only [go_sem,seval,yX,qN,hy,hb0,beq_self_eq_true,q2b]
          repeat refine And.intro rfl ?_
          refine⟨hlt,qI.rd id ?_ ?_ rfl⟩
          all_goals simp (disch:=omega) only [go_sem,seval,id,hst,qN]
        ·rw[decide_eq_false q1,Bool.false_and] at hst
         have q1b:(ya==xa)=false:=by simpa using q1
         simp (disch:=omega) only [go_sem,seval,yX,qN,hy,hb0,q1b]
         repeat refine And.intro rfl ?_
         refine⟨hlt,qI.rd id ?_ ?_ rfl⟩
         all_goals simp (disch:=omega) only [go_sem,seval,id,hst,qN]
       ·rw[hb0,Bool.true_or] at hst
        simp (disch:=omega) only [go_sem,seval,yX,qN,hy,hb0]
        repeat refine And.intro rfl ?_
        refine⟨hlt,qI.rd id ?_ ?_ rfl⟩
        all_goals simp (disch:=omega) only [go_sem,seval,id,hst,qN]
      ·have e:i=l4.length:=by omega
       subst e
       rw[List.take_length]
       cases hb0:isD l4 (xa,xs,xv,xp)
       ·rw[hb0,if_neg (by decide)] at hq'
        simp (disch:=omega) only [go_sem,seval,yX,hb0,hkk,qN]
        refine zCi.of (j,(b5,a5),l4++[(xa,xs,xv,xp)]) ⟨lok,by simp;omega,by simp;omega,hq'⟩ (by simp) (qI.rd (fun j=>if j=9000 then 77872 else j) ?_ ?_ rfl)
        all_goals simp (disch:=omega) only [go_sem,seval,id,qN,zLc]
       ·rw[hb0,if_pos rfl] at hq'
        simp (disch:=omega) only [go_sem,seval,yX,hb0,hkk]
        refine zCi.of (j,(b5,a5),l4) ⟨lok,by simp only;omega,by simp only;omega,hq'⟩ (by simp) (qI.rd id ?_ ?_ rfl)
        all_goals simp (disch:=omega) only [go_sem,seval,id]
   by_cases hr13:r=1∨r=3
   ·obtain⟨i2,b3,a3,e2,l2,ok3,hX2⟩:=nxF 2 ok2 (by omega) (by omega)
    simp only[show ((2:Nat):Int)=2 from rfl] at hX2
    have hck:chK (b1,a1) (r:Int)=(1+i2,(b3,a3)):=by
     unfold chK
     rw[if_pos (by omega),e3]
     simp only
     rw[e2]
    rcases hr13 with rfl | rfl
    ·simp (disch:=omega) only [go_sem,seval,wR,h2,hX3,hX2]
     refine main (1+i2) b3 a3 _ _ ok3 (by omega) hck (qI.rd id ?_ ?_ rfl)
     all_goals simp (disch:=omega) only [go_sem,seval,id]
    ·simp (disch:=omega) only [go_sem,seval,wR,h2,hX3,hX2]
     refine main (1+i2) b3 a3 _ _ ok3 (by omega) hck (qI.rd id ?_ ?_ rfl)
     all_goals simp (disch:=omega) only [go_sem,seval,id]
   ·have hck:chK (b1,a1) (r:Int)=(i3,(b2,a2)):=by
     unfold chK
     rw[if_neg (by omega),e3]
    have q1:((r:Int)==1)=false:=by simpa using (by omega : ¬ (r:Int)=1)
    have q3:((r:Int)==3)=false:=by simpa using (by omega : ¬ (r:Int)=3)
    have rle:(r:Int)≤4:=by omega
    simp (disch:=omega) only [go_sem,seval,wR,h2,hX3,q1,q3,rle]
    refine main i3 b2 a2 _ _ ok2 (by omega) hck (qI.rd id ?_ ?_ rfl)
    all_goals simp (disch:=omega) only [go_sem,seval,id]
theorem qPv {l m:List Im}:(l.map imT=m.map imT)=(l=m):=propext ⟨kJ (fun _ _=>qF8),fun h=>by rw[h]⟩
def zIp (l:List Im):Prop:=l.length≤9223372036854775807 ∧ ∀ x∈l,imM x
def qHq:Ct where
 α:=List Im
 as x:=[.t (.sl (x.map imT))]
 ins _:=[]
 pre x:=qKe x
 r x:= .t (.int .i64 (qGr x))
 outs _:=[]
 inj:=by
  intro a b h _
  simp only[List.cons.injEq,V.t.injEq,T.sl.injEq,and_true,qPv] at h
  subst h;exact⟨rfl,rfl⟩
theorem zIp.x {l:List Im} (h:zIp l):qKe l:=⟨h.1,fun x hx=>(h.2 x hx).x⟩
theorem zBr {l:List Im} (h:qKe l):qHq.fs [.t (.sl (l.map imT))] []=some (.t (.int .i64 (qGr l)),[]):=qHq.eq l h
theorem zSm {l:List Im} (h:zIp l):qHq.fs [.t (.sl (l.map imT))] []=some (.t (.int .i64 (qGr l)),[]):=zBr h.x
theorem zZs {l:List Im} {y d:Im} {i:Nat} (h:l[i]?=some y):(l.take (i+1)).getLastD d=y:=by
 rw[List.take_add_one,h];simp
theorem zS2 {l:List Im} {x y:Im} {k i:Nat} (h:l[k]?=some y) (hk:k<i) (h1:y.1=x.1) (h2:y.2.1=x.2.1):isD (l.take i) x=true:=by
 unfold isD
 refine List.any_eq_true.2 ⟨y,?_,by simp[h1,h2]⟩
 refine List.mem_of_getElem? (i:=k) ?_
 rw[List.getElem?_take,if_pos hk,h]
theorem qIg {l:List Im} {y:Im} {i:Nat} {p:Im→Bool} (h:l[i]?=some y):(l.take (i+1)).any p=((l.take i).any p||p y):=by
 rw[List.take_add_one,h,List.any_append];simp
theorem qXc (tab:Tab) (gl:Gl) (n1:Nat) (h1:tab.look n1=some qFh.fs) (l:List Im) (hm:qKe l) :
  (qBt n1).wp tab gl (qE 0 [.t (.sl (l.map imT))]) (qE 0 []) (zZ [(2,none)] 0 (fun r o=>r = .t (.int .i64 (qGr l))∧o=[])):=by
 have hlm:=hm.1
 by_cases c0:l.length=0
 ·have hr:qGr l=1:=if_pos (.inl c0)
  rw[hr]
  simp (disch:=omega) only [go_sem,seval,qBt,c0]
 have c0b:((l.length:Int)==0)=false:=by simpa using (by omega : ¬ (l.length:Int)=0)
 by_cases c8:8<l.length
 ·have hr:qGr l=1:=if_pos (.inr c8)
  rw[hr]
  simp (disch:=omega) only [go_sem,seval,qBt,c0b,c8]
 have hr:qGr l=chF [] l:=if_neg (by omega)
 rw[hr]
 simp (disch:=omega) only [go_sem,seval,qBt,c0b,c8]
 refine yO l.length (fun i=>chF (l.take i) (l.drop i)=chF [] l) (fun i=>[(0,.t (.sl (l.map imT))),(3,.t (.bool ((l.take i).any (fun y=>decide (y.1=1))))),(4,.t (.bool ((l.take i).any (fun y=>decide (y.1=3))))),(5,.t (.int .i64 (i:Nat)))]) (fun _=>[]) rfl ?_ (fun i hi hE=>?_)
 ·refine qI.rd id ?_ ?_ rfl
  all_goals simp (disch:=omega) only [go_sem,seval,id,List.take_zero,List.any_nil]
 ·by_cases hlt:i<l.length
  ·obtain⟨⟨xa,xs,xv,xp⟩,hx⟩ : ∃ x,l[i]?=some x:=⟨l[i],by simp[hlt]⟩
   have hd:l.drop i=(xa,xs,xv,xp)::l.drop (i+1):=by
    rw[List.drop_eq_getElem_cons hlt]
    have:=(List.getElem?_eq_some_iff.1 hx).2
    rw[this]
   have hxm:imX (xa,xs,xv,xp):=hm.2 _ (List.mem_of_getElem? hx)
   have hC:=zCh hxm
   rw[hd,chF] at hE
   have f1:=qIg (p:=fun y=>decide (y.1=1)) hx
   have f3:=qIg (p:=fun y=>decide (y.1=3)) hx
   simp only at f1 f3
   by_cases hz:qCw (xa,xs,xv,xp)=0
   ·rw[if_neg (by omega)] at hE
    rw[hz] at hC
    by_cases hi0:i=0
    ·subst hi0
     rw[if_neg (fun h=>h.1 (by simp)),if_neg (by simp)] at hE
     have ht:l.take 0++[(xa,xs,xv,xp)]=l.take (0+1):=by rw[List.take_add_one,hx];rfl
     rw[ht] at hE
     have z1:(l.take 0).any (fun y=>decide (y.1=1))=false:=rfl
     have z3:(l.take 0).any (fun y=>decide (y.1=3))=false:=rfl
     rw[z1,Bool.false_or] at f1
     rw[z3,Bool.false_or] at f3
     rw[z1,z3]
     simp (disch:=omega) only [go_sem,seval,vG,qN,hx,h1,hC]
     repeat refine And.intro rfl ?_
     refine qF 1 ?_
     by_cases q1:xa=1
     ·subst q1
      rw[decide_eq_true rfl] at f1
      rw[decide_eq_false (by decide)] at f3
      simp (disch:=omega) only [go_sem,seval,qB,zX,qN,hx,h1]
      repeat refine And.intro rfl ?_
      refine⟨hlt,hE,qI.rd id ?_ ?_ rfl⟩
      all_goals simp (disch:=omega) only [go_sem,seval,id,f1,f3]
     ·rw[decide_eq_false q1] at f1
      have q1b:(xa==1)=false:=by simpa using q1
      by_cases q3:xa=3
      ·subst q3
       rw[decide_eq_true rfl] at f3
       simp (disch:=omega) only [go_sem,seval,qB,zX,qN,hx,h1,q1b]
       repeat refine And.intro rfl ?_
       refine⟨hlt,hE,qI.rd id ?_ ?_ rfl⟩
       all_goals simp (disch:=omega) only [go_sem,seval,id,f1,f3]
      ·rw[decide_eq_false q3] at f3
       have q3b:(xa==3)=false:=by simpa using q3
       simp (disch:=omega) only [go_sem,seval,qB,zX,qN,hx,h1,q1b,q3b]
       repeat refine And.intro rfl ?_
       refine⟨hlt,hE,qI.rd id ?_ ?_ rfl⟩
       all_goals simp (disch:=omega) only [go_sem,seval,id,f1,f3]
    ·obtain⟨⟨ya,ys,yv,yp⟩,hy⟩ : ∃ y,l[i-1]?=some y:=⟨l[i-1],by simp⟩
     have hi1:((i:Int)-1)=((i-1:Nat):Int):=by omega
     have hla:=zZs (d:=(0,[],0,[])) hy
     rw[show i-1+1=i by omega] at hla
     have hne:l.take i≠[]:=by
      intro h
      have:=congrArg List.length h
      simp only[List.length_take,List.length_nil] at this
      omega
     have hgt:0<(i:Int):=by omega
     rw[hla] at hE
     by_cases ho:xa<ya
     ·rw[if_pos ⟨hne,ho⟩] at hE
      rw[←hE]
      simp (disch:=omega) only [go_sem,seval,vG,qN,hx,hy,h1,hC,hgt,hi1,ho]
      all_goals rfl
     ·rw[if_neg (fun h=>ho h.2)] at hE
      have hE':(if isD (l.take i) (xa,xs,xv,xp)=true then 42 else chF (l.take i++[(xa,xs,xv,xp)]) (l.drop (i+1)))=chF [] l:=hE
      have ht:l.take i++[(xa,xs,xv,xp)]=l.take (i+1):=by rw[List.take_add_one,hx];rfl
      rw[ht] at hE'
      generalize (l.take i).any (fun y=>decide (y.1=1))=b1 at *
      generalize (l.take i).any (fun y=>decide (y.1=3))=b3 at *
      simp (disch:=omega) only [go_sem,seval,vG,qN,hx,hy,h1,hC,hgt,hi1,ho]
      repeat refine And.intro rfl ?_
      refine yO i (fun k=>isD (l.take k) (xa,xs,xv,xp)=false) (fun k=>[(0,.t (.sl (l.map imT))),(3,.t (.bool b1)),(4,.t (.bool b3)),(5,.t (.int .i64 (i:Nat))),(7,.t (.int .i64 (k:Nat)))]) (fun _=>[]) rfl ?_ (fun k hk hP=>?_)
      ·refine qI.rd id ?_ ?_ rfl
       all_goals simp (disch:=omega) only [go_sem,seval,id]
      ·by_cases hkl:k<i
       ·obtain⟨⟨za,zs,zv,zp⟩,hzk⟩ : ∃ z,l[k]?=some z:=⟨l[k],by simp⟩
        have hst:=qV4 (x:=(xa,xs,xv,xp)) hzk
        rw[hP,Bool.false_or] at hst
        simp only at hst
        by_cases q1:za=xa
        ·subst q1
         by_cases q2:zs=xs
         ·subst q2
          have hd2:=zS2 (x:=(za,zs,xv,xp)) hzk hkl rfl rfl
          rw[hd2,if_pos rfl] at hE'
          rw[←hE']
          simp (disch:=omega) only [go_sem,seval,zX,qN,hx,hzk,beq_self_eq_true]
          all_goals rfl
         ·rw[decide_eq_true rfl,decide_eq_false q2] at hst
          have q2b:decide (zs=xs)=false:=decide_eq_false q2
          simp (disch:=omega) only [go_sem,seval,zX,qN,hx,hzk,beq_self_eq_true,q2b]
          repeat refine And.intro rfl ?_
          refine⟨hkl,hst,qI.rd id ?_ ?_ rfl⟩
          all_goals simp (disch:=omega) only [go_sem,seval,id]
        ·rw[decide_eq_false q1,Bool.false_and] at hst
         have q1b:(za==xa)=false:=by simpa using q1
         simp (disch:=omega) only [go_sem,seval,zX,qN,hx,hzk,q1b]
         repeat refine And.intro rfl ?_
         refine⟨hkl,hst,qI.rd id ?_ ?_ rfl⟩
         all_goals simp (disch:=omega) only [go_sem,seval,id]
       ·have e:k=i:=by omega
        subst e
        rw[hP,if_neg (by decide)] at hE'
        by_cases q1:xa=1
        ·subst q1
         rw[decide_eq_true rfl,Bool.or_true] at f1
         rw[decide_eq_false (by decide),Bool.or_false] at f3
         cases b1<;>cases b3
         all_goals simp (disch:=omega) only [go_sem,seval,zX,qN,hx]
         all_goals repeat refine And.intro rfl ?_
         all_goals refine⟨hlt,hE',qI.rd id ?_ ?_ rfl⟩
         all_goals simp (disch:=omega) only [go_sem,seval,id,f1,f3]
        ·rw[decide_eq_false q1,Bool.or_false] at f1
         have q1b:(xa==1)=false:=by simpa using q1
         by_cases q3:xa=3
         ·subst q3
          rw[decide_eq_true rfl,Bool.or_true] at f3
          cases b1<;>cases b3
          all_goals simp (disch:=omega) only [go_sem,seval,zX,qN,hx,q1b]
          all_goals repeat refine And.intro rfl ?_
          all_goals refine⟨hlt,hE',qI.rd id ?_ ?_ rfl⟩
          all_goals simp (disch:=omega) only [go_sem,seval,id,f1,f3]
         ·rw[decide_eq_false q3,Bool.or_false] at f3
          have q3b:(xa==3)=false:=by simpa using q3
          cases b1<;>cases b3
          all_goals simp (disch:=omega) only [go_sem,seval,zX,qN,hx,q1b,q3b]
          all_goals repeat refine And.intro rfl ?_
          all_goals refine⟨hlt,hE',qI.rd id ?_ ?_ rfl⟩
          all_goals simp (disch:=omega) only [go_sem,seval,id,f1,f3]
   ·rw[if_pos hz] at hE
    rw[←hE]
    have hz':(qCw (xa,xs,xv,xp) != 0)=true:=by simpa using hz
    simp (disch:=omega) only [go_sem,seval,vG,qN,hx,h1,hC,hz']
  ·have e:i=l.length:=by omega
   subst e
   rw[List.take_length,List.drop_length,chF] at hE
   rw[←hE]
   rw[List.take_length]
   cases ha1:l.any (fun y=>decide (y.1=1))<;>cases ha3:l.any (fun y=>decide (y.1=3))
   all_goals simp (disch:=omega) only [go_sem,seval,vG]
end Go.Eng
end
section
namespace Go.Eng
def jN:AC:=
 (.seq
 (rG 57344 [bT 47 .lss 46 45])
 (.seq
 (.cond (.tmp 47)
 .skip
 (.exit 2))
 (.seq
 (.block 3
 (.seq
 (rG 61440 [oO 48 (.iaddr 4) [.tmp 44,.tmp 46],oO 49 (.load 4 true) [.tmp 48],oO 8 (.new 4 [(.agg [(.t (.int .i64 0)),(.t (zU [])),(.t (.int .i64 0)),.nil])]) [],oS 4 8 49])
 (.seq
 (rG 65536 [oO 50 (.faddr 0) [.tmp 8],oO 51 (.load 1 false) [.tmp 50],oO 52 (.faddr 0) [.tmp 5],oO 53 (.load 1 false) [.tmp 52],bT 54 .eql 51 53,mv 55 54,oG 56 55 (.faddr 1) [.tmp 8],oG 57 55 (.load 1 false) [.tmp 56],oG 58 55 (.faddr 1) [.tmp 5],oG 59 55 (.load 1 false) [.tmp 58],oG 60 55 (.bin .eql) [.tmp 57,.tmp 59],oO 61 .pick [.tmp 55,.tmp 60,.cst (.t (.bool false))]])
 (.cond (.tmp 61)
 (.seq
 (rG 69632 [mC 2 (.t (.int .i64 42))])
 .ret)
 .skip))))
 (rG 73728 [bN 62 .add 46 1,mv 46 62]))))
def jM (n_image_Check:Nat):AC:=
 (.seq
 (rG 24576 [bT 20 .lss 19 18])
 (.seq
 (.cond (.tmp 20)
 .skip
 (.exit 0))
 (.seq
 (.block 1
 (.seq
 (rG 28672 [mv 21 19,oO 22 (.iaddr 4) [.tmp 17,.tmp 19],oO 23 (.load 4 true) [.tmp 22],oO 5 (.new 4 [(.agg [(.t (.int .i64 0)),(.t (zU [])),(.t (.int .i64 0)),.nil])]) [],mv 4 21,oS 4 5 23])
 (.seq
 (.seq
 (rG 32768 [oO 24 (.load 4 true) [.tmp 5],cL 25 n_image_Check false [.tmp 24],mv 6 25])
 (.seq
 (rG 36864 [mv 26 6,bN 27 .neq 26 0])
 (.cond (.tmp 27)
 (.seq
 (rG 40960 [mv 28 6,mv 2 28])
 .ret)
 .skip)))
 (.seq
 (.seq
 (.reg 45056 (some [0,1,3,7,15,7,7,71,231,487,999,2047,4095]) [mv 29 4,bN 30 .gtr 29 0,mv 31 30,oG 32 31 (.faddr 0) [.tmp 5],oG 33 31 (.load 1 false) [.tmp 32],mG 34 0 31,mG 35 4 31,oG 36 31 (.bin .sub) [.tmp 35,.cst (.t (.int .i64 1))],oG 37 31 (.iaddr 4) [.tmp 34,.tmp 36],oG 38 31 (.faddr 0) [.tmp 37],oG 39 31 (.load 1 false) [.tmp 38],oG 40 31 (.bin .lss) [.tmp 33,.tmp 39],oO 41 .pick [.tmp 31,.tmp 40,.cst (.t (.bool false))]])
 (.cond (.tmp 41)
 (.seq
 (rG 49152 [mC 2 (.t (.int .i64 41))])
 .ret)
 .skip))
 (.seq
 (.seq
 (rG 53248 [mv 42 0,mv 43 4,oO 44 (.slice 4 false true false) [.tmp 42,.tmp 43],oO 45 .len [.tmp 44],mC 46 (.t (.int .i64 0))])
 (.block 2
 (.loop jN)))
 (rG 77824 [oO 63 (.faddr 0) [.tmp 5],oO 64 (.load 1 false) [.tmp 63],oO 65 (.aaddr 5 1) [.tmp 3,.tmp 64],⟨none,(.op (.store 1)),[.tmp 65,.cst (.t (.bool true))],none⟩]))))))
 (rG 81920 [bN 66 .add 19 1,mv 19 66]))))
def wN (n_image_Check:Nat):AC:=
 (.seq
 (rG 4096 [mC 2 (.t (.int .i64 0))])
 (.seq
 (.seq
 (rG 8192 [mv 9 0,oO 10 .len [.tmp 9],bN 11 .eql 10 0,mv 12 11,mF 13 0 12,oF 14 12 .len [.tmp 13],oF 15 12 (.bin .gtr) [.tmp 14,.cst (.t (.int .i64 8))],oO 16 .pick [.tmp 12,.cst (.t (.bool true)),.tmp 15]])
 (.cond (.tmp 16)
 (.seq
 (rG 12288 [mC 2 (.t (.int .i64 1))])
 .ret)
 .skip))
 (.seq
 (rG 16384 [oO 3 (.new 1 [(.t (.bool false)),(.t (.bool false)),(.t (.bool false)),(.t (.bool false)),(.t (.bool false))]) []])
 (.seq
 (.seq
 (rG 20480 [mv 17 0,oO 18 .len [.tmp 17],mC 19 (.t (.int .i64 0))])
 (.block 0
 (.loop (jM n_image_Check))))
 (.seq
 (.seq
 (rG 86016 [oO 67 (.aaddr 5 1) [.tmp 3,.cst (.t (.int .i64 1))],oO 68 (.load 1 false) [.tmp 67],oO 69 (.un .not) [.tmp 68],mv 70 69,oF 71 70 (.aaddr 5 1) [.tmp 3,.cst (.t (.int .i64 3))],oF 72 70 (.load 1 false) [.tmp 71],oF 73 70 (.un .not) [.tmp 72],oO 74 .pick [.tmp 70,.cst (.t (.bool true)),.tmp 73]])
 (.cond (.tmp 74)
 (.seq
 (rG 90112 [mC 2 (.t (.int .i64 40))])
 .ret)
 .skip))
 (.seq
 (rG 94208 [mC 2 (.t (.int .i64 0))])
 .ret))))))
def xO (n_image_Register n_event_Make:Nat):AC:=
 (.seq
 (rG 45056 [bT 48 .lss 47 46])
 (.seq
 (.cond (.tmp 48)
 .skip
 (.exit 2))
 (.seq
 (.block 3
 (.seq
 (rG 49152 [oO 49 (.iaddr 1) [.tmp 45,.tmp 47],oO 50 (.load 1 false) [.tmp 49],mv 9 50])
 (.reg 53248 (some [0,1,0,4,12,28,0,64,192,0,0,1984,4032,8188,16383,32767]) [oO 51 (.faddr 0) [.tmp 7],oO 52 (.load 1 false) [.tmp 51],oO 53 (.faddr 0) [.tmp 7],oO 54 (.load 1 false) [.tmp 53],oO 55 (.aaddr 5 1) [.tmp 5,.tmp 54],oO 56 (.load 1 false) [.tmp 55],oO 57 (.faddr 0) [.tmp 7],oO 58 (.load 1 false) [.tmp 57],cL 59 n_image_Register false [.tmp 58],mv 60 1,mv 61 9,cL 62 n_event_Make true [.tmp 59,.cst (.t (.int .i64 3)),.tmp 60,.tmp 61],oO 63 (.bslice 4 1 (.agg [(.t (.int .i64 0)),(.t (.int .i64 0)),.nil,.nil]) [0]) [.tmp 62],oO 64 (.append 4 64) [.tmp 56,.tmp 63],oO 65 (.aaddr 5 1) [.tmp 5,.tmp 52],oS 1 65 64])))
 (rG 57344 [bN 66 .add 47 1,mv 47 66]))))
def yF (n_event_OfImage n_image_Lines n_image_Register n_event_Make:Nat):AC:=
 (.seq
 (rG 24576 [bT 26 .lss 25 24])
 (.seq
 (.cond (.tmp 26)
 .skip
 (.exit 0))
 (.seq
 (.block 1
 (.seq
 (rG 28672 [oO 27 (.iaddr 4) [.tmp 23,.tmp 25],oO 28 (.load 4 true) [.tmp 27],oO 7 (.new 4 [(.agg [(.t (.int .i64 0)),(.t (zU [])),(.t (.int .i64 0)),.nil])]) [],oS 4 7 28])
 (.seq
 (.seq
 (rG 32768 [oO 29 (.faddr 0) [.tmp 7],oO 30 (.load 1 false) [.tmp 29],bN 31 .neq 30 4])
 (.cond (.tmp 31)
 (.seq
 (.reg 36864 (some [0,1,0,4,12,28,0,0,192,448,1020,2047,4095]) [oO 32 (.faddr 0) [.tmp 7],oO 33 (.load 1 false) [.tmp 32],oO 34 (.faddr 0) [.tmp 7],oO 35 (.load 1 false) [.tmp 34],oO 36 (.aaddr 5 1) [.tmp 5,.tmp 35],oO 37 (.load 1 false) [.tmp 36],oO 38 (.load 4 true) [.tmp 7],mv 39 1,cL 40 n_event_OfImage true [.tmp 38,.tmp 39],oO 41 (.bslice 4 1 (.agg [(.t (.int .i64 0)),(.t (.int .i64 0)),.nil,.nil]) [0]) [.tmp 40],oO 42 (.append 4 64) [.tmp 37,.tmp 41],oO 43 (.aaddr 5 1) [.tmp 5,.tmp 33],oS 1 43 42])
 (.exit 1))
 .skip))
 (.seq
 (rG 40960 [oO 44 (.load 4 true) [.tmp 7],cL 45 n_image_Lines true [.tmp 44],oO 46 .len [.tmp 45],mC 47 (.t (.int .i64 0))])
 (.block 2
 (.loop (xO n_image_Register n_event_Make)))))))
 (rG 61440 [bN 67 .add 25 1,mv 25 67]))))
def xP (n_event_Make:Nat):AC:=
 (.seq
 (rG 73728 [bN 74 .lss 73 8])
 (.seq
 (.cond (.tmp 74)
 .skip
 (.exit 4))
 (.seq
 (.block 5
 (.seq
 (rG 77824 [mv 75 73,mv 11 75])
 (rG 81920 [mv 76 10,mv 77 11,mv 78 1,oO 79 (.mkslice 1 1 (.t (qA 0))) [.cst (.t (.int .i64 4)),.cst (.t (.int .i64 4))],cL 80 n_event_Make true [.tmp 77,.cst (.t (.int .i64 2)),.tmp 78,.tmp 79],oO 81 (.bslice 4 1 (.agg [(.t (.int .i64 0)),(.t (.int .i64 0)),.nil,.nil]) [0]) [.tmp 80],oO 82 (.append 4 64) [.tmp 76,.tmp 81],mv 10 82])))
 (rG 86016 [bN 83 .add 73 1,mv 73 83]))))
def wH (n_image_CheckChain n_event_OfImage n_image_Lines n_image_Register n_event_Make:Nat):AC:=
 (.seq
 (rG 4096 [mC 4 .nil])
 (.seq
 (.seq
 (rG 8192 [mv 12 1,bN 13 .lss 12 1,mv 14 13,mF 15 1 14,oF 16 14 (.bin .gtr) [.tmp 15,.cst (.t (.int .i64 3))],oO 17 .pick [.tmp 14,.cst (.t (.bool true)),.tmp 16],mv 18 17,mF 19 0 18,cF 20 18 n_image_CheckChain false [.tmp 19],oF 21 18 (.bin .neq) [.tmp 20,.cst (.t (.int .i64 0))],oO 22 .pick [.tmp 18,.cst (.t (.bool true)),.tmp 21]])
 (.cond (.tmp 22)
 (.seq
 (rG 12288 [mC 4 .nil])
 .ret)
 .skip))
 (.seq
 (rG 16384 [oO 5 (.new 1 [.nil,.nil,.nil,.nil,.nil]) []])
 (.seq
 (.seq
 (rG 20480 [mv 23 0,oO 24 .len [.tmp 23],mC 25 (.t (.int .i64 0))])
 (.block 0
 (.loop (yF n_event_OfImage n_image_Lines n_image_Register n_event_Make))))
 (.seq
 (rG 65536 [oO 68 (.aaddr 5 1) [.tmp 5,.cst (.t (.int .i64 1))],oO 69 (.load 1 false) [.tmp 68],oO 70 (.aaddr 5 1) [.tmp 5,.cst (.t (.int .i64 2))],oO 71 (.load 1 false) [.tmp 70],oO 72 (.append 4 64) [.tmp 69,.tmp 71],mv 10 72])
 (.seq
 (.seq
 (rG 69632 [mC 73 (.t (.int .i64 0))])
 (.block 4
 (.loop (xP n_event_Make))))
 (.seq
 (rG 90112 [mv 84 10,oO 85 (.aaddr 5 1) [.tmp 5,.cst (.t (.int .i64 3))],oO 86 (.load 1 false) [.tmp 85],oO 87 (.append 4 64) [.tmp 84,.tmp 86],mv 10 87])
 (.seq
 (rG 94208 [mv 88 10,oO 89 (.aaddr 5 1) [.tmp 5,.cst (.t (.int .i64 4))],oO 90 (.load 1 false) [.tmp 89],oO 91 (.append 4 64) [.tmp 88,.tmp 90],mv 4 91])
 .ret))))))))
def yZ (n_image_CheckChain n_predict_Events n_replay_Registers:Nat):AC:=
 (.seq
 (rG 4096 [oO 4 (.new 2 [(.agg [.nil,(.t (.int .i64 0))])]) [],mC 5 (.t (.int .i64 0))])
 (.seq
 (.seq
 (rG 8192 [mv 7 0,cL 8 n_image_CheckChain false [.tmp 7],mv 6 8])
 (.seq
 (rG 12288 [mv 9 6,bN 10 .neq 9 0])
 (.cond (.tmp 10)
 (.seq
 (rG 16384 [oO 11 (.build [.nil,(.t (.int .i64 0))] []) [],mv 12 6,oS 2 4 11,mv 5 12])
 .ret)
 .skip)))
 (.seq
 (.seq
 (rG 20480 [mv 13 1,bN 14 .lss 13 1,mv 15 14,mF 16 1 15,oF 17 15 (.bin .gtr) [.tmp 16,.cst (.t (.int .i64 3))],oO 18 .pick [.tmp 15,.cst (.t (.bool true)),.tmp 17]])
 (.cond (.tmp 18)
 (.seq
 (rG 24576 [oO 19 (.build [.nil,(.t (.int .i64 0))] []) [],oS 2 4 19,mC 5 (.t (.int .i64 1))])
 .ret)
 .skip))
 (.seq
 (rG 28672 [mv 20 1,mv 21 0,mv 22 1,cL 23 n_predict_Events true [.tmp 21,.tmp 22],oO 24 (.build [(.t (.int .i64 0)),(.t (.int .i64 0)),.nil] [(0,1),(2,1)]) [.tmp 20,.tmp 23],cL 25 n_replay_Registers true [.tmp 24],oO 26 (.extract 0) [.tmp 25],oO 27 (.extract 1) [.tmp 25],oS 2 4 26,mv 5 27])
 .ret))))
end Go.Eng
end
section
set_option maxRecDepth 20000
set_option maxHeartbeats 64000000
namespace Go.Eng
def qTm (l:List Im):List V:=[.t (.bool false),.t (.bool (l.any fun y=>decide (y.1=1))),.t (.bool (l.any fun y=>decide (y.1=2))),.t (.bool (l.any fun y=>decide (y.1=3))),.t (.bool (l.any fun y=>decide (y.1=4)))]
theorem zI {l:List Im}:qVd 4 (List.map imT l)=true:=by
 simp only[qVd,List.all_map,List.all_eq_true]
 intro x _
 rfl
theorem qMs (tab:Tab) (gl:Gl) (n1:Nat) (h1:tab.look n1=some qFh.fs) (l:List Im) (hm:qKe l) :
  (wN n1).wp tab gl (qE 0 [.t (.sl (l.map imT))]) (qE 0 []) (zZ [(2,none)] 0 (fun r o=>r = .t (.int .i64 (qGr l))∧o=[])):=by
 have hlm:=hm.1
 by_cases c0:l.length=0
 ·have hr:qGr l=1:=if_pos (.inl c0)
  rw[hr]
  simp (disch:=omega) only [go_sem,seval,wN,c0]
 have c0b:((l.length:Int)==0)=false:=by simpa using (by omega : ¬ (l.length:Int)=0)
 by_cases c8:8<l.length
 ·have hr:qGr l=1:=if_pos (.inr c8)
  rw[hr]
  simp (disch:=omega) only [go_sem,seval,wN,c0b,c8]
 have hr:qGr l=chF [] l:=if_neg (by omega)
 rw[hr]
 simp (disch:=omega) only [go_sem,seval,wN,c0b,c8]
 refine yO l.length (fun i=>chF (l.take i) (l.drop i)=chF [] l) (fun i=>[(0,.t (.sl (l.map imT))),(3,.ref 16384 0 0),(17,.t (.sl (l.map imT))),(18,.t (.int .i64 l.length)),(19,.t (.int .i64 (i:Nat)))]) (fun i=>[(16384,.live 1 (qTm (l.take i)) true true)]) rfl ?_ (fun i hi hE=>?_)
 ·refine qI.rd id ?_ ?_ rfl
  all_goals simp (disch:=omega) only [go_sem,seval,id,qTm,List.take_zero,List.any_nil]
 ·by_cases hlt:i<l.length
  ·obtain⟨⟨xa,xs,xv,xp⟩,hx⟩ : ∃ x,l[i]?=some x:=⟨l[i],by simp[hlt]⟩
   have hd:l.drop i=(xa,xs,xv,xp)::l.drop (i+1):=by
    rw[List.drop_eq_getElem_cons hlt]
    have:=(List.getElem?_eq_some_iff.1 hx).2
    rw[this]
   have hxm:imX (xa,xs,xv,xp):=hm.2 _ (List.mem_of_getElem? hx)
   have hC:=zCh hxm
   rw[hd,chF] at hE
   by_cases hz:qCw (xa,xs,xv,xp)=0
   ·have hgood:=(xU hz).1
    simp only at hgood
    rw[if_neg (by omega)] at hE
    rw[hz] at hC
    have stp:qTm (l.take (i+1))=(qTm (l.take i)).set xa.toNat (.t (.bool true)):=by
     have f1:=qIg (p:=fun y=>decide (y.1=1)) hx
     have f2:=qIg (p:=fun y=>decide (y.1=2)) hx
     have f3:=qIg (p:=fun y=>decide (y.1=3)) hx
     have f4:=qIg (p:=fun y=>decide (y.1=4)) hx
     unfold qTm
     rw[f1,f2,f3,f4]
     rcases (show xa=1∨xa=2∨xa=3∨xa=4 by omega) with rfl | rfl | rfl | rfl<;>simp
    have fin : ∀ (S:List V),S=qTm (l.take i)→chF (l.take (i+1)) (l.drop (i+1))=chF [] l→True:=fun _ _ _=>trivial
    by_cases hi0:i=0
    ·subst hi0
     rw[if_neg (fun h=>h.1 (by simp)),if_neg (by simp)] at hE
     have ht:l.take 0++[(xa,xs,xv,xp)]=l.take (0+1):=by rw[List.take_add_one,hx];rfl
     rw[ht] at hE
     have hs0:qTm (l.take 0)=[.t (.bool false),.t (.bool false),.t (.bool false),.t (.bool false),.t (.bool false)]:=rfl
     rw[hs0] at stp ⊢
     simp (disch:=omega) only [go_sem,seval,jM,qN,hx,h1,hC,zI]
     repeat refine And.intro rfl ?_
     refine qF 1 ?_
     rcases (show xa=1∨xa=2∨xa=3∨xa=4 by omega) with rfl | rfl | rfl | rfl
     all_goals simp (disch:=omega) only [go_sem,seval,qB,jN,qN,hx,h1]
     all_goals repeat refine And.intro rfl ?_
     all_goals refine⟨hlt,hE,qI.rd id ?_ ?_ rfl⟩
     all_goals simp (disch:=omega) only [go_sem,seval,id,stp]
    ·obtain⟨⟨ya,ys,yv,yp⟩,hy⟩ : ∃ y,l[i-1]?=some y:=⟨l[i-1],by simp⟩
     have hi1:((i:Int)-1)=((i-1:Nat):Int):=by omega
     have hla:=zZs (d:=(0,[],0,[])) hy
     rw[show i-1+1=i by omega] at hla
     have hne:l.take i≠[]:=by
      intro h
      have:=congrArg List.length h
      simp only[List.length_take,List.length_nil] at this
      omega
     have hgt:0<(i:Int):=by omega
     rw[hla] at hE
     by_cases ho:xa<ya
     ·rw[if_pos ⟨hne,ho⟩] at hE
      rw[←hE]
      generalize qTm (l.take i)=S at *
      simp (disch:=omega) only [go_sem,seval,jM,qN,hx,hy,h1,hC,hgt,hi1,ho]
      all_goals rfl
     ·rw[if_neg (fun h=>ho h.2)] at hE
      have hE':(if isD (l.take i) (xa,xs,xv,xp)=true then 42 else chF (l.take i++[(xa,xs,xv,xp)]) (l.drop (i+1)))=chF [] l:=hE
      have ht:l.take i++[(xa,xs,xv,xp)]=l.take (i+1):=by rw[List.take_add_one,hx];rfl
      rw[ht] at hE'
      obtain⟨s1,s2,s3,s4,hS⟩ : ∃ s1 s2 s3 s4:Bool,qTm (l.take i)=[.t (.bool false),.t (.bool s1),.t (.bool s2),.t (.bool s3),.t (.bool s4)]:=⟨_,_,_,_,rfl⟩
      rw[hS] at stp ⊢
      have hmt:List.take i (List.map imT l)=List.map imT (l.take i):=(List.map_take ..).symm
      have hlt2:(List.map imT (l.take i)).length=i:=by simp;omega
      simp (disch:=omega) only [go_sem,seval,jM,qN,hx,hy,h1,hC,hgt,hi1,ho,hmt,hlt2,zI]
      repeat refine And.intro rfl ?_
      refine yO i (fun k=>isD (l.take k) (xa,xs,xv,xp)=false) (fun k=>[(0,.t (.sl (l.map imT))),(3,.ref 16384 0 0),(5,.ref 28720 0 0),(17,.t (.sl (l.map imT))),(18,.t (.int .i64 l.length)),(19,.t (.int .i64 (i:Nat))),(44,.t (.sl ((l.take i).map imT))),(45,.t (.int .i64 (i:Nat))),(46,.t (.int .i64 (k:Nat)))]) (fun _=>[(28720,.live 4 [.t (.agg [.int .i64 xa,zU xs,.int .i64 xv,.sl (xp.map qA)])] true true),(16384,.live 1 [.t (.bool false),.t (.bool s1),.t (.bool s2),.t (.bool s3),.t (.bool s4)] true true)]) rfl ?_ (fun k hk hP=>?_)
      ·refine qI.rd id ?_ ?_ rfl
       all_goals simp (disch:=omega) only [go_sem,seval,id]
      ·by_cases hkl:k<i
       ·obtain⟨⟨za,zs,zv,zp⟩,hzk⟩ : ∃ z,l[k]?=some z:=⟨l[k],by simp⟩
        have hzt:(l.take i)[k]?=some (za,zs,zv,zp):=by rw[List.getElem?_take,if_pos hkl,hzk]
        have hst2:=qV4 (x:=(xa,xs,xv,xp)) hzk
        rw[hP,Bool.false_or] at hst2
        simp only at hst2
        by_cases q1:za=xa
        ·subst q1
         by_cases q2:zs=xs
         ·subst q2
          have hd2:=zS2 (x:=(za,zs,xv,xp)) hzk hkl rfl rfl
          rw[hd2,if_pos rfl] at hE'
          rw[←hE']
          simp (disch:=omega) only [go_sem,seval,jN,qN,hzt,beq_self_eq_true]
          all_goals rfl
         ·rw[decide_eq_true rfl,decide_eq_false q2] at hst2
          have q2b:decide (zs=xs)=false:=decide_eq_false q2
          simp (disch:=omega) only [go_sem,seval,jN,qN,hzt,beq_self_eq_true,q2b]
          repeat refine And.intro rfl ?_
          refine⟨hkl,hst2,qI.rd id ?_ ?_ rfl⟩
          all_goals simp (disch:=omega) only [go_sem,seval,id]
        ·rw[decide_eq_false q1,Bool.false_and] at hst2
         have q1b:(za==xa)=false:=by simpa using q1
         simp (disch:=omega) only [go_sem,seval,jN,qN,hzt,q1b]
         repeat refine And.intro rfl ?_
         refine⟨hkl,hst2,qI.rd id ?_ ?_ rfl⟩
         all_goals simp (disch:=omega) only [go_sem,seval,id]
       ·have e:k=i:=by omega
        subst e
        rw[hP,if_neg (by decide)] at hE'
        rcases (show xa=1∨xa=2∨xa=3∨xa=4 by omega) with rfl | rfl | rfl | rfl
        all_goals simp (disch:=omega) only [go_sem,seval,jN,qN]
        all_goals repeat refine And.intro rfl ?_
        all_goals refine⟨hlt,hE',qI.rd id ?_ ?_ rfl⟩
        all_goals simp (disch:=omega) only [go_sem,seval,id,stp]
   ·rw[if_pos hz] at hE
    rw[←hE]
    have hz':(qCw (xa,xs,xv,xp) != 0)=true:=by simpa using hz
    simp (disch:=omega) only [go_sem,seval,jM,qN,hx,h1,hC,hz']
  ·have e:i=l.length:=by omega
   subst e
   rw[List.take_length,List.drop_length,chF] at hE
   rw[←hE]
   rw[List.take_length]
   unfold qTm
   cases ha1:l.any (fun y=>decide (y.1=1))<;>cases ha3:l.any (fun y=>decide (y.1=3))
   all_goals simp (disch:=omega) only [go_sem,seval,jM]
theorem evM.x {e:Ev} (h:evM e):evX e:=⟨by have:=h.1.1;omega,fun x hx=>by have:=h.1.2 x hx;omega,by have:=h.2;omega⟩
def qHr:Ct where
 α:=Ev×Int
 as x:=[.t (evT x.1),.t (.int .i64 x.2)]
 ins _:=[]
 pre x:=evX x.1
 r x:= .t (.int .i64 (qD0 x.1 x.2))
 outs _:=[]
 inj:=by
  rintro⟨e,a⟩ ⟨f,b⟩ h _
  simp only[List.cons.injEq,V.t.injEq,T.int.injEq,true_and,and_true] at h
  obtain⟨h1,rfl⟩:=h
  cases zB0 h1
  exact⟨rfl,rfl⟩
theorem qTw (tab:Tab) (gl:Gl) (n1:Nat) (h1:tab.look n1=some kV.fs) (e:Ev) (act:Int) (hm:evX e) :
  (zW n1).wp tab gl (qE 0 [.t (evT e),.t (.int .i64 act)]) (qE 0 []) (zZ [(4,none)] 0 (fun r o=>r = .t (.int .i64 (qD0 e act))∧o=[])):=by
 obtain⟨r,k,ds,d⟩:=e
 have hl:=hm.2.2
 have hd:=hm.1
 simp only at hl hd
 by_cases hb:zI3 r k act
 ·have hr:qD0 (r,k,ds,d) act=1:=if_pos hb
  rw[hr]
  by_cases c1:act<1
  ·simp (disch:=omega) only [go_sem,seval,zW,zP,c1]
  by_cases c2:3<act
  ·simp (disch:=omega) only [go_sem,seval,zW,zP,c1,c2]
  by_cases c3:r<0
  ·simp (disch:=omega) only [go_sem,seval,zW,zP,c1,c2,c3]
  by_cases c4:11<r
  ·simp (disch:=omega) only [go_sem,seval,zW,zP,c1,c2,c3,c4]
  by_cases c5:k<1
  ·simp (disch:=omega) only [go_sem,seval,zW,zP,c1,c2,c3,c4,c5]
  have c6:5<k:=by unfold zI3 at hb;omega
  simp (disch:=omega) only [go_sem,seval,zW,zP,c1,c2,c3,c4,c5,c6]
 ·obtain⟨⟨c1,c2⟩,⟨c3,c4⟩,c5,c6⟩:=zUx hb
  by_cases c7:64<d.length
  ·have hr:qD0 (r,k,ds,d) act=4:=by unfold qD0;rw[if_neg hb,if_pos c7]
   rw[hr]
   simp (disch:=omega) only [go_sem,seval,zW,zP,c1,c2,c3,c4,c5,c6,c7]
  ·have hr:qD0 (r,k,ds,d) act=if zB2 k act ds then 0 else 27:=by unfold qD0;rw[if_neg hb,if_neg c7]
   rw[hr]
   by_cases c8:ds.length=2
   ·obtain⟨d0,d1,rfl⟩:=jJb c8
    have m0:=hm.2.1 d0 (by simp)
    have m1:=hm.2.1 d1 (by simp)
    rw[qPu]
    rcases (show k=5∨k≠5 by omega) with rfl | hk
    ·simp only[zIi]
     by_cases l0:d0.length=0<;>by_cases l1:d1.length=0
     all_goals simp (disch:=omega) only [go_sem,seval,zW,zP,c1,c2,c3,c4,c5,c6,c7,List.map_cons,List.map_nil]
     all_goals refine qF 3 ?_
     all_goals simp (disch:=omega) only [go_sem,seval,qB,wG,h1,l0,l1,Int.reduceFDiv]
    ·have k5:(k==5)=false:=by simpa using hk
     rcases (show act=1∨act=2∨act=3 by omega) with rfl | rfl | rfl
     ·have w0:qE6 k 1 0=20:=if_pos ⟨hk,by decide⟩
      have w1:qE6 k 1 1=0:=if_neg (by simp)
      rw[w0,w1]
      by_cases l0:d0.length=20<;>by_cases l1:d1.length=0
      all_goals simp (disch:=omega) only [go_sem,seval,zW,zP,c3,c4,c5,c6,c7,List.map_cons,List.map_nil]
      all_goals refine qF 3 ?_
      all_goals simp (disch:=omega) only [go_sem,seval,qB,wG,h1,qJ,qK,k5,l0,l1,Int.reduceFDiv]
     ·have w0:qE6 k 2 0=0:=if_neg (by simp)
      have w1:qE6 k 2 1=32:=if_pos ⟨hk,by decide⟩
      rw[w0,w1]
      by_cases l0:d0.length=0<;>by_cases l1:d1.length=32
      all_goals simp (disch:=omega) only [go_sem,seval,zW,zP,c3,c4,c5,c6,c7,List.map_cons,List.map_nil]
      all_goals refine qF 3 ?_
      all_goals simp (disch:=omega) only [go_sem,seval,qB,wG,h1,qJ,qK,k5,l0,l1,Int.reduceFDiv]
     ·have w0:qE6 k 3 0=20:=if_pos ⟨hk,by decide⟩
      have w1:qE6 k 3 1=32:=if_pos ⟨hk,by decide⟩
      rw[w0,w1]
      by_cases l0:d0.length=20<;>by_cases l1:d1.length=32
      all_goals simp (disch:=omega) only [go_sem,seval,zW,zP,c3,c4,c5,c6,c7,List.map_cons,List.map_nil]
      all_goals refine qF 3 ?_
      all_goals simp (disch:=omega) only [go_sem,seval,qB,wG,h1,qJ,qK,k5,l0,l1,Int.reduceFDiv]
   ·have hf:zB2 k act ds=false:=by unfold zB2;rw[decide_eq_false c8];rfl
    rw[hf]
    have c9:((ds.length:Int)==2)=false:=by simpa using (by omega : ¬ (ds.length:Int)=2)
    simp (disch:=omega) only [go_sem,seval,zW,zP,c1,c2,c3,c4,c5,c6,c7,c8,c9]
theorem zJi {a b:Int} {c:List (List UInt8)} {d:List UInt8} {act:Int} (h:evX (a,b,c,d)):qHr.fs [.t (.agg [.int .i64 a,.int .i64 b,.sl (c.map bsT),.sl (d.map qA)]),.t (.int .i64 act)] []=some (.t (.int .i64 (qD0 (a,b,c,d) act)),[]):=qHr.eq ((a,b,c,d),act) h
def qQ0:Ct where
 α:=Ev×Int
 as x:=[.t (evT x.1),.t (.int .i64 x.2)]
 ins _:=[]
 pre x:=evX x.1∧0≤x.2∧x.2<4
 r x:= .t (.bool (zB2 x.1.2.1 x.2 x.1.2.2.1))
 outs _:=[]
 inj:=by
  rintro⟨e,a⟩ ⟨f,b⟩ h _
  simp only[List.cons.injEq,V.t.injEq,T.int.injEq,true_and,and_true] at h
  obtain⟨h1,rfl⟩:=h
  cases zB0 h1
  exact⟨rfl,rfl⟩
theorem zUr {a b:Int} {c:List (List UInt8)} {d:List UInt8} {act:Int} (h:evX (a,b,c,d)∧0≤act∧act<4):qQ0.fs [.t (.agg [.int .i64 a,.int .i64 b,.sl (c.map bsT),.sl (d.map qA)]),.t (.int .i64 act)] []=some (.t (.bool (zB2 b act c)),[]):=qQ0.eq ((a,b,c,d),act) h
theorem qKr (tab:Tab) (gl:Gl) (n1 n2:Nat) (h1:tab.look n1=some qFg.fs) (h2:tab.look n2=some kV.fs) (e:Ev) (act:Int) (hm:evX e) (ha:0≤act∧act<4) :
  (jU n1 n2).wp tab gl (qE 0 [.t (evT e),.t (.int .i64 act)]) (qE 0 []) (zZ [(4,none)] 0 (fun r o=>r = .t (.bool (zB2 e.2.1 act e.2.2.1))∧o=[])):=by
 obtain⟨r,k,ds,d⟩:=e
 have hd:=hm.1
 simp only at hd
 have q0:=zCe ha
 have q1:=zCf ha
 by_cases c8:ds.length=2
 ·obtain⟨d0,d1,rfl⟩:=jJb c8
  have m0:=hm.2.1 d0 (by simp)
  have m1:=hm.2.1 d1 (by simp)
  simp only[qPu,zTw,zTx]
  rcases (show k=5∨k≠5 by omega) with rfl | hk
  ·by_cases l0:d0.length=0<;>by_cases l1:d1.length=0
   all_goals simp (disch:=omega) only [go_sem,seval,jU,zP,List.map_cons,List.map_nil]
   all_goals refine qF 3 ?_
   all_goals simp (disch:=omega) only [go_sem,seval,qB,jO,h1,h2,l0,l1,ne_eq]
  ·have k5:(k==5)=false:=by simpa using hk
   by_cases b0:act%2=1<;>by_cases b1:act/2%2=1
   ·by_cases l0:d0.length=20<;>by_cases l1:d1.length=32
    all_goals simp (disch:=omega) only [go_sem,seval,jU,zP,List.map_cons,List.map_nil]
    all_goals refine qF 3 ?_
    all_goals simp (disch:=omega) only [go_sem,seval,qB,jO,h1,h2,q0,q1,b0,b1,qJ,qK,k5,hk,l0,l1,ne_eq]
   ·by_cases l0:d0.length=20<;>by_cases l1:d1.length=0
    all_goals simp (disch:=omega) only [go_sem,seval,jU,zP,List.map_cons,List.map_nil]
    all_goals refine qF 3 ?_
    all_goals simp (disch:=omega) only [go_sem,seval,qB,jO,h1,h2,q0,q1,b0,b1,qJ,qK,k5,hk,l0,l1,ne_eq]
   ·by_cases l0:d0.length=0<;>by_cases l1:d1.length=32
    all_goals simp (disch:=omega) only [go_sem,seval,jU,zP,List.map_cons,List.map_nil]
    all_goals refine qF 3 ?_
    all_goals simp (disch:=omega) only [go_sem,seval,qB,jO,h1,h2,q0,q1,b0,b1,qJ,qK,k5,hk,l0,l1,ne_eq]
   ·by_cases l0:d0.length=0<;>by_cases l1:d1.length=0
    all_goals simp (disch:=omega) only [go_sem,seval,jU,zP,List.map_cons,List.map_nil]
    all_goals refine qF 3 ?_
    all_goals simp (disch:=omega) only [go_sem,seval,qB,jO,h1,h2,q0,q1,b0,b1,qJ,qK,k5,hk,l0,l1,ne_eq]
 ·have hf:zB2 k act ds=false:=by unfold zB2;rw[decide_eq_false c8];rfl
  have c9:((ds.length:Int)==2)=false:=by simpa using (by omega : ¬ (ds.length:Int)=2)
  simp only[hf]
  simp (disch:=omega) only [go_sem,seval,jU,zP,c8,c9]
theorem qT4 (tab:Tab) (gl:Gl) (n1:Nat) (h1:tab.look n1=some qQ0.fs) (e:Ev) (act:Int) (hm:evX e) :
  (yP n1).wp tab gl (qE 0 [.t (evT e),.t (.int .i64 act)]) (qE 0 []) (zZ [(4,none)] 0 (fun r o=>r = .t (.int .i64 (qD0 e act))∧o=[])):=by
 obtain⟨r,k,ds,d⟩:=e
 have hl:=hm.2.2
 simp only at hl
 by_cases hb:zI3 r k act
 ·have hr:qD0 (r,k,ds,d) act=1:=if_pos hb
  rw[hr]
  by_cases c1:act<1
  ·simp (disch:=omega) only [go_sem,seval,yP,zP,c1]
  by_cases c2:3<act
  ·simp (disch:=omega) only [go_sem,seval,yP,zP,c1,c2]
  by_cases c3:r<0
  ·simp (disch:=omega) only [go_sem,seval,yP,zP,c1,c2,c3]
  by_cases c4:11<r
  ·simp (disch:=omega) only [go_sem,seval,yP,zP,c1,c2,c3,c4]
  by_cases c5:k<1
  ·simp (disch:=omega) only [go_sem,seval,yP,zP,c1,c2,c3,c4,c5]
  have c6:5<k:=by unfold zI3 at hb;omega
  simp (disch:=omega) only [go_sem,seval,yP,zP,c1,c2,c3,c4,c5,c6]
 ·obtain⟨⟨c1,c2⟩,⟨c3,c4⟩,c5,c6⟩:=zUx hb
  by_cases c7:64<d.length
  ·have hr:qD0 (r,k,ds,d) act=4:=by unfold qD0;rw[if_neg hb,if_pos c7]
   rw[hr]
   simp (disch:=omega) only [go_sem,seval,yP,zP,c1,c2,c3,c4,c5,c6,c7]
  ·have hr:qD0 (r,k,ds,d) act=if zB2 k act ds then 0 else 27:=by unfold qD0;rw[if_neg hb,if_neg c7]
   have hf:=zUr (a:=r) (b:=k) (c:=ds) (d:=d) (act:=act) ⟨hm,by omega,by omega⟩
   rw[hr]
   cases hq:zB2 k act ds
   all_goals rw[hq] at hf
   all_goals simp (disch:=omega) only [go_sem,seval,yP,zP,c1,c2,c3,c4,c5,c6,c7,h1,hf]
abbrev Lg:=Int×Int×List Ev
def lgT (l:Lg):T:= .agg [.int .i64 l.1,.int .i64 l.2.1,.sl (l.2.2.map evT)]
theorem qKf {a r:Int} {es:List Ev}:lgT (a,r,es) = .agg [.int .i64 a,.int .i64 r,.sl (es.map evT)]:=Eq.trans (Eq.refl _) rfl
theorem zPp {l m:List Ev}:(l.map evT=m.map evT)=(l=m):=propext ⟨kJ (fun _ _=>zB0),fun h=>by rw[h]⟩
theorem zVd {l m:Lg} (h:lgT l=lgT m):l=m:=by
 obtain⟨a,b,c⟩:=l
 obtain⟨a',b',c'⟩:=m
 simp only[qKf,T.agg.injEq,List.cons.injEq,T.int.injEq,T.sl.injEq,true_and,and_true,zPp] at h
 obtain⟨rfl,rfl,rfl⟩:=h
 rfl
def esM (es:List Ev):Prop:=es.length<1000000 ∧ ∀ e∈es,evX e
def qRn (act:Int):List Ev→Int
 | []=>0
 | e::r=>if qD0 e act≠0 then qD0 e act else qRn act r
def rpE (act:Int) (es:List Ev):Int:=if act<1∨3<act then 1 else qRn act es
abbrev Rg:=List jH×Int
def rpS (x:Rg) (e:Ev):Rg:=if e.2.1=5 then x else zYj x 0 e.1 e.2.2.1
def rp0 (act:Int):Rg:=(qBn act,0)
def rpF (act:Int) (es:List Ev):Rg:=es.foldl rpS (rp0 act)
def rpG (act:Int) (es:List Ev):Rg:=if rpE act es=0 then rpF act es else ([],0)
def rpV (act:Int) (es:List Ev):V:= .tup [.t (vY (rpG act es).1 (rpG act es).2),.t (.int .i64 (rpE act es))]
def qOq:Ct where
 α:=Lg
 as x:=[.t (lgT x)]
 ins _:=[]
 pre x:=esM x.2.2
 r x:=rpV x.1 x.2.2
 outs _:=[]
 inj:=by
  intro a b h _
  simp only[List.cons.injEq,V.t.injEq,and_true] at h
  cases zVd h
  exact⟨rfl,rfl⟩
def ShA (act:Int) (bk:List jH):Prop := ∃ b0 b1:jH,bk=[b0,b1]∧List.length b0=(if act%2=1 then 16 else 0)∧List.length b1=(if act/2%2=1 then 16 else 0)∧(∀ x∈b0,x.length=20) ∧ ∀ x∈b1,x.length=32
theorem ShA.new {act:Int} (ha:1≤act∧act≤3):ShA act (qBn act):=by
 have h:qBn act=[if act%2=1 then qD1 0 else [],if act/2%2=1 then qD1 1 else []]:=qGa (by omega)
 refine⟨_,_,h,?_,?_,fun x hx=>?_,fun x hx=>?_⟩
 ·split
  ·exact qL
  ·rfl
 ·split
  ·exact qL
  ·rfl
 ·split at hx
  ·exact zFl (a:=0) x hx
  ·simp at hx
 ·split at hx
  ·exact zFl (a:=1) x hx
  ·simp at hx
theorem ShA.rv {act:Int} {bk:List jH} (h:ShA act bk):RV bk:=by
 obtain⟨b0,b1,rfl,h0,h1,z0,z1⟩:=h
 refine⟨.two _ _ ?_ ?_,fun b hb x hx=>?_⟩
 ·split at h0
  ·exact .inr h0
  ·exact .inl h0
 ·split at h1
  ·exact .inr h1
  ·exact .inl h1
 ·simp only[List.mem_cons,List.not_mem_nil,or_false] at hb
  rcases hb with rfl | rfl
  ·have:=z0 x hx;omega
  ·have:=z1 x hx;omega
theorem ShA.ext {act:Int} {bk:List jH} (h:ShA act bk) (i:Nat) (ds:List (List UInt8)):ShA act (qG1 bk i ds):=by
 obtain⟨b0,b1,rfl,h0,h1,z0,z1⟩:=h
 rw[qYv]
 refine⟨_,_,rfl,qG.trans h0,qG.trans h1,?_,?_⟩
 ·unfold vS;split
  ·exact zMr z0 (qBq (a:=0))
  ·exact z0
 ·unfold vS;split
  ·exact zMr z1 (qBq (a:=1))
  ·exact z1
theorem zK6 {i:Int} (h:i≤11):yV i false=0:=by
 unfold yV
 rw[if_neg (by simp),if_neg (by omega),if_neg (by omega)]
theorem zSu {act:Int} {bk:List jH} {e:Ev} (h:ShA act bk) (hc:qD0 e act=0) (h5:e.2.1≠5):xS bk 0 e.1 e.2.2.1=0:=by
 obtain⟨r,k,ds,d⟩:=e
 obtain⟨b0,b1,rfl,h0,h1,z0,z1⟩:=h
 unfold qD0 at hc
 simp only at hc h5 ⊢
 split at hc
 ·simp at hc
 ·rename_i hb
  obtain⟨⟨c1,c2⟩,⟨c3,c4⟩,c5,c6⟩:=zUx hb
  split at hc
  ·simp at hc
  ·split at hc
   ·rename_i hf
    unfold zB2 at hf
    simp only[Bool.and_eq_true,decide_eq_true_eq] at hf
    obtain⟨⟨f0,f1⟩,f2⟩:=hf
    rw[zTw] at f1
    rw[zTx] at f2
    unfold xS
    rw[show ([b0,b1]:List jH).getD 0 []=b0 from rfl,show ([b0,b1]:List jH).getD 1 []=b1 from rfl,h0,h1,f0,f1,f2]
    have h5':k≠5:=h5
    unfold qAj
    rw[if_neg (by omega),zK6 (by omega),if_neg (by omega),if_neg,if_neg]
    ·by_cases q0:act%2=1<;>by_cases q1:act/2%2=1<;>simp[q0,q1,h5']
    ·by_cases q0:act%2=1<;>by_cases q1:act/2%2=1<;>simp[q0,q1,h5']
   ·simp at hc
theorem zWw {act:Int} {x:Rg} {e:Ev} (h:ShA act x.1) (hc:qD0 e act=0) (h5:e.2.1≠5):rpS x e=(qG1 x.1 e.1.toNat e.2.2.1,x.2+1):=by
 unfold rpS
 rw[if_neg h5]
 unfold zYj
 rw[if_pos (zSu h hc h5)]
def RQ (act:Int) (n:Nat) (x:Rg):Prop:=ShA act x.1∧0≤x.2∧x.2≤n
theorem RQ.zero {act:Int} (ha:1≤act∧act≤3):RQ act 0 (rp0 act):=⟨ShA.new ha,by simp[rp0],by simp[rp0]⟩
theorem RQ.up {act:Int} {n m:Nat} {x:Rg} (h:RQ act n x) (hm:n≤m):RQ act m x:=⟨h.1,h.2.1,by have:=h.2.2;omega⟩
theorem RQ.ext {act:Int} {n:Nat} {x:Rg} (h:RQ act n x) (l i:Int) (ds:List (List UInt8)):RQ act (n+1) (zYj x l i ds):=by
 unfold zYj
 split
 ·exact⟨h.1.ext _ _,by have:=h.2.1;simp only;omega,by have:=h.2.2;simp only;omega⟩
 ·exact h.up (by omega)
theorem RQ.step {act:Int} {n:Nat} {x:Rg} {e:Ev} (h:RQ act n x):RQ act (n+1) (rpS x e):=by
 unfold rpS
 split
 ·exact h.up (by omega)
 ·exact h.ext _ _ _
theorem RQ.fold {act:Int} (ha:1≤act∧act≤3) : ∀ {es:List Ev} {n:Nat} {x:Rg},RQ act n x→RQ act (n+es.length) (es.foldl rpS x)
 | [],n,x,h=>h
 | e::es,n,x,h=>by
  have:=RQ.fold ha (es:=es) (h.step (e:=e))
  rw[List.length_cons,show n+(es.length+1)=n+1+es.length by omega]
  exact this
theorem zTn {act:Int} (ha:1≤act∧act≤3) {es:List Ev}:RQ act es.length (rpF act es):=by
 have:=RQ.fold ha (es:=es) (RQ.zero ha)
 rwa [Nat.zero_add] at this
theorem qM3 {act:Int} : ∀ {es:List Ev},(∀ e∈es,qD0 e act=0)→qRn act es=0
 | [],_=>rfl
 | x::es,h=>by
  unfold qRn
  rw[if_neg (by have:=h x (by simp);omega)]
  exact qM3 (fun e he=>h e (by simp[he]))
theorem qYx {act:Int} : ∀ {es:List Ev} {i:Nat},i<es.length→(∀ e∈es.take i,qD0 e act=0)→qD0 (es.getD i ev0) act≠0→qRn act es=qD0 (es.getD i ev0) act
 | [],i,h,_,_=>by simp at h
 | x::es,0,_,_,h2=>by
  unfold qRn
  exact if_pos h2
 | x::es,i+1,h,h1,h2=>by
  unfold qRn
  rw[if_neg (by have:=h1 x (by simp);omega)]
  exact qYx (es:=es) (i:=i) (by simpa using h) (fun e he=>h1 e (by simp[he])) h2
theorem qYt {e:Ev}:(V.t (evT e)).cells.length=4:=rfl
theorem qYu {e:Ev}:(V.t (evT e)).plain=true:=rfl
theorem zPo {r k act:Int} {d:List UInt8} (h:(0≤act∧act<4)∧d.length<1000000000):qF3.fs [.t (.int .i64 r),.t (.int .i64 k),.t (.int .i64 act),.t (.sl (d.map qA))] []=some (.t (evT (mkE r k act d)),[]):=qF3.eq (r,k,act,d) h
def qOk:Ct where
 α:=List Im×Int
 as x:=[.t (.sl (x.1.map imT)),.t (.int .i64 x.2)]
 ins _:=[]
 pre x:=zIp x.1
 r x:= .t (.sl ((qTe x.1 x.2).map evT))
 outs _:=[]
 inj:=by
  rintro⟨a,b⟩ ⟨c,d⟩ h _
  simp only[List.cons.injEq,V.t.injEq,T.sl.injEq,T.int.injEq,true_and,and_true,qPv] at h
  obtain⟨rfl,rfl⟩:=h
  exact⟨rfl,rfl⟩
theorem zSs {l:List Im} {act:Int} (h:zIp l):qOk.fs [.t (.sl (l.map imT)),.t (.int .i64 act)] []=some (.t (.sl ((qTe l act).map evT)),[]):=qOk.eq (l,act) h
def zA7 (act:Int) (l:List Im):Nat→List Ev
 | 0=>[]
 | 1=>kZ act 1 l
 | 2=>kZ act 1 l++kZ act 2 l
 | 3=>(kZ act 1 l++kZ act 2 l)++zMk act++kZ act 3 l
 | _=>qRl act l
theorem qH0 {act r:Int} {l:List Im} {x:Im} {i:Nat} (h:l[i]?=some x):kZ act r (l.take (i+1))=kZ act r (l.take i)++(if x.1=r then (if r=4 then (lnL x.2.2.2).map (mkE 9 3 act) else [ofI x act]) else []):=by
 unfold kZ
 rw[List.take_add_one,h,List.filter_append,List.flatMap_append]
 congr 1
 by_cases hx:x.1=r<;>simp[List.filter_cons,hx]
theorem qBl {act r:Int} {l:List Im}:(kZ act r l).length≤l.length*4:=Nat.le_trans zE1 (Nat.mul_le_mul_right _ (List.length_filter_le _ _))
theorem qC1 {α γ:Type} {f:α→γ} {l:List α} {k:Nat} {x:α} (h:l[k]?=some x):(l.take (k+1)).map f=(l.take k).map f++[f x]:=by
 rw[List.take_add_one,h];simp
def qOy (act:Int) (p:List UInt8) (k:Nat):List Ev:=(List.range k).map fun (i:Nat)=>mkE (i:Int) 2 act p
theorem zTq {act:Int} {p:List UInt8} {k:Nat}:qOy act p (k+1)=qOy act p k++[mkE (k:Int) 2 act p]:=by unfold qOy;rw[List.range_succ,List.map_append];rfl
theorem qEs {act:Int} {p:List UInt8} {k:Nat}:(qOy act p k).length=k:=by simp[qOy]
theorem qT5 (tab:Tab) (gl:Gl) (n1 n2 n3 n4 n5:Nat) (h1:tab.look n1=some qHq.fs) (h2:tab.look n2=some qYo.fs) (h3:tab.look n3=some qF3.fs) (h4:tab.look n4=some qGu.fs) (h5:tab.look n5=some qGt.fs) (l:List Im) (act:Int) (hm:zIp l) :
  (kP n1 n2 n3 n4 n5).wp tab gl (qE 0 [.t (.sl (l.map imT)),.t (.int .i64 act)]) (qE 0 []) (zZ [(4,none)] 0 (fun r o=>r = .t (.sl ((qTe l act).map evT))∧o=[])):=by
 have hC:=zSm hm
 by_cases hz:qGr l=0
 ·rw[hz] at hC
  obtain⟨hok,hl1,hl8⟩:=qM0 hz
  by_cases a1:act<1
  ·have hr:qTe l act=[]:=if_pos (.inr (.inl a1))
   rw[hr]
   simp (disch:=omega) only [go_sem,seval,kP,h1,hC,a1,List.map_nil]
  by_cases a3:3<act
  ·have hr:qTe l act=[]:=if_pos (.inr (.inr a3))
   rw[hr]
   simp (disch:=omega) only [go_sem,seval,kP,h1,hC,a1,a3,List.map_nil]
  have hr:qTe l act=qRl act l:=by unfold qTe;rw[if_neg (by omega)]
  rw[hr]
  have ha:0≤act∧act<4:=by omega
  have b1:=qBl (act:=act) (r:=1) (l:=l)
  have b2:=qBl (act:=act) (r:=2) (l:=l)
  have b3:=qBl (act:=act) (r:=3) (l:=l)
  have b4:=qBl (act:=act) (r:=4) (l:=l)
  have bs:=zF4 (act:=act)
  have main : ∀ (i r:Nat),i<4→r=i+1 → ∀ (base:List Ev),zA7 act l (i+1)=base++kZ act r l→base.length≤200 → ∀ (fs:Fs) (hs:Hs),qI fs hs [(0,.t (.sl (l.map imT))),(1,.t (.int .i64 act)),(5,.sl 9000 0 base.length),(6,.t (.int .i64 r)),(8,.t (.int .i64 0))] [(9000,.live 4 ((base.map evT).map V.t) true false)]→
    qIv tab gl (yT n4 n5 n3) fs hs (qFe 4 (qFe 1 (zMl tab gl (rG 28672 [mv 24 6,bN 25 .add 24 1,mv 6 25]) (upK 4 (fun i=>[(0,.t (.sl (l.map imT))),(1,.t (.int .i64 act)),(5,.sl 9000 0 (zA7 act l i).length),(6,.t (.int .i64 ((i+1:Nat):Int)))]) (fun i=>[(9000,.live 4 (((zA7 act l i).map evT).map V.t) true false)]) i (qFe 0 (zMl tab gl ((rG 98304 [mv 83 5,mv 4 83]).seq AC.ret) (zZ [(4,none)] 0 (fun r' o=>r' = .t (.sl ((qRl act l).map evT))∧o=[])))))))):=by
   intro i r hi hri base hb hbl fs hs hw
   refine jQ hw ?_
   refine qD l.length (fun j=>[(0,.t (.sl (l.map imT))),(1,.t (.int .i64 act)),(5,.sl 9000 0 (base++kZ act r (l.take j)).length),(6,.t (.int .i64 r)),(8,.t (.int .i64 (j:Nat)))]) (fun j=>[(9000,.live 4 (((base++kZ act r (l.take j)).map evT).map V.t) true false)]) ?_ (fun j hj=>?_)
   ·have e0:base++kZ act r (l.take 0)=base:=by simp[kZ]
    simp only[e0]
    exact qI.refl
   ·have bj:=qBl (act:=act) (r:=r) (l:=l.take j)
    have bl:(base++kZ act r (l.take j)).length≤300:=by
     rw[List.length_append]
     simp only[List.length_take] at bj
     omega
    by_cases hlt:j<l.length
    ·obtain⟨⟨xa,xs,xv,xp⟩,hx⟩ : ∃ x,l[j]?=some x:=⟨l[j],by simp[hlt]⟩
     have hxm:imM (xa,xs,xv,xp):=hm.2 _ (List.mem_of_getElem? hx)
     have hst:=qH0 (act:=act) (r:=r) hx
     simp only at hst
     have hO:base++kZ act r (l.take (j+1))=(base++kZ act r (l.take j))++(if xa=(r:Int) then (if (r:Int)=4 then (lnL xp).map (mkE 9 3 act) else [ofI (xa,xs,xv,xp) act]) else []):=by rw[hst,List.append_assoc]
     generalize base++kZ act r (l.take j)=L at *
     by_cases q:xa=(r:Int)
     ·subst q
      by_cases r4:r=4
      ·subst r4
       rw[if_pos rfl,if_pos (by rfl)] at hO
       have hO:base++kZ act 4 (l.take (j+1))=L++(lnL xp).map (mkE 9 3 act):=hO
       have hN:qGt.fs [.t (.agg [.int .i64 4,zU xs,.int .i64 xv,.sl (xp.map qA)])] []=some (.t (.sl ((lnL xp).map bsT)),[]):=zFf hxm
       have ll:=qRv (p:=xp)
       have le:=zK8 (p:=xp)
       have lp:=hxm.2.1
       simp only at lp
       generalize lnL xp=N at *
       simp (disch:=omega) only [go_sem,seval,yT,qN,hx,h5,hN,bne_self_eq_false]
       repeat refine And.intro rfl ?_
       refine qD N.length (fun k=>[(0,.t (.sl (l.map imT))),(1,.t (.int .i64 act)),(5,.sl 9000 0 (L++(N.take k).map (mkE 9 3 act)).length),(6,.t (.int .i64 4)),(8,.t (.int .i64 (j:Nat))),(9,.t (.sl (N.map bsT))),(10,.t (.int .i64 (k:Nat)))]) (fun k=>[(9000,.live 4 (((L++(N.take k).map (mkE 9 3 act)).map evT).map V.t) true false)]) ?_ (fun k hk=>?_)
       ·have e0:L++(N.take 0).map (mkE 9 3 act)=L:=by simp
        simp only[e0]
        refine qI.rd id ?_ ?_ rfl
        all_goals simp (disch:=omega) only [go_sem,seval,id]
       ·have bk:(L++(N.take k).map (mkE 9 3 act)).length≤400:=by simp;omega
        by_cases hkl:k<N.length
        ·obtain⟨s,hs⟩ : ∃ s,N[k]?=some s:=⟨N[k],by simp[hkl]⟩
         have hsl:=le s (List.mem_of_getElem? hs)
         have hM:=zPo (r:=9) (k:=3) (act:=act) (d:=s) ⟨ha,by omega⟩
         have hT:L++(N.take (k+1)).map (mkE 9 3 act)=(L++(N.take k).map (mkE 9 3 act))++[mkE 9 3 act s]:=by rw[qC1 hs,List.append_assoc]
         generalize L++(N.take k).map (mkE 9 3 act)=M at *
         generalize mkE 9 3 act s=e at *
         simp (disch:=omega) only [go_sem,seval,qAx,qCj,hs,h3,hM,qYt,qYu]
         refine⟨hkl,qI.rd (fun j=>if j=9000 then 94336 else j) ?_ ?_ rfl⟩
         all_goals simp (disch:=omega) only [go_sem,seval,id,hT]
         all_goals (have hq:=congrArg List.length hT;simp only[List.length_append,List.length_cons,List.length_nil,List.length_map,List.length_take,qEs] at hq ⊢;omega)
        ·have e:k=N.length:=by omega
         subst e
         rw[List.take_length]
         simp (disch:=omega) only [go_sem,seval,qAx]
         refine⟨hlt,qI.rd id ?_ ?_ rfl⟩
         all_goals simp (disch:=omega) only [go_sem,seval,id,hO]
         all_goals (have hq:=congrArg List.length hO;simp only[List.length_append,List.length_cons,List.length_nil,List.length_map,List.length_take,qEs] at hq ⊢;omega)
      ·have hE:qGu.fs [.t (.agg [.int .i64 (r:Int),zU xs,.int .i64 xv,.sl (xp.map qA)]),.t (.int .i64 act)] []=some (.t (evT (ofI ((r:Int),xs,xv,xp) act)),[]):=zFo (x:=((r:Int),xs,xv,xp)) ⟨hxm,ha⟩
       have r4i : ¬ (r:Int)=4:=by omega
       have r4b:((r:Int) != 4)=true:=by simpa using r4i
       rw[if_pos rfl,if_neg r4i] at hO
       generalize ofI ((r:Int),xs,xv,xp) act=e at *
       simp (disch:=omega) only [go_sem,seval,yT,qN,hx,bne_self_eq_false,r4b,h4,hE,qYt,qYu]
       repeat refine And.intro rfl ?_
       refine⟨hlt,qI.rd (fun j=>if j=9000 then 73856 else j) ?_ ?_ rfl⟩
       all_goals simp (disch:=omega) only [go_sem,seval,id,hO]
       all_goals (have hq:=congrArg List.length hO;simp only[List.length_append,List.length_cons,List.length_nil,List.length_map,List.length_take,qEs] at hq ⊢;omega)
     ·rw[if_neg q,List.append_nil] at hO
      have qb:(xa != (r:Int))=true:=by simpa using q
      simp (disch:=omega) only [go_sem,seval,yT,qN,hx,qb]
      refine⟨hlt,qI.rd id ?_ ?_ rfl⟩
      all_goals simp (disch:=omega) only [go_sem,seval,id,hO]
      all_goals (have hq:=congrArg List.length hO;simp only[List.length_append,List.length_cons,List.length_nil,List.length_map,List.length_take,qEs] at hq ⊢;omega)
    ·have e:j=l.length:=by omega
     subst e
     rw[List.take_length] at bl ⊢
     subst hri
     rw[←hb] at bl ⊢
     simp (disch:=omega) only [go_sem,seval,yT]
     refine⟨hi,qI.rd id ?_ ?_ rfl⟩
     all_goals simp (disch:=omega) only [go_sem,seval,id]
  simp (disch:=omega) only [go_sem,seval,kP,h1,hC,a1,a3]
  refine qD 4 (fun i=>[(0,.t (.sl (l.map imT))),(1,.t (.int .i64 act)),(5,.sl 9000 0 (zA7 act l i).length),(6,.t (.int .i64 ((i+1:Nat):Int)))]) (fun i=>[(9000,.live 4 (((zA7 act l i).map evT).map V.t) true false)]) ?_ (fun i hi=>?_)
  ·refine qI.cv0 (hv:=[(9000,.live 4 [] true false)]) (ho:=[]) id ?_ ?_ rfl rfl
   all_goals simp (disch:=omega) only [go_sem,seval,id,zA7]
  ·rcases (show i=0∨i=1∨i=2∨i=3∨i=4 by omega) with rfl | rfl | rfl | rfl | rfl
   ·have hb:zA7 act l 0=[]:=rfl
    rw[hb]
    simp (disch:=omega) only [go_sem,seval,yS]
    refine main 0 1 (by omega) rfl [] (by simp[zA7]) (by simp) _ _ (qI.rd id ?_ ?_ rfl)
    all_goals simp (disch:=omega) only [go_sem,seval,id]
   ·have hb:zA7 act l 1=kZ act 1 l:=rfl
    rw[hb]
    simp (disch:=omega) only [go_sem,seval,yS]
    refine main 1 2 (by omega) rfl (kZ act 1 l) (by simp[zA7]) (by omega) _ _ (qI.rd id ?_ ?_ rfl)
    all_goals simp (disch:=omega) only [go_sem,seval,id]
   ·have hb:zA7 act l 2=kZ act 1 l++kZ act 2 l:=rfl
    have h3':zA7 act l 3=((kZ act 1 l++kZ act 2 l)++zMk act)++kZ act 3 l:=rfl
    have lb:(kZ act 1 l++kZ act 2 l).length≤100:=by rw[List.length_append];omega
    have hsp:=jBa
    have l4:qNh.length=4:=rfl
    have t4:List.take 4 qNh=qNh:=rfl
    have hss:zMk act=qOy act qNh 8:=rfl
    rw[hb]
    rw[hss] at h3'
    generalize kZ act 1 l++kZ act 2 l=S2 at *
    have hMk : ∀ k:Nat,_:=fun k=>zPo (r:=(k:Int)) (k:=2) (act:=act) (d:=qNh) ⟨ha,by rw[l4];decide⟩
    generalize qNh=P4 at *
    simp (disch:=omega) only [go_sem,seval,yS]
    refine qD 8 (fun k=>[(0,.t (.sl (l.map imT))),(1,.t (.int .i64 act)),(5,.sl 9000 0 (S2++qOy act P4 k).length),(6,.t (.int .i64 3)),(7,.t (.int .i64 (k:Nat)))]) (fun k=>[(9000,.live 4 (((S2++qOy act P4 k).map evT).map V.t) true false)]) ?_ (fun k hk=>?_)
    ·have e0:S2++qOy act P4 0=S2:=by simp[qOy]
     simp only[e0]
     refine qI.rd id ?_ ?_ rfl
     all_goals simp (disch:=omega) only [go_sem,seval,id]
    ·have bk:(S2++qOy act P4 k).length≤200:=by rw[List.length_append,qEs];omega
     by_cases hkl:k<8
     ·have hM:=hMk k
      have hT:S2++qOy act P4 (k+1)=(S2++qOy act P4 k)++[mkE (k:Int) 2 act P4]:=by rw[zTq,List.append_assoc]
      generalize S2++qOy act P4 k=M at *
      generalize mkE (k:Int) 2 act P4=e at *
      simp (disch:=omega) only [go_sem,seval,qAw,h2,hsp,l4,t4,h3,hM,qYt,qYu]
      refine⟨hkl,qI.rd (fun j=>if j=9000 then 49248 else j) ?_ ?_ rfl⟩
      all_goals simp (disch:=omega) only [go_sem,seval,id,hT]
      all_goals (have hq:=congrArg List.length hT;simp only[List.length_append,List.length_cons,List.length_nil,List.length_map,List.length_take,qEs] at hq ⊢;omega)
     ·have e:k=8:=by omega
      subst e
      simp (disch:=omega) only [go_sem,seval,qAw]
      refine main 2 3 (by omega) rfl _ h3' bk _ _ (qI.rd id ?_ ?_ rfl)
      all_goals simp (disch:=omega) only [go_sem,seval,id]
   ·have hb:zA7 act l 3=(kZ act 1 l++kZ act 2 l)++zMk act++kZ act 3 l:=rfl
    have h4':zA7 act l 4=((kZ act 1 l++kZ act 2 l)++zMk act++kZ act 3 l)++kZ act 4 l:=by simp[zA7,qRl]
    have lb:((kZ act 1 l++kZ act 2 l)++zMk act++kZ act 3 l).length≤200:=by simp only[List.length_append];omega
    rw[hb]
    generalize (kZ act 1 l++kZ act 2 l)++zMk act++kZ act 3 l=S3 at *
    simp (disch:=omega) only [go_sem,seval,yS]
    refine main 3 4 (by omega) rfl S3 h4' lb _ _ (qI.rd id ?_ ?_ rfl)
    all_goals simp (disch:=omega) only [go_sem,seval,id]
   ·have hb:zA7 act l 4=qRl act l:=rfl
    rw[hb]
    simp (disch:=omega) only [go_sem,seval,yS,List.take_length]
 ·have hr:qTe l act=[]:=if_pos (.inl hz)
  rw[hr]
  have hz':(qGr l != 0)=true:=by simpa using hz
  simp (disch:=omega) only [go_sem,seval,kP,h1,hC,hz',List.map_nil]
theorem zEv {l:List Ev}:qVd 4 (List.map evT l)=true:=by
 unfold qVd
 refine List.all_eq_true.2 fun x hx=>?_
 obtain⟨e,-,rfl⟩:=List.mem_map.1 hx
 rfl
def zDb (A B C D:List Ev):Hs:=[(9001,.live 4 ((A.map evT).map V.t) true false),(9002,.live 4 ((B.map evT).map V.t) true false),(9003,.live 4 ((C.map evT).map V.t) true false),(9004,.live 4 ((D.map evT).map V.t) true false),(16384,.live 1 [.nil,.sl 9001 0 A.length,.sl 9002 0 B.length,.sl 9003 0 C.length,.sl 9004 0 D.length] true true)]
theorem qPd (tab:Tab) (gl:Gl) (n1 n2 n3 n4 n5:Nat) (h1:tab.look n1=some qHq.fs) (h2:tab.look n2=some qGu.fs) (h3:tab.look n3=some qGt.fs) (h4:tab.look n4=some qJr.fs) (h5:tab.look n5=some qF3.fs) (l:List Im) (act:Int) (hm:zIp l) :
  (wH n1 n2 n3 n4 n5).wp tab gl (qE 0 [.t (.sl (l.map imT)),.t (.int .i64 act)]) (qE 0 []) (zZ [(4,none)] 0 (fun r o=>r = .t (.sl ((qTe l act).map evT))∧o=[])):=by
 have hC:=zSm hm
 by_cases a1:act<1
 ·have hr:qTe l act=[]:=if_pos (.inr (.inl a1))
  rw[hr]
  simp (disch:=omega) only [go_sem,seval,wH,h1,hC,a1,List.map_nil]
 by_cases a3:3<act
 ·have hr:qTe l act=[]:=if_pos (.inr (.inr a3))
  rw[hr]
  simp (disch:=omega) only [go_sem,seval,wH,h1,hC,a1,a3,List.map_nil]
 by_cases hz:qGr l=0
 ·rw[hz] at hC
  obtain⟨hok,hl1,hl8⟩:=qM0 hz
  have hr:qTe l act=qRl act l:=by unfold qTe;rw[if_neg (by omega)]
  rw[hr]
  have ha:0≤act∧act<4:=by omega
  have b1:=qBl (act:=act) (r:=1) (l:=l)
  have b2:=qBl (act:=act) (r:=2) (l:=l)
  have b3:=qBl (act:=act) (r:=3) (l:=l)
  have b4:=qBl (act:=act) (r:=4) (l:=l)
  simp (disch:=omega) only [go_sem,seval,wH,h1,hC,a1,a3]
  refine qD l.length (fun i=>[(1,.t (.int .i64 act)),(5,.ref 16384 0 0),(23,.t (.sl (l.map imT))),(24,.t (.int .i64 l.length)),(25,.t (.int .i64 (i:Nat)))]) (fun i=>zDb (kZ act 1 (l.take i)) (kZ act 2 (l.take i)) (kZ act 3 (l.take i)) (kZ act 4 (l.take i))) ?_ (fun i hi=>?_)
  ·have e : ∀ r,kZ act r (l.take 0)=[]:=fun r=>rfl
   simp only[e]
   refine qI.cv0 (hv:=[(9001,.live 4 [] true false),(9002,.live 4 [] true false),(9003,.live 4 [] true false),(9004,.live 4 [] true false)]) (ho:=[(16384,.live 1 [.nil,.sl 9001 0 0,.sl 9002 0 0,.sl 9003 0 0,.sl 9004 0 0] true true)]) id ?_ ?_ rfl rfl
   all_goals simp (disch:=omega) only [go_sem,seval,id]
  ·by_cases hlt:i<l.length
   ·obtain⟨⟨xa,xs,xv,xp⟩,hx⟩ : ∃ x,l[i]?=some x:=⟨l[i],by simp[hlt]⟩
    have hxm:imM (xa,xs,xv,xp):=hm.2 _ (List.mem_of_getElem? hx)
    have hgood:=(xU (hok _ (List.mem_of_getElem? hx))).1
    have g1:=qH0 (act:=act) (r:=1) hx
    have g2:=qH0 (act:=act) (r:=2) hx
    have g3:=qH0 (act:=act) (r:=3) hx
    have g4:=qH0 (act:=act) (r:=4) hx
    have c1:=qBl (act:=act) (r:=1) (l:=l.take i)
    have c2:=qBl (act:=act) (r:=2) (l:=l.take i)
    have c3:=qBl (act:=act) (r:=3) (l:=l.take i)
    have c4:=qBl (act:=act) (r:=4) (l:=l.take i)
    rw[List.length_take] at c1 c2 c3 c4
    simp only at hgood g1 g2 g3 g4
    generalize kZ act 1 (l.take i)=A at *
    generalize kZ act 2 (l.take i)=B at *
    generalize kZ act 3 (l.take i)=C at *
    generalize kZ act 4 (l.take i)=D at *
    rcases (show xa=1∨xa=2∨xa=3∨xa=4 by omega) with rfl | rfl | rfl | rfl
    ·rw[if_pos rfl,if_neg (by decide)] at g1
     rw[if_neg (by decide),List.append_nil] at g2 g3 g4
     have hE:qGu.fs [.t (.agg [.int .i64 1,zU xs,.int .i64 xv,.sl (xp.map qA)]),.t (.int .i64 act)] []=some (.t (evT (ofI (1,xs,xv,xp) act)),[]):=zFo (x:=(1,xs,xv,xp)) ⟨hxm,ha⟩
     generalize ofI (1,xs,xv,xp) act=e at *
     simp (disch:=omega) only [go_sem,seval,yF,zDb,qN,hx,h2,hE,qYt,qYu]
     repeat refine And.intro rfl ?_
     refine⟨hlt,qI.rd (fun j=>if j=9001 then 37024 else j) ?_ ?_ rfl⟩
     all_goals simp (disch:=omega) only [go_sem,seval,id,zDb,g1,g2,g3,g4]
     all_goals (have hq:=congrArg List.length g1;simp only[List.length_append,List.length_cons,List.length_nil] at hq ⊢;omega)
    ·rw[if_pos rfl,if_neg (by decide)] at g2
     rw[if_neg (by decide),List.append_nil] at g1 g3 g4
     have hE:qGu.fs [.t (.agg [.int .i64 2,zU xs,.int .i64 xv,.sl (xp.map qA)]),.t (.int .i64 act)] []=some (.t (evT (ofI (2,xs,xv,xp) act)),[]):=zFo (x:=(2,xs,xv,xp)) ⟨hxm,ha⟩
     generalize ofI (2,xs,xv,xp) act=e at *
     simp (disch:=omega) only [go_sem,seval,yF,zDb,qN,hx,h2,hE,qYt,qYu]
     repeat refine And.intro rfl ?_
     refine⟨hlt,qI.rd (fun j=>if j=9002 then 37024 else j) ?_ ?_ rfl⟩
     all_goals simp (disch:=omega) only [go_sem,seval,id,zDb,g1,g2,g3,g4]
     all_goals (have hq:=congrArg List.length g2;simp only[List.length_append,List.length_cons,List.length_nil] at hq ⊢;omega)
    ·rw[if_pos rfl,if_neg (by decide)] at g3
     rw[if_neg (by decide),List.append_nil] at g1 g2 g4
     have hE:qGu.fs [.t (.agg [.int .i64 3,zU xs,.int .i64 xv,.sl (xp.map qA)]),.t (.int .i64 act)] []=some (.t (evT (ofI (3,xs,xv,xp) act)),[]):=zFo (x:=(3,xs,xv,xp)) ⟨hxm,ha⟩
     generalize ofI (3,xs,xv,xp) act=e at *
     simp (disch:=omega) only [go_sem,seval,yF,zDb,qN,hx,h2,hE,qYt,qYu]
     repeat refine And.intro rfl ?_
     refine⟨hlt,qI.rd (fun j=>if j=9003 then 37024 else j) ?_ ?_ rfl⟩
     all_goals simp (disch:=omega) only [go_sem,seval,id,zDb,g1,g2,g3,g4]
     all_goals (have hq:=congrArg List.length g3;simp only[List.length_append,List.length_cons,List.length_nil] at hq ⊢;omega)
    ·rw[if_pos rfl,if_pos trivial] at g4
     rw[if_neg (by decide),List.append_nil] at g1 g2 g3
     have hN:qGt.fs [.t (.agg [.int .i64 4,zU xs,.int .i64 xv,.sl (xp.map qA)])] []=some (.t (.sl ((lnL xp).map bsT)),[]):=zFf hxm
     have ll:=qRv (p:=xp)
     have le:=zK8 (p:=xp)
     have lp:=hxm.2.1
     simp only at lp g4
     generalize lnL xp=N at *
     have hRg:qJr.fs [.t (.int .i64 4)] []=some (.t (.int .i64 9),[]):=zLz (a:=4)
     simp (disch:=omega) only [go_sem,seval,yF,zDb,qN,hx,h3,hN]
     repeat refine And.intro rfl ?_
     refine qD N.length (fun k=>[(1,.t (.int .i64 act)),(5,.ref 16384 0 0),(7,.ref 28704 0 0),(23,.t (.sl (l.map imT))),(24,.t (.int .i64 l.length)),(25,.t (.int .i64 (i:Nat))),(45,.t (.sl (N.map bsT))),(46,.t (.int .i64 N.length)),(47,.t (.int .i64 (k:Nat)))]) (fun k=>(28704,.live 4 [.t (.agg [.int .i64 4,zU xs,.int .i64 xv,.sl (xp.map qA)])] true true)::zDb A B C (D++(N.take k).map (mkE 9 3 act))) ?_ (fun k hk=>?_)
     ·have e0:D++(N.take 0).map (mkE 9 3 act)=D:=by simp
      simp only[e0,zDb]
      refine qI.rd id ?_ ?_ rfl
      all_goals simp (disch:=omega) only [go_sem,seval,id]
     ·have bk:(D++(N.take k).map (mkE 9 3 act)).length≤400:=by simp;omega
      by_cases hkl:k<N.length
      ·obtain⟨s,hs⟩ : ∃ s,N[k]?=some s:=⟨N[k],by simp[hkl]⟩
       have hsl:=le s (List.mem_of_getElem? hs)
       have hM:=zPo (r:=9) (k:=3) (act:=act) (d:=s) ⟨ha,by omega⟩
       have hT:D++(N.take (k+1)).map (mkE 9 3 act)=(D++(N.take k).map (mkE 9 3 act))++[mkE 9 3 act s]:=by rw[qC1 hs,List.append_assoc]
       generalize D++(N.take k).map (mkE 9 3 act)=M at *
       generalize mkE 9 3 act s=e at *
       simp (disch:=omega) only [go_sem,seval,xO,zDb,qCj,hs,h4,hRg,h5,hM,qYt,qYu]
       repeat refine And.intro rfl ?_
       refine⟨hkl,qI.rd (fun j=>if j=9004 then 53456 else j) ?_ ?_ rfl⟩
       all_goals simp (disch:=omega) only [go_sem,seval,id,zDb,hT]
       all_goals (have hq:=congrArg List.length hT;simp only[List.length_append,List.length_cons,List.length_nil,List.length_map,List.length_take] at hq ⊢;omega)
      ·have e:k=N.length:=by omega
       subst e
       rw[List.take_length]
       simp (disch:=omega) only [go_sem,seval,xO,zDb]
       refine⟨hlt,qI.rd id ?_ ?_ rfl⟩
       all_goals simp (disch:=omega) only [go_sem,seval,id,zDb,g1,g2,g3,g4]
       all_goals (have hq:=congrArg List.length g4;simp only[List.length_append,List.length_cons,List.length_nil,List.length_map,List.length_take] at hq ⊢;omega)
   ·have e:i=l.length:=by omega
    subst e
    have hEv:qRl act l=((kZ act 1 l++kZ act 2 l)++qOy act qNh 8)++(kZ act 3 l++kZ act 4 l):=rfl
    rw[List.take_length,hEv]
    generalize kZ act 1 l=A at *
    generalize kZ act 2 l=B at *
    generalize kZ act 3 l=C at *
    generalize kZ act 4 l=D at *
    have l4:qNh.length=4:=rfl
    have hMk : ∀ k:Nat,qF3.fs [.t (.int .i64 (k:Int)),.t (.int .i64 2),.t (.int .i64 act),.t (.sl [qA 0,qA 0,qA 0,qA 0])] []=some (.t (evT (mkE (k:Int) 2 act qNh)),[]):=fun k=>zPo (r:=(k:Int)) (k:=2) (act:=act) (d:=qNh) ⟨ha,by rw[l4];decide⟩
    have hAB:(A++B).length≤70:=by rw[List.length_append];omega
    simp (disch:=omega) only [go_sem,seval,yF,zDb,zEv]
    repeat refine And.intro rfl ?_
    refine qD 8 (fun k=>[(1,.t (.int .i64 act)),(5,.ref 16384 0 0),(10,.sl 9005 0 ((A++B)++qOy act qNh k).length),(73,.t (.int .i64 (k:Nat)))]) (fun k=>[(9005,.live 4 ((((A++B)++qOy act qNh k).map evT).map V.t) true false),(9001,.dead),(9002,.live 4 ((B.map evT).map V.t) true false),(9003,.live 4 ((C.map evT).map V.t) true false),(9004,.live 4 ((D.map evT).map V.t) true false),(16384,.live 1 [.nil,.sl 9001 0 A.length,.sl 9002 0 B.length,.sl 9003 0 C.length,.sl 9004 0 D.length] true true)]) ?_ (fun k hk=>?_)
    ·have e0:(A++B)++qOy act qNh 0=A++B:=by simp[qOy]
     simp only[e0]
     refine qI.rd (fun j=>if j=9005 then 65600 else j) ?_ ?_ rfl
     all_goals simp (disch:=omega) only [go_sem,seval,id]
    ·have bk:((A++B)++qOy act qNh k).length≤200:=by rw[List.length_append,qEs];omega
     by_cases hkl:k<8
     ·have hM:=hMk k
      have hT:(A++B)++qOy act qNh (k+1)=((A++B)++qOy act qNh k)++[mkE (k:Int) 2 act qNh]:=by rw[zTq,←List.append_assoc]
      generalize (A++B)++qOy act qNh k=M at *
      generalize mkE (k:Int) 2 act qNh=e at *
      simp (disch:=omega) only [go_sem,seval,xP,h5,hM,qYt,qYu]
      repeat refine And.intro rfl ?_
      refine⟨hkl,qI.rd (fun j=>if j=9005 then 82016 else j) ?_ ?_ rfl⟩
      all_goals simp (disch:=omega) only [go_sem,seval,id,hT]
      all_goals (have hq:=congrArg List.length hT;simp only[List.length_append,List.length_cons,List.length_nil,qEs] at hq ⊢;omega)
     ·have e:k=8:=by omega
      subst e
      have hfin:((A++B)++qOy act qNh 8)++(C++D)=(((A++B)++qOy act qNh 8)++C)++D:=by rw[List.append_assoc _ C D]
      rw[hfin]
      generalize (A++B)++qOy act qNh 8=M at *
      have tk:List.take (M.length+C.length+D.length) (M++C++D)=M++C++D:=List.take_of_length_le (by simp only[List.length_append];omega)
      simp (disch:=omega) only [go_sem,seval,xP,zEv,tk]
 ·have hr:qTe l act=[]:=if_pos (.inl hz)
  rw[hr]
  have hz':(qGr l != 0)=true:=by simpa using hz
  simp (disch:=omega) only [go_sem,seval,wH,h1,hC,a1,a3,hz',List.map_nil]
def eqv (x y:Rg) (g:Nat):Prop:=zDd x.1 0 g=zDd y.1 0 g∧zDd x.1 1 g=zDd y.1 1 g
instance {x y:Rg} {g:Nat}:Decidable (eqv x y g):=by unfold eqv;infer_instance
theorem eqv.symm {x y:Rg} {g:Nat} (h:eqv x y g):eqv y x g:=⟨h.1.symm,h.2.symm⟩
theorem eqv.trans {x y z:Rg} {g:Nat} (h:eqv x y g) (k:eqv y z g):eqv x z g:=⟨h.1.trans k.1,h.2.trans k.2⟩
def isG (g:Nat) (e:Ev):Prop:=e.2.1≠5∧e.1=g
instance {g:Nat} {e:Ev}:Decidable (isG g e):=by unfold isG;infer_instance
theorem jAx {act:Int} (ha:1≤act∧act≤3) {es:List Ev} (hv : ∀ e∈es,evV act e):rpE act es=0:=by
 unfold rpE
 rw[if_neg (by omega)]
 exact qM3 (fun e he=>(hv e he).1)
def prE (l:List Im) (act:Int):Int:=if qGr l≠0 then qGr l else if act<1∨3<act then 1 else 0
def prG (l:List Im) (act:Int):Rg:=if prE l act=0 then rpF act (qRl act l) else ([],0)
theorem zTf {l:List Im} {act:Int} (h:prE l act=0):qGr l=0∧1≤act∧act≤3:=by
 unfold prE at h
 split at h
 ·contradiction
 ·split at h
  ·contradiction
  ·omega
def jJ2 (l:List Im):List Im:=l.filter fun x=>decide (x.1≠4)
end Go.Eng
end
section
namespace Go.Eng
def yL (n_event_Check n_registers_Extend:Nat):AC:=
 (.seq
 (rG 24576 [bT 24 .lss 23 22])
 (.seq
 (.cond (.tmp 24)
 .skip
 (.exit 0))
 (.seq
 (.block 1
 (.seq
 (rG 28672 [oO 25 (.iaddr 4) [.tmp 21,.tmp 23],oO 26 (.load 4 true) [.tmp 25],oO 6 (.new 4 [(.agg [(.t (.int .i64 0)),(.t (.int .i64 0)),.nil,.nil])]) [],oS 4 6 26])
 (.seq
 (rG 32768 [oO 27 (.load 4 true) [.tmp 6],oO 28 (.faddr 0) [.tmp 1],oO 29 (.load 1 false) [.tmp 28],cL 30 n_event_Check false [.tmp 27,.tmp 29],mv 7 30])
 (.seq
 (.seq
 (rG 36864 [mv 31 7,bN 32 .eql 31 0,mv 33 32,oG 34 33 (.faddr 1) [.tmp 6],oG 35 33 (.load 1 false) [.tmp 34],oG 36 33 (.bin .neq) [.tmp 35,.cst (.t (.int .i64 5))],oO 37 .pick [.tmp 33,.tmp 36,.cst (.t (.bool false))]])
 (.cond (.tmp 37)
 (rG 40960 [oO 39 (.load 2 true) [.tmp 4],oO 40 (.faddr 0) [.tmp 6],oO 41 (.load 1 false) [.tmp 40],oO 42 (.faddr 2) [.tmp 6],oO 43 (.load 1 false) [.tmp 42],cL 44 n_registers_Extend true [.tmp 39,.cst (.t (.int .i64 0)),.tmp 41,.tmp 43],mv 38 44,oO 45 (.extract 0) [.tmp 38],oO 46 (.extract 1) [.tmp 38],oS 2 4 45,mv 7 46])
 .skip))
 (.seq
 (rG 45056 [mv 47 7,bN 48 .neq 47 0])
 (.cond (.tmp 48)
 (.seq
 (rG 49152 [oO 49 (.build [.nil,(.t (.int .i64 0))] []) [],mv 50 7,oS 2 2 49,mv 3 50])
 .ret)
 .skip))))))
 (rG 53248 [bN 51 .add 23 1,mv 23 51]))))
def wO (n_registers_New n_event_Check n_registers_Extend:Nat):AC:=
 (.seq
 (rG 4096 [oO 1 .box [.tmp 0],oO 2 (.new 2 [(.agg [.nil,(.t (.int .i64 0))])]) [],mC 3 (.t (.int .i64 0))])
 (.seq
 (.seq
 (rG 8192 [oO 8 (.faddr 0) [.tmp 1],oO 9 (.load 1 false) [.tmp 8],bN 10 .lss 9 1,mv 11 10,oF 12 11 (.faddr 0) [.tmp 1],oF 13 11 (.load 1 false) [.tmp 12],oF 14 11 (.bin .gtr) [.tmp 13,.cst (.t (.int .i64 3))],oO 15 .pick [.tmp 11,.cst (.t (.bool true)),.tmp 14]])
 (.cond (.tmp 15)
 (.seq
 (rG 12288 [oO 16 (.build [.nil,(.t (.int .i64 0))] []) [],oS 2 2 16,mC 3 (.t (.int .i64 1))])
 .ret)
 .skip))
 (.seq
 (rG 16384 [oO 17 (.faddr 0) [.tmp 1],oO 18 (.load 1 false) [.tmp 17],cL 19 n_registers_New true [.tmp 18],oO 4 (.new 2 [(.agg [.nil,(.t (.int .i64 0))])]) [],oS 2 4 19])
 (.seq
 (.seq
 (rG 20480 [oO 20 (.faddr 2) [.tmp 1],oO 21 (.load 1 false) [.tmp 20],oO 22 .len [.tmp 21],mC 23 (.t (.int .i64 0))])
 (.block 0
 (.loop (yL n_event_Check n_registers_Extend))))
 (.seq
 (rG 57344 [oO 52 (.load 2 true) [.tmp 4],oS 2 2 52,mC 3 (.t (.int .i64 0))])
 .ret)))))
def kF (n_ref25_Event:Nat):AC:=
 (.seq
 (.seq
 (rG 20480 [mv 17 4,oO 18 (.faddr 2) [.tmp 1],oO 19 (.load 1 false) [.tmp 18],oO 20 .len [.tmp 19],bT 21 .lss 17 20])
 (.cond (.tmp 21)
 .skip
 (.exit 0)))
 (.seq
 (.block 1
 (.seq
 (.reg 28672 (some [0,1,0,7,15,0,32,127,255]) [oO 24 (.faddr 2) [.tmp 1],oO 25 (.load 1 false) [.tmp 24],mv 26 4,oO 27 (.iaddr 4) [.tmp 25,.tmp 26],oO 28 (.load 4 true) [.tmp 27],oO 29 (.faddr 0) [.tmp 1],oO 30 (.load 1 false) [.tmp 29],cL 31 n_ref25_Event false [.tmp 28,.tmp 30],mv 5 31])
 (.seq
 (rG 32768 [mv 32 5,bN 33 .neq 32 0])
 (.cond (.tmp 33)
 (.seq
 (rG 36864 [oO 34 (.build [.nil,(.t (.int .i64 0))] []) [],mv 35 5,oS 2 2 34,mv 3 35])
 .ret)
 .skip))))
 (rG 24576 [mv 22 4,bN 23 .add 22 1,mv 4 23])))
def kG (n_ref8_Extend:Nat):AC:=
 (.seq
 (.seq
 (rG 49152 [mv 39 7,oO 40 (.faddr 2) [.tmp 1],oO 41 (.load 1 false) [.tmp 40],oO 42 .len [.tmp 41],bT 43 .lss 39 42])
 (.cond (.tmp 43)
 .skip
 (.exit 2)))
 (.seq
 (.block 3
 (.seq
 (rG 57344 [oO 46 (.faddr 2) [.tmp 1],oO 47 (.load 1 false) [.tmp 46],mv 48 7,oO 49 (.iaddr 4) [.tmp 47,.tmp 48],oO 50 (.faddr 1) [.tmp 49],oO 51 (.load 1 false) [.tmp 50],bN 52 .neq 51 5])
 (.cond (.tmp 52)
 (.reg 61440 (some [0,0,2,0,14,30,62,0,128,0,896,1920,3968,8191,16383,32767,32767,65535]) [oO 54 (.load 2 true) [.tmp 6],oO 55 (.faddr 2) [.tmp 1],oO 56 (.load 1 false) [.tmp 55],mv 57 7,oO 58 (.iaddr 4) [.tmp 56,.tmp 57],oO 59 (.faddr 0) [.tmp 58],oO 60 (.load 1 false) [.tmp 59],oO 61 (.faddr 2) [.tmp 1],oO 62 (.load 1 false) [.tmp 61],mv 63 7,oO 64 (.iaddr 4) [.tmp 62,.tmp 63],oO 65 (.faddr 2) [.tmp 64],oO 66 (.load 1 false) [.tmp 65],cL 67 n_ref8_Extend true [.tmp 54,.cst (.t (.int .i64 0)),.tmp 60,.tmp 66],mv 53 67,oO 68 (.extract 0) [.tmp 53],oO 69 (.extract 1) [.tmp 53],oS 2 6 68])
 .skip)))
 (rG 53248 [mv 44 7,bN 45 .add 44 1,mv 7 45])))
def qAy (n_ref25_Event n_ref8_New n_ref8_Extend:Nat):AC:=
 (.seq
 (rG 4096 [oO 1 .box [.tmp 0],oO 2 (.new 2 [(.agg [.nil,(.t (.int .i64 0))])]) [],mC 3 (.t (.int .i64 0))])
 (.seq
 (.seq
 (rG 8192 [oO 8 (.faddr 0) [.tmp 1],oO 9 (.load 1 false) [.tmp 8],bN 10 .lss 9 1,mv 11 10,oF 12 11 (.faddr 0) [.tmp 1],oF 13 11 (.load 1 false) [.tmp 12],oF 14 11 (.bin .gtr) [.tmp 13,.cst (.t (.int .i64 3))],oO 15 .pick [.tmp 11,.cst (.t (.bool true)),.tmp 14]])
 (.cond (.tmp 15)
 (.seq
 (rG 12288 [oO 16 (.build [.nil,(.t (.int .i64 0))] []) [],oS 2 2 16,mC 3 (.t (.int .i64 1))])
 .ret)
 .skip))
 (.seq
 (.seq
 (rG 16384 [mC 4 (.t (.int .i64 0))])
 (.block 0
 (.loop (kF n_ref25_Event))))
 (.seq
 (rG 40960 [oO 36 (.faddr 0) [.tmp 1],oO 37 (.load 1 false) [.tmp 36],cL 38 n_ref8_New true [.tmp 37],oO 6 (.new 2 [(.agg [.nil,(.t (.int .i64 0))])]) [],oS 2 6 38])
 (.seq
 (.seq
 (rG 45056 [mC 7 (.t (.int .i64 0))])
 (.block 2
 (.loop (kG n_ref8_Extend))))
 (.seq
 (rG 65536 [oO 70 (.load 2 true) [.tmp 6],oS 2 2 70,mC 3 (.t (.int .i64 0))])
 .ret))))))
end Go.Eng
end
section
set_option maxRecDepth 20000
set_option maxHeartbeats 64000000
namespace Go.Eng
theorem qXm (tab:Tab) (gl:Gl) (n1 n2 n3:Nat) (h1:tab.look n1=some vN.fs) (h2:tab.look n2=some vT.fs) (h3:tab.look n3=some yE.fs) (bk:List jH) (u s0 s1:Int) (hv:RV bk) :
  (qJi n1 n2 n3).wp tab gl (qE 0 [.t (vY bk u),.t (.agg [.int .i64 s0,.int .i64 s1])]) (qE 0 []) (xM [] [(4,none),(5,none)] 0 (fun r o=>r=zA3 bk s0 s1∧o=zA2 bk s0 s1)):=by
 have hm:=hv.rm
 simp (disch:=omega) only [go_sem,seval,qJi]
 by_cases b0:zA1 s0
 ·have hE:qM2 bk s0 s1=1:=by unfold qM2;rw[if_pos (.inl b0)]
  rw[zA3,zA2,hE]
  unfold zA1 at b0
  refine qF 1 ?_
  by_cases c0:s0<0
  ·simp (disch:=omega) only [go_sem,seval,qB,vI,c0]
  ·simp (disch:=omega) only [go_sem,seval,qB,vI,c0]
 have hb0 : ¬ s0<0 ∧ ¬ 65535<s0:=by unfold zA1 at b0;omega
 obtain⟨c0,d0⟩:=hb0
 by_cases b1:zA1 s1
 ·have hE:qM2 bk s0 s1=1:=by unfold qM2;rw[if_pos (.inr b1)]
  rw[zA3,zA2,hE]
  unfold zA1 at b1
  refine qF 2 ?_
  by_cases c1:s1<0
  ·simp (disch:=omega) only [go_sem,seval,qB,vI,c0,d0,c1]
  ·simp (disch:=omega) only [go_sem,seval,qB,vI,c0,d0,c1]
 have hb1 : ¬ s1<0 ∧ ¬ 65535<s1:=by unfold zA1 at b1;omega
 obtain⟨c1,d1⟩:=hb1
 refine qF 3 ?_
 simp (disch:=omega) only [go_sem,seval,qB,vI,c0,d0,c1,d1]
 refine yO 2 (PD (s0=0∨onB bk 0=true) (s1=0∨onB bk 1=true)) (fun k=>match k with | 0=>[(2,.ref 4096 0 0),(3,.ref 4112 0 0),(7,.sl 9100 0 (List.length ([]:List UInt8))),(8,.t (.int .i64 0))] | 1=>[(2,.ref 4096 0 0),(3,.ref 4112 0 0),(7,.sl 9100 0 (List.length (qB7 bk 0 s0 16))),(8,.t (.int .i64 1))] | _=>[(2,.ref 4096 0 0),(3,.ref 4112 0 0),(7,.sl 9100 0 (List.length (qB7 bk 0 s0 16++qB7 bk 1 s1 16))),(8,.t (.int .i64 2))]) (fun k=>match k with | 0=>[(9100,.live 1 ((([]:List UInt8).map qA).map V.t) true false),(4112,.live 1 [.t (.int .i64 s0),.t (.int .i64 s1)] true true),(4096,.live 2 [.t (vY bk u)] true true)] | 1=>[(9100,.live 1 (((qB7 bk 0 s0 16).map qA).map V.t) true false),(4112,.live 1 [.t (.int .i64 s0),.t (.int .i64 s1)] true true),(4096,.live 2 [.t (vY bk u)] true true)] | _=>[(9100,.live 1 (((qB7 bk 0 s0 16++qB7 bk 1 s1 16).map qA).map V.t) true false),(4112,.live 1 [.t (.int .i64 s0),.t (.int .i64 s1)] true true),(4096,.live 2 [.t (vY bk u)] true true)]) ⟨fun h=>absurd h (by omega),fun h=>absurd h (by omega)⟩ ?_ (fun k hk hP=>?_)
 ·refine qI.cv0 (hv:=[(9100,.live 1 [] true false)]) (ho:=[(4112,.live 1 [.t (.int .i64 s0),.t (.int .i64 s1)] true true),(4096,.live 2 [.t (vY bk u)] true true)]) id ?_ ?_ rfl rfl
  all_goals simp (disch:=omega) only [go_sem,seval,id,List.map_cons,List.map_nil,List.length_nil]
 ·rcases (show k=0∨k=1∨k=2 by omega) with rfl | rfl | rfl
  ·by_cases z:s0=0
   ·have zz:(s0==0)=true:=by simpa using z
    simp (disch:=omega) only [go_sem,seval,jW,zz]
    refine qD 16 (fun i=>[(2,.ref 4096 0 0),(3,.ref 4112 0 0),(7,.sl 9100 0 (List.length (qB7 bk 0 s0 i))),(8,.t (.int .i64 0)),(9,.t (.int .i64 (i:Nat)))]) (fun i=>[(9100,.live 1 (((qB7 bk 0 s0 i).map qA).map V.t) true false),(4112,.live 1 [.t (.int .i64 s0),.t (.int .i64 s1)] true true),(4096,.live 2 [.t (vY bk u)] true true)]) ?_ (fun i hi=>?_)
    ·refine qI.rd id ?_ ?_ rfl
     all_goals simp (disch:=omega) only [go_sem,seval,id,qOx,List.append_nil]
    ·have l0:=vZ hv 0 s0 16
     have l1:=vZ hv 0 s0 i
     by_cases hlt:i<16
     ·have hsh:s0.fdiv (2^i)=s0/2^i:=Int.fdiv_eq_ediv_of_nonneg _ (Int.le_of_lt (Int.pow_pos (by decide)))
      have hb : ¬ s0/2^i%2=1:=by rw[z];simp
      simp (disch:=omega) only [go_sem,seval,zT,hsh,hb]
      refine⟨hlt,qI.rd id ?_ ?_ rfl⟩
      all_goals simp (disch:=omega) only [go_sem,seval,id,qEr (bk:=bk) (a:=0) hb]
     ·have e:i=16:=by omega
      subst e
      simp (disch:=omega) only [go_sem,seval,zT]
      refine⟨⟨fun _=> .inl z,fun h=>absurd h (by omega)⟩,qI.rd id ?_ ?_ rfl⟩
      all_goals simp (disch:=omega) only [go_sem,seval,id]
   ·have zz:(s0==0)=false:=by simpa using z
    have c0:=zBd (u:=u) (a:=0) hv.1 (by omega)
    rw[show ((0:Nat):Int)=0 from rfl] at c0
    cases ho:onB bk 0
    ·rw[ho] at c0
     have hE:qM2 bk s0 s1=27:=by
      unfold qM2
      rw[if_neg (by rintro (h | h);exact b0 h;exact b1 h),if_pos (.inl ⟨z,ho⟩)]
     rw[zA3,zA2,hE]
     simp (disch:=omega) only [go_sem,seval,jW,zz,h1,c0]
    ·rw[ho] at c0
     have hbl:=hv.1.len ho
     have hbn:List.length (bk.getD 0 [])=16:=by simpa [onB] using ho
     simp (disch:=omega) only [go_sem,seval,jW,zz,h1,c0]
     refine qD 16 (fun i=>[(2,.ref 4096 0 0),(3,.ref 4112 0 0),(7,.sl 9100 0 (List.length (qB7 bk 0 s0 i))),(8,.t (.int .i64 0)),(9,.t (.int .i64 (i:Nat)))]) (fun i=>[(9100,.live 1 (((qB7 bk 0 s0 i).map qA).map V.t) true false),(4112,.live 1 [.t (.int .i64 s0),.t (.int .i64 s1)] true true),(4096,.live 2 [.t (vY bk u)] true true)]) ?_ (fun i hi=>?_)
     ·refine qI.rd id ?_ ?_ rfl
      all_goals simp (disch:=omega) only [go_sem,seval,id,qOx,List.append_nil]
     ·have l0:=vZ hv 0 s0 16
      have l1:=vZ hv 0 s0 i
      by_cases hlt:i<16
      ·have hsh:s0.fdiv (2^i)=s0/2^i:=Int.fdiv_eq_ediv_of_nonneg _ (Int.le_of_lt (Int.pow_pos (by decide)))
       by_cases hb:s0/2^i%2=1
       ·have hvl:=hm.val 0 i
        have hx:(bk.getD 0 []).getD i []=zDd bk 0 i:=rfl
        simp (disch:=omega) only [go_sem,seval,zT,hsh,hb,hx]
        refine⟨hlt,qI.rd (fun j=>if j=9100 then 69776 else j) ?_ ?_ rfl⟩
        all_goals simp (disch:=omega) only [go_sem,seval,qP1 (bk:=bk) (a:=0) hb,List.append_assoc]
        all_goals try omega
       ·simp (disch:=omega) only [go_sem,seval,zT,hsh,hb]
        refine⟨hlt,qI.rd id ?_ ?_ rfl⟩
        all_goals simp (disch:=omega) only [go_sem,seval,id,qEr (bk:=bk) (a:=0) hb]
      ·have e:i=16:=by omega
       subst e
       simp (disch:=omega) only [go_sem,seval,zT]
       refine⟨⟨fun _=>(by first | exact .inr ho | trivial),fun h=>absurd h (by omega)⟩,qI.rd id ?_ ?_ rfl⟩
       all_goals simp (disch:=omega) only [go_sem,seval,id]
  ·by_cases z:s1=0
   ·have zz:(s1==0)=true:=by simpa using z
    simp (disch:=omega) only [go_sem,seval,jW,zz]
    refine qD 16 (fun i=>[(2,.ref 4096 0 0),(3,.ref 4112 0 0),(7,.sl 9100 0 (List.length (qB7 bk 0 s0 16++qB7 bk 1 s1 i))),(8,.t (.int .i64 1)),(9,.t (.int .i64 (i:Nat)))]) (fun i=>[(9100,.live 1 (((qB7 bk 0 s0 16++qB7 bk 1 s1 i).map qA).map V.t) true false),(4112,.live 1 [.t (.int .i64 s0),.t (.int .i64 s1)] true true),(4096,.live 2 [.t (vY bk u)] true true)]) ?_ (fun i hi=>?_)
    ·refine qI.rd id ?_ ?_ rfl
     all_goals simp (disch:=omega) only [go_sem,seval,id,qOx,List.append_nil]
    ·have l0:=vZ hv 0 s0 16
     have l1:=vZ hv 1 s1 i
     by_cases hlt:i<16
     ·have hsh:s1.fdiv (2^i)=s1/2^i:=Int.fdiv_eq_ediv_of_nonneg _ (Int.le_of_lt (Int.pow_pos (by decide)))
      have hb : ¬ s1/2^i%2=1:=by rw[z];simp
      simp (disch:=omega) only [go_sem,seval,zT,hsh,hb]
      refine⟨hlt,qI.rd id ?_ ?_ rfl⟩
      all_goals simp (disch:=omega) only [go_sem,seval,id,qEr (bk:=bk) (a:=1) hb]
     ·have e:i=16:=by omega
      subst e
      simp (disch:=omega) only [go_sem,seval,zT]
      refine⟨⟨fun _=>hP.1 (by omega),fun _=> .inl z⟩,qI.rd id ?_ ?_ rfl⟩
      all_goals simp (disch:=omega) only [go_sem,seval,id]
   ·have zz:(s1==0)=false:=by simpa using z
    have c1:=zBd (u:=u) (a:=1) hv.1 (by omega)
    rw[show ((1:Nat):Int)=1 from rfl] at c1
    cases ho:onB bk 1
    ·rw[ho] at c1
     have hE:qM2 bk s0 s1=27:=by
      unfold qM2
      rw[if_neg (by rintro (h | h);exact b0 h;exact b1 h),if_pos (.inr ⟨z,ho⟩)]
     rw[zA3,zA2,hE]
     simp (disch:=omega) only [go_sem,seval,jW,zz,h1,c1]
    ·rw[ho] at c1
     have hbl:=hv.1.len ho
     have hbn:List.length (bk.getD 1 [])=16:=by simpa [onB] using ho
     simp (disch:=omega) only [go_sem,seval,jW,zz,h1,c1]
     refine qD 16 (fun i=>[(2,.ref 4096 0 0),(3,.ref 4112 0 0),(7,.sl 9100 0 (List.length (qB7 bk 0 s0 16++qB7 bk 1 s1 i))),(8,.t (.int .i64 1)),(9,.t (.int .i64 (i:Nat)))]) (fun i=>[(9100,.live 1 (((qB7 bk 0 s0 16++qB7 bk 1 s1 i).map qA).map V.t) true false),(4112,.live 1 [.t (.int .i64 s0),.t (.int .i64 s1)] true true),(4096,.live 2 [.t (vY bk u)] true true)]) ?_ (fun i hi=>?_)
     ·refine qI.rd id ?_ ?_ rfl
      all_goals simp (disch:=omega) only [go_sem,seval,id,qOx,List.append_nil]
     ·have l0:=vZ hv 0 s0 16
      have l1:=vZ hv 1 s1 i
      by_cases hlt:i<16
      ·have hsh:s1.fdiv (2^i)=s1/2^i:=Int.fdiv_eq_ediv_of_nonneg _ (Int.le_of_lt (Int.pow_pos (by decide)))
       by_cases hb:s1/2^i%2=1
       ·have hvl:=hm.val 1 i
        have hx:(bk.getD 1 []).getD i []=zDd bk 1 i:=rfl
        simp (disch:=omega) only [go_sem,seval,zT,hsh,hb,hx]
        refine⟨hlt,qI.rd (fun j=>if j=9100 then 69776 else j) ?_ ?_ rfl⟩
        all_goals simp (disch:=omega) only [go_sem,seval,qP1 (bk:=bk) (a:=1) hb,List.append_assoc]
        all_goals try omega
       ·simp (disch:=omega) only [go_sem,seval,zT,hsh,hb]
        refine⟨hlt,qI.rd id ?_ ?_ rfl⟩
        all_goals simp (disch:=omega) only [go_sem,seval,id,qEr (bk:=bk) (a:=1) hb]
      ·have e:i=16:=by omega
       subst e
       simp (disch:=omega) only [go_sem,seval,zT]
       refine⟨⟨fun _=>hP.1 (by omega),fun _=>(by first | exact .inr ho | trivial)⟩,qI.rd id ?_ ?_ rfl⟩
       all_goals simp (disch:=omega) only [go_sem,seval,id]
  ·have l0:=vZ hv 0 s0 16
   have l1:=vZ hv 1 s1 16
   have p0:=hP.1 (by omega)
   have p1:=hP.2 (by omega)
   have hE:qM2 bk s0 s1=0:=by
    unfold qM2
    rw[if_neg (by rintro (h | h);exact b0 h;exact b1 h),if_neg]
    rintro (⟨h1,h2⟩ | ⟨h1,h2⟩)
    ·rcases p0 with h | h
     ·exact h1 h
     ·rw[h] at h2;cases h2
    ·rcases p1 with h | h
     ·exact h1 h
     ·rw[h] at h2;cases h2
   have hv2:(zBa bk s0 s1).length≤2048:=by unfold zBa;rw[List.length_append];omega
   have hh2:(qB3 s0 s1).length=4:=by unfold qB3;rw[List.length_append,zJ,zJ]
   have hvs:qB7 bk 0 s0 16++qB7 bk 1 s1 16=zBa bk s0 s1:=rfl
   rw[zA3,zA2,if_pos hE,if_pos hE]
   have hf:(zH 5 [qB3 s0 s1,zBa bk s0 s1]).length<1000000000:=by
    simp only[zH,List.flatMap_cons,List.flatMap_nil,List.length_cons,List.length_append,List.length_nil,qIh]
    omega
   have hq:=zE8 hf
   have hhs:beI 2 s0 2++beI 2 s1 2=qB3 s0 s1:=rfl
   have t2:List.take 2 (beI 2 s0 2)=beI 2 s0 2:=List.take_of_length_le (by rw[zJ];exact Nat.le_refl _)
   have t4:List.take 4 (qB3 s0 s1)=qB3 s0 s1:=List.take_of_length_le (by rw[hh2];exact Nat.le_refl _)
   have hu:=qMo (b:=[]) (n:=s0) (by decide)
   simp only[List.map_nil,List.length_nil,List.nil_append] at hu
   have hu2:=qMo (b:=beI 2 s0 2) (n:=s1) (by rw[zJ];omega)
   rw[zJ,hhs] at hu2
   have tv:List.take (zBa bk s0 s1).length (zBa bk s0 s1)=zBa bk s0 s1:=List.take_of_length_le (Nat.le_refl _)
   simp (disch:=omega) only [go_sem,seval,jW,hvs,h2,h3,hu,hu2,hq,tv,t2,t4,hh2,zJ]
   all_goals try rfl
end Go.Eng
end
