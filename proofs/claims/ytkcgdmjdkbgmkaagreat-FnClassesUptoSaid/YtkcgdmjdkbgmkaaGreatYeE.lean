/- Compact code of the sorting of rows. -/
import Derived.Test.YtkcgdmjdkbgmkaaGreatM1
namespace Go.Mch

def lenTab:ByteArray:=ByteArray.mk #[0,1,2,2,3,3,3,3,4,4,4,4,4,4,4,4,5,5,5,5,5,5,5,5,5,5,5,5,5,5,5,5,6,6,6,6,6,6,6,6,6,6,6,6,6,6,6,6,6,6,6,6,6,6,6,6,6,6,6,6,6,6,6,6,7,7,7,7,7,7,7,7,7,7,7,7,7,7,7,7,7,7,7,7,7,7,7,7,7,7,7,7,7,7,7,7,7,7,7,7,7,7,7,7,7,7,7,7,7,7,7,7,7,7,7,7,7,7,7,7,7,7,7,7,7,7,7,7,8,8,8,8,8,8,8,8,8,8,8,8,8,8,8,8,8,8,8,8,8,8,8,8,8,8,8,8,8,8,8,8,8,8,8,8,8,8,8,8,8,8,8,8,8,8,8,8,8,8,8,8,8,8,8,8,8,8,8,8,8,8,8,8,8,8,8,8,8,8,8,8,8,8,8,8,8,8,8,8,8,8,8,8,8,8,8,8,8,8,8,8,8,8,8,8,8,8,8,8,8,8,8,8,8,8,8,8,8,8,8,8,8,8,8,8,8,8,8,8,8,8,8,8,8,8,8,8]

def c_slices_SortFunc_____int64___int64_:F where
 np:=2
 rs:=[]
 fix:=[0,1]
 body :=
  (.seq
  (.re [oA 5 (.mv (.t 0)),oA 6 (.len (.t 5)),oA 4 (.mv (.t 6))] [0,1,4])
  (.re [oA 7 (.mv (.t 0)),oA 8 (.mv (.t 4)),oA 9 (.mv (.t 4)),oA 10 (.conv .u64 (.t 9)),oA 11 (.call (.f 394) [aR 10]),oA 12 (.mv (.t 1)),oA 13 (.callm (.f 393) [((.t 7),true),((.ci 0),false),((.t 8),false),((.t 11),false),((.t 12),false)] [])] [0,1]))

def c_math_bits_Len:F where
 np:=1
 rs:=[.t 2]
 body :=
  (.seq
  (.re [oA 2 (.mv (.ci 0))] [0]) (.seq (.cond (.c (.bool false)) (.seq
  (.re [oA 3 (.mv (.t 0)),oA 4 (.conv .u32 (.t 3)),oA 5 (.call (.f 441) [aR 4]),oA 2 (.mv (.t 5))] [2]) .ret) .skip) (.seq
  (.re [oA 6 (.mv (.t 0)),oA 7 (.call (.f 442) [aR 6]),oA 2 (.mv (.t 7))] [2]) .ret)))

def c_math_bits_Len32:F where
 np:=1
 rs:=[.t 2]
 body :=
  (.seq
  (.re [oA 2 (.mv (.ci 0))] [0,2]) (.seq (.seq
  (.re [oA 3 (.mv (.t 0)),oA 4 (.bin .geq (.t 3) (.c (.int .u32 65536)))] [0,2,4]) (.cond (.t 4) (.seq
  (.re [oA 5 (.mv (.t 0)),oA 6 (.bin .shr (.t 5) (.c (.int .u64 16))),oA 0 (.mv (.t 6))] [0])
  (.re [oA 2 (.mv (.ci 16))] [0,2])) .skip)) (.seq (.seq
  (.re [oA 7 (.mv (.t 0)),oA 8 (.bin .geq (.t 7) (.c (.int .u32 256)))] [0,2,8]) (.cond (.t 8) (.seq
  (.re [oA 9 (.mv (.t 0)),oA 10 (.bin .shr (.t 9) (.c (.int .u64 8))),oA 0 (.mv (.t 10))] [0,2])
  (.re [oA 11 (.mv (.t 2)),oA 12 (.bin .add (.t 11) (.ci 8)),oA 2 (.mv (.t 12))] [0,2])) .skip)) (.seq
  (.re [oA 13 (.mv (.t 2)),oA 14 (.mv (.t 0)),oA 15 (.conv .u8 (.t 14)),oA 16 (.at (.c (.string lenTab)) (.t 15)),oA 17 (.conv .i64 (.t 16)),oA 18 (.bin .add (.t 13) (.t 17)),oA 2 (.mv (.t 18))] [2]) .ret))))

def c_math_bits_Len64:F where
 np:=1
 rs:=[.t 2]
 body :=
  (.seq
  (.re [oA 2 (.mv (.ci 0))] [0,2]) (.seq (.seq
  (.re [oA 3 (.mv (.t 0)),oA 4 (.bin .geq (.t 3) (.c (.int .u64 4294967296)))] [0,2,4]) (.cond (.t 4) (.seq
  (.re [oA 5 (.mv (.t 0)),oA 6 (.bin .shr (.t 5) (.c (.int .u64 32))),oA 0 (.mv (.t 6))] [0])
  (.re [oA 2 (.mv (.ci 32))] [0,2])) .skip)) (.seq (.seq
  (.re [oA 7 (.mv (.t 0)),oA 8 (.bin .geq (.t 7) (.c (.int .u64 65536)))] [0,2,8]) (.cond (.t 8) (.seq
  (.re [oA 9 (.mv (.t 0)),oA 10 (.bin .shr (.t 9) (.c (.int .u64 16))),oA 0 (.mv (.t 10))] [0,2])
  (.re [oA 11 (.mv (.t 2)),oA 12 (.bin .add (.t 11) (.ci 16)),oA 2 (.mv (.t 12))] [0,2])) .skip)) (.seq (.seq
  (.re [oA 13 (.mv (.t 0)),oA 14 (.bin .geq (.t 13) (.c (.int .u64 256)))] [0,2,14]) (.cond (.t 14) (.seq
  (.re [oA 15 (.mv (.t 0)),oA 16 (.bin .shr (.t 15) (.c (.int .u64 8))),oA 0 (.mv (.t 16))] [0,2])
  (.re [oA 17 (.mv (.t 2)),oA 18 (.bin .add (.t 17) (.ci 8)),oA 2 (.mv (.t 18))] [0,2])) .skip)) (.seq
  (.re [oA 19 (.mv (.t 2)),oA 20 (.mv (.t 0)),oA 21 (.conv .u8 (.t 20)),oA 22 (.at (.c (.string lenTab)) (.t 21)),oA 23 (.conv .i64 (.t 22)),oA 24 (.bin .add (.t 19) (.t 23)),oA 2 (.mv (.t 24))] [2]) .ret)))))

def c_slices_pdqsortCmpFunc___int64_:F where
 np:=5
 rs:=[]
 fix:=[0,4]
 body :=
  (.seq
  (.re [oA 10 (.mv (.c (.bool true)))] [0,1,2,3,4,10]) (.seq
  (.re [oA 11 (.mv (.c (.bool true)))] [0,1,2,3,4,10,11]) (.block 0 (.loop (.block 1 (.seq
  (.re [oA 21 (.mv (.t 2)),oA 22 (.mv (.t 1)),oA 23 (.bin .sub (.t 21) (.t 22)),oA 12 (.mv (.t 23))] [0,1,2,3,4,10,11,12]) (.seq (.seq
  (.re [oA 24 (.mv (.t 12)),oA 25 (.bin .leq (.t 24) (.ci 12))] [0,1,2,3,4,10,11,12,25]) (.cond (.t 25) (.seq
  (.re [oA 26 (.mv (.t 0)),oA 27 (.mv (.t 1)),oA 28 (.mv (.t 2)),oA 29 (.mv (.t 4)),oA 30 (.callm (.f 433) [((.t 26),true),((.t 27),false),((.t 28),false),((.t 29),false)] [])] [0,1,2,3,4]) .ret) .skip)) (.seq (.seq
  (.re [oA 31 (.mv (.t 3)),oA 32 (.bin .eql (.t 31) (.ci 0))] [0,1,2,3,4,10,11,12,32]) (.cond (.t 32) (.seq
  (.re [oA 33 (.mv (.t 0)),oA 34 (.mv (.t 1)),oA 35 (.mv (.t 2)),oA 36 (.mv (.t 4)),oA 37 (.callm (.f 434) [((.t 33),true),((.t 34),false),((.t 35),false),((.t 36),false)] [])] [0,1,2,3,4]) .ret) .skip)) (.seq (.seq
  (.re [oA 38 (.mv (.t 10)),oA 39 (.un .not (.t 38))] [0,1,2,3,4,10,11,12,39]) (.cond (.t 39) (.seq
  (.re [oA 40 (.mv (.t 0)),oA 41 (.mv (.t 1)),oA 42 (.mv (.t 2)),oA 43 (.mv (.t 4)),oA 44 (.callm (.f 435) [((.t 40),true),((.t 41),false),((.t 42),false),((.t 43),false)] [])] [0,1,2,3,4,10,11,12])
  (.re [oA 45 (.mv (.t 3)),oA 46 (.bin .sub (.t 45) (.ci 1)),oA 3 (.mv (.t 46))] [0,1,2,3,4,10,11,12])) .skip)) (.seq
  (.re [oA 48 (.mv (.t 0)),oA 49 (.mv (.t 1)),oA 50 (.mv (.t 2)),oA 51 (.mv (.t 4)),oA 52 (.callm (.f 436) [((.t 48),true),((.t 49),false),((.t 50),false),((.t 51),false)] []),oA 47 (.mv (.t 52)),oA 53 (.ext (.t 47) 0),oA 54 (.ext (.t 47) 1),oA 13 (.mv (.t 53)),oA 14 (.mv (.t 54))] [0,1,2,3,4,10,11,12,13,14]) (.seq (.seq
  (.re [oA 55 (.mv (.t 14)),oA 56 (.bin .eql (.t 55) (.ci 2))] [0,1,2,3,4,10,11,12,13,14,56]) (.cond (.t 56) (.seq
  (.re [oA 57 (.mv (.t 0)),oA 58 (.mv (.t 1)),oA 59 (.mv (.t 2)),oA 60 (.mv (.t 4)),oA 61 (.callm (.f 437) [((.t 57),true),((.t 58),false),((.t 59),false),((.t 60),false)] [])] [0,1,2,3,4,10,11,12,13]) (.seq
  (.re [oA 62 (.mv (.t 2)),oA 63 (.bin .sub (.t 62) (.ci 1)),oA 64 (.mv (.t 13)),oA 65 (.mv (.t 1)),oA 66 (.bin .sub (.t 64) (.t 65)),oA 67 (.bin .sub (.t 63) (.t 66)),oA 13 (.mv (.t 67))] [0,1,2,3,4,10,11,12,13])
  (.re [oA 14 (.mv (.ci 1))] [0,1,2,3,4,10,11,12,13,14]))) .skip)) (.seq (.seq
  (.re [oA 68 (.mv (.t 10)),oA 69 (.mv (.t 68)),oI 70 69 true (.mv (.t 11)),oA 71 (.pick (.t 69) (.t 70) (.c (.bool false))),oA 72 (.mv (.t 71)),oI 73 72 true (.mv (.t 14)),oI 74 72 true (.bin .eql (.t 73) (.ci 1)),oA 75 (.pick (.t 72) (.t 74) (.c (.bool false)))] [0,1,2,3,4,10,11,12,13,75]) (.cond (.t 75) (.seq
  (.re [oA 76 (.mv (.t 0)),oA 77 (.mv (.t 1)),oA 78 (.mv (.t 2)),oA 79 (.mv (.t 4)),oA 80 (.callm (.f 438) [((.t 76),true),((.t 77),false),((.t 78),false),((.t 79),false)] [])] [0,1,2,3,4,10,11,12,13,80]) (.cond (.t 80) .ret .skip)) .skip)) (.seq (.seq
  (.region (some [84,85,86,87,88,89,90,91,92,93]) [oA 81 (.mv (.t 1)),oA 82 (.bin .gtr (.t 81) (.ci 0)),oA 83 (.mv (.t 82)),oI 84 83 true (.mv (.t 4)),oI 85 83 true (.mv (.t 0)),oI 86 83 true (.mv (.t 1)),oI 87 83 true (.bin .sub (.t 86) (.ci 1)),oI 88 83 true (.idx 1 (.t 85) (.t 87)),oI 89 83 true (.ld none (.t 88)),oI 90 83 true (.mv (.t 0)),oI 91 83 true (.mv (.t 13)),oI 92 83 true (.idx 1 (.t 90) (.t 91)),oI 93 83 true (.ld none (.t 92)),oI 94 83 true (.call (.t 84) [aR 89,aR 93]),oI 95 83 true (.bin .lss (.t 94) (.ci 0)),oI 96 83 true (.un .not (.t 95)),oA 97 (.pick (.t 83) (.t 96) (.c (.bool false)))] [0,1,2,3,4,10,11,12,13,97]) (.cond (.t 97) (.seq
  (.re [oA 98 (.mv (.t 0)),oA 99 (.mv (.t 1)),oA 100 (.mv (.t 2)),oA 101 (.mv (.t 13)),oA 102 (.mv (.t 4)),oA 103 (.callm (.f 439) [((.t 98),true),((.t 99),false),((.t 100),false),((.t 101),false),((.t 102),false)] []),oA 15 (.mv (.t 103))] [0,2,3,4,10,11,15]) (.seq
  (.re [oA 104 (.mv (.t 15)),oA 1 (.mv (.t 104))] [0,1,2,3,4,10,11]) (.exit 1))) .skip)) (.seq
  (.re [oA 106 (.mv (.t 0)),oA 107 (.mv (.t 1)),oA 108 (.mv (.t 2)),oA 109 (.mv (.t 13)),oA 110 (.mv (.t 4)),oA 111 (.callm (.f 440) [((.t 106),true),((.t 107),false),((.t 108),false),((.t 109),false),((.t 110),false)] []),oA 105 (.mv (.t 111)),oA 112 (.ext (.t 105) 0),oA 113 (.ext (.t 105) 1),oA 16 (.mv (.t 112)),oA 17 (.mv (.t 113))] [0,1,2,3,4,12,16,17]) (.seq
  (.re [oA 114 (.mv (.t 17)),oA 11 (.mv (.t 114))] [0,1,2,3,4,11,12,16]) (.seq
  (.re [oA 115 (.mv (.t 16)),oA 116 (.mv (.t 1)),oA 117 (.bin .sub (.t 115) (.t 116)),oA 118 (.mv (.t 2)),oA 119 (.mv (.t 16)),oA 120 (.bin .sub (.t 118) (.t 119)),oA 18 (.mv (.t 117)),oA 19 (.mv (.t 120))] [0,1,2,3,4,11,12,16,18,19]) (.seq
  (.re [oA 121 (.mv (.t 12)),oA 122 (.bin .quo (.t 121) (.ci 8)),oA 20 (.mv (.t 122))] [0,1,2,3,4,11,16,18,19,20]) (.seq
  (.re [oA 123 (.mv (.t 18)),oA 124 (.mv (.t 19)),oA 125 (.bin .lss (.t 123) (.t 124))] [0,1,2,3,4,11,16,18,19,20,125]) (.cond (.t 125) (.seq
  (.re [oA 126 (.mv (.t 18)),oA 127 (.mv (.t 20)),oA 128 (.bin .geq (.t 126) (.t 127)),oA 10 (.mv (.t 128))] [0,1,2,3,4,10,11,16]) (.seq
  (.re [oA 129 (.mv (.t 0)),oA 130 (.mv (.t 1)),oA 131 (.mv (.t 16)),oA 132 (.mv (.t 3)),oA 133 (.mv (.t 4)),oA 134 (.callm (.f 393) [((.t 129),true),((.t 130),false),((.t 131),false),((.t 132),false),((.t 133),false)] [])] [0,2,3,4,10,11,16])
  (.re [oA 135 (.mv (.t 16)),oA 136 (.bin .add (.t 135) (.ci 1)),oA 1 (.mv (.t 136))] [0,1,2,3,4,10,11]))) (.seq
  (.re [oA 137 (.mv (.t 19)),oA 138 (.mv (.t 20)),oA 139 (.bin .geq (.t 137) (.t 138)),oA 10 (.mv (.t 139))] [0,1,2,3,4,10,11,16]) (.seq
  (.re [oA 140 (.mv (.t 0)),oA 141 (.mv (.t 16)),oA 142 (.bin .add (.t 141) (.ci 1)),oA 143 (.mv (.t 2)),oA 144 (.mv (.t 3)),oA 145 (.mv (.t 4)),oA 146 (.callm (.f 393) [((.t 140),true),((.t 142),false),((.t 143),false),((.t 144),false),((.t 145),false)] [])] [0,1,3,4,10,11,16])
  (.re [oA 147 (.mv (.t 16)),oA 2 (.mv (.t 147))] [0,1,2,3,4,10,11]))))))))))))))))))))))

def c_slices_insertionSortCmpFunc___int64_:F where
 np:=4
 rs:=[]
 fix:=[0,1,2,3]
 body :=
  (.seq
  (.re [oA 10 (.mv (.t 1)),oA 11 (.bin .add (.t 10) (.ci 1)),oA 8 (.mv (.t 11))] [0,1,2,3,8]) (.block 0 (.loop (.seq (.seq
  (.re [oA 12 (.mv (.t 8)),oA 13 (.mv (.t 2)),oA 14 (.bin .lss (.t 12) (.t 13))] [0,1,2,3,8,14]) (.cond (.t 14) .skip (.exit 0))) (.seq (.block 1 (.seq
  (.re [oA 17 (.mv (.t 8)),oA 9 (.mv (.t 17))] [0,1,2,3,8,9]) (.block 2 (.loop (.seq (.seq
  (.region (some [18,19,22,23,24,25,26,27,28,29,30,31]) [oA 18 (.mv (.t 9)),oA 19 (.mv (.t 1)),oA 20 (.bin .gtr (.t 18) (.t 19)),oA 21 (.mv (.t 20)),oI 22 21 true (.mv (.t 3)),oI 23 21 true (.mv (.t 0)),oI 24 21 true (.mv (.t 9)),oI 25 21 true (.idx 1 (.t 23) (.t 24)),oI 26 21 true (.ld none (.t 25)),oI 27 21 true (.mv (.t 0)),oI 28 21 true (.mv (.t 9)),oI 29 21 true (.bin .sub (.t 28) (.ci 1)),oI 30 21 true (.idx 1 (.t 27) (.t 29)),oI 31 21 true (.ld none (.t 30)),oI 32 21 true (.call (.t 22) [aR 26,aR 31]),oI 33 21 true (.bin .lss (.t 32) (.ci 0)),oA 34 (.pick (.t 21) (.t 33) (.c (.bool false)))] [0,1,2,3,8,9,34]) (.cond (.t 34) .skip (.exit 2))) (.seq (.block 3
  (.region (some [37,38,39,40,41,42,43,44,45,46,47,48,49,50,51]) [oA 37 (.mv (.t 0)),oA 38 (.mv (.t 9)),oA 39 (.mvw (.t 0)),oA 40 (.mvw (.t 9)),oA 41 (.bin .sub (.t 40) (.ci 1)),oA 42 (.mv (.t 0)),oA 43 (.mv (.t 9)),oA 44 (.bin .sub (.t 43) (.ci 1)),oA 45 (.idx 1 (.t 42) (.t 44)),oA 46 (.ld none (.t 45)),oA 47 (.mv (.t 0)),oA 48 (.mv (.t 9)),oA 49 (.idx 1 (.t 47) (.t 48)),oA 50 (.ld none (.t 49)),oA 51 (.idx 1 (.t 37) (.t 38)),oN (.stsw (.t 51) (.t 46) 50),oA 52 (.idx 1 (.t 39) (.t 41)),oN (.st none (.t 52) (.t 50))] [0,1,2,3,8,9]))
  (.re [oA 35 (.mv (.t 9)),oA 36 (.bin .sub (.t 35) (.ci 1)),oA 9 (.mv (.t 36))] [0,1,2,3,8,9])))))))
  (.re [oA 15 (.mv (.t 8)),oA 16 (.bin .add (.t 15) (.ci 1)),oA 8 (.mv (.t 16))] [0,1,2,3,8]))))))

def c_slices_heapSortCmpFunc___int64_:F where
 np:=4
 rs:=[]
 fix:=[0,1,2,3]
 body :=
  (.seq
  (.re [oA 13 (.mv (.t 1)),oA 8 (.mv (.t 13))] [0,1,2,3,8]) (.seq
  (.re [oA 9 (.mv (.ci 0))] [0,1,2,3,8,9]) (.seq
  (.re [oA 14 (.mv (.t 2)),oA 15 (.mv (.t 1)),oA 16 (.bin .sub (.t 14) (.t 15)),oA 10 (.mv (.t 16))] [0,1,2,3,8,9,10]) (.seq (.seq
  (.re [oA 17 (.mv (.t 10)),oA 18 (.bin .sub (.t 17) (.ci 1)),oA 19 (.bin .quo (.t 18) (.ci 2)),oA 11 (.mv (.t 19))] [0,1,2,3,8,9,10,11]) (.block 0 (.loop (.seq (.seq
  (.re [oA 20 (.mv (.t 11)),oA 21 (.bin .geq (.t 20) (.ci 0))] [0,1,2,3,8,9,10,11,21]) (.cond (.t 21) .skip (.exit 0))) (.seq (.block 1
  (.re [oA 24 (.mv (.t 0)),oA 25 (.mv (.t 11)),oA 26 (.mv (.t 10)),oA 27 (.mv (.t 8)),oA 28 (.mv (.t 3)),oA 29 (.callm (.f 450) [((.t 24),true),((.t 25),false),((.t 26),false),((.t 27),false),((.t 28),false)] [])] [0,1,2,3,8,9,10,11]))
  (.re [oA 22 (.mv (.t 11)),oA 23 (.bin .sub (.t 22) (.ci 1)),oA 11 (.mv (.t 23))] [0,1,2,3,8,9,10,11])))))) (.seq
  (.re [oA 30 (.mv (.t 10)),oA 31 (.bin .sub (.t 30) (.ci 1)),oA 12 (.mv (.t 31))] [0,1,2,3,8,9,12]) (.block 2 (.loop (.seq (.seq
  (.re [oA 32 (.mv (.t 12)),oA 33 (.bin .geq (.t 32) (.ci 0))] [0,1,2,3,8,9,12,33]) (.cond (.t 33) .skip (.exit 2))) (.seq (.block 3 (.seq
  (.region (some [36,37,38,39,40,41,42,43,44,45,46,47,48,49,50,51,52]) [oA 36 (.mv (.t 0)),oA 37 (.mv (.t 8)),oA 38 (.mvw (.t 0)),oA 39 (.mvw (.t 8)),oA 40 (.mvw (.t 12)),oA 41 (.bin .add (.t 39) (.t 40)),oA 42 (.mv (.t 0)),oA 43 (.mv (.t 8)),oA 44 (.mv (.t 12)),oA 45 (.bin .add (.t 43) (.t 44)),oA 46 (.idx 1 (.t 42) (.t 45)),oA 47 (.ld none (.t 46)),oA 48 (.mv (.t 0)),oA 49 (.mv (.t 8)),oA 50 (.idx 1 (.t 48) (.t 49)),oA 51 (.ld none (.t 50)),oA 52 (.idx 1 (.t 36) (.t 37)),oN (.stsw (.t 52) (.t 47) 51),oA 53 (.idx 1 (.t 38) (.t 41)),oN (.st none (.t 53) (.t 51))] [0,1,2,3,8,9,12])
  (.re [oA 54 (.mv (.t 0)),oA 55 (.mv (.t 9)),oA 56 (.mv (.t 12)),oA 57 (.mv (.t 8)),oA 58 (.mv (.t 3)),oA 59 (.callm (.f 450) [((.t 54),true),((.t 55),false),((.t 56),false),((.t 57),false),((.t 58),false)] [])] [0,1,2,3,8,9,12])))
  (.re [oA 34 (.mv (.t 12)),oA 35 (.bin .sub (.t 34) (.ci 1)),oA 12 (.mv (.t 35))] [0,1,2,3,8,9,12]))))))))))

def c_slices_siftDownCmpFunc___int64_:F where
 np:=5
 rs:=[]
 fix:=[0,1,2,3,4]
 body :=
  (.seq
  (.re [oA 12 (.mv (.t 1)),oA 10 (.mv (.t 12))] [0,1,2,3,4,10]) (.block 0 (.loop (.block 1 (.seq
  (.re [oA 13 (.mv (.t 10)),oA 14 (.bin .mul (.ci 2) (.t 13)),oA 15 (.bin .add (.t 14) (.ci 1)),oA 11 (.mv (.t 15))] [0,1,2,3,4,10,11]) (.seq (.seq
  (.re [oA 16 (.mv (.t 11)),oA 17 (.mv (.t 2)),oA 18 (.bin .geq (.t 16) (.t 17))] [0,1,2,3,4,10,11,18]) (.cond (.t 18) (.exit 0) .skip)) (.seq (.seq
  (.region (some [19,20,21,24,25,26,27,28,29,30,31,32,33,34,35,36,37]) [oA 19 (.mv (.t 11)),oA 20 (.bin .add (.t 19) (.ci 1)),oA 21 (.mv (.t 2)),oA 22 (.bin .lss (.t 20) (.t 21)),oA 23 (.mv (.t 22)),oI 24 23 true (.mv (.t 4)),oI 25 23 true (.mv (.t 0)),oI 26 23 true (.mv (.t 3)),oI 27 23 true (.mv (.t 11)),oI 28 23 true (.bin .add (.t 26) (.t 27)),oI 29 23 true (.idx 1 (.t 25) (.t 28)),oI 30 23 true (.ld none (.t 29)),oI 31 23 true (.mv (.t 0)),oI 32 23 true (.mv (.t 3)),oI 33 23 true (.mv (.t 11)),oI 34 23 true (.bin .add (.t 32) (.t 33)),oI 35 23 true (.bin .add (.t 34) (.ci 1)),oI 36 23 true (.idx 1 (.t 31) (.t 35)),oI 37 23 true (.ld none (.t 36)),oI 38 23 true (.call (.t 24) [aR 30,aR 37]),oI 39 23 true (.bin .lss (.t 38) (.ci 0)),oA 40 (.pick (.t 23) (.t 39) (.c (.bool false)))] [0,1,2,3,4,10,11,40]) (.cond (.t 40)
  (.re [oA 41 (.mv (.t 11)),oA 42 (.bin .add (.t 41) (.ci 1)),oA 11 (.mv (.t 42))] [0,1,2,3,4,10,11]) .skip)) (.seq (.seq
  (.region (some [43,44,45,46,47,48,49,50,51,52,53,54,55]) [oA 43 (.mv (.t 4)),oA 44 (.mv (.t 0)),oA 45 (.mv (.t 3)),oA 46 (.mv (.t 10)),oA 47 (.bin .add (.t 45) (.t 46)),oA 48 (.idx 1 (.t 44) (.t 47)),oA 49 (.ld none (.t 48)),oA 50 (.mv (.t 0)),oA 51 (.mv (.t 3)),oA 52 (.mv (.t 11)),oA 53 (.bin .add (.t 51) (.t 52)),oA 54 (.idx 1 (.t 50) (.t 53)),oA 55 (.ld none (.t 54)),oA 56 (.call (.t 43) [aR 49,aR 55]),oA 57 (.bin .lss (.t 56) (.ci 0)),oA 58 (.un .not (.t 57))] [0,1,2,3,4,10,11,58]) (.cond (.t 58) .ret .skip)) (.seq
  (.region (some [59,60,61,62,63,64,65,66,67,68,69,70,71,72,73,74,75,76,77,78,79]) [oA 59 (.mv (.t 0)),oA 60 (.mv (.t 3)),oA 61 (.mv (.t 10)),oA 62 (.bin .add (.t 60) (.t 61)),oA 63 (.mvw (.t 0)),oA 64 (.mvw (.t 3)),oA 65 (.mvw (.t 11)),oA 66 (.bin .add (.t 64) (.t 65)),oA 67 (.mv (.t 0)),oA 68 (.mv (.t 3)),oA 69 (.mv (.t 11)),oA 70 (.bin .add (.t 68) (.t 69)),oA 71 (.idx 1 (.t 67) (.t 70)),oA 72 (.ld none (.t 71)),oA 73 (.mv (.t 0)),oA 74 (.mv (.t 3)),oA 75 (.mv (.t 10)),oA 76 (.bin .add (.t 74) (.t 75)),oA 77 (.idx 1 (.t 73) (.t 76)),oA 78 (.ld none (.t 77)),oA 79 (.idx 1 (.t 59) (.t 62)),oN (.stsw (.t 79) (.t 72) 78),oA 80 (.idx 1 (.t 63) (.t 66)),oN (.st none (.t 80) (.t 78))] [0,1,2,3,4,11])
  (.re [oA 81 (.mv (.t 11)),oA 10 (.mv (.t 81))] [0,1,2,3,4,10]))))))))))

def c_slices_breakPatternsCmpFunc___int64_:F where
 np:=4
 rs:=[]
 fix:=[0,1,2,3]
 body :=
  (.seq
  (.re [oA 13 (.mv (.t 2)),oA 14 (.mv (.t 1)),oA 15 (.bin .sub (.t 13) (.t 14)),oA 8 (.mv (.t 15))] [0,1,2,3,8]) (.seq
  (.re [oA 16 (.mv (.t 8)),oA 17 (.bin .geq (.t 16) (.ci 8))] [0,1,2,3,8,17]) (.cond (.t 17) (.seq
  (.re [oA 18 (.mv (.t 8)),oA 19 (.conv .u64 (.t 18)),oA 9 (.alloc [(.int .u64 0)]),oN (.st none (.t 9) (.t 19))] [0,1,2,3,8,9]) (.seq
  (.re [oA 20 (.mv (.t 8)),oA 21 (.call (.f 451) [aR 20]),oA 10 (.mv (.t 21))] [0,1,2,3,8,9,10]) (.seq
  (.re [oA 22 (.mv (.t 1)),oA 23 (.mv (.t 8)),oA 24 (.bin .quo (.t 23) (.ci 4)),oA 25 (.bin .mul (.t 24) (.ci 2)),oA 26 (.bin .add (.t 22) (.t 25)),oA 27 (.bin .sub (.t 26) (.ci 1)),oA 11 (.mv (.t 27))] [0,1,2,3,8,9,10,11]) (.block 0 (.loop (.seq (.seq
  (.re [oA 28 (.mv (.t 11)),oA 29 (.mv (.t 1)),oA 30 (.mv (.t 8)),oA 31 (.bin .quo (.t 30) (.ci 4)),oA 32 (.bin .mul (.t 31) (.ci 2)),oA 33 (.bin .add (.t 29) (.t 32)),oA 34 (.bin .add (.t 33) (.ci 1)),oA 35 (.bin .leq (.t 28) (.t 34))] [0,1,2,3,8,9,10,11,35]) (.cond (.t 35) .skip (.exit 0))) (.seq (.block 1 (.seq
  (.re [oA 38 (.callm (.f 452) [((.t 9),true)] []),oA 39 (.mv (.t 10)),oA 40 (.bin .sub (.t 39) (.c (.int .u64 1))),oA 41 (.bin .and (.t 38) (.t 40)),oA 42 (.conv .i64 (.t 41)),oA 12 (.mv (.t 42))] [0,1,2,3,8,9,10,11,12]) (.seq (.seq
  (.re [oA 43 (.mv (.t 12)),oA 44 (.mv (.t 8)),oA 45 (.bin .geq (.t 43) (.t 44))] [0,1,2,3,8,9,10,11,12,45]) (.cond (.t 45)
  (.re [oA 46 (.mv (.t 12)),oA 47 (.mv (.t 8)),oA 48 (.bin .sub (.t 46) (.t 47)),oA 12 (.mv (.t 48))] [0,1,2,3,8,9,10,11,12]) .skip))
  (.region (some [49,50,51,52,53,54,55,56,57,58,59,60,61,62,63,64,65]) [oA 49 (.mv (.t 0)),oA 50 (.mv (.t 11)),oA 51 (.mvw (.t 0)),oA 52 (.mvw (.t 1)),oA 53 (.mvw (.t 12)),oA 54 (.bin .add (.t 52) (.t 53)),oA 55 (.mv (.t 0)),oA 56 (.mv (.t 1)),oA 57 (.mv (.t 12)),oA 58 (.bin .add (.t 56) (.t 57)),oA 59 (.idx 1 (.t 55) (.t 58)),oA 60 (.ld none (.t 59)),oA 61 (.mv (.t 0)),oA 62 (.mv (.t 11)),oA 63 (.idx 1 (.t 61) (.t 62)),oA 64 (.ld none (.t 63)),oA 65 (.idx 1 (.t 49) (.t 50)),oN (.stsw (.t 65) (.t 60) 64),oA 66 (.idx 1 (.t 51) (.t 54)),oN (.st none (.t 66) (.t 64))] [0,1,2,3,8,9,10,11]))))
  (.re [oA 36 (.mv (.t 11)),oA 37 (.bin .add (.t 36) (.ci 1)),oA 11 (.mv (.t 37))] [0,1,2,3,8,9,10,11])))))))) .skip)))

def c_slices_nextPowerOfTwo:F where
 np:=1
 rs:=[.t 2]
 body :=
  (.seq
  (.re [oA 2 (.mv (.c (.int .u64 0)))] [0]) (.seq
  (.re [oA 3 (.mv (.t 0)),oA 4 (.conv .u64 (.t 3)),oA 5 (.call (.f 394) [aR 4]),oA 6 (.bin .shl (.c (.int .u64 1)) (.t 5)),oA 2 (.mv (.t 6))] [2]) .ret))

def c___slices_xorshift__Next:F where
 np:=1
 rs:=[.t 2]
 fix:=[0]
 body :=
  (.seq
  (.re [oA 2 (.mv (.c (.int .u64 0)))] [0]) (.seq
  (.region (some [3,4,5,6,7,8,9]) [oA 3 (.mv (.t 0)),oA 4 (.nilck (.t 3)),oA 5 (.ld none (.t 4)),oA 6 (.mv (.t 0)),oA 7 (.nilck (.t 6)),oA 8 (.ld none (.t 7)),oA 9 (.bin .shl (.t 8) (.c (.int .u64 13))),oA 10 (.bin .xor (.t 5) (.t 9)),oA 11 (.nilck (.t 3)),oN (.st none (.t 11) (.t 10))] [0]) (.seq
  (.region (some [12,13,14,15,16,17,18]) [oA 12 (.mv (.t 0)),oA 13 (.nilck (.t 12)),oA 14 (.ld none (.t 13)),oA 15 (.mv (.t 0)),oA 16 (.nilck (.t 15)),oA 17 (.ld none (.t 16)),oA 18 (.bin .shr (.t 17) (.c (.int .u64 7))),oA 19 (.bin .xor (.t 14) (.t 18)),oA 20 (.nilck (.t 12)),oN (.st none (.t 20) (.t 19))] [0]) (.seq
  (.region (some [21,22,23,24,25,26,27]) [oA 21 (.mv (.t 0)),oA 22 (.nilck (.t 21)),oA 23 (.ld none (.t 22)),oA 24 (.mv (.t 0)),oA 25 (.nilck (.t 24)),oA 26 (.ld none (.t 25)),oA 27 (.bin .shl (.t 26) (.c (.int .u64 17))),oA 28 (.bin .xor (.t 23) (.t 27)),oA 29 (.nilck (.t 21)),oN (.st none (.t 29) (.t 28))] [0]) (.seq
  (.re [oA 30 (.mv (.t 0)),oA 31 (.nilck (.t 30)),oA 32 (.ld none (.t 31)),oA 2 (.mv (.t 32))] [0,2]) .ret)))))

def c_slices_choosePivotCmpFunc___int64_:F where
 np:=4
 rs:=[.t 8,.t 9]
 fix:=[0,1,2,3]
 body :=
  (.seq
  (.re [oA 8 (.mv (.ci 0)),oA 9 (.mv (.ci 0))] [0,1,2,3]) (.seq
  (.re [oA 15 (.mv (.t 2)),oA 16 (.mv (.t 1)),oA 17 (.bin .sub (.t 15) (.t 16)),oA 10 (.mv (.t 17))] [0,1,2,3,10]) (.seq
  (.re [oA 11 (.alloc [(.int .i64 0)])] [0,1,2,3,10,11]) (.seq
  (.re [oA 18 (.mv (.t 1)),oA 19 (.mv (.t 10)),oA 20 (.bin .quo (.t 19) (.ci 4)),oA 21 (.bin .mul (.t 20) (.ci 1)),oA 22 (.bin .add (.t 18) (.t 21)),oA 12 (.mv (.t 22))] [0,1,2,3,10,11,12]) (.seq
  (.re [oA 23 (.mv (.t 1)),oA 24 (.mv (.t 10)),oA 25 (.bin .quo (.t 24) (.ci 4)),oA 26 (.bin .mul (.t 25) (.ci 2)),oA 27 (.bin .add (.t 23) (.t 26)),oA 13 (.mv (.t 27))] [0,1,2,3,10,11,12,13]) (.seq
  (.re [oA 28 (.mv (.t 1)),oA 29 (.mv (.t 10)),oA 30 (.bin .quo (.t 29) (.ci 4)),oA 31 (.bin .mul (.t 30) (.ci 3)),oA 32 (.bin .add (.t 28) (.t 31)),oA 14 (.mv (.t 32))] [0,1,2,3,10,11,12,13,14]) (.seq (.seq
  (.re [oA 33 (.mv (.t 10)),oA 34 (.bin .geq (.t 33) (.ci 8))] [0,1,2,3,10,11,12,13,14,34]) (.cond (.t 34) (.seq (.seq
  (.re [oA 35 (.mv (.t 10)),oA 36 (.bin .geq (.t 35) (.ci 50))] [0,1,2,3,11,12,13,14,36]) (.cond (.t 36) (.seq
  (.re [oA 37 (.mv (.t 0)),oA 38 (.mv (.t 12)),oA 39 (.mv (.t 3)),oA 40 (.callm (.f 453) [((.t 37),true),((.t 38),false),((.t 11),true),((.t 39),false)] []),oA 12 (.mv (.t 40))] [0,1,2,3,11,12,13,14]) (.seq
  (.re [oA 41 (.mv (.t 0)),oA 42 (.mv (.t 13)),oA 43 (.mv (.t 3)),oA 44 (.callm (.f 453) [((.t 41),true),((.t 42),false),((.t 11),true),((.t 43),false)] []),oA 13 (.mv (.t 44))] [0,1,2,3,11,12,13,14])
  (.re [oA 45 (.mv (.t 0)),oA 46 (.mv (.t 14)),oA 47 (.mv (.t 3)),oA 48 (.callm (.f 453) [((.t 45),true),((.t 46),false),((.t 11),true),((.t 47),false)] []),oA 14 (.mv (.t 48))] [0,1,2,3,11,12,13,14]))) .skip))
  (.re [oA 49 (.mv (.t 0)),oA 50 (.mv (.t 12)),oA 51 (.mv (.t 13)),oA 52 (.mv (.t 14)),oA 53 (.mv (.t 3)),oA 54 (.callm (.f 454) [((.t 49),true),((.t 50),false),((.t 51),false),((.t 52),false),((.t 11),true),((.t 53),false)] []),oA 13 (.mv (.t 54))] [0,1,2,3,11,13])) .skip)) (.seq
  (.re [oA 55 (.ld none (.t 11))] [0,1,2,3,13,55]) (.block 0 (.seq
  (.re [oA 58 (.bin .eql (.t 55) (.ci 0)),oA 57 (.mv (.t 58))] [0,1,2,3,13,55,57]) (.cond (.t 57) (.seq
  (.re [oA 59 (.mv (.t 13)),oA 8 (.mv (.t 59)),oA 9 (.mv (.ci 1))] [0,1,2,3,8,9]) .ret) (.seq
  (.re [oA 61 (.bin .eql (.t 55) (.ci 12)),oA 60 (.mv (.t 61))] [0,1,2,3,13,60]) (.cond (.t 60) (.seq
  (.re [oA 62 (.mv (.t 13)),oA 8 (.mv (.t 62)),oA 9 (.mv (.ci 2))] [0,1,2,3,8,9]) .ret) (.seq
  (.re [oA 56 (.mv (.t 13)),oA 8 (.mv (.t 56)),oA 9 (.mv (.ci 0))] [0,1,2,3,8,9]) .ret))))))))))))))

def c_slices_medianAdjacentCmpFunc___int64_:F where
 np:=4
 rs:=[.t 8]
 fix:=[0,1,2,3]
 body :=
  (.seq
  (.re [oA 8 (.mv (.ci 0))] [0,1,2,3]) (.seq
  (.re [oA 9 (.mv (.t 0)),oA 10 (.mv (.t 1)),oA 11 (.bin .sub (.t 10) (.ci 1)),oA 12 (.mv (.t 1)),oA 13 (.mv (.t 1)),oA 14 (.bin .add (.t 13) (.ci 1)),oA 15 (.mv (.t 2)),oA 16 (.mv (.t 3)),oA 17 (.callm (.f 454) [((.t 9),true),((.t 11),false),((.t 12),false),((.t 14),false),((.t 15),true),((.t 16),false)] []),oA 8 (.mv (.t 17))] [0,1,2,3,8]) .ret))

def c_slices_medianCmpFunc___int64_:F where
 np:=6
 rs:=[.t 12]
 fix:=[0,4,5]
 body :=
  (.seq
  (.re [oA 12 (.mv (.ci 0))] [0,1,2,3,4,5]) (.seq
  (.re [oA 14 (.mv (.t 0)),oA 15 (.mv (.t 1)),oA 16 (.mv (.t 2)),oA 17 (.mv (.t 4)),oA 18 (.mv (.t 5)),oA 19 (.callm (.f 465) [((.t 14),true),((.t 15),false),((.t 16),false),((.t 17),true),((.t 18),false)] []),oA 13 (.mv (.t 19)),oA 20 (.ext (.t 13) 0),oA 21 (.ext (.t 13) 1),oA 1 (.mv (.t 20)),oA 2 (.mv (.t 21))] [0,1,2,3,4,5]) (.seq
  (.re [oA 23 (.mv (.t 0)),oA 24 (.mv (.t 2)),oA 25 (.mv (.t 3)),oA 26 (.mv (.t 4)),oA 27 (.mv (.t 5)),oA 28 (.callm (.f 465) [((.t 23),true),((.t 24),false),((.t 25),false),((.t 26),true),((.t 27),false)] []),oA 22 (.mv (.t 28)),oA 29 (.ext (.t 22) 0),oA 30 (.ext (.t 22) 1),oA 2 (.mv (.t 29)),oA 3 (.mv (.t 30))] [0,1,2,3,4,5]) (.seq
  (.re [oA 32 (.mv (.t 0)),oA 33 (.mv (.t 1)),oA 34 (.mv (.t 2)),oA 35 (.mv (.t 4)),oA 36 (.mv (.t 5)),oA 37 (.callm (.f 465) [((.t 32),true),((.t 33),false),((.t 34),false),((.t 35),true),((.t 36),false)] []),oA 31 (.mv (.t 37)),oA 38 (.ext (.t 31) 0),oA 39 (.ext (.t 31) 1),oA 1 (.mv (.t 38)),oA 2 (.mv (.t 39))] [0,1,2,3,4,5]) (.seq
  (.re [oA 40 (.mv (.t 2)),oA 12 (.mv (.t 40))] [0,1,2,3,4,5,12]) .ret)))))

def c_slices_order2CmpFunc___int64_:F where
 np:=5
 rs:=[.t 10,.t 11]
 fix:=[0,1,2,3,4]
 body :=
  (.seq
  (.re [oA 10 (.mv (.ci 0)),oA 11 (.mv (.ci 0))] [0,1,2,3,4]) (.seq (.seq
  (.region (some [12,13,14,15,16,17,18,19,20]) [oA 12 (.mv (.t 4)),oA 13 (.mv (.t 0)),oA 14 (.mv (.t 2)),oA 15 (.idx 1 (.t 13) (.t 14)),oA 16 (.ld none (.t 15)),oA 17 (.mv (.t 0)),oA 18 (.mv (.t 1)),oA 19 (.idx 1 (.t 17) (.t 18)),oA 20 (.ld none (.t 19)),oA 21 (.call (.t 12) [aR 16,aR 20]),oA 22 (.bin .lss (.t 21) (.ci 0))] [0,1,2,3,4,22]) (.cond (.t 22) (.seq
  (.re [oA 23 (.mv (.t 3)),oA 24 (.nilck (.t 23)),oA 25 (.ld none (.t 24)),oA 26 (.bin .add (.t 25) (.ci 1)),oA 27 (.nilck (.t 23)),oN (.st none (.t 27) (.t 26))] [0,1,2,3,4]) (.seq
  (.re [oA 28 (.mv (.t 2)),oA 29 (.mv (.t 1)),oA 10 (.mv (.t 28)),oA 11 (.mv (.t 29))] [0,1,2,3,4,10,11]) .ret)) .skip)) (.seq
  (.re [oA 30 (.mv (.t 1)),oA 31 (.mv (.t 2)),oA 10 (.mv (.t 30)),oA 11 (.mv (.t 31))] [0,1,2,3,4,10,11]) .ret)))

def c_slices_reverseRangeCmpFunc___int64_:F where
 np:=4
 rs:=[]
 fix:=[0,1,2,3]
 body :=
  (.seq
  (.re [oA 10 (.mv (.t 1)),oA 8 (.mv (.t 10))] [0,1,2,3,8]) (.seq
  (.re [oA 11 (.mv (.t 2)),oA 12 (.bin .sub (.t 11) (.ci 1)),oA 9 (.mv (.t 12))] [0,1,2,3,8,9]) (.block 0 (.loop (.seq (.seq
  (.re [oA 13 (.mv (.t 8)),oA 14 (.mv (.t 9)),oA 15 (.bin .lss (.t 13) (.t 14))] [0,1,2,3,8,9,15]) (.cond (.t 15) .skip (.exit 0))) (.block 1 (.seq
  (.region (some [16,17,18,19,20,21,22,23,24,25,26,27,28]) [oA 16 (.mv (.t 0)),oA 17 (.mv (.t 8)),oA 18 (.mvw (.t 0)),oA 19 (.mvw (.t 9)),oA 20 (.mv (.t 0)),oA 21 (.mv (.t 9)),oA 22 (.idx 1 (.t 20) (.t 21)),oA 23 (.ld none (.t 22)),oA 24 (.mv (.t 0)),oA 25 (.mv (.t 8)),oA 26 (.idx 1 (.t 24) (.t 25)),oA 27 (.ld none (.t 26)),oA 28 (.idx 1 (.t 16) (.t 17)),oN (.stsw (.t 28) (.t 23) 27),oA 29 (.idx 1 (.t 18) (.t 19)),oN (.st none (.t 29) (.t 27))] [0,1,2,3,8,9]) (.seq
  (.re [oA 30 (.mv (.t 8)),oA 31 (.bin .add (.t 30) (.ci 1)),oA 8 (.mv (.t 31))] [0,1,2,3,8,9])
  (.re [oA 32 (.mv (.t 9)),oA 33 (.bin .sub (.t 32) (.ci 1)),oA 9 (.mv (.t 33))] [0,1,2,3,8,9])))))))))

def c_slices_partialInsertionSortCmpFunc___int64_:F where
 np:=4
 rs:=[.t 8]
 fix:=[0,1,2,3]
 body :=
  (.seq
  (.re [oA 8 (.mv (.c (.bool false)))] [0,1,2,3]) (.seq
  (.re [oA 13 (.mv (.t 1)),oA 14 (.bin .add (.t 13) (.ci 1)),oA 9 (.mv (.t 14))] [0,1,2,3,9]) (.seq (.seq
  (.re [oA 10 (.mv (.ci 0))] [0,1,2,3,9,10]) (.block 0 (.loop (.seq (.seq
  (.re [oA 15 (.mv (.t 10)),oA 16 (.bin .lss (.t 15) (.ci 5))] [0,1,2,3,9,10,16]) (.cond (.t 16) .skip (.exit 0))) (.seq (.block 1 (.seq (.block 2 (.loop (.seq (.seq
  (.region (some [19,20,23,24,25,26,27,28,29,30,31,32]) [oA 19 (.mv (.t 9)),oA 20 (.mv (.t 2)),oA 21 (.bin .lss (.t 19) (.t 20)),oA 22 (.mv (.t 21)),oI 23 22 true (.mv (.t 3)),oI 24 22 true (.mv (.t 0)),oI 25 22 true (.mv (.t 9)),oI 26 22 true (.idx 1 (.t 24) (.t 25)),oI 27 22 true (.ld none (.t 26)),oI 28 22 true (.mv (.t 0)),oI 29 22 true (.mv (.t 9)),oI 30 22 true (.bin .sub (.t 29) (.ci 1)),oI 31 22 true (.idx 1 (.t 28) (.t 30)),oI 32 22 true (.ld none (.t 31)),oI 33 22 true (.call (.t 23) [aR 27,aR 32]),oI 34 22 true (.bin .lss (.t 33) (.ci 0)),oI 35 22 true (.un .not (.t 34)),oA 36 (.pick (.t 22) (.t 35) (.c (.bool false)))] [0,1,2,3,9,10,36]) (.cond (.t 36) .skip (.exit 2))) (.block 3
  (.re [oA 37 (.mv (.t 9)),oA 38 (.bin .add (.t 37) (.ci 1)),oA 9 (.mv (.t 38))] [0,1,2,3,9,10]))))) (.seq (.seq
  (.re [oA 39 (.mv (.t 9)),oA 40 (.mv (.t 2)),oA 41 (.bin .eql (.t 39) (.t 40))] [0,1,2,3,9,10,41]) (.cond (.t 41) (.seq
  (.re [oA 8 (.mv (.c (.bool true)))] [0,1,2,3,8]) .ret) .skip)) (.seq (.seq
  (.re [oA 42 (.mv (.t 2)),oA 43 (.mv (.t 1)),oA 44 (.bin .sub (.t 42) (.t 43)),oA 45 (.bin .lss (.t 44) (.ci 50))] [0,1,2,3,9,10,45]) (.cond (.t 45) (.seq
  (.re [oA 8 (.mv (.c (.bool false)))] [0,1,2,3,8]) .ret) .skip)) (.seq
  (.region (some [46,47,48,49,50,51,52,53,54,55,56,57,58,59,60]) [oA 46 (.mv (.t 0)),oA 47 (.mv (.t 9)),oA 48 (.mvw (.t 0)),oA 49 (.mvw (.t 9)),oA 50 (.bin .sub (.t 49) (.ci 1)),oA 51 (.mv (.t 0)),oA 52 (.mv (.t 9)),oA 53 (.bin .sub (.t 52) (.ci 1)),oA 54 (.idx 1 (.t 51) (.t 53)),oA 55 (.ld none (.t 54)),oA 56 (.mv (.t 0)),oA 57 (.mv (.t 9)),oA 58 (.idx 1 (.t 56) (.t 57)),oA 59 (.ld none (.t 58)),oA 60 (.idx 1 (.t 46) (.t 47)),oN (.stsw (.t 60) (.t 55) 59),oA 61 (.idx 1 (.t 48) (.t 50)),oN (.st none (.t 61) (.t 59))] [0,1,2,3,9,10]) (.seq (.seq
  (.re [oA 62 (.mv (.t 9)),oA 63 (.mv (.t 1)),oA 64 (.bin .sub (.t 62) (.t 63)),oA 65 (.bin .geq (.t 64) (.ci 2))] [0,1,2,3,9,10,65]) (.cond (.t 65) (.seq
  (.re [oA 66 (.mv (.t 9)),oA 67 (.bin .sub (.t 66) (.ci 1)),oA 11 (.mv (.t 67))] [0,1,2,3,9,10,11]) (.block 4 (.loop (.seq (.seq
  (.re [oA 68 (.mv (.t 11)),oA 69 (.bin .geq (.t 68) (.ci 1))] [0,1,2,3,9,10,11,69]) (.cond (.t 69) .skip (.exit 4))) (.seq (.block 5 (.seq (.seq
  (.region (some [72,73,74,75,76,77,78,79,80,81]) [oA 72 (.mv (.t 3)),oA 73 (.mv (.t 0)),oA 74 (.mv (.t 11)),oA 75 (.idx 1 (.t 73) (.t 74)),oA 76 (.ld none (.t 75)),oA 77 (.mv (.t 0)),oA 78 (.mv (.t 11)),oA 79 (.bin .sub (.t 78) (.ci 1)),oA 80 (.idx 1 (.t 77) (.t 79)),oA 81 (.ld none (.t 80)),oA 82 (.call (.t 72) [aR 76,aR 81]),oA 83 (.bin .lss (.t 82) (.ci 0)),oA 84 (.un .not (.t 83))] [0,1,2,3,9,10,11,84]) (.cond (.t 84) (.exit 4) .skip))
  (.region (some [85,86,87,88,89,90,91,92,93,94,95,96,97,98,99]) [oA 85 (.mv (.t 0)),oA 86 (.mv (.t 11)),oA 87 (.mvw (.t 0)),oA 88 (.mvw (.t 11)),oA 89 (.bin .sub (.t 88) (.ci 1)),oA 90 (.mv (.t 0)),oA 91 (.mv (.t 11)),oA 92 (.bin .sub (.t 91) (.ci 1)),oA 93 (.idx 1 (.t 90) (.t 92)),oA 94 (.ld none (.t 93)),oA 95 (.mv (.t 0)),oA 96 (.mv (.t 11)),oA 97 (.idx 1 (.t 95) (.t 96)),oA 98 (.ld none (.t 97)),oA 99 (.idx 1 (.t 85) (.t 86)),oN (.stsw (.t 99) (.t 94) 98),oA 100 (.idx 1 (.t 87) (.t 89)),oN (.st none (.t 100) (.t 98))] [0,1,2,3,9,10,11])))
  (.re [oA 70 (.mv (.t 11)),oA 71 (.bin .sub (.t 70) (.ci 1)),oA 11 (.mv (.t 71))] [0,1,2,3,9,10,11])))))) .skip)) (.seq
  (.re [oA 101 (.mv (.t 2)),oA 102 (.mv (.t 9)),oA 103 (.bin .sub (.t 101) (.t 102)),oA 104 (.bin .geq (.t 103) (.ci 2))] [0,1,2,3,9,10,104]) (.cond (.t 104) (.seq
  (.re [oA 105 (.mv (.t 9)),oA 106 (.bin .add (.t 105) (.ci 1)),oA 12 (.mv (.t 106))] [0,1,2,3,9,10,12]) (.block 6 (.loop (.seq (.seq
  (.re [oA 107 (.mv (.t 12)),oA 108 (.mv (.t 2)),oA 109 (.bin .lss (.t 107) (.t 108))] [0,1,2,3,9,10,12,109]) (.cond (.t 109) .skip (.exit 6))) (.seq (.block 7 (.seq (.seq
  (.region (some [112,113,114,115,116,117,118,119,120,121]) [oA 112 (.mv (.t 3)),oA 113 (.mv (.t 0)),oA 114 (.mv (.t 12)),oA 115 (.idx 1 (.t 113) (.t 114)),oA 116 (.ld none (.t 115)),oA 117 (.mv (.t 0)),oA 118 (.mv (.t 12)),oA 119 (.bin .sub (.t 118) (.ci 1)),oA 120 (.idx 1 (.t 117) (.t 119)),oA 121 (.ld none (.t 120)),oA 122 (.call (.t 112) [aR 116,aR 121]),oA 123 (.bin .lss (.t 122) (.ci 0)),oA 124 (.un .not (.t 123))] [0,1,2,3,9,10,12,124]) (.cond (.t 124) (.exit 6) .skip))
  (.region (some [125,126,127,128,129,130,131,132,133,134,135,136,137,138,139]) [oA 125 (.mv (.t 0)),oA 126 (.mv (.t 12)),oA 127 (.mvw (.t 0)),oA 128 (.mvw (.t 12)),oA 129 (.bin .sub (.t 128) (.ci 1)),oA 130 (.mv (.t 0)),oA 131 (.mv (.t 12)),oA 132 (.bin .sub (.t 131) (.ci 1)),oA 133 (.idx 1 (.t 130) (.t 132)),oA 134 (.ld none (.t 133)),oA 135 (.mv (.t 0)),oA 136 (.mv (.t 12)),oA 137 (.idx 1 (.t 135) (.t 136)),oA 138 (.ld none (.t 137)),oA 139 (.idx 1 (.t 125) (.t 126)),oN (.stsw (.t 139) (.t 134) 138),oA 140 (.idx 1 (.t 127) (.t 129)),oN (.st none (.t 140) (.t 138))] [0,1,2,3,9,10,12])))
  (.re [oA 110 (.mv (.t 12)),oA 111 (.bin .add (.t 110) (.ci 1)),oA 12 (.mv (.t 111))] [0,1,2,3,9,10,12])))))) .skip))))))))
  (.re [oA 17 (.mv (.t 10)),oA 18 (.bin .add (.t 17) (.ci 1)),oA 10 (.mv (.t 18))] [0,1,2,3,9,10])))))) (.seq
  (.re [oA 8 (.mv (.c (.bool false)))] [0,1,2,3,8]) .ret))))

def c_slices_partitionEqualCmpFunc___int64_:F where
 np:=5
 rs:=[.t 10]
 fix:=[0,1,2,3,4]
 body :=
  (.seq
  (.re [oA 10 (.mv (.ci 0))] [0,1,2,3,4]) (.seq
  (.region (some [13,14,15,16,17,18,19,20,21,22,23,24,25]) [oA 13 (.mv (.t 0)),oA 14 (.mv (.t 1)),oA 15 (.mvw (.t 0)),oA 16 (.mvw (.t 3)),oA 17 (.mv (.t 0)),oA 18 (.mv (.t 3)),oA 19 (.idx 1 (.t 17) (.t 18)),oA 20 (.ld none (.t 19)),oA 21 (.mv (.t 0)),oA 22 (.mv (.t 1)),oA 23 (.idx 1 (.t 21) (.t 22)),oA 24 (.ld none (.t 23)),oA 25 (.idx 1 (.t 13) (.t 14)),oN (.stsw (.t 25) (.t 20) 24),oA 26 (.idx 1 (.t 15) (.t 16)),oN (.st none (.t 26) (.t 24))] [0,1,2,3,4]) (.seq
  (.re [oA 27 (.mv (.t 1)),oA 28 (.bin .add (.t 27) (.ci 1)),oA 29 (.mv (.t 2)),oA 30 (.bin .sub (.t 29) (.ci 1)),oA 11 (.mv (.t 28)),oA 12 (.mv (.t 30))] [0,1,2,3,4,11,12]) (.seq (.block 0 (.loop (.block 1 (.seq (.block 2 (.loop (.seq (.seq
  (.region (some [31,32,35,36,37,38,39,40,41,42,43]) [oA 31 (.mv (.t 11)),oA 32 (.mv (.t 12)),oA 33 (.bin .leq (.t 31) (.t 32)),oA 34 (.mv (.t 33)),oI 35 34 true (.mv (.t 4)),oI 36 34 true (.mv (.t 0)),oI 37 34 true (.mv (.t 1)),oI 38 34 true (.idx 1 (.t 36) (.t 37)),oI 39 34 true (.ld none (.t 38)),oI 40 34 true (.mv (.t 0)),oI 41 34 true (.mv (.t 11)),oI 42 34 true (.idx 1 (.t 40) (.t 41)),oI 43 34 true (.ld none (.t 42)),oI 44 34 true (.call (.t 35) [aR 39,aR 43]),oI 45 34 true (.bin .lss (.t 44) (.ci 0)),oI 46 34 true (.un .not (.t 45)),oA 47 (.pick (.t 34) (.t 46) (.c (.bool false)))] [0,1,2,3,4,11,12,47]) (.cond (.t 47) .skip (.exit 2))) (.block 3
  (.re [oA 48 (.mv (.t 11)),oA 49 (.bin .add (.t 48) (.ci 1)),oA 11 (.mv (.t 49))] [0,1,2,3,4,11,12]))))) (.seq (.block 4 (.loop (.seq (.seq
  (.region (some [50,51,54,55,56,57,58,59,60,61,62]) [oA 50 (.mv (.t 11)),oA 51 (.mv (.t 12)),oA 52 (.bin .leq (.t 50) (.t 51)),oA 53 (.mv (.t 52)),oI 54 53 true (.mv (.t 4)),oI 55 53 true (.mv (.t 0)),oI 56 53 true (.mv (.t 1)),oI 57 53 true (.idx 1 (.t 55) (.t 56)),oI 58 53 true (.ld none (.t 57)),oI 59 53 true (.mv (.t 0)),oI 60 53 true (.mv (.t 12)),oI 61 53 true (.idx 1 (.t 59) (.t 60)),oI 62 53 true (.ld none (.t 61)),oI 63 53 true (.call (.t 54) [aR 58,aR 62]),oI 64 53 true (.bin .lss (.t 63) (.ci 0)),oA 65 (.pick (.t 53) (.t 64) (.c (.bool false)))] [0,1,2,3,4,11,12,65]) (.cond (.t 65) .skip (.exit 4))) (.block 5
  (.re [oA 66 (.mv (.t 12)),oA 67 (.bin .sub (.t 66) (.ci 1)),oA 12 (.mv (.t 67))] [0,1,2,3,4,11,12]))))) (.seq (.seq
  (.re [oA 68 (.mv (.t 11)),oA 69 (.mv (.t 12)),oA 70 (.bin .gtr (.t 68) (.t 69))] [0,1,2,3,4,11,12,70]) (.cond (.t 70) (.exit 0) .skip)) (.seq
  (.region (some [71,72,73,74,75,76,77,78,79,80,81,82,83]) [oA 71 (.mv (.t 0)),oA 72 (.mv (.t 11)),oA 73 (.mvw (.t 0)),oA 74 (.mvw (.t 12)),oA 75 (.mv (.t 0)),oA 76 (.mv (.t 12)),oA 77 (.idx 1 (.t 75) (.t 76)),oA 78 (.ld none (.t 77)),oA 79 (.mv (.t 0)),oA 80 (.mv (.t 11)),oA 81 (.idx 1 (.t 79) (.t 80)),oA 82 (.ld none (.t 81)),oA 83 (.idx 1 (.t 71) (.t 72)),oN (.stsw (.t 83) (.t 78) 82),oA 84 (.idx 1 (.t 73) (.t 74)),oN (.st none (.t 84) (.t 82))] [0,1,2,3,4,11,12]) (.seq
  (.re [oA 85 (.mv (.t 11)),oA 86 (.bin .add (.t 85) (.ci 1)),oA 11 (.mv (.t 86))] [0,1,2,3,4,11,12])
  (.re [oA 87 (.mv (.t 12)),oA 88 (.bin .sub (.t 87) (.ci 1)),oA 12 (.mv (.t 88))] [0,1,2,3,4,11,12]))))))))) (.seq
  (.re [oA 89 (.mv (.t 11)),oA 10 (.mv (.t 89))] [0,1,2,3,4,10]) .ret)))))

def c_slices_partitionCmpFunc___int64_:F where
 np:=5
 rs:=[.t 10,.t 11]
 fix:=[0,1,2,3,4]
 body :=
  (.seq
  (.re [oA 10 (.mv (.ci 0)),oA 11 (.mv (.c (.bool false)))] [0,1,2,3,4]) (.seq
  (.region (some [14,15,16,17,18,19,20,21,22,23,24,25,26]) [oA 14 (.mv (.t 0)),oA 15 (.mv (.t 1)),oA 16 (.mvw (.t 0)),oA 17 (.mvw (.t 3)),oA 18 (.mv (.t 0)),oA 19 (.mv (.t 3)),oA 20 (.idx 1 (.t 18) (.t 19)),oA 21 (.ld none (.t 20)),oA 22 (.mv (.t 0)),oA 23 (.mv (.t 1)),oA 24 (.idx 1 (.t 22) (.t 23)),oA 25 (.ld none (.t 24)),oA 26 (.idx 1 (.t 14) (.t 15)),oN (.stsw (.t 26) (.t 21) 25),oA 27 (.idx 1 (.t 16) (.t 17)),oN (.st none (.t 27) (.t 25))] [0,1,2,3,4]) (.seq
  (.re [oA 28 (.mv (.t 1)),oA 29 (.bin .add (.t 28) (.ci 1)),oA 30 (.mv (.t 2)),oA 31 (.bin .sub (.t 30) (.ci 1)),oA 12 (.mv (.t 29)),oA 13 (.mv (.t 31))] [0,1,2,3,4,12,13]) (.seq (.block 0 (.loop (.seq (.seq
  (.region (some [32,33,36,37,38,39,40,41,42,43,44]) [oA 32 (.mv (.t 12)),oA 33 (.mv (.t 13)),oA 34 (.bin .leq (.t 32) (.t 33)),oA 35 (.mv (.t 34)),oI 36 35 true (.mv (.t 4)),oI 37 35 true (.mv (.t 0)),oI 38 35 true (.mv (.t 12)),oI 39 35 true (.idx 1 (.t 37) (.t 38)),oI 40 35 true (.ld none (.t 39)),oI 41 35 true (.mv (.t 0)),oI 42 35 true (.mv (.t 1)),oI 43 35 true (.idx 1 (.t 41) (.t 42)),oI 44 35 true (.ld none (.t 43)),oI 45 35 true (.call (.t 36) [aR 40,aR 44]),oI 46 35 true (.bin .lss (.t 45) (.ci 0)),oA 47 (.pick (.t 35) (.t 46) (.c (.bool false)))] [0,1,2,3,4,12,13,47]) (.cond (.t 47) .skip (.exit 0))) (.block 1
  (.re [oA 48 (.mv (.t 12)),oA 49 (.bin .add (.t 48) (.ci 1)),oA 12 (.mv (.t 49))] [0,1,2,3,4,12,13]))))) (.seq (.block 2 (.loop (.seq (.seq
  (.region (some [50,51,54,55,56,57,58,59,60,61,62]) [oA 50 (.mv (.t 12)),oA 51 (.mv (.t 13)),oA 52 (.bin .leq (.t 50) (.t 51)),oA 53 (.mv (.t 52)),oI 54 53 true (.mv (.t 4)),oI 55 53 true (.mv (.t 0)),oI 56 53 true (.mv (.t 13)),oI 57 53 true (.idx 1 (.t 55) (.t 56)),oI 58 53 true (.ld none (.t 57)),oI 59 53 true (.mv (.t 0)),oI 60 53 true (.mv (.t 1)),oI 61 53 true (.idx 1 (.t 59) (.t 60)),oI 62 53 true (.ld none (.t 61)),oI 63 53 true (.call (.t 54) [aR 58,aR 62]),oI 64 53 true (.bin .lss (.t 63) (.ci 0)),oI 65 53 true (.un .not (.t 64)),oA 66 (.pick (.t 53) (.t 65) (.c (.bool false)))] [0,1,2,3,4,12,13,66]) (.cond (.t 66) .skip (.exit 2))) (.block 3
  (.re [oA 67 (.mv (.t 13)),oA 68 (.bin .sub (.t 67) (.ci 1)),oA 13 (.mv (.t 68))] [0,1,2,3,4,12,13]))))) (.seq (.seq
  (.re [oA 69 (.mv (.t 12)),oA 70 (.mv (.t 13)),oA 71 (.bin .gtr (.t 69) (.t 70))] [0,1,2,3,4,12,13,71]) (.cond (.t 71) (.seq
  (.region (some [72,73,74,75,76,77,78,79,80,81,82,83,84]) [oA 72 (.mv (.t 0)),oA 73 (.mv (.t 13)),oA 74 (.mvw (.t 0)),oA 75 (.mvw (.t 1)),oA 76 (.mv (.t 0)),oA 77 (.mv (.t 1)),oA 78 (.idx 1 (.t 76) (.t 77)),oA 79 (.ld none (.t 78)),oA 80 (.mv (.t 0)),oA 81 (.mv (.t 13)),oA 82 (.idx 1 (.t 80) (.t 81)),oA 83 (.ld none (.t 82)),oA 84 (.idx 1 (.t 72) (.t 73)),oN (.stsw (.t 84) (.t 79) 83),oA 85 (.idx 1 (.t 74) (.t 75)),oN (.st none (.t 85) (.t 83))] [0,1,2,3,4,13]) (.seq
  (.re [oA 86 (.mv (.t 13)),oA 10 (.mv (.t 86)),oA 11 (.mv (.c (.bool true)))] [0,1,2,3,4,10,11]) .ret)) .skip)) (.seq
  (.region (some [87,88,89,90,91,92,93,94,95,96,97,98,99]) [oA 87 (.mv (.t 0)),oA 88 (.mv (.t 12)),oA 89 (.mvw (.t 0)),oA 90 (.mvw (.t 13)),oA 91 (.mv (.t 0)),oA 92 (.mv (.t 13)),oA 93 (.idx 1 (.t 91) (.t 92)),oA 94 (.ld none (.t 93)),oA 95 (.mv (.t 0)),oA 96 (.mv (.t 12)),oA 97 (.idx 1 (.t 95) (.t 96)),oA 98 (.ld none (.t 97)),oA 99 (.idx 1 (.t 87) (.t 88)),oN (.stsw (.t 99) (.t 94) 98),oA 100 (.idx 1 (.t 89) (.t 90)),oN (.st none (.t 100) (.t 98))] [0,1,2,3,4,12,13]) (.seq
  (.re [oA 101 (.mv (.t 12)),oA 102 (.bin .add (.t 101) (.ci 1)),oA 12 (.mv (.t 102))] [0,1,2,3,4,12,13]) (.seq
  (.re [oA 103 (.mv (.t 13)),oA 104 (.bin .sub (.t 103) (.ci 1)),oA 13 (.mv (.t 104))] [0,1,2,3,4,12,13]) (.seq (.block 4 (.loop (.block 5 (.seq (.block 6 (.loop (.seq (.seq
  (.region (some [105,106,109,110,111,112,113,114,115,116,117]) [oA 105 (.mv (.t 12)),oA 106 (.mv (.t 13)),oA 107 (.bin .leq (.t 105) (.t 106)),oA 108 (.mv (.t 107)),oI 109 108 true (.mv (.t 4)),oI 110 108 true (.mv (.t 0)),oI 111 108 true (.mv (.t 12)),oI 112 108 true (.idx 1 (.t 110) (.t 111)),oI 113 108 true (.ld none (.t 112)),oI 114 108 true (.mv (.t 0)),oI 115 108 true (.mv (.t 1)),oI 116 108 true (.idx 1 (.t 114) (.t 115)),oI 117 108 true (.ld none (.t 116)),oI 118 108 true (.call (.t 109) [aR 113,aR 117]),oI 119 108 true (.bin .lss (.t 118) (.ci 0)),oA 120 (.pick (.t 108) (.t 119) (.c (.bool false)))] [0,1,2,3,4,12,13,120]) (.cond (.t 120) .skip (.exit 6))) (.block 7
  (.re [oA 121 (.mv (.t 12)),oA 122 (.bin .add (.t 121) (.ci 1)),oA 12 (.mv (.t 122))] [0,1,2,3,4,12,13]))))) (.seq (.block 8 (.loop (.seq (.seq
  (.region (some [123,124,127,128,129,130,131,132,133,134,135]) [oA 123 (.mv (.t 12)),oA 124 (.mv (.t 13)),oA 125 (.bin .leq (.t 123) (.t 124)),oA 126 (.mv (.t 125)),oI 127 126 true (.mv (.t 4)),oI 128 126 true (.mv (.t 0)),oI 129 126 true (.mv (.t 13)),oI 130 126 true (.idx 1 (.t 128) (.t 129)),oI 131 126 true (.ld none (.t 130)),oI 132 126 true (.mv (.t 0)),oI 133 126 true (.mv (.t 1)),oI 134 126 true (.idx 1 (.t 132) (.t 133)),oI 135 126 true (.ld none (.t 134)),oI 136 126 true (.call (.t 127) [aR 131,aR 135]),oI 137 126 true (.bin .lss (.t 136) (.ci 0)),oI 138 126 true (.un .not (.t 137)),oA 139 (.pick (.t 126) (.t 138) (.c (.bool false)))] [0,1,2,3,4,12,13,139]) (.cond (.t 139) .skip (.exit 8))) (.block 9
  (.re [oA 140 (.mv (.t 13)),oA 141 (.bin .sub (.t 140) (.ci 1)),oA 13 (.mv (.t 141))] [0,1,2,3,4,12,13]))))) (.seq (.seq
  (.re [oA 142 (.mv (.t 12)),oA 143 (.mv (.t 13)),oA 144 (.bin .gtr (.t 142) (.t 143))] [0,1,2,3,4,12,13,144]) (.cond (.t 144) (.exit 4) .skip)) (.seq
  (.region (some [145,146,147,148,149,150,151,152,153,154,155,156,157]) [oA 145 (.mv (.t 0)),oA 146 (.mv (.t 12)),oA 147 (.mvw (.t 0)),oA 148 (.mvw (.t 13)),oA 149 (.mv (.t 0)),oA 150 (.mv (.t 13)),oA 151 (.idx 1 (.t 149) (.t 150)),oA 152 (.ld none (.t 151)),oA 153 (.mv (.t 0)),oA 154 (.mv (.t 12)),oA 155 (.idx 1 (.t 153) (.t 154)),oA 156 (.ld none (.t 155)),oA 157 (.idx 1 (.t 145) (.t 146)),oN (.stsw (.t 157) (.t 152) 156),oA 158 (.idx 1 (.t 147) (.t 148)),oN (.st none (.t 158) (.t 156))] [0,1,2,3,4,12,13]) (.seq
  (.re [oA 159 (.mv (.t 12)),oA 160 (.bin .add (.t 159) (.ci 1)),oA 12 (.mv (.t 160))] [0,1,2,3,4,12,13])
  (.re [oA 161 (.mv (.t 13)),oA 162 (.bin .sub (.t 161) (.ci 1)),oA 13 (.mv (.t 162))] [0,1,2,3,4,12,13]))))))))) (.seq
  (.region (some [163,164,165,166,167,168,169,170,171,172,173,174,175]) [oA 163 (.mv (.t 0)),oA 164 (.mv (.t 13)),oA 165 (.mvw (.t 0)),oA 166 (.mvw (.t 1)),oA 167 (.mv (.t 0)),oA 168 (.mv (.t 1)),oA 169 (.idx 1 (.t 167) (.t 168)),oA 170 (.ld none (.t 169)),oA 171 (.mv (.t 0)),oA 172 (.mv (.t 13)),oA 173 (.idx 1 (.t 171) (.t 172)),oA 174 (.ld none (.t 173)),oA 175 (.idx 1 (.t 163) (.t 164)),oN (.stsw (.t 175) (.t 170) 174),oA 176 (.idx 1 (.t 165) (.t 166)),oN (.st none (.t 176) (.t 174))] [0,1,2,3,4,13]) (.seq
  (.re [oA 177 (.mv (.t 13)),oA 10 (.mv (.t 177)),oA 11 (.mv (.c (.bool false)))] [0,1,2,3,4,10,11]) .ret))))))))))))

end Go.Mch
