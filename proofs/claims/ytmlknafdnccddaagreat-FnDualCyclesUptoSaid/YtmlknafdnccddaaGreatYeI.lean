/- Compact code of mappings. -/
import Derived.Test.YtmlknafdnccddaaGreatM1
namespace Go.Mch

def c___impl_mapping__assign:F where
 np:=3
 rs:=[.t 6]
 fix:=[0,1,2]
 body :=
  (.seq
  (.re [oA 6 (.mv (.c (.bool false)))] [0,1,2]) (.seq (.seq
  (.re [oA 11 (.mv (.t 0)),oA 12 (.nilck (.t 11)),oA 13 (.fld 2 (.t 12)),oA 14 (.ld none (.t 13)),oA 15 (.mv (.t 1)),oA 16 (.idx 1 (.t 14) (.t 15)),oA 17 (.ld none (.t 16)),oA 18 (.bin .geq (.t 17) (.ci 0))] [0,1,2,18]) (.cond (.t 18) (.seq
  (.re [oA 19 (.mv (.t 0)),oA 20 (.nilck (.t 19)),oA 21 (.fld 2 (.t 20)),oA 22 (.ld none (.t 21)),oA 23 (.mv (.t 1)),oA 24 (.idx 1 (.t 22) (.t 23)),oA 25 (.ld none (.t 24)),oA 26 (.mv (.t 2)),oA 27 (.bin .eql (.t 25) (.t 26)),oA 6 (.mv (.t 27))] [0,1,2,6]) .ret) .skip)) (.seq (.seq
  (.re [oA 28 (.mv (.t 0)),oA 29 (.nilck (.t 28)),oA 30 (.fld 3 (.t 29)),oA 31 (.ld none (.t 30)),oA 32 (.mv (.t 2)),oA 33 (.idx 1 (.t 31) (.t 32)),oA 34 (.ld none (.t 33))] [0,1,2,34]) (.cond (.t 34) (.seq
  (.re [oA 6 (.mv (.c (.bool false)))] [0,1,2,6]) .ret) .skip)) (.seq
  (.region (some [35,36,37,38,39,40,41,42,43,44,45,46]) [oA 35 (.mv (.t 0)),oA 36 (.nilck (.t 35)),oA 37 (.fld 2 (.t 36)),oA 38 (.ld none (.t 37)),oA 39 (.mv (.t 1)),oA 40 (.mv (.t 0)),oA 41 (.nilck (.t 40)),oA 42 (.fld 3 (.t 41)),oA 43 (.ld none (.t 42)),oA 44 (.mvw (.t 2)),oA 45 (.mv (.t 2)),oA 46 (.idx 1 (.t 38) (.t 39)),oN (.sts (.t 46) (.t 45)),oA 47 (.idx 1 (.t 43) (.t 44)),oN (.st none (.t 47) (.c (.bool true)))] [0,1,2]) (.seq
  (.re [oA 48 (.mv (.t 0)),oA 49 (.mv (.t 0)),oA 50 (.nilck (.t 49)),oA 51 (.fld 4 (.t 50)),oA 52 (.ld none (.t 51)),oA 53 (.mv (.t 1)),oA 54 (.bsl [(.t 53)]),oA 55 (.app true 1 (.t 52) (.t 54)),oA 56 (.nilck (.t 48)),oA 57 (.fld 4 (.t 56)),oN (.st none (.t 57) (.t 55))] [0,1,2]) (.seq (.seq
  (.re [oA 7 (.mv (.ci 0))] [0,1,2,7]) (.block 0 (.loop (.seq (.seq
  (.re [oA 58 (.mv (.t 7)),oA 59 (.mv (.t 0)),oA 60 (.nilck (.t 59)),oA 61 (.fld 4 (.t 60)),oA 62 (.ld none (.t 61)),oA 63 (.len (.t 62)),oA 64 (.bin .lss (.t 58) (.t 63))] [0,1,2,7,64]) (.cond (.t 64) .skip (.exit 0))) (.seq (.block 1 (.seq
  (.re [oA 67 (.mv (.t 0)),oA 68 (.nilck (.t 67)),oA 69 (.fld 4 (.t 68)),oA 70 (.ld none (.t 69)),oA 71 (.mv (.t 7)),oA 72 (.idx 1 (.t 70) (.t 71)),oA 73 (.ld none (.t 72)),oA 8 (.mv (.t 73))] [0,1,2,7,8]) (.seq
  (.re [oA 74 (.mv (.t 0)),oA 75 (.nilck (.t 74)),oA 76 (.fld 0 (.t 75)),oA 77 (.ld none (.t 76)),oA 78 (.len (.t 77)),oA 79 (.mv (.ci 0))] [0,1,2,7,8,77,78,79]) (.block 2 (.loop (.seq
  (.re [oA 80 (.bin .lss (.t 79) (.t 78))] [0,1,2,7,8,77,78,79,80]) (.seq (.cond (.t 80) .skip (.exit 2)) (.seq (.block 3 (.seq
  (.re [oA 81 (.mv (.t 79)),oA 82 (.idx 1 (.t 77) (.t 79)),oA 83 (.ld none (.t 82)),oA 9 (.mv (.t 81)),oA 10 (.asg (.t 83))] [0,1,2,7,8,9,10,77,78,79]) (.seq
  (.region (some [84,85,86,87,88,89,90,91,92,93,94,95,96,97,98,99,100,101,102,103,104,105,106,107,108,109,110,114,115,116,117,118,119,120,121,122,123,124,125,126,127,128,129,130,131,132,133,134,135,136,137,138,139,140]) [oA 84 (.mv (.t 0)),oA 85 (.mv (.t 10)),oA 86 (.mv (.t 1)),oA 87 (.idx 1 (.t 85) (.t 86)),oA 88 (.ld none (.t 87)),oA 89 (.mv (.t 8)),oA 90 (.idx 1 (.t 88) (.t 89)),oA 91 (.ld none (.t 90)),oA 92 (.mv (.t 0)),oA 93 (.nilck (.t 92)),oA 94 (.fld 1 (.t 93)),oA 95 (.ld none (.t 94)),oA 96 (.mv (.t 9)),oA 97 (.idx 1 (.t 95) (.t 96)),oA 98 (.ld none (.t 97)),oA 99 (.mv (.t 2)),oA 100 (.idx 1 (.t 98) (.t 99)),oA 101 (.ld none (.t 100)),oA 102 (.mv (.t 0)),oA 103 (.nilck (.t 102)),oA 104 (.fld 2 (.t 103)),oA 105 (.ld none (.t 104)),oA 106 (.mv (.t 8)),oA 107 (.idx 1 (.t 105) (.t 106)),oA 108 (.ld none (.t 107)),oA 109 (.idx 1 (.t 101) (.t 108)),oA 110 (.ld none (.t 109)),oA 111 (.callm (.f 446) [((.t 84),true),((.t 91),false),((.t 110),false)] []),oA 112 (.un .not (.t 111)),oA 113 (.mv (.t 112)),oI 114 113 false (.mv (.t 0)),oI 115 113 false (.mv (.t 10)),oI 116 113 false (.mv (.t 8)),oI 117 113 false (.idx 1 (.t 115) (.t 116)),oI 118 113 false (.ld none (.t 117)),oI 119 113 false (.mv (.t 1)),oI 120 113 false (.idx 1 (.t 118) (.t 119)),oI 121 113 false (.ld none (.t 120)),oI 122 113 false (.mv (.t 0)),oI 123 113 false (.nilck (.t 122)),oI 124 113 false (.fld 1 (.t 123)),oI 125 113 false (.ld none (.t 124)),oI 126 113 false (.mv (.t 9)),oI 127 113 false (.idx 1 (.t 125) (.t 126)),oI 128 113 false (.ld none (.t 127)),oI 129 113 false (.mv (.t 0)),oI 130 113 false (.nilck (.t 129)),oI 131 113 false (.fld 2 (.t 130)),oI 132 113 false (.ld none (.t 131)),oI 133 113 false (.mv (.t 8)),oI 134 113 false (.idx 1 (.t 132) (.t 133)),oI 135 113 false (.ld none (.t 134)),oI 136 113 false (.idx 1 (.t 128) (.t 135)),oI 137 113 false (.ld none (.t 136)),oI 138 113 false (.mv (.t 2)),oI 139 113 false (.idx 1 (.t 137) (.t 138)),oI 140 113 false (.ld none (.t 139)),oI 141 113 false (.callm (.f 446) [((.t 114),true),((.t 121),false),((.t 140),false)] []),oI 142 113 false (.un .not (.t 141)),oA 143 (.pick (.t 113) (.c (.bool true)) (.t 142))] [0,1,2,7,8,77,78,79,143]) (.cond (.t 143) (.seq
  (.re [oA 6 (.mv (.c (.bool false)))] [0,1,2,6]) .ret) .skip))))
  (.re [oA 144 (.bin .add (.t 79) (.ci 1)),oA 79 (.mv (.t 144))] [0,1,2,7,8,77,78,79])))))))))
  (.re [oA 65 (.mv (.t 7)),oA 66 (.bin .add (.t 65) (.ci 1)),oA 7 (.mv (.t 66))] [0,1,2,7])))))) (.seq
  (.re [oA 6 (.mv (.c (.bool true)))] [0,1,2,6]) .ret)))))))

def c___impl_mapping__undo:F where
 np:=2
 rs:=[]
 fix:=[0,1]
 body :=
  (.seq (.seq
  (.re [oA 6 (.mv (.t 0)),oA 7 (.nilck (.t 6)),oA 8 (.fld 4 (.t 7)),oA 9 (.ld none (.t 8)),oA 10 (.mv (.t 1)),oA 11 (.sl 1 (.t 9) (some (.t 10)) none),oA 12 (.len (.t 11)),oA 13 (.mv (.ci 0))] [0,1,11,12,13]) (.block 0 (.loop (.seq
  (.re [oA 14 (.bin .lss (.t 13) (.t 12))] [0,1,11,12,13,14]) (.seq (.cond (.t 14) .skip (.exit 0)) (.seq (.block 1 (.seq
  (.re [oA 15 (.idx 1 (.t 11) (.t 13)),oA 16 (.ld none (.t 15)),oA 5 (.mv (.t 16))] [0,1,5,11,12,13]) (.seq
  (.region (some [17,18,19,20,21,22,23,24,25,26,27]) [oA 17 (.mv (.t 0)),oA 18 (.nilck (.t 17)),oA 19 (.fld 3 (.t 18)),oA 20 (.ld none (.t 19)),oA 21 (.mv (.t 0)),oA 22 (.nilck (.t 21)),oA 23 (.fld 2 (.t 22)),oA 24 (.ld none (.t 23)),oA 25 (.mv (.t 5)),oA 26 (.idx 1 (.t 24) (.t 25)),oA 27 (.ld none (.t 26)),oA 28 (.idx 1 (.t 20) (.t 27)),oN (.st none (.t 28) (.c (.bool false)))] [0,1,5,11,12,13])
  (.re [oA 29 (.mv (.t 0)),oA 30 (.nilck (.t 29)),oA 31 (.fld 2 (.t 30)),oA 32 (.ld none (.t 31)),oA 33 (.mv (.t 5)),oA 34 (.idx 1 (.t 32) (.t 33)),oN (.st none (.t 34) (.c (.int .i64 (-1))))] [0,1,11,12,13]))))
  (.re [oA 35 (.bin .add (.t 13) (.ci 1)),oA 13 (.mv (.t 35))] [0,1,11,12,13])))))))
  (.re [oA 36 (.mv (.t 0)),oA 37 (.mv (.t 0)),oA 38 (.nilck (.t 37)),oA 39 (.fld 4 (.t 38)),oA 40 (.ld none (.t 39)),oA 41 (.mv (.t 1)),oA 42 (.sl 1 (.t 40) none (some (.t 41))),oA 43 (.nilck (.t 36)),oA 44 (.fld 4 (.t 43)),oN (.st none (.t 44) (.t 42))] [0,1]))

end Go.Mch
