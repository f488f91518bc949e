/- Compact code of the functions that statements 13 to 36 reach further. -/
import Derived.Test.YtkcgdmjdkbgmkaaGreatM1
namespace Go.Mch

def c_impl_identity:F where
 np:=1
 rs:=[.t 2]
 body :=
  (.seq
  (.re [oA 2 (.asg (.c (.slice none 0 0)))] [0]) (.seq
  (.re [oA 5 (.mv (.t 0)),oA 6 (.mks (.int .i64 0) (.t 5)),oA 3 (.asg (.t 6))] [3]) (.seq (.seq
  (.re [oA 7 (.mv (.t 3)),oA 8 (.len (.t 7)),oA 9 (.mv (.ci 0))] [3,8,9]) (.block 0 (.loop (.seq
  (.re [oA 10 (.bin .lss (.t 9) (.t 8))] [3,8,9,10]) (.seq (.cond (.t 10) .skip (.exit 0)) (.seq (.block 1 (.seq
  (.re [oA 11 (.mv (.t 9)),oA 4 (.mv (.t 11))] [3,4,8,9])
  (.re [oA 12 (.mv (.t 3)),oA 13 (.mv (.t 4)),oA 14 (.mv (.t 4)),oA 15 (.idx 1 (.t 12) (.t 13)),oN (.st none (.t 15) (.t 14))] [3,8,9])))
  (.re [oA 16 (.bin .add (.t 9) (.ci 1)),oA 9 (.mv (.t 16))] [3,8,9]))))))) (.seq
  (.re [oA 17 (.mv (.t 3)),oA 2 (.asg (.t 17))] [2]) .ret))))

def c_spec_l07Both:F where
 np:=1
 rs:=[.t 2]
 body :=
  (.seq
  (.re [oA 1 (.box (.t 0)),oA 2 (.asg (.c (.slice none 0 0)))] [1]) (.seq
  (.region (some [3,4,5,6,7]) [oA 3 (.fld 0 (.t 1)),oA 4 (.ld none (.t 3)),oA 5 (.call (.f 280) [aR 4]),oA 6 (.fld 1 (.t 1)),oA 7 (.ld none (.t 6)),oA 8 (.call (.f 265) [aR 7]),oA 9 (.app true 1 (.t 5) (.t 8)),oA 2 (.asg (.t 9))] [2]) .ret))

def c_impl_wholeSystem:F where
 np:=1
 rs:=[.t 2]
 body :=
  (.seq
  (.re [oA 1 (.box (.t 0)),oA 2 (.asg (.c (.slice none 0 0)))] [1]) (.seq
  (.region (some [3,4,5,6,7]) [oA 3 (.fld 0 (.t 1)),oA 4 (.ld none (.t 3)),oA 5 (.fld 1 (.t 1)),oA 6 (.ld none (.t 5)),oA 7 (.call (.f 267) [aR 6]),oA 8 (.bsls 1 true true [(.t 4),(.t 7)]),oA 9 (.call (.f 381) [aR 8]),oA 2 (.asg (.t 9))] [2]) .ret))

def c_slices_Concat_____int64___int64_:F where
 np:=1
 rs:=[.t 2]
 body :=
  (.seq
  (.re [oA 2 (.asg (.c (.slice none 0 0)))] [0]) (.seq
  (.re [oA 3 (.mv (.ci 0))] [0,3]) (.seq (.seq
  (.re [oA 9 (.mv (.t 0)),oA 10 (.len (.t 9)),oA 11 (.mv (.ci 0))] [0,3,9,10,11]) (.block 0 (.loop (.seq
  (.re [oA 12 (.bin .lss (.t 11) (.t 10))] [0,3,9,10,11,12]) (.seq (.cond (.t 12) .skip (.exit 0)) (.seq (.block 1 (.seq
  (.re [oA 13 (.idx 1 (.t 9) (.t 11)),oA 14 (.ld none (.t 13)),oA 5 (.asg (.t 14))] [0,3,5,9,10,11]) (.seq
  (.re [oA 15 (.mv (.t 3)),oA 16 (.mv (.t 5)),oA 17 (.len (.t 16)),oA 18 (.bin .add (.t 15) (.t 17)),oA 3 (.mv (.t 18))] [0,3,9,10,11]) (.seq
  (.re [oA 19 (.mv (.t 3)),oA 20 (.bin .lss (.t 19) (.ci 0))] [0,3,9,10,11,20]) (.cond (.t 20) .stuck .skip)))))
  (.re [oA 22 (.bin .add (.t 11) (.ci 1)),oA 11 (.mv (.t 22))] [0,3,9,10,11]))))))) (.seq
  (.re [oA 23 (.mv (.t 3)),oA 24 (.call (.f 429) [((.c (.slice none 0 0)),.r),aR 23]),oA 6 (.asg (.t 24))] [0,6]) (.seq (.seq
  (.re [oA 25 (.mv (.t 0)),oA 26 (.len (.t 25)),oA 27 (.mv (.ci 0))] [6,25,26,27]) (.block 2 (.loop (.seq
  (.re [oA 28 (.bin .lss (.t 27) (.t 26))] [6,25,26,27,28]) (.seq (.cond (.t 28) .skip (.exit 2)) (.seq (.block 3 (.seq
  (.re [oA 29 (.idx 1 (.t 25) (.t 27)),oA 30 (.ld none (.t 29)),oA 8 (.asg (.t 30))] [6,8,25,26,27])
  (.re [oA 31 (.mv (.t 6)),oA 32 (.mv (.t 8)),oA 33 (.app false 1 (.t 31) (.t 32)),oA 6 (.asg (.t 33))] [6,25,26,27])))
  (.re [oA 34 (.bin .add (.t 27) (.ci 1)),oA 27 (.mv (.t 34))] [6,25,26,27]))))))) (.seq
  (.re [oA 35 (.mv (.t 6)),oA 2 (.asg (.t 35))] [2]) .ret))))))

def c_slices_Grow_____int64___int64_:F where
 np:=2
 rs:=[.t 4]
 body :=
  (.seq
  (.re [oA 4 (.asg (.c (.slice none 0 0)))] [0,1]) (.seq (.seq
  (.re [oA 5 (.mv (.t 1)),oA 6 (.bin .lss (.t 5) (.ci 0))] [0,1,6]) (.cond (.t 6) .stuck .skip)) (.seq (.seq
  (.re [oA 8 (.mv (.t 1)),oA 9 (.mv (.t 0)),oA 10 (.cap0 (.t 9)),oA 11 (.mv (.t 0)),oA 12 (.len (.t 11)),oA 13 (.bin .sub (.t 10) (.t 12)),oA 14 (.bin .sub (.t 8) (.t 13)),oA 1 (.mv (.t 14))] [0,1]) (.seq
  (.re [oA 15 (.mv (.t 1)),oA 16 (.bin .gtr (.t 15) (.ci 0))] [0,1,16]) (.cond (.t 16)
  (.re [oA 17 (.mv (.t 0)),oA 18 (.mv (.t 0)),oA 19 (.cap0 (.t 18)),oA 20 (.sl 1 (.t 17) none (some (.t 19))),oA 21 (.mv (.t 1)),oA 22 (.apz (.slice none 0 0) (.t 20) (.t 21)),oA 23 (.mv (.t 0)),oA 24 (.len (.t 23)),oA 25 (.sl 1 (.t 22) none (some (.t 24))),oA 0 (.asg (.t 25))] [0]) .skip))) (.seq
  (.re [oA 26 (.mv (.t 0)),oA 4 (.asg (.t 26))] [4]) .ret))))

def c_spec_l07Order:F where
 np:=2
 rs:=[.t 4,.t 5]
 body :=
  (.seq
  (.re [oA 2 (.box (.t 0)),oA 4 (.mv (.ci 0)),oA 5 (.mv (.ci 0))] [1,2]) (.seq
  (.re [oA 9 (.fld 0 (.t 2)),oA 10 (.ld none (.t 9)),oA 11 (.len (.t 10)),oA 12 (.mv (.t 1)),oA 13 (.call (.f 343) [aR 11,aR 12,((.ci 1000),.r)]),oA 8 (.mv (.t 13)),oA 14 (.ext (.t 8) 0),oA 15 (.ext (.t 8) 1),oA 6 (.asg (.t 14)),oA 7 (.mv (.t 15))] [6,7]) (.seq (.seq
  (.re [oA 16 (.mv (.t 7)),oA 17 (.un .not (.t 16))] [6,17]) (.cond (.t 17) (.seq
  (.re [oA 4 (.mv (.ci 0)),oA 5 (.mv (.ci 3))] [4,5]) .ret) .skip)) (.seq
  (.re [oA 18 (.mv (.t 6)),oA 19 (.len (.t 18)),oA 4 (.mv (.t 19)),oA 5 (.mv (.ci 0))] [4,5]) .ret))))

def c_spec_l01Group:F where
 np:=3
 rs:=[.t 6,.t 7]
 body :=
  (.seq
  (.re [oA 6 (.asg (.c (.slice none 0 0))),oA 7 (.mv (.c (.bool false)))] [0,1,2]) (.seq
  (.re [oA 15 (.mv (.t 0)),oA 16 (.call (.f 334) [aR 15]),oN (.freeze 16),oA 17 (.bsl [(.t 16)]),oA 18 (.mv (.t 0)),oA 19 (.call (.f 334) [aR 18]),oN (.freeze 19),oA 20 (.bsl [(.t 19)]),oA 8 (.asg (.t 17)),oA 9 (.asg (.t 20))] [1,2,8,9]) (.seq (.seq
  (.re [oA 10 (.mv (.ci 0))] [1,2,8,9,10]) (.block 0 (.loop (.seq (.seq
  (.re [oA 21 (.mv (.t 10)),oA 22 (.mv (.t 8)),oA 23 (.len (.t 22)),oA 24 (.bin .lss (.t 21) (.t 23))] [1,2,8,9,10,24]) (.cond (.t 24) .skip (.exit 0))) (.seq (.block 1 (.seq
  (.re [oA 11 (.mv (.ci 0))] [1,2,8,9,10,11]) (.block 2 (.loop (.seq (.seq
  (.re [oA 27 (.mv (.t 11)),oA 28 (.mv (.t 1)),oA 29 (.len (.t 28)),oA 30 (.bin .lss (.t 27) (.t 29))] [1,2,8,9,10,11,30]) (.cond (.t 30) .skip (.exit 2))) (.seq (.block 3 (.seq
  (.region (some [33,34,35,36,37,38,39,40]) [oA 33 (.mv (.t 8)),oA 34 (.mv (.t 10)),oA 35 (.idx 1 (.t 33) (.t 34)),oA 36 (.ld none (.t 35)),oA 37 (.mv (.t 1)),oA 38 (.mv (.t 11)),oA 39 (.idx 1 (.t 37) (.t 38)),oA 40 (.ld none (.t 39)),oA 41 (.call (.f 279) [aR 36,aR 40]),oA 12 (.asg (.t 41))] [1,2,8,9,10,11,12]) (.seq
  (.re [oN (.freeze 12),oA 43 (.mv (.t 9)),oA 44 (.mv (.t 12)),oA 45 (.callm (.f 349) [((.t 43),false),((.t 44),false)] []),oA 42 (.mv (.t 45)),oA 46 (.ext (.t 42) 0),oA 47 (.ext (.t 42) 1),oA 13 (.asg (.t 46)),oA 14 (.mv (.t 47))] [1,2,8,10,11,12,13,14]) (.seq
  (.re [oA 48 (.mv (.t 13)),oA 9 (.asg (.t 48))] [1,2,8,9,10,11,12,14]) (.seq (.seq
  (.re [oA 49 (.mv (.t 14))] [1,2,8,9,10,11,12,49]) (.cond (.t 49)
  (.re [oA 50 (.mv (.t 8)),oA 51 (.mv (.t 12)),oA 52 (.bsl [(.t 51)]),oA 53 (.app true 1 (.t 50) (.t 52)),oA 8 (.asg (.t 53))] [1,2,8,9,10,11]) .skip)) (.seq
  (.re [oA 54 (.mv (.t 8)),oA 55 (.len (.t 54)),oA 56 (.mv (.t 2)),oA 57 (.bin .gtr (.t 55) (.t 56))] [1,2,8,9,10,11,57]) (.cond (.t 57) (.seq
  (.re [oA 6 (.asg (.c (.slice none 0 0))),oA 7 (.mv (.c (.bool false)))] [6,7]) .ret) .skip)))))))
  (.re [oA 31 (.mv (.t 11)),oA 32 (.bin .add (.t 31) (.ci 1)),oA 11 (.mv (.t 32))] [1,2,8,9,10,11])))))))
  (.re [oA 25 (.mv (.t 10)),oA 26 (.bin .add (.t 25) (.ci 1)),oA 10 (.mv (.t 26))] [1,2,8,9,10])))))) (.seq
  (.re [oA 58 (.mv (.t 9)),oA 59 (.call (.f 280) [aR 58]),oA 6 (.asg (.t 59)),oA 7 (.mv (.c (.bool true)))] [6,7]) .ret))))

def c_spec_l01Unit:F where
 np:=1
 rs:=[.t 2]
 body :=
  (.seq
  (.re [oA 2 (.asg (.c (.slice none 0 0)))] [0]) (.seq
  (.re [oA 5 (.bsl []),oA 3 (.asg (.t 5))] [0,3]) (.seq (.seq
  (.re [oA 4 (.mv (.ci 0))] [0,3,4]) (.block 0 (.loop (.seq (.seq
  (.re [oA 6 (.mv (.t 4)),oA 7 (.mv (.t 0)),oA 8 (.bin .lss (.t 6) (.t 7))] [0,3,4,8]) (.cond (.t 8) .skip (.exit 0))) (.seq (.block 1
  (.re [oA 11 (.mv (.t 3)),oA 12 (.mv (.t 4)),oA 13 (.bsl [(.t 12)]),oA 14 (.app true 1 (.t 11) (.t 13)),oA 3 (.asg (.t 14))] [0,3,4]))
  (.re [oA 9 (.mv (.t 4)),oA 10 (.bin .add (.t 9) (.ci 1)),oA 4 (.mv (.t 10))] [0,3,4])))))) (.seq
  (.re [oA 15 (.mv (.t 3)),oA 2 (.asg (.t 15))] [2]) .ret))))

def c_spec_l01Put:F where
 np:=2
 rs:=[.t 4,.t 5]
 fix:=[0,1]
 body :=
  (.seq
  (.re [oA 4 (.asg (.c (.slice none 0 0))),oA 5 (.mv (.c (.bool false)))] [0,1]) (.seq
  (.re [oA 11 (.mv (.t 0)),oA 12 (.len (.t 11)),oA 6 (.mv (.ci 0)),oA 7 (.mv (.t 12))] [0,1,6,7]) (.seq (.block 0 (.loop (.seq (.seq
  (.re [oA 13 (.mv (.t 6)),oA 14 (.mv (.t 7)),oA 15 (.bin .lss (.t 13) (.t 14))] [0,1,6,7,15]) (.cond (.t 15) .skip (.exit 0))) (.block 1 (.seq
  (.re [oA 16 (.mv (.t 6)),oA 17 (.mv (.t 7)),oA 18 (.bin .add (.t 16) (.t 17)),oA 19 (.bin .quo (.t 18) (.ci 2)),oA 8 (.mv (.t 19))] [0,1,6,7,8]) (.seq
  (.re [oA 20 (.mv (.t 0)),oA 21 (.mv (.t 8)),oA 22 (.idx 1 (.t 20) (.t 21)),oA 23 (.ld none (.t 22)),oA 24 (.mv (.t 1)),oA 25 (.call (.f 408) [aR 23,aR 24])] [0,1,6,7,8,25]) (.cond (.t 25)
  (.re [oA 26 (.mv (.t 8)),oA 27 (.bin .add (.t 26) (.ci 1)),oA 6 (.mv (.t 27))] [0,1,6,7])
  (.re [oA 28 (.mv (.t 8)),oA 7 (.mv (.t 28))] [0,1,6,7])))))))) (.seq (.seq
  (.re [oA 29 (.mv (.t 6)),oA 30 (.mv (.t 0)),oA 31 (.len (.t 30)),oA 32 (.bin .lss (.t 29) (.t 31)),oA 33 (.mv (.t 32)),oI 34 33 true (.mv (.t 0)),oI 35 33 true (.mv (.t 6)),oI 36 33 true (.idx 1 (.t 34) (.t 35)),oI 37 33 true (.ld none (.t 36)),oI 38 33 true (.mv (.t 1)),oI 39 33 true (.call (.f 67) [aR 37,aR 38]),oA 40 (.pick (.t 33) (.t 39) (.c (.bool false)))] [0,1,6,40]) (.cond (.t 40) (.seq
  (.re [oA 41 (.mv (.t 0)),oA 4 (.asg (.t 41)),oA 5 (.mv (.c (.bool false)))] [0,1,4,5]) .ret) .skip)) (.seq
  (.re [oA 42 (.mv (.t 0)),oA 43 (.mv (.t 1)),oA 44 (.bsl [(.t 43)]),oA 45 (.app true 1 (.t 42) (.t 44)),oA 9 (.asg (.t 45))] [0,1,6,9]) (.seq (.seq
  (.re [oA 46 (.mv (.t 9)),oA 47 (.len (.t 46)),oA 48 (.bin .sub (.t 47) (.ci 1)),oA 10 (.mv (.t 48))] [0,1,6,9,10]) (.block 2 (.loop (.seq (.seq
  (.re [oA 49 (.mv (.t 10)),oA 50 (.mv (.t 6)),oA 51 (.bin .gtr (.t 49) (.t 50))] [0,1,6,9,10,51]) (.cond (.t 51) .skip (.exit 2))) (.seq (.block 3
  (.re [oA 54 (.mv (.t 9)),oA 55 (.mv (.t 10)),oA 56 (.mv (.t 9)),oA 57 (.mv (.t 10)),oA 58 (.bin .sub (.t 57) (.ci 1)),oA 59 (.idx 1 (.t 56) (.t 58)),oA 60 (.ld none (.t 59)),oA 61 (.idx 1 (.t 54) (.t 55)),oN (.st none (.t 61) (.t 60))] [0,1,6,9,10]))
  (.re [oA 52 (.mv (.t 10)),oA 53 (.bin .sub (.t 52) (.ci 1)),oA 10 (.mv (.t 53))] [0,1,6,9,10])))))) (.seq
  (.re [oA 62 (.mv (.t 9)),oA 63 (.mv (.t 6)),oA 64 (.mv (.t 1)),oA 65 (.idx 1 (.t 62) (.t 63)),oN (.st none (.t 65) (.t 64))] [0,1,9]) (.seq
  (.re [oA 66 (.mv (.t 9)),oA 4 (.asg (.t 66)),oA 5 (.mv (.c (.bool true)))] [0,1,4,5]) .ret))))))))

def c_spec_l01Less:F where
 np:=2
 rs:=[.t 4]
 body :=
  (.seq
  (.re [oA 4 (.mv (.c (.bool false)))] [0,1]) (.seq (.seq
  (.re [oA 5 (.mv (.ci 0))] [0,1,5]) (.block 0 (.loop (.seq (.seq
  (.re [oA 6 (.mv (.t 5)),oA 7 (.mv (.t 0)),oA 8 (.len (.t 7)),oA 9 (.bin .lss (.t 6) (.t 8)),oA 10 (.mv (.t 9)),oI 11 10 true (.mv (.t 5)),oI 12 10 true (.mv (.t 1)),oI 13 10 true (.len (.t 12)),oI 14 10 true (.bin .lss (.t 11) (.t 13)),oA 15 (.pick (.t 10) (.t 14) (.c (.bool false)))] [0,1,5,15]) (.cond (.t 15) .skip (.exit 0))) (.seq (.block 1 (.seq
  (.region (some [18,19,20,21,22,23,24,25]) [oA 18 (.mv (.t 0)),oA 19 (.mv (.t 5)),oA 20 (.idx 1 (.t 18) (.t 19)),oA 21 (.ld none (.t 20)),oA 22 (.mv (.t 1)),oA 23 (.mv (.t 5)),oA 24 (.idx 1 (.t 22) (.t 23)),oA 25 (.ld none (.t 24)),oA 26 (.bin .neq (.t 21) (.t 25))] [0,1,5,26]) (.cond (.t 26) (.seq
  (.region (some [27,28,29,30,31,32,33,34]) [oA 27 (.mv (.t 0)),oA 28 (.mv (.t 5)),oA 29 (.idx 1 (.t 27) (.t 28)),oA 30 (.ld none (.t 29)),oA 31 (.mv (.t 1)),oA 32 (.mv (.t 5)),oA 33 (.idx 1 (.t 31) (.t 32)),oA 34 (.ld none (.t 33)),oA 35 (.bin .lss (.t 30) (.t 34)),oA 4 (.mv (.t 35))] [4]) .ret) .skip)))
  (.re [oA 16 (.mv (.t 5)),oA 17 (.bin .add (.t 16) (.ci 1)),oA 5 (.mv (.t 17))] [0,1,5])))))) (.seq
  (.re [oA 36 (.mv (.t 0)),oA 37 (.len (.t 36)),oA 38 (.mv (.t 1)),oA 39 (.len (.t 38)),oA 40 (.bin .lss (.t 37) (.t 39)),oA 4 (.mv (.t 40))] [4]) .ret)))

def c_impl_LeftGroupOrder:F where
 np:=1
 rs:=[.t 2,.t 3]
 body :=
  (.seq
  (.re [oA 1 (.box (.t 0)),oA 2 (.mv (.ci 0)),oA 3 (.mv (.ci 0))] [1]) (.seq (.seq
  (.re [oA 4 (.ld (some 2) (.t 1)),oA 5 (.call (.f 266) [aR 4]),oA 6 (.un .not (.t 5))] [1,6]) (.cond (.t 6) (.seq
  (.re [oA 2 (.mv (.ci 0)),oA 3 (.mv (.ci 1))] [2,3]) .ret) .skip)) (.seq
  (.re [oA 7 (.fld 0 (.t 1)),oA 8 (.ld none (.t 7)),oA 9 (.call (.f 270) [aR 8]),oA 10 (.ext (.t 9) 0),oA 11 (.ext (.t 9) 1),oA 2 (.mv (.t 10)),oA 3 (.mv (.t 11))] [2,3]) .ret)))

def c_impl_limitedOrder:F where
 np:=1
 rs:=[.t 2,.t 3]
 body :=
  (.seq
  (.re [oA 2 (.mv (.ci 0)),oA 3 (.mv (.ci 0))] [0]) (.seq
  (.re [oA 5 (.mv (.t 0)),oA 6 (.idx 1 (.t 5) (.ci 0)),oA 7 (.ld none (.t 6)),oA 8 (.len (.t 7)),oA 9 (.mv (.t 0)),oA 10 (.call (.f 380) [aR 8,aR 9,((.ci 1000),.r)]),oA 4 (.mv (.t 10))] [4]) (.seq (.seq
  (.re [oA 11 (.mv (.t 4)),oA 12 (.bin .gtr (.t 11) (.ci 1000))] [4,12]) (.cond (.t 12) (.seq
  (.re [oA 2 (.mv (.ci 0)),oA 3 (.mv (.ci 3))] [2,3]) .ret) .skip)) (.seq
  (.re [oA 13 (.mv (.t 4)),oA 2 (.mv (.t 13)),oA 3 (.mv (.ci 0))] [2,3]) .ret))))

def c_impl_groupOrder:F where
 np:=3
 rs:=[.t 6]
 body :=
  (.seq
  (.re [oA 6 (.mv (.ci 0))] [0,1,2]) (.seq
  (.re [oA 14 .mkset,oA 15 (.mv (.t 0)),oA 16 (.call (.f 335) [aR 15]),oA 17 (.call (.f 312) [aR 16]),oN (.upd (.t 14) (.t 17)),oA 18 (.mv (.t 14)),oA 7 (.asg (.t 18))] [0,1,2,7]) (.seq
  (.re [oA 19 (.mv (.t 0)),oA 20 (.call (.f 335) [aR 19]),oA 21 (.bsl [(.t 20)]),oA 8 (.asg (.t 21))] [1,2,7,8]) (.seq (.seq
  (.re [oA 9 (.mv (.ci 0))] [1,2,7,8,9]) (.block 0 (.loop (.seq (.seq
  (.re [oA 22 (.mv (.t 9)),oA 23 (.mv (.t 8)),oA 24 (.len (.t 23)),oA 25 (.bin .lss (.t 22) (.t 24))] [1,2,7,8,9,25]) (.cond (.t 25) .skip (.exit 0))) (.seq (.block 1 (.seq
  (.re [oA 28 (.mv (.t 1)),oA 29 (.len (.t 28)),oA 30 (.mv (.ci 0))] [1,2,7,8,9,28,29,30]) (.block 2 (.loop (.seq
  (.re [oA 31 (.bin .lss (.t 30) (.t 29))] [1,2,7,8,9,28,29,30,31]) (.seq (.cond (.t 31) .skip (.exit 2)) (.seq (.block 3 (.seq
  (.re [oA 32 (.idx 1 (.t 28) (.t 30)),oA 33 (.ld none (.t 32)),oA 11 (.asg (.t 33))] [1,2,7,8,9,11,28,29,30]) (.seq
  (.re [oA 34 (.mv (.t 8)),oA 35 (.mv (.t 9)),oA 36 (.idx 1 (.t 34) (.t 35)),oA 37 (.ld none (.t 36)),oA 38 (.mv (.t 11)),oA 39 (.call (.f 277) [aR 37,aR 38]),oA 12 (.asg (.t 39))] [1,2,7,8,9,12,28,29,30]) (.seq
  (.re [oA 40 (.mv (.t 12)),oA 41 (.call (.f 312) [aR 40]),oA 13 (.mv (.t 41))] [1,2,7,8,9,12,13,28,29,30]) (.seq
  (.re [oA 42 (.mv (.t 7)),oA 43 (.mv (.t 13)),oA 44 (.look (.t 42) (.t 43)),oA 45 (.un .not (.t 44))] [1,2,7,8,9,12,13,28,29,30,45]) (.cond (.t 45) (.seq (.seq
  (.re [oA 46 (.mv (.t 8)),oA 47 (.len (.t 46)),oA 48 (.mv (.t 2)),oA 49 (.bin .eql (.t 47) (.t 48))] [1,2,7,8,9,12,13,28,29,30,49]) (.cond (.t 49) (.seq
  (.re [oA 50 (.mv (.t 2)),oA 51 (.bin .add (.t 50) (.ci 1)),oA 6 (.mv (.t 51))] [6]) .ret) .skip)) (.seq
  (.re [oA 52 (.mv (.t 7)),oA 53 (.mv (.t 13)),oN (.upd (.t 52) (.t 53))] [1,2,7,8,9,12,28,29,30])
  (.re [oA 54 (.mv (.t 8)),oA 55 (.mv (.t 12)),oA 56 (.bsl [(.t 55)]),oA 57 (.app true 1 (.t 54) (.t 56)),oA 8 (.asg (.t 57))] [1,2,7,8,9,28,29,30]))) .skip))))))
  (.re [oA 58 (.bin .add (.t 30) (.ci 1)),oA 30 (.mv (.t 58))] [1,2,7,8,9,28,29,30]))))))))
  (.re [oA 26 (.mv (.t 9)),oA 27 (.bin .add (.t 26) (.ci 1)),oA 9 (.mv (.t 27))] [1,2,7,8,9])))))) (.seq
  (.re [oA 59 (.mv (.t 8)),oA 60 (.len (.t 59)),oA 6 (.mv (.t 60))] [6]) .ret)))))

def c_impl_digitsText:F where
 np:=1
 rs:=[.t 2]
 body :=
  (.seq
  (.re [oA 2 (.mv (.c (.string (ByteArray.mk #[]))))] [0]) (.seq
  (.re [oA 6 (.mv (.t 0)),oA 7 (.len (.t 6)),oA 8 (.mks (.int .u8 0) (.t 7)),oA 3 (.asg (.t 8))] [0,3]) (.seq (.seq
  (.re [oA 9 (.mv (.t 0)),oA 10 (.len (.t 9)),oA 11 (.mv (.ci 0))] [3,9,10,11]) (.block 0 (.loop (.seq
  (.re [oA 12 (.bin .lss (.t 11) (.t 10))] [3,9,10,11,12]) (.seq (.cond (.t 12) .skip (.exit 0)) (.seq (.block 1 (.seq
  (.re [oA 13 (.mv (.t 11)),oA 14 (.idx 1 (.t 9) (.t 11)),oA 15 (.ld none (.t 14)),oA 4 (.mv (.t 13)),oA 5 (.mv (.t 15))] [3,4,5,9,10,11])
  (.re [oA 16 (.mv (.t 3)),oA 17 (.mv (.t 4)),oA 18 (.mv (.t 5)),oA 19 (.at (.c (.string (ByteArray.mk #[48,49,50,51,52,53,54,55,56,57,97,98]))) (.t 18)),oA 20 (.idx 1 (.t 16) (.t 17)),oN (.st none (.t 20) (.t 19))] [3,9,10,11])))
  (.re [oA 21 (.bin .add (.t 11) (.ci 1)),oA 11 (.mv (.t 21))] [3,9,10,11]))))))) (.seq
  (.re [oA 22 (.mv (.t 3)),oA 23 (.bstr (.t 22)),oA 2 (.mv (.t 23))] [2]) .ret))))

def c_impl_RightGroupOrder:F where
 np:=1
 rs:=[.t 2,.t 3]
 body :=
  (.seq
  (.re [oA 1 (.box (.t 0)),oA 2 (.mv (.ci 0)),oA 3 (.mv (.ci 0))] [1]) (.seq (.seq
  (.re [oA 4 (.ld (some 2) (.t 1)),oA 5 (.call (.f 266) [aR 4]),oA 6 (.un .not (.t 5))] [1,6]) (.cond (.t 6) (.seq
  (.re [oA 2 (.mv (.ci 0)),oA 3 (.mv (.ci 1))] [2,3]) .ret) .skip)) (.seq
  (.re [oA 7 (.fld 1 (.t 1)),oA 8 (.ld none (.t 7)),oA 9 (.call (.f 267) [aR 8]),oA 10 (.call (.f 270) [aR 9]),oA 11 (.ext (.t 10) 0),oA 12 (.ext (.t 10) 1),oA 2 (.mv (.t 11)),oA 3 (.mv (.t 12))] [2,3]) .ret)))

def c_spec_l01Back:F where
 np:=1
 rs:=[.t 2]
 body :=
  (.seq
  (.re [oA 2 (.asg (.c (.slice none 0 0)))] [0]) (.seq
  (.re [oA 5 (.mv (.t 0)),oA 6 (.len (.t 5)),oA 7 (.mks (.int .i64 0) (.t 6)),oA 3 (.asg (.t 7))] [0,3]) (.seq (.seq
  (.re [oA 4 (.mv (.ci 0))] [0,3,4]) (.block 0 (.loop (.seq (.seq
  (.re [oA 8 (.mv (.t 4)),oA 9 (.mv (.t 0)),oA 10 (.len (.t 9)),oA 11 (.bin .lss (.t 8) (.t 10))] [0,3,4,11]) (.cond (.t 11) .skip (.exit 0))) (.seq (.block 1
  (.re [oA 14 (.mv (.t 3)),oA 15 (.mv (.t 0)),oA 16 (.mv (.t 4)),oA 17 (.idx 1 (.t 15) (.t 16)),oA 18 (.ld none (.t 17)),oA 19 (.mv (.t 4)),oA 20 (.idx 1 (.t 14) (.t 18)),oN (.st none (.t 20) (.t 19))] [0,3,4]))
  (.re [oA 12 (.mv (.t 4)),oA 13 (.bin .add (.t 12) (.ci 1)),oA 4 (.mv (.t 13))] [0,3,4])))))) (.seq
  (.re [oA 21 (.mv (.t 3)),oA 2 (.asg (.t 21))] [2]) .ret))))

def c_slices_Compare___int64_int64_:F where
 np:=2
 rs:=[.t 4]
 body :=
  (.seq
  (.re [oA 4 (.mv (.ci 0))] [0,1]) (.seq (.seq
  (.re [oA 9 (.mv (.t 0)),oA 10 (.len (.t 9)),oA 11 (.mv (.ci 0))] [0,1,9,10,11]) (.block 0 (.loop (.seq
  (.re [oA 12 (.bin .lss (.t 11) (.t 10))] [0,1,9,10,11,12]) (.seq (.cond (.t 12) .skip (.exit 0)) (.seq (.block 1 (.seq
  (.re [oA 13 (.mv (.t 11)),oA 14 (.idx 1 (.t 9) (.t 11)),oA 15 (.ld none (.t 14)),oA 5 (.mv (.t 13)),oA 6 (.mv (.t 15))] [0,1,5,6,9,10,11]) (.seq (.seq
  (.re [oA 16 (.mv (.t 5)),oA 17 (.mv (.t 1)),oA 18 (.len (.t 17)),oA 19 (.bin .geq (.t 16) (.t 18))] [0,1,5,6,9,10,11,19]) (.cond (.t 19) (.seq
  (.re [oA 4 (.mv (.ci 1))] [4]) .ret) .skip)) (.seq
  (.re [oA 20 (.mv (.t 1)),oA 21 (.mv (.t 5)),oA 22 (.idx 1 (.t 20) (.t 21)),oA 23 (.ld none (.t 22)),oA 7 (.mv (.t 23))] [0,1,6,7,9,10,11]) (.seq
  (.re [oA 24 (.mv (.t 6)),oA 25 (.mv (.t 7)),oA 26 (.call (.f 395) [aR 24,aR 25]),oA 8 (.mv (.t 26))] [0,1,8,9,10,11]) (.seq
  (.re [oA 27 (.mv (.t 8)),oA 28 (.bin .neq (.t 27) (.ci 0))] [0,1,8,9,10,11,28]) (.cond (.t 28) (.seq
  (.re [oA 29 (.mv (.t 8)),oA 4 (.mv (.t 29))] [4]) .ret) .skip)))))))
  (.re [oA 30 (.bin .add (.t 11) (.ci 1)),oA 11 (.mv (.t 30))] [0,1,9,10,11]))))))) (.seq (.seq
  (.re [oA 31 (.mv (.t 0)),oA 32 (.len (.t 31)),oA 33 (.mv (.t 1)),oA 34 (.len (.t 33)),oA 35 (.bin .lss (.t 32) (.t 34))] [35]) (.cond (.t 35) (.seq
  (.re [oA 4 (.mv (.c (.int .i64 (-1))))] [4]) .ret) .skip)) (.seq
  (.re [oA 4 (.mv (.ci 0))] [4]) .ret))))

def c_cmp_Compare_int64_:F where
 np:=2
 rs:=[.t 4]
 body :=
  (.seq
  (.re [oA 4 (.mv (.ci 0))] [0,1]) (.seq
  (.re [oA 7 (.mv (.t 0)),oA 8 (.call (.f 443) [aR 7]),oA 5 (.mv (.t 8))] [0,1,5]) (.seq
  (.re [oA 9 (.mv (.t 1)),oA 10 (.call (.f 443) [aR 9]),oA 6 (.mv (.t 10))] [0,1,5,6]) (.seq (.seq
  (.re [oA 11 (.mv (.t 5))] [0,1,6,11]) (.cond (.t 11) (.seq (.seq
  (.re [oA 12 (.mv (.t 6))] [12]) (.cond (.t 12) (.seq
  (.re [oA 4 (.mv (.ci 0))] [4]) .ret) .skip)) (.seq
  (.re [oA 4 (.mv (.c (.int .i64 (-1))))] [4]) .ret)) .skip)) (.seq (.seq
  (.re [oA 13 (.mv (.t 6))] [0,1,13]) (.cond (.t 13) (.seq
  (.re [oA 4 (.mv (.ci 1))] [4]) .ret) .skip)) (.seq (.seq
  (.re [oA 14 (.mv (.t 0)),oA 15 (.mv (.t 1)),oA 16 (.bin .lss (.t 14) (.t 15))] [0,1,16]) (.cond (.t 16) (.seq
  (.re [oA 4 (.mv (.c (.int .i64 (-1))))] [4]) .ret) .skip)) (.seq (.seq
  (.re [oA 17 (.mv (.t 0)),oA 18 (.mv (.t 1)),oA 19 (.bin .gtr (.t 17) (.t 18))] [19]) (.cond (.t 19) (.seq
  (.re [oA 4 (.mv (.ci 1))] [4]) .ret) .skip)) (.seq
  (.re [oA 4 (.mv (.ci 0))] [4]) .ret))))))))

def c_cmp_isNaN_int64_:F where
 np:=1
 rs:=[.t 2]
 body :=
  (.seq
  (.re [oA 2 (.mv (.c (.bool false)))] [0]) (.seq
  (.re [oA 3 (.mv (.t 0)),oA 4 (.mv (.t 0)),oA 5 (.bin .neq (.t 3) (.t 4)),oA 2 (.mv (.t 5))] [2]) .ret))

def c_spec_WholeGroupOrder:F where
 np:=1
 rs:=[.t 2,.t 3]
 body :=
  (.seq
  (.re [oA 1 (.box (.t 0)),oA 2 (.mv (.ci 0)),oA 3 (.mv (.ci 0))] [1]) (.seq (.seq
  (.re [oA 6 (.ld (some 2) (.t 1)),oA 7 (.call (.f 264) [aR 6]),oA 8 (.un .not (.t 7))] [1,8]) (.cond (.t 8) (.seq
  (.re [oA 2 (.mv (.ci 0)),oA 3 (.mv (.ci 1))] [2,3]) .ret) .skip)) (.seq
  (.region (some [4,10,11,12,14,15]) [oA 10 (.ld (some 2) (.t 1)),oA 11 (.ld (some 2) (.t 1)),oA 12 (.call (.f 273) [aR 11]),oA 13 (.call (.f 272) [aR 10,aR 12]),oA 9 (.mv (.t 13)),oA 14 (.ext (.t 9) 0),oA 15 (.ext (.t 9) 1),oA 4 (.mv (.t 14)),oA 5 (.mv (.t 15))] [4,5]) (.seq
  (.re [oA 16 (.mv (.t 4)),oA 17 (.mv (.t 5)),oA 2 (.mv (.t 16)),oA 3 (.mv (.t 17))] [2,3]) .ret))))

def c_impl_WholeGroupOrder:F where
 np:=1
 rs:=[.t 2,.t 3]
 body :=
  (.seq
  (.re [oA 1 (.box (.t 0)),oA 2 (.mv (.ci 0)),oA 3 (.mv (.ci 0))] [1]) (.seq (.seq
  (.re [oA 4 (.ld (some 2) (.t 1)),oA 5 (.call (.f 266) [aR 4]),oA 6 (.un .not (.t 5))] [1,6]) (.cond (.t 6) (.seq
  (.re [oA 2 (.mv (.ci 0)),oA 3 (.mv (.ci 1))] [2,3]) .ret) .skip)) (.seq
  (.re [oA 7 (.ld (some 2) (.t 1)),oA 8 (.call (.f 271) [aR 7]),oA 9 (.call (.f 270) [aR 8]),oA 10 (.ext (.t 9) 0),oA 11 (.ext (.t 9) 1),oA 2 (.mv (.t 10)),oA 3 (.mv (.t 11))] [2,3]) .ret)))

def c_spec_l02Empty:F where
 np:=1
 rs:=[.cell 2 (some 2)]
 body :=
  (.seq
  (.re [oA 2 (.alloc [(.slice none 0 0),(.slice none 0 0)])] [0,2]) (.seq
  (.re [oA 5 (.build [(.slice none 0 0),(.slice none 0 0)] []),oA 3 (.alloc [(.slice none 0 0),(.slice none 0 0)]),oN (.st (some 2) (.t 3) (.t 5))] [0,2,3]) (.seq (.seq
  (.re [oA 4 (.mv (.ci 0))] [0,2,3,4]) (.block 0 (.loop (.seq (.seq
  (.re [oA 6 (.mv (.t 4)),oA 7 (.mv (.t 0)),oA 8 (.bin .lss (.t 6) (.t 7))] [0,2,3,4,8]) (.cond (.t 8) .skip (.exit 0))) (.seq (.block 1 (.seq
  (.region (some [11,12,13,14,15]) [oA 11 (.fld 0 (.t 3)),oA 12 (.ld none (.t 11)),oA 13 (.mv (.t 0)),oA 14 (.mks (.int .i64 0) (.t 13)),oA 15 (.bsl1 14),oA 16 (.app true 1 (.t 12) (.t 15)),oA 17 (.fld 0 (.t 3)),oN (.st none (.t 17) (.t 16))] [0,2,3,4])
  (.region (some [18,19,20,21,22]) [oA 18 (.fld 1 (.t 3)),oA 19 (.ld none (.t 18)),oA 20 (.mv (.t 0)),oA 21 (.mks (.int .i64 0) (.t 20)),oA 22 (.bsl1 21),oA 23 (.app true 1 (.t 19) (.t 22)),oA 24 (.fld 1 (.t 3)),oN (.st none (.t 24) (.t 23))] [0,2,3,4])))
  (.re [oA 9 (.mv (.t 4)),oA 10 (.bin .add (.t 9) (.ci 1)),oA 4 (.mv (.t 10))] [0,2,3,4])))))) (.seq
  (.re [oA 25 (.ld (some 2) (.t 3)),oN (.st (some 2) (.t 2) (.t 25))] [2]) .ret))))

end Go.Mch
