/- Compact code of the functions that statements 5,6 and 8 to 12 reach further. -/
import Derived.Test.YtkcgdmjdkbgmkaaGreatM1
namespace Go.Mch

def c_spec_CountTupleOrbits:F where
 np:=2
 rs:=[.t 4,.t 5]
 body :=
  (.seq
  (.re [oA 2 (.box (.t 0)),oA 4 (.mv (.ci 0)),oA 5 (.mv (.ci 0))] [1,2]) (.seq (.block 0 (.seq
  (.re [oA 18 (.ld (some 2) (.t 2)),oA 19 (.call (.f 41) [aR 18]),oA 20 (.un .not (.t 19)),oA 17 (.mv (.t 20))] [1,2,17]) (.cond (.t 17) (.seq
  (.re [oA 4 (.mv (.ci 0)),oA 5 (.mv (.ci 1))] [4,5]) .ret) (.seq
  (.re [oA 22 (.mv (.t 1)),oA 23 (.call (.f 30) [aR 22,((.ci 0),.r),((.ci 12),.r)]),oA 24 (.un .not (.t 23)),oA 21 (.mv (.t 24))] [1,2,21]) (.cond (.t 21) (.seq
  (.re [oA 4 (.mv (.ci 0)),oA 5 (.mv (.ci 2))] [4,5]) .ret) .skip))))) (.seq
  (.re [oA 25 (.fld 0 (.t 2)),oA 26 (.ld none (.t 25)),oA 27 (.len (.t 26)),oA 6 (.mv (.t 27)),oA 7 (.mv (.ci 1))] [1,2,6,7]) (.seq (.seq
  (.re [oA 8 (.mv (.ci 0))] [1,2,6,7,8]) (.block 1 (.loop (.seq (.seq
  (.re [oA 28 (.mv (.t 8)),oA 29 (.mv (.t 1)),oA 30 (.bin .lss (.t 28) (.t 29))] [1,2,6,7,8,30]) (.cond (.t 30) .skip (.exit 1))) (.seq (.block 2 (.seq
  (.re [oA 33 (.mv (.t 7)),oA 34 (.mv (.t 6)),oA 35 (.bin .mul (.t 33) (.t 34)),oA 7 (.mv (.t 35))] [1,2,6,7,8]) (.seq
  (.re [oA 36 (.mv (.t 7)),oA 37 (.bin .gtr (.t 36) (.ci 5000))] [1,2,6,7,8,37]) (.cond (.t 37) (.seq
  (.re [oA 4 (.mv (.ci 0)),oA 5 (.mv (.ci 3))] [4,5]) .ret) .skip))))
  (.re [oA 31 (.mv (.t 8)),oA 32 (.bin .add (.t 31) (.ci 1)),oA 8 (.mv (.t 32))] [1,2,6,7,8])))))) (.seq
  (.re [oA 38 (.mv (.t 7)),oA 39 (.mks (.bool false) (.t 38)),oA 9 (.asg (.t 39)),oA 10 (.mv (.ci 0))] [1,2,6,7,9,10]) (.seq (.seq
  (.re [oA 11 (.mv (.ci 0))] [1,2,6,7,9,10,11]) (.block 3 (.loop (.seq (.seq
  (.re [oA 40 (.mv (.t 11)),oA 41 (.mv (.t 7)),oA 42 (.bin .lss (.t 40) (.t 41))] [1,2,6,7,9,10,11,42]) (.cond (.t 42) .skip (.exit 3))) (.seq (.block 4 (.seq (.seq
  (.re [oA 45 (.mv (.t 9)),oA 46 (.mv (.t 11)),oA 47 (.idx 1 (.t 45) (.t 46)),oA 48 (.ld none (.t 47))] [1,2,6,7,9,10,11,48]) (.cond (.t 48) (.exit 4) .skip)) (.seq
  (.re [oA 49 (.mv (.t 10)),oA 50 (.bin .add (.t 49) (.ci 1)),oA 10 (.mv (.t 50))] [1,2,6,7,9,10,11]) (.seq
  (.re [oA 51 (.mv (.t 9)),oA 52 (.mv (.t 11)),oA 53 (.idx 1 (.t 51) (.t 52)),oN (.st none (.t 53) (.c (.bool true)))] [1,2,6,7,9,10,11]) (.seq
  (.re [oA 54 (.mv (.t 11)),oA 55 (.bsl [(.t 54)]),oA 12 (.asg (.t 55))] [1,2,6,7,9,10,11,12]) (.seq
  (.re [oA 13 (.mv (.ci 0))] [1,2,6,7,9,10,11,12,13]) (.block 5 (.loop (.seq (.seq
  (.re [oA 56 (.mv (.t 13)),oA 57 (.mv (.t 12)),oA 58 (.len (.t 57)),oA 59 (.bin .lss (.t 56) (.t 58))] [1,2,6,7,9,10,11,12,13,59]) (.cond (.t 59) .skip (.exit 5))) (.seq (.block 6 (.seq
  (.re [oA 62 (.mv (.t 12)),oA 63 (.mv (.t 13)),oA 64 (.idx 1 (.t 62) (.t 63)),oA 65 (.ld none (.t 64)),oA 66 (.mv (.t 6)),oA 67 (.mv (.t 1)),oA 68 (.call (.f 260) [aR 65,aR 66,aR 67]),oA 14 (.asg (.t 68))] [1,2,6,7,9,10,11,12,13,14]) (.seq
  (.re [oA 15 (.mv (.ci 0))] [1,2,6,7,9,10,11,12,13,14,15]) (.block 7 (.loop (.seq (.seq
  (.re [oA 69 (.mv (.t 15)),oA 70 (.bin .add (.t 69) (.ci 1)),oA 71 (.mv (.t 1)),oA 72 (.bin .lss (.t 70) (.t 71))] [1,2,6,7,9,10,11,12,13,14,15,72]) (.cond (.t 72) .skip (.exit 7))) (.seq (.block 8 (.seq
  (.re [oA 75 (.ld (some 2) (.t 2)),oA 76 (.mv (.t 14)),oA 77 (.mv (.t 15)),oA 78 (.call (.f 43) [aR 75,aR 76,aR 77]),oA 79 (.mv (.t 6)),oA 80 (.call (.f 261) [aR 78,aR 79]),oA 16 (.mv (.t 80))] [1,2,6,7,9,10,11,12,13,14,15,16]) (.seq
  (.re [oA 81 (.mv (.t 9)),oA 82 (.mv (.t 16)),oA 83 (.idx 1 (.t 81) (.t 82)),oA 84 (.ld none (.t 83)),oA 85 (.un .not (.t 84))] [1,2,6,7,9,10,11,12,13,14,15,16,85]) (.cond (.t 85) (.seq
  (.re [oA 86 (.mv (.t 9)),oA 87 (.mv (.t 16)),oA 88 (.idx 1 (.t 86) (.t 87)),oN (.st none (.t 88) (.c (.bool true)))] [1,2,6,7,9,10,11,12,13,14,15,16])
  (.re [oA 89 (.mv (.t 12)),oA 90 (.mv (.t 16)),oA 91 (.bsl [(.t 90)]),oA 92 (.app true 1 (.t 89) (.t 91)),oA 12 (.asg (.t 92))] [1,2,6,7,9,10,11,12,13,14,15])) .skip))))
  (.re [oA 73 (.mv (.t 15)),oA 74 (.bin .add (.t 73) (.ci 1)),oA 15 (.mv (.t 74))] [1,2,6,7,9,10,11,12,13,14,15]))))))))
  (.re [oA 60 (.mv (.t 13)),oA 61 (.bin .add (.t 60) (.ci 1)),oA 13 (.mv (.t 61))] [1,2,6,7,9,10,11,12,13])))))))))))
  (.re [oA 43 (.mv (.t 11)),oA 44 (.bin .add (.t 43) (.ci 1)),oA 11 (.mv (.t 44))] [1,2,6,7,9,10,11])))))) (.seq
  (.re [oA 93 (.mv (.t 10)),oA 4 (.mv (.t 93)),oA 5 (.mv (.ci 0))] [4,5]) .ret)))))))

def c_spec_l06Digits:F where
 np:=3
 rs:=[.t 6]
 body :=
  (.seq
  (.re [oA 6 (.asg (.c (.slice none 0 0)))] [0,1,2]) (.seq
  (.re [oA 9 (.mv (.t 2)),oA 10 (.mks (.int .i64 0) (.t 9)),oA 7 (.asg (.t 10))] [0,1,2,7]) (.seq (.seq
  (.re [oA 11 (.mv (.t 2)),oA 12 (.bin .sub (.t 11) (.ci 1)),oA 8 (.mv (.t 12))] [0,1,7,8]) (.block 0 (.loop (.seq (.seq
  (.re [oA 13 (.mv (.t 8)),oA 14 (.bin .geq (.t 13) (.ci 0))] [0,1,7,8,14]) (.cond (.t 14) .skip (.exit 0))) (.seq (.block 1 (.seq
  (.re [oA 17 (.mv (.t 7)),oA 18 (.mv (.t 8)),oA 19 (.mv (.t 0)),oA 20 (.mv (.t 1)),oA 21 (.bin .rem (.t 19) (.t 20)),oA 22 (.idx 1 (.t 17) (.t 18)),oN (.st none (.t 22) (.t 21))] [0,1,7,8])
  (.re [oA 23 (.mv (.t 0)),oA 24 (.mv (.t 1)),oA 25 (.bin .quo (.t 23) (.t 24)),oA 0 (.mv (.t 25))] [0,1,7,8])))
  (.re [oA 15 (.mv (.t 8)),oA 16 (.bin .sub (.t 15) (.ci 1)),oA 8 (.mv (.t 16))] [0,1,7,8])))))) (.seq
  (.re [oA 26 (.mv (.t 7)),oA 6 (.asg (.t 26))] [6]) .ret))))

def c_spec_l06Number:F where
 np:=2
 rs:=[.t 4]
 body :=
  (.seq
  (.re [oA 4 (.mv (.ci 0))] [0,1]) (.seq
  (.re [oA 5 (.mv (.ci 0))] [0,1,5]) (.seq (.seq
  (.re [oA 6 (.mv (.ci 0))] [0,1,5,6]) (.block 0 (.loop (.seq (.seq
  (.re [oA 7 (.mv (.t 6)),oA 8 (.mv (.t 0)),oA 9 (.len (.t 8)),oA 10 (.bin .lss (.t 7) (.t 9))] [0,1,5,6,10]) (.cond (.t 10) .skip (.exit 0))) (.seq (.block 1
  (.re [oA 13 (.mv (.t 5)),oA 14 (.mv (.t 1)),oA 15 (.bin .mul (.t 13) (.t 14)),oA 16 (.mv (.t 0)),oA 17 (.mv (.t 6)),oA 18 (.idx 1 (.t 16) (.t 17)),oA 19 (.ld none (.t 18)),oA 20 (.bin .add (.t 15) (.t 19)),oA 5 (.mv (.t 20))] [0,1,5,6]))
  (.re [oA 11 (.mv (.t 6)),oA 12 (.bin .add (.t 11) (.ci 1)),oA 6 (.mv (.t 12))] [0,1,5,6])))))) (.seq
  (.re [oA 21 (.mv (.t 5)),oA 4 (.mv (.t 21))] [4]) .ret))))

def c_impl_CountTupleOrbits:F where
 np:=2
 rs:=[.t 4,.t 5]
 body :=
  (.seq
  (.re [oA 2 (.box (.t 0)),oA 4 (.mv (.ci 0)),oA 5 (.mv (.ci 0))] [1,2]) (.seq (.seq
  (.re [oA 15 (.ld (some 2) (.t 2)),oA 16 (.call (.f 42) [aR 15]),oA 17 (.un .not (.t 16))] [1,2,17]) (.cond (.t 17) (.seq
  (.re [oA 4 (.mv (.ci 0)),oA 5 (.mv (.ci 1))] [4,5]) .ret) .skip)) (.seq (.seq
  (.re [oA 18 (.mv (.t 1)),oA 19 (.call (.f 35) [aR 18,((.ci 0),.r),((.ci 12),.r)]),oA 20 (.un .not (.t 19))] [1,2,20]) (.cond (.t 20) (.seq
  (.re [oA 4 (.mv (.ci 0)),oA 5 (.mv (.ci 2))] [4,5]) .ret) .skip)) (.seq
  (.re [oA 21 (.fld 0 (.t 2)),oA 22 (.ld none (.t 21)),oA 23 (.len (.t 22)),oA 6 (.mv (.t 23)),oA 7 (.mv (.ci 1))] [1,2,6,7]) (.seq (.seq
  (.re [oA 24 (.mv (.t 1)),oA 25 (.mv (.ci 0))] [1,2,6,7,24,25]) (.block 0 (.loop (.seq
  (.re [oA 26 (.bin .lss (.t 25) (.t 24))] [1,2,6,7,24,25,26]) (.seq (.cond (.t 26) .skip (.exit 0)) (.seq (.block 1 (.seq
  (.re [oA 27 (.mv (.t 7)),oA 28 (.mv (.t 6)),oA 29 (.bin .mul (.t 27) (.t 28)),oA 7 (.mv (.t 29))] [1,2,6,7,24,25]) (.seq
  (.re [oA 30 (.mv (.t 7)),oA 31 (.bin .gtr (.t 30) (.ci 5000))] [1,2,6,7,24,25,31]) (.cond (.t 31) (.seq
  (.re [oA 4 (.mv (.ci 0)),oA 5 (.mv (.ci 3))] [4,5]) .ret) .skip))))
  (.re [oA 32 (.bin .add (.t 25) (.ci 1)),oA 25 (.mv (.t 32))] [1,2,6,7,24,25]))))))) (.seq
  (.re [oA 33 (.mv (.t 7)),oA 34 (.mks (.bool false) (.t 33)),oA 8 (.asg (.t 34))] [1,2,6,8]) (.seq
  (.re [oA 9 (.mv (.ci 0))] [1,2,6,8,9]) (.seq (.seq
  (.re [oA 35 (.mv (.t 8)),oA 36 (.len (.t 35)),oA 37 (.mv (.ci 0))] [1,2,6,8,9,36,37]) (.block 2 (.loop (.seq
  (.re [oA 38 (.bin .lss (.t 37) (.t 36))] [1,2,6,8,9,36,37,38]) (.seq (.cond (.t 38) .skip (.exit 2)) (.seq (.block 3 (.seq
  (.re [oA 39 (.mv (.t 37)),oA 10 (.mv (.t 39))] [1,2,6,8,9,10,36,37]) (.seq (.seq
  (.re [oA 40 (.mv (.t 8)),oA 41 (.mv (.t 10)),oA 42 (.idx 1 (.t 40) (.t 41)),oA 43 (.ld none (.t 42))] [1,2,6,8,9,10,36,37,43]) (.cond (.t 43) (.exit 3) .skip)) (.seq
  (.re [oA 44 (.mv (.t 9)),oA 45 (.bin .add (.t 44) (.ci 1)),oA 9 (.mv (.t 45))] [1,2,6,8,9,10,36,37]) (.seq
  (.re [oA 46 (.mv (.t 8)),oA 47 (.mv (.t 10)),oA 48 (.idx 1 (.t 46) (.t 47)),oN (.st none (.t 48) (.c (.bool true)))] [1,2,6,8,9,10,36,37]) (.seq
  (.re [oA 49 (.mv (.t 10)),oA 50 (.bsl [(.t 49)]),oA 11 (.asg (.t 50))] [1,2,6,8,9,11,36,37]) (.block 4 (.loop (.seq (.seq
  (.re [oA 51 (.mv (.t 11)),oA 52 (.len (.t 51)),oA 53 (.bin .gtr (.t 52) (.ci 0))] [1,2,6,8,9,11,36,37,53]) (.cond (.t 53) .skip (.exit 4))) (.seq (.block 5 (.seq
  (.re [oA 56 (.mv (.t 6)),oA 57 (.mv (.t 1)),oA 58 (.mv (.t 11)),oA 59 (.idx 1 (.t 58) (.ci 0)),oA 60 (.ld none (.t 59)),oA 61 (.call (.f 262) [aR 56,aR 57,aR 60]),oA 12 (.asg (.t 61))] [1,2,6,8,9,11,12,36,37]) (.seq
  (.re [oA 62 (.mv (.t 12)),oA 63 (.len (.t 62)),oA 64 (.bin .sub (.t 63) (.ci 1)),oA 65 (.mv (.ci 0))] [1,2,6,8,9,11,12,36,37,64,65]) (.block 6 (.loop (.seq
  (.re [oA 66 (.bin .lss (.t 65) (.t 64))] [1,2,6,8,9,11,12,36,37,64,65,66]) (.seq (.cond (.t 66) .skip (.exit 6)) (.seq (.block 7 (.seq
  (.re [oA 67 (.mv (.t 65)),oA 13 (.mv (.t 67))] [1,2,6,8,9,11,12,13,36,37,64,65]) (.seq
  (.re [oA 68 (.mv (.t 6)),oA 69 (.ld (some 2) (.t 2)),oA 70 (.mv (.t 12)),oA 71 (.mv (.t 13)),oA 72 (.call (.f 44) [aR 69,aR 70,aR 71]),oA 73 (.call (.f 263) [aR 68,aR 72]),oA 14 (.mv (.t 73))] [1,2,6,8,9,11,12,14,36,37,64,65]) (.seq
  (.re [oA 74 (.mv (.t 8)),oA 75 (.mv (.t 14)),oA 76 (.idx 1 (.t 74) (.t 75)),oA 77 (.ld none (.t 76)),oA 78 (.un .not (.t 77))] [1,2,6,8,9,11,12,14,36,37,64,65,78]) (.cond (.t 78) (.seq
  (.re [oA 79 (.mv (.t 8)),oA 80 (.mv (.t 14)),oA 81 (.idx 1 (.t 79) (.t 80)),oN (.st none (.t 81) (.c (.bool true)))] [1,2,6,8,9,11,12,14,36,37,64,65])
  (.re [oA 82 (.mv (.t 11)),oA 83 (.mv (.t 14)),oA 84 (.bsl [(.t 83)]),oA 85 (.app true 1 (.t 82) (.t 84)),oA 11 (.asg (.t 85))] [1,2,6,8,9,11,12,36,37,64,65])) .skip)))))
  (.re [oA 86 (.bin .add (.t 65) (.ci 1)),oA 65 (.mv (.t 86))] [1,2,6,8,9,11,12,36,37,64,65])))))))))
  (.re [oA 54 (.mv (.t 11)),oA 55 (.sl 1 (.t 54) (some (.ci 1)) none),oA 11 (.asg (.t 55))] [1,2,6,8,9,11,36,37])))))))))))
  (.re [oA 87 (.bin .add (.t 37) (.ci 1)),oA 37 (.mv (.t 87))] [1,2,6,8,9,36,37]))))))) (.seq
  (.re [oA 88 (.mv (.t 9)),oA 4 (.mv (.t 88)),oA 5 (.mv (.ci 0))] [4,5]) .ret)))))))))

def c_impl_tupleOf:F where
 np:=3
 rs:=[.t 6]
 body :=
  (.seq
  (.re [oA 6 (.asg (.c (.slice none 0 0)))] [0,1,2]) (.seq
  (.re [oA 9 (.mv (.t 1)),oA 10 (.mks (.int .i64 0) (.t 9)),oA 7 (.asg (.t 10))] [0,1,2,7]) (.seq (.seq
  (.re [oA 11 (.mv (.t 1)),oA 12 (.bin .sub (.t 11) (.ci 1)),oA 8 (.mv (.t 12))] [0,2,7,8]) (.block 0 (.loop (.seq (.seq
  (.re [oA 13 (.mv (.t 8)),oA 14 (.bin .geq (.t 13) (.ci 0))] [0,2,7,8,14]) (.cond (.t 14) .skip (.exit 0))) (.seq (.block 1 (.seq
  (.re [oA 17 (.mv (.t 7)),oA 18 (.mv (.t 8)),oA 19 (.mv (.t 2)),oA 20 (.mv (.t 0)),oA 21 (.bin .rem (.t 19) (.t 20)),oA 22 (.idx 1 (.t 17) (.t 18)),oN (.st none (.t 22) (.t 21))] [0,2,7,8])
  (.re [oA 23 (.mv (.t 2)),oA 24 (.mv (.t 0)),oA 25 (.bin .quo (.t 23) (.t 24)),oA 2 (.mv (.t 25))] [0,2,7,8])))
  (.re [oA 15 (.mv (.t 8)),oA 16 (.bin .sub (.t 15) (.ci 1)),oA 8 (.mv (.t 16))] [0,2,7,8])))))) (.seq
  (.re [oA 26 (.mv (.t 7)),oA 6 (.asg (.t 26))] [6]) .ret))))

def c_impl_numberOf:F where
 np:=2
 rs:=[.t 4]
 body :=
  (.seq
  (.re [oA 4 (.mv (.ci 0))] [0,1]) (.seq
  (.re [oA 5 (.mv (.ci 0))] [0,1,5]) (.seq (.seq
  (.re [oA 8 (.mv (.t 1)),oA 9 (.len (.t 8)),oA 10 (.mv (.ci 0))] [0,5,8,9,10]) (.block 0 (.loop (.seq
  (.re [oA 11 (.bin .lss (.t 10) (.t 9))] [0,5,8,9,10,11]) (.seq (.cond (.t 11) .skip (.exit 0)) (.seq (.block 1 (.seq
  (.re [oA 12 (.idx 1 (.t 8) (.t 10)),oA 13 (.ld none (.t 12)),oA 7 (.mv (.t 13))] [0,5,7,8,9,10])
  (.re [oA 14 (.mv (.t 5)),oA 15 (.mv (.t 0)),oA 16 (.bin .mul (.t 14) (.t 15)),oA 17 (.mv (.t 7)),oA 18 (.bin .add (.t 16) (.t 17)),oA 5 (.mv (.t 18))] [0,5,8,9,10])))
  (.re [oA 19 (.bin .add (.t 10) (.ci 1)),oA 10 (.mv (.t 19))] [0,5,8,9,10]))))))) (.seq
  (.re [oA 20 (.mv (.t 5)),oA 4 (.mv (.t 20))] [4]) .ret))))

def c_impl_isNondegenerate:F where
 np:=1
 rs:=[.t 2]
 body :=
  (.seq
  (.re [oA 1 (.box (.t 0)),oA 2 (.mv (.c (.bool false)))] [1]) (.seq
  (.re [oA 3 (.fld 0 (.t 1)),oA 4 (.ld none (.t 3)),oA 5 (.call (.f 51) [aR 4]),oA 6 (.mv (.t 5)),oI 7 6 true (.fld 1 (.t 1)),oI 8 6 true (.ld none (.t 7)),oI 9 6 true (.call (.f 267) [aR 8]),oI 10 6 true (.call (.f 51) [aR 9]),oA 11 (.pick (.t 6) (.t 10) (.c (.bool false))),oA 2 (.mv (.t 11))] [2]) .ret))

def c_impl_transposed:F where
 np:=1
 rs:=[.t 2]
 body :=
  (.seq
  (.re [oA 1 (.box (.t 0)),oA 2 (.asg (.c (.slice none 0 0)))] [1]) (.seq
  (.re [oA 3 (.ld none (.t 1)),oA 4 (.len (.t 3)),oA 5 (.fnc 377 [(.t 1)]),oA 6 (.call (.f 376) [aR 4,aR 5]),oA 2 (.asg (.t 6))] [2]) .ret))

def c_impl_transposed_1:F where
 np:=3
 rs:=[.t 5]
 body :=
  (.seq
  (.re [oA 5 (.mv (.ci 0))] [0,1,2]) (.seq
  (.re [oA 6 (.ld none (.t 2)),oA 7 (.mv (.t 1)),oA 8 (.idx 1 (.t 6) (.t 7)),oA 9 (.ld none (.t 8)),oA 10 (.mv (.t 0)),oA 11 (.idx 1 (.t 9) (.t 10)),oA 12 (.ld none (.t 11)),oA 5 (.mv (.t 12))] [5]) .ret))

def c_impl_tableBy:F where
 np:=2
 rs:=[.t 4]
 body :=
  (.seq
  (.re [oA 4 (.asg (.c (.slice none 0 0)))] [0,1]) (.seq
  (.re [oA 8 (.mv (.t 0)),oA 9 (.mks (.slice none 0 0) (.t 8)),oA 5 (.asg (.t 9))] [0,1,5]) (.seq (.seq
  (.re [oA 10 (.mv (.t 5)),oA 11 (.len (.t 10)),oA 12 (.mv (.ci 0))] [0,1,5,11,12]) (.block 0 (.loop (.seq
  (.re [oA 13 (.bin .lss (.t 12) (.t 11))] [0,1,5,11,12,13]) (.seq (.cond (.t 13) .skip (.exit 0)) (.seq (.block 1 (.seq
  (.re [oA 14 (.mv (.t 12)),oA 6 (.mv (.t 14))] [0,1,5,6,11,12]) (.seq
  (.re [oA 15 (.mv (.t 5)),oA 16 (.mv (.t 6)),oA 17 (.mv (.t 0)),oA 18 (.mks (.int .i64 0) (.t 17)),oA 19 (.idx 1 (.t 15) (.t 16)),oN (.st none (.t 19) (.t 18))] [0,1,5,6,11,12]) (.seq
  (.re [oA 20 (.mv (.t 5)),oA 21 (.mv (.t 6)),oA 22 (.idx 1 (.t 20) (.t 21)),oA 23 (.ld none (.t 22)),oA 24 (.len (.t 23)),oA 25 (.mv (.ci 0))] [0,1,5,6,11,12,24,25]) (.block 2 (.loop (.seq
  (.re [oA 26 (.bin .lss (.t 25) (.t 24))] [0,1,5,6,11,12,24,25,26]) (.seq (.cond (.t 26) .skip (.exit 2)) (.seq (.block 3 (.seq
  (.re [oA 27 (.mv (.t 25)),oA 7 (.mv (.t 27))] [0,1,5,6,7,11,12,24,25])
  (.region (some [28,29,30,31,32,33,34,35,36]) [oA 28 (.mv (.t 5)),oA 29 (.mv (.t 6)),oA 30 (.idx 1 (.t 28) (.t 29)),oA 31 (.ld none (.t 30)),oA 32 (.mv (.t 7)),oA 33 (.mv (.t 1)),oA 34 (.mv (.t 6)),oA 35 (.mv (.t 7)),oA 36 (.call (.t 33) [aR 34,aR 35]),oA 37 (.idx 1 (.t 31) (.t 32)),oN (.st none (.t 37) (.t 36))] [0,1,5,6,11,12,24,25])))
  (.re [oA 38 (.bin .add (.t 25) (.ci 1)),oA 25 (.mv (.t 38))] [0,1,5,6,11,12,24,25]))))))))))
  (.re [oA 39 (.bin .add (.t 12) (.ci 1)),oA 12 (.mv (.t 39))] [0,1,5,11,12]))))))) (.seq
  (.re [oA 40 (.mv (.t 5)),oA 4 (.asg (.t 40))] [4]) .ret))))

def c_spec_l01Then:F where
 np:=2
 rs:=[.t 4]
 body :=
  (.seq
  (.re [oA 4 (.asg (.c (.slice none 0 0)))] [0,1]) (.seq
  (.re [oA 7 (.bsl []),oA 5 (.asg (.t 7))] [0,1,5]) (.seq (.seq
  (.re [oA 6 (.mv (.ci 0))] [0,1,5,6]) (.block 0 (.loop (.seq (.seq
  (.re [oA 8 (.mv (.t 6)),oA 9 (.mv (.t 0)),oA 10 (.len (.t 9)),oA 11 (.bin .lss (.t 8) (.t 10))] [0,1,5,6,11]) (.cond (.t 11) .skip (.exit 0))) (.seq (.block 1
  (.re [oA 14 (.mv (.t 5)),oA 15 (.mv (.t 1)),oA 16 (.mv (.t 0)),oA 17 (.mv (.t 6)),oA 18 (.idx 1 (.t 16) (.t 17)),oA 19 (.ld none (.t 18)),oA 20 (.idx 1 (.t 15) (.t 19)),oA 21 (.ld none (.t 20)),oA 22 (.bsl [(.t 21)]),oA 23 (.app true 1 (.t 14) (.t 22)),oA 5 (.asg (.t 23))] [0,1,5,6]))
  (.re [oA 12 (.mv (.t 6)),oA 13 (.bin .add (.t 12) (.ci 1)),oA 6 (.mv (.t 13))] [0,1,5,6])))))) (.seq
  (.re [oA 24 (.mv (.t 5)),oA 4 (.asg (.t 24))] [4]) .ret))))

def c_spec_l01Own2:F where
 np:=1
 rs:=[.t 2]
 body :=
  (.seq
  (.re [oA 2 (.asg (.c (.slice none 0 0)))] [0]) (.seq
  (.re [oA 5 (.bsl []),oA 3 (.asg (.t 5))] [0,3]) (.seq (.seq
  (.re [oA 4 (.mv (.ci 0))] [0,3,4]) (.block 0 (.loop (.seq (.seq
  (.re [oA 6 (.mv (.t 4)),oA 7 (.mv (.t 0)),oA 8 (.len (.t 7)),oA 9 (.bin .lss (.t 6) (.t 8))] [0,3,4,9]) (.cond (.t 9) .skip (.exit 0))) (.seq (.block 1
  (.re [oA 12 (.mv (.t 3)),oA 13 (.mv (.t 0)),oA 14 (.mv (.t 4)),oA 15 (.idx 1 (.t 13) (.t 14)),oA 16 (.ld none (.t 15)),oA 17 (.call (.f 31) [aR 16]),oA 18 (.bsl [(.t 17)]),oA 19 (.app true 1 (.t 12) (.t 18)),oA 3 (.asg (.t 19))] [0,3,4]))
  (.re [oA 10 (.mv (.t 4)),oA 11 (.bin .add (.t 10) (.ci 1)),oA 4 (.mv (.t 11))] [0,3,4])))))) (.seq
  (.re [oA 20 (.mv (.t 3)),oA 2 (.asg (.t 20))] [2]) .ret))))

def j1s:F where
 np:=1
 rs:=[.cell 2 (some 1),.t 3]
 body :=
  (.seq
  (.re [oA 1 (.box (.t 0)),oA 2 (.alloc [(.slice none 0 0)]),oA 3 (.mv (.ci 0))] [1,2]) (.seq (.seq
  (.re [oA 4 (.ld (some 2) (.t 1)),oA 5 (.call (.f 42) [aR 4]),oA 6 (.un .not (.t 5))] [1,2,6]) (.cond (.t 6) (.seq
  (.re [oA 7 (.build [(.slice none 0 0)] []),oN (.st (some 1) (.t 2) (.t 7)),oA 3 (.mv (.ci 1))] [2,3]) .ret) .skip)) (.seq (.seq
  (.re [oA 8 (.ld (some 2) (.t 1)),oA 9 (.call (.f 285) [aR 8]),oA 10 (.un .not (.t 9))] [1,2,10]) (.cond (.t 10) (.seq
  (.re [oA 11 (.build [(.slice none 0 0)] []),oN (.st (some 1) (.t 2) (.t 11)),oA 3 (.mv (.ci 5))] [2,3]) .ret) .skip)) (.seq
  (.re [oA 12 (.ld (some 2) (.t 1)),oA 13 (.call (.f 286) [aR 12]),oN (.st (some 1) (.t 2) (.t 13)),oA 3 (.mv (.ci 0))] [2,3]) .ret))))

def c_impl_derivedRack:F where
 np:=1
 rs:=[.cell 2 (some 1)]
 body :=
  (.seq
  (.re [oA 1 (.box (.t 0)),oA 2 (.alloc [(.slice none 0 0)])] [1,2]) (.seq
  (.re [oA 3 (.fld 0 (.t 1)),oA 4 (.ld none (.t 3)),oA 5 (.len (.t 4)),oA 6 (.fnc 383 [(.t 1)]),oA 7 (.call (.f 376) [aR 5,aR 6]),oA 8 (.build [(.slice none 0 0)] [(0,1,(.t 7))]),oN (.st (some 1) (.t 2) (.t 8))] [2]) .ret))

def c_impl_derivedRack_1:F where
 np:=3
 rs:=[.t 5]
 body :=
  (.seq
  (.re [oA 5 (.mv (.ci 0))] [0,1,2]) (.seq
  (.re [oA 7 (.fld 0 (.t 2)),oA 8 (.ld none (.t 7)),oA 9 (.mv (.t 1)),oA 10 (.idx 1 (.t 8) (.t 9)),oA 11 (.ld none (.t 10)),oA 12 (.mv (.t 0)),oA 13 (.call (.f 287) [aR 11,aR 12]),oA 6 (.mv (.t 13))] [0,1,2,6]) (.seq
  (.region (some [14,15,16,17,18,19,20,21,22,23,24,25,26]) [oA 14 (.fld 0 (.t 2)),oA 15 (.ld none (.t 14)),oA 16 (.mv (.t 0)),oA 17 (.idx 1 (.t 15) (.t 16)),oA 18 (.ld none (.t 17)),oA 19 (.fld 1 (.t 2)),oA 20 (.ld none (.t 19)),oA 21 (.mv (.t 1)),oA 22 (.idx 1 (.t 20) (.t 21)),oA 23 (.ld none (.t 22)),oA 24 (.mv (.t 6)),oA 25 (.idx 1 (.t 23) (.t 24)),oA 26 (.ld none (.t 25)),oA 27 (.idx 1 (.t 18) (.t 26)),oA 28 (.ld none (.t 27)),oA 5 (.mv (.t 28))] [5]) .ret)))

def c_impl_indexIn:F where
 np:=2
 rs:=[.t 4]
 body :=
  (.seq
  (.re [oA 4 (.mv (.ci 0))] [0,1]) (.seq
  (.re [oA 5 (.mv (.t 0)),oA 6 (.mv (.t 1)),oA 7 (.call (.f 384) [aR 5,aR 6]),oA 4 (.mv (.t 7))] [4]) .ret))

def j1m:F where
 np:=2
 rs:=[.t 4]
 body :=
  (.seq
  (.re [oA 4 (.mv (.ci 0))] [0,1]) (.seq (.seq
  (.re [oA 6 (.mv (.t 0)),oA 7 (.len (.t 6)),oA 8 (.mv (.ci 0))] [0,1,7,8]) (.block 0 (.loop (.seq
  (.re [oA 9 (.bin .lss (.t 8) (.t 7))] [0,1,7,8,9]) (.seq (.cond (.t 9) .skip (.exit 0)) (.seq (.block 1 (.seq
  (.re [oA 10 (.mv (.t 8)),oA 5 (.mv (.t 10))] [0,1,5,7,8]) (.seq
  (.re [oA 11 (.mv (.t 1)),oA 12 (.mv (.t 0)),oA 13 (.mv (.t 5)),oA 14 (.idx 1 (.t 12) (.t 13)),oA 15 (.ld none (.t 14)),oA 16 (.bin .eql (.t 11) (.t 15))] [0,1,5,7,8,16]) (.cond (.t 16) (.seq
  (.re [oA 17 (.mv (.t 5)),oA 4 (.mv (.t 17))] [4]) .ret) .skip))))
  (.re [oA 18 (.bin .add (.t 8) (.ci 1)),oA 8 (.mv (.t 18))] [0,1,7,8]))))))) (.seq
  (.re [oA 4 (.mv (.c (.int .i64 (-1))))] [4]) .ret)))

end Go.Mch
