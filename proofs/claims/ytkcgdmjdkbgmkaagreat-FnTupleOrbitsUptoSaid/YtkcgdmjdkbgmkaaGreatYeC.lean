/- Compact code of the functions that statements 13 to 36 reach further. -/
import Derived.Test.YtkcgdmjdkbgmkaaGreatM1
namespace Go.Mch

def c_spec_l01Unit:F where
 np:=1
 rs:=[.t 2]
 body :=
  (.seq
  (.re [oA 2 (.asg (.c (.slice none 0 0)))] [0]) (.seq
  (.re [oA 5 (.bsl []),oA 3 (.asg (.t 5))] [0,3]) (.seq (.seq
  (.re [oA 4 (.mv (.ci 0))] [0,3,4]) (.block 0 (.loop (.seq (.seq
  (.re [oA 6 (.mv (.t 4)),oA 7 (.mv (.t 0)),oA 8 (.bin .lss (.t 6) (.t 7))] [0,3,4,8]) (.cond (.t 8) .skip (.exit 0))) (.seq (.block 1
  (.re [oA 11 (.mv (.t 3)),oA 12 (.mv (.t 4)),oA 13 (.bsl [(.t 12)]),oA 14 (.app true 1 (.t 11) (.t 13)),oA 3 (.asg (.t 14))] [0,3,4]))
  (.re [oA 9 (.mv (.t 4)),oA 10 (.bin .add (.t 9) (.ci 1)),oA 4 (.mv (.t 10))] [0,3,4])))))) (.seq
  (.re [oA 15 (.mv (.t 3)),oA 2 (.asg (.t 15))] [2]) .ret))))

def c_spec_l01Less:F where
 np:=2
 rs:=[.t 4]
 body :=
  (.seq
  (.re [oA 4 (.mv (.c (.bool false)))] [0,1]) (.seq (.seq
  (.re [oA 5 (.mv (.ci 0))] [0,1,5]) (.block 0 (.loop (.seq (.seq
  (.re [oA 6 (.mv (.t 5)),oA 7 (.mv (.t 0)),oA 8 (.len (.t 7)),oA 9 (.bin .lss (.t 6) (.t 8)),oA 10 (.mv (.t 9)),oI 11 10 true (.mv (.t 5)),oI 12 10 true (.mv (.t 1)),oI 13 10 true (.len (.t 12)),oI 14 10 true (.bin .lss (.t 11) (.t 13)),oA 15 (.pick (.t 10) (.t 14) (.c (.bool false)))] [0,1,5,15]) (.cond (.t 15) .skip (.exit 0))) (.seq (.block 1 (.seq
  (.region (some [18,19,20,21,22,23,24,25]) [oA 18 (.mv (.t 0)),oA 19 (.mv (.t 5)),oA 20 (.idx 1 (.t 18) (.t 19)),oA 21 (.ld none (.t 20)),oA 22 (.mv (.t 1)),oA 23 (.mv (.t 5)),oA 24 (.idx 1 (.t 22) (.t 23)),oA 25 (.ld none (.t 24)),oA 26 (.bin .neq (.t 21) (.t 25))] [0,1,5,26]) (.cond (.t 26) (.seq
  (.region (some [27,28,29,30,31,32,33,34]) [oA 27 (.mv (.t 0)),oA 28 (.mv (.t 5)),oA 29 (.idx 1 (.t 27) (.t 28)),oA 30 (.ld none (.t 29)),oA 31 (.mv (.t 1)),oA 32 (.mv (.t 5)),oA 33 (.idx 1 (.t 31) (.t 32)),oA 34 (.ld none (.t 33)),oA 35 (.bin .lss (.t 30) (.t 34)),oA 4 (.mv (.t 35))] [4]) .ret) .skip)))
  (.re [oA 16 (.mv (.t 5)),oA 17 (.bin .add (.t 16) (.ci 1)),oA 5 (.mv (.t 17))] [0,1,5])))))) (.seq
  (.re [oA 36 (.mv (.t 0)),oA 37 (.len (.t 36)),oA 38 (.mv (.t 1)),oA 39 (.len (.t 38)),oA 40 (.bin .lss (.t 37) (.t 39)),oA 4 (.mv (.t 40))] [4]) .ret)))

def c_impl_digitsText:F where
 np:=1
 rs:=[.t 2]
 body :=
  (.seq
  (.re [oA 2 (.mv (.c (.string (ByteArray.mk #[]))))] [0]) (.seq
  (.re [oA 6 (.mv (.t 0)),oA 7 (.len (.t 6)),oA 8 (.mks (.int .u8 0) (.t 7)),oA 3 (.asg (.t 8))] [0,3]) (.seq (.seq
  (.re [oA 9 (.mv (.t 0)),oA 10 (.len (.t 9)),oA 11 (.mv (.ci 0))] [3,9,10,11]) (.block 0 (.loop (.seq
  (.re [oA 12 (.bin .lss (.t 11) (.t 10))] [3,9,10,11,12]) (.seq (.cond (.t 12) .skip (.exit 0)) (.seq (.block 1 (.seq
  (.re [oA 13 (.mv (.t 11)),oA 14 (.idx 1 (.t 9) (.t 11)),oA 15 (.ld none (.t 14)),oA 4 (.mv (.t 13)),oA 5 (.mv (.t 15))] [3,4,5,9,10,11])
  (.re [oA 16 (.mv (.t 3)),oA 17 (.mv (.t 4)),oA 18 (.mv (.t 5)),oA 19 (.at (.c (.string (ByteArray.mk #[48,49,50,51,52,53,54,55,56,57,97,98]))) (.t 18)),oA 20 (.idx 1 (.t 16) (.t 17)),oN (.st none (.t 20) (.t 19))] [3,9,10,11])))
  (.re [oA 21 (.bin .add (.t 11) (.ci 1)),oA 11 (.mv (.t 21))] [3,9,10,11]))))))) (.seq
  (.re [oA 22 (.mv (.t 3)),oA 23 (.bstr (.t 22)),oA 2 (.mv (.t 23))] [2]) .ret))))

def c_spec_TwistedSolution:F where
 np:=2
 rs:=[.cell 4 (some 2),.t 5]
 body :=
  (.seq
  (.re [oA 2 (.box (.t 0)),oA 4 (.alloc [(.slice none 0 0),(.slice none 0 0)]),oA 5 (.mv (.ci 0))] [1,2,4]) (.seq (.block 0 (.seq
  (.re [oA 13 (.ld (some 1) (.t 2)),oA 14 (.call (.f 28) [aR 13]),oA 15 (.un .not (.t 14)),oA 12 (.mv (.t 15))] [1,2,4,12]) (.cond (.t 12) (.seq
  (.re [oA 16 (.build [(.slice none 0 0),(.slice none 0 0)] []),oN (.st (some 2) (.t 4) (.t 16)),oA 5 (.mv (.ci 1))] [4,5]) .ret) (.seq
  (.re [oA 18 (.mv (.t 1)),oA 19 (.call (.f 47) [aR 18]),oA 20 (.un .not (.t 19)),oA 21 (.mv (.t 20)),oI 22 21 false (.mv (.t 1)),oI 23 21 false (.len (.t 22)),oI 24 21 false (.fld 0 (.t 2)),oI 25 21 false (.ld none (.t 24)),oI 26 21 false (.len (.t 25)),oI 27 21 false (.bin .neq (.t 23) (.t 26)),oA 28 (.pick (.t 21) (.c (.bool true)) (.t 27)),oA 17 (.mv (.t 28))] [1,2,4,17]) (.cond (.t 17) (.seq
  (.re [oA 29 (.build [(.slice none 0 0),(.slice none 0 0)] []),oN (.st (some 2) (.t 4) (.t 29)),oA 5 (.mv (.ci 2))] [4,5]) .ret) (.seq
  (.region (some [31,32,33,34,35,36]) [oA 31 (.fld 0 (.t 2)),oA 32 (.ld none (.t 31)),oA 33 (.mv (.t 1)),oA 34 (.call (.f 303) [aR 32,aR 33]),oA 35 (.fld 0 (.t 2)),oA 36 (.ld none (.t 35)),oA 37 (.call (.f 302) [aR 34,aR 36]),oA 38 (.un .not (.t 37)),oA 30 (.mv (.t 38))] [1,2,4,30]) (.cond (.t 30) (.seq
  (.re [oA 39 (.build [(.slice none 0 0),(.slice none 0 0)] []),oN (.st (some 2) (.t 4) (.t 39)),oA 5 (.mv (.ci 5))] [4,5]) .ret) .skip))))))) (.seq
  (.re [oA 40 (.mv (.t 1)),oA 41 (.call (.f 304) [aR 40]),oA 42 (.build [(.slice none 0 0),(.slice none 0 0)] []),oA 7 (.alloc [(.slice none 0 0),(.slice none 0 0)]),oA 6 (.asg (.t 41)),oN (.st (some 2) (.t 7) (.t 42))] [1,2,4,6,7]) (.seq (.seq
  (.re [oA 8 (.mv (.ci 0))] [1,2,4,6,7,8]) (.block 1 (.loop (.seq (.seq
  (.re [oA 43 (.mv (.t 8)),oA 44 (.mv (.t 1)),oA 45 (.len (.t 44)),oA 46 (.bin .lss (.t 43) (.t 45))] [1,2,4,6,7,8,46]) (.cond (.t 46) .skip (.exit 1))) (.seq (.block 2 (.seq
  (.re [oA 49 (.bsl []),oA 50 (.bsl []),oA 9 (.asg (.t 49)),oA 10 (.asg (.t 50))] [1,2,4,6,7,8,9,10]) (.seq (.seq
  (.re [oA 11 (.mv (.ci 0))] [1,2,4,6,7,8,9,10,11]) (.block 3 (.loop (.seq (.seq
  (.re [oA 51 (.mv (.t 11)),oA 52 (.mv (.t 1)),oA 53 (.len (.t 52)),oA 54 (.bin .lss (.t 51) (.t 53))] [1,2,4,6,7,8,9,10,11,54]) (.cond (.t 54) .skip (.exit 3))) (.seq (.block 4 (.seq
  (.re [oA 57 (.mv (.t 9)),oA 58 (.mv (.t 1)),oA 59 (.mv (.t 11)),oA 60 (.idx 1 (.t 58) (.t 59)),oA 61 (.ld none (.t 60)),oA 62 (.bsl [(.t 61)]),oA 63 (.app true 1 (.t 57) (.t 62)),oA 9 (.asg (.t 63))] [1,2,4,6,7,8,9,10,11])
  (.region (some [64,65,66,67,68,69,70,71,72,73,74,75,76,77,78,79]) [oA 64 (.mv (.t 10)),oA 65 (.mv (.t 6)),oA 66 (.fld 0 (.t 2)),oA 67 (.ld none (.t 66)),oA 68 (.mv (.t 1)),oA 69 (.mv (.t 11)),oA 70 (.idx 1 (.t 68) (.t 69)),oA 71 (.ld none (.t 70)),oA 72 (.idx 1 (.t 67) (.t 71)),oA 73 (.ld none (.t 72)),oA 74 (.mv (.t 8)),oA 75 (.idx 1 (.t 73) (.t 74)),oA 76 (.ld none (.t 75)),oA 77 (.idx 1 (.t 65) (.t 76)),oA 78 (.ld none (.t 77)),oA 79 (.bslv 1 [(.t 78)]),oA 80 (.app true 1 (.t 64) (.t 79)),oA 10 (.asg (.t 80))] [1,2,4,6,7,8,9,10,11])))
  (.re [oA 55 (.mv (.t 11)),oA 56 (.bin .add (.t 55) (.ci 1)),oA 11 (.mv (.t 56))] [1,2,4,6,7,8,9,10,11])))))) (.seq
  (.re [oA 81 (.fld 0 (.t 7)),oA 82 (.ld none (.t 81)),oA 83 (.mv (.t 9)),oA 84 (.bsl [(.t 83)]),oA 85 (.app true 1 (.t 82) (.t 84)),oA 86 (.fld 0 (.t 7)),oN (.st none (.t 86) (.t 85))] [1,2,4,6,7,8,10])
  (.re [oA 87 (.fld 1 (.t 7)),oA 88 (.ld none (.t 87)),oA 89 (.mv (.t 10)),oA 90 (.bsl [(.t 89)]),oA 91 (.app true 1 (.t 88) (.t 90)),oA 92 (.fld 1 (.t 7)),oN (.st none (.t 92) (.t 91))] [1,2,4,6,7,8])))))
  (.re [oA 47 (.mv (.t 8)),oA 48 (.bin .add (.t 47) (.ci 1)),oA 8 (.mv (.t 48))] [1,2,4,6,7,8])))))) (.seq
  (.re [oA 93 (.ld (some 2) (.t 7)),oN (.st (some 2) (.t 4) (.t 93)),oA 5 (.mv (.ci 0))] [4,5]) .ret)))))

def c_spec_l03Image:F where
 np:=2
 rs:=[.t 4]
 body :=
  (.seq
  (.re [oA 4 (.asg (.c (.slice none 0 0)))] [0,1]) (.seq
  (.re [oA 8 (.mv (.t 0)),oA 9 (.call (.f 280) [aR 8]),oA 5 (.asg (.t 9))] [0,1,5]) (.seq (.seq
  (.re [oA 6 (.mv (.ci 0))] [0,1,5,6]) (.block 0 (.loop (.seq (.seq
  (.re [oA 10 (.mv (.t 6)),oA 11 (.mv (.t 0)),oA 12 (.len (.t 11)),oA 13 (.bin .lss (.t 10) (.t 12))] [0,1,5,6,13]) (.cond (.t 13) .skip (.exit 0))) (.seq (.block 1 (.seq
  (.re [oA 7 (.mv (.ci 0))] [0,1,5,6,7]) (.block 2 (.loop (.seq (.seq
  (.re [oA 16 (.mv (.t 7)),oA 17 (.mv (.t 0)),oA 18 (.len (.t 17)),oA 19 (.bin .lss (.t 16) (.t 18))] [0,1,5,6,7,19]) (.cond (.t 19) .skip (.exit 2))) (.seq (.block 3
  (.region (some [22,23,24,25,26,27,28,29,30,31,32,33,34,35,36,37,38,39,40,41,42]) [oA 22 (.mv (.t 5)),oA 23 (.mv (.t 1)),oA 24 (.mv (.t 6)),oA 25 (.idx 1 (.t 23) (.t 24)),oA 26 (.ld none (.t 25)),oA 27 (.idx 1 (.t 22) (.t 26)),oA 28 (.ld none (.t 27)),oA 29 (.mv (.t 1)),oA 30 (.mv (.t 7)),oA 31 (.idx 1 (.t 29) (.t 30)),oA 32 (.ld none (.t 31)),oA 33 (.mv (.t 1)),oA 34 (.mv (.t 0)),oA 35 (.mv (.t 6)),oA 36 (.idx 1 (.t 34) (.t 35)),oA 37 (.ld none (.t 36)),oA 38 (.mv (.t 7)),oA 39 (.idx 1 (.t 37) (.t 38)),oA 40 (.ld none (.t 39)),oA 41 (.idx 1 (.t 33) (.t 40)),oA 42 (.ld none (.t 41)),oA 43 (.idx 1 (.t 28) (.t 32)),oN (.st none (.t 43) (.t 42))] [0,1,5,6,7]))
  (.re [oA 20 (.mv (.t 7)),oA 21 (.bin .add (.t 20) (.ci 1)),oA 7 (.mv (.t 21))] [0,1,5,6,7])))))))
  (.re [oA 14 (.mv (.t 6)),oA 15 (.bin .add (.t 14) (.ci 1)),oA 6 (.mv (.t 15))] [0,1,5,6])))))) (.seq
  (.re [oA 44 (.mv (.t 5)),oA 4 (.asg (.t 44))] [4]) .ret))))

def c_spec_l01Same2:F where
 np:=2
 rs:=[.t 4]
 body :=
  (.seq
  (.re [oA 4 (.mv (.c (.bool false)))] [0,1]) (.seq (.seq
  (.re [oA 6 (.mv (.t 0)),oA 7 (.len (.t 6)),oA 8 (.mv (.t 1)),oA 9 (.len (.t 8)),oA 10 (.bin .neq (.t 7) (.t 9))] [0,1,10]) (.cond (.t 10) (.seq
  (.re [oA 4 (.mv (.c (.bool false)))] [4]) .ret) .skip)) (.seq (.seq
  (.re [oA 5 (.mv (.ci 0))] [0,1,5]) (.block 0 (.loop (.seq (.seq
  (.re [oA 11 (.mv (.t 5)),oA 12 (.mv (.t 0)),oA 13 (.len (.t 12)),oA 14 (.bin .lss (.t 11) (.t 13))] [0,1,5,14]) (.cond (.t 14) .skip (.exit 0))) (.seq (.block 1 (.seq
  (.region (some [17,18,19,20,21,22,23,24]) [oA 17 (.mv (.t 0)),oA 18 (.mv (.t 5)),oA 19 (.idx 1 (.t 17) (.t 18)),oA 20 (.ld none (.t 19)),oA 21 (.mv (.t 1)),oA 22 (.mv (.t 5)),oA 23 (.idx 1 (.t 21) (.t 22)),oA 24 (.ld none (.t 23)),oA 25 (.call (.f 67) [aR 20,aR 24]),oA 26 (.un .not (.t 25))] [0,1,5,26]) (.cond (.t 26) (.seq
  (.re [oA 4 (.mv (.c (.bool false)))] [4]) .ret) .skip)))
  (.re [oA 15 (.mv (.t 5)),oA 16 (.bin .add (.t 15) (.ci 1)),oA 5 (.mv (.t 16))] [0,1,5])))))) (.seq
  (.re [oA 4 (.mv (.c (.bool true)))] [4]) .ret))))

def c_spec_l01Back:F where
 np:=1
 rs:=[.t 2]
 body :=
  (.seq
  (.re [oA 2 (.asg (.c (.slice none 0 0)))] [0]) (.seq
  (.re [oA 5 (.mv (.t 0)),oA 6 (.len (.t 5)),oA 7 (.mks (.int .i64 0) (.t 6)),oA 3 (.asg (.t 7))] [0,3]) (.seq (.seq
  (.re [oA 4 (.mv (.ci 0))] [0,3,4]) (.block 0 (.loop (.seq (.seq
  (.re [oA 8 (.mv (.t 4)),oA 9 (.mv (.t 0)),oA 10 (.len (.t 9)),oA 11 (.bin .lss (.t 8) (.t 10))] [0,3,4,11]) (.cond (.t 11) .skip (.exit 0))) (.seq (.block 1
  (.re [oA 14 (.mv (.t 3)),oA 15 (.mv (.t 0)),oA 16 (.mv (.t 4)),oA 17 (.idx 1 (.t 15) (.t 16)),oA 18 (.ld none (.t 17)),oA 19 (.mv (.t 4)),oA 20 (.idx 1 (.t 14) (.t 18)),oN (.st none (.t 20) (.t 19))] [0,3,4]))
  (.re [oA 12 (.mv (.t 4)),oA 13 (.bin .add (.t 12) (.ci 1)),oA 4 (.mv (.t 13))] [0,3,4])))))) (.seq
  (.re [oA 21 (.mv (.t 3)),oA 2 (.asg (.t 21))] [2]) .ret))))

def c_impl_TwistedSolution:F where
 np:=2
 rs:=[.cell 4 (some 2),.t 5]
 body :=
  (.seq
  (.re [oA 2 (.box (.t 0)),oA 3 (.box (.t 1)),oA 4 (.alloc [(.slice none 0 0),(.slice none 0 0)]),oA 5 (.mv (.ci 0))] [2,3,4]) (.seq (.seq
  (.re [oA 7 (.ld (some 1) (.t 2)),oA 8 (.call (.f 33) [aR 7]),oA 9 (.un .not (.t 8))] [2,3,4,9]) (.cond (.t 9) (.seq
  (.re [oA 10 (.build [(.slice none 0 0),(.slice none 0 0)] []),oN (.st (some 2) (.t 4) (.t 10)),oA 5 (.mv (.ci 1))] [4,5]) .ret) .skip)) (.seq (.seq
  (.re [oA 11 (.ld none (.t 3)),oA 12 (.len (.t 11)),oA 13 (.fld 0 (.t 2)),oA 14 (.ld none (.t 13)),oA 15 (.len (.t 14)),oA 16 (.bin .neq (.t 12) (.t 15)),oA 17 (.mv (.t 16)),oI 18 17 false (.ld none (.t 3)),oI 19 17 false (.call (.f 66) [aR 18]),oI 20 17 false (.un .not (.t 19)),oA 21 (.pick (.t 17) (.c (.bool true)) (.t 20))] [2,3,4,21]) (.cond (.t 21) (.seq
  (.re [oA 22 (.build [(.slice none 0 0),(.slice none 0 0)] []),oN (.st (some 2) (.t 4) (.t 22)),oA 5 (.mv (.ci 2))] [4,5]) .ret) .skip)) (.seq (.seq
  (.region (some [23,24,25,26,27,28]) [oA 23 (.fld 0 (.t 2)),oA 24 (.ld none (.t 23)),oA 25 (.ld none (.t 3)),oA 26 (.call (.f 306) [aR 24,aR 25]),oA 27 (.fld 0 (.t 2)),oA 28 (.ld none (.t 27)),oA 29 (.call (.f 305) [aR 26,aR 28]),oA 30 (.un .not (.t 29))] [2,3,4,30]) (.cond (.t 30) (.seq
  (.re [oA 31 (.build [(.slice none 0 0),(.slice none 0 0)] []),oN (.st (some 2) (.t 4) (.t 31)),oA 5 (.mv (.ci 5))] [4,5]) .ret) .skip)) (.seq
  (.re [oA 32 (.ld none (.t 3)),oA 33 (.call (.f 307) [aR 32]),oA 6 (.alloc [(.slice none 0 0)]),oN (.st none (.t 6) (.t 33))] [2,3,4,6]) (.seq
  (.re [oA 34 (.ld none (.t 3)),oA 35 (.len (.t 34)),oA 36 (.fnc 309 [(.t 3),(.t 6),(.t 2)]),oA 37 (.call (.f 308) [aR 35,aR 36]),oN (.st (some 2) (.t 4) (.t 37)),oA 5 (.mv (.ci 0))] [4,5]) .ret))))))

def c_impl_renamed:F where
 np:=2
 rs:=[.t 4]
 body :=
  (.seq
  (.re [oA 2 (.box (.t 0)),oA 3 (.box (.t 1)),oA 4 (.asg (.c (.slice none 0 0)))] [2,3]) (.seq
  (.re [oA 6 (.ld none (.t 3)),oA 7 (.call (.f 307) [aR 6]),oA 5 (.alloc [(.slice none 0 0)]),oN (.st none (.t 5) (.t 7))] [2,3,5]) (.seq
  (.re [oA 8 (.ld none (.t 2)),oA 9 (.len (.t 8)),oA 10 (.fnc 390 [(.t 3),(.t 2),(.t 5)]),oA 11 (.call (.f 376) [aR 9,aR 10]),oA 4 (.asg (.t 11))] [4]) .ret)))

def c_impl_inverse:F where
 np:=1
 rs:=[.t 2]
 body :=
  (.seq
  (.re [oA 2 (.asg (.c (.slice none 0 0)))] [0]) (.seq
  (.re [oA 6 (.mv (.t 0)),oA 7 (.len (.t 6)),oA 8 (.mks (.int .i64 0) (.t 7)),oA 3 (.asg (.t 8))] [0,3]) (.seq (.seq
  (.re [oA 9 (.mv (.t 0)),oA 10 (.len (.t 9)),oA 11 (.mv (.ci 0))] [3,9,10,11]) (.block 0 (.loop (.seq
  (.re [oA 12 (.bin .lss (.t 11) (.t 10))] [3,9,10,11,12]) (.seq (.cond (.t 12) .skip (.exit 0)) (.seq (.block 1 (.seq
  (.re [oA 13 (.mv (.t 11)),oA 14 (.idx 1 (.t 9) (.t 11)),oA 15 (.ld none (.t 14)),oA 4 (.mv (.t 13)),oA 5 (.mv (.t 15))] [3,4,5,9,10,11])
  (.re [oA 16 (.mv (.t 3)),oA 17 (.mv (.t 5)),oA 18 (.mv (.t 4)),oA 19 (.idx 1 (.t 16) (.t 17)),oN (.st none (.t 19) (.t 18))] [3,9,10,11])))
  (.re [oA 20 (.bin .add (.t 11) (.ci 1)),oA 11 (.mv (.t 20))] [3,9,10,11]))))))) (.seq
  (.re [oA 21 (.mv (.t 3)),oA 2 (.asg (.t 21))] [2]) .ret))))

def c_impl_renamed_1:F where
 np:=5
 rs:=[.t 7]
 body :=
  (.seq
  (.re [oA 7 (.mv (.ci 0))] [0,1,2,3,4]) (.seq
  (.region (some [8,9,10,11,12,13,14,15,16,17,18,19,20,21]) [oA 8 (.ld none (.t 2)),oA 9 (.ld none (.t 3)),oA 10 (.ld none (.t 4)),oA 11 (.mv (.t 0)),oA 12 (.idx 1 (.t 10) (.t 11)),oA 13 (.ld none (.t 12)),oA 14 (.idx 1 (.t 9) (.t 13)),oA 15 (.ld none (.t 14)),oA 16 (.ld none (.t 4)),oA 17 (.mv (.t 1)),oA 18 (.idx 1 (.t 16) (.t 17)),oA 19 (.ld none (.t 18)),oA 20 (.idx 1 (.t 15) (.t 19)),oA 21 (.ld none (.t 20)),oA 22 (.idx 1 (.t 8) (.t 21)),oA 23 (.ld none (.t 22)),oA 7 (.mv (.t 23))] [7]) .ret))

def c_impl_equalTables:F where
 np:=2
 rs:=[.t 4]
 body :=
  (.seq
  (.re [oA 4 (.mv (.c (.bool false)))] [0,1]) (.seq
  (.re [oA 5 (.mv (.t 0)),oA 6 (.mv (.t 1)),oA 7 (.call (.f 389) [aR 5,aR 6]),oA 8 (.bin .eql (.t 7) (.ci 0)),oA 4 (.mv (.t 8))] [4]) .ret))

def c_impl_compareTables:F where
 np:=2
 rs:=[.t 4]
 body :=
  (.seq
  (.re [oA 4 (.mv (.ci 0))] [0,1]) (.seq
  (.re [oA 5 (.mv (.t 0)),oA 6 (.mv (.t 1)),oA 7 (.call (.f 431) [aR 5,aR 6,((.f 432),.r)]),oA 4 (.mv (.t 7))] [4]) .ret))

def j0l:F where
 np:=3
 rs:=[.t 6]
 body :=
  (.seq
  (.re [oA 6 (.mv (.ci 0))] [0,1,2]) (.seq (.seq
  (.re [oA 11 (.mv (.t 0)),oA 12 (.len (.t 11)),oA 13 (.mv (.ci 0))] [0,1,2,11,12,13]) (.block 0 (.loop (.seq
  (.re [oA 14 (.bin .lss (.t 13) (.t 12))] [0,1,2,11,12,13,14]) (.seq (.cond (.t 14) .skip (.exit 0)) (.seq (.block 1 (.seq
  (.re [oA 15 (.mv (.t 13)),oA 16 (.idx 1 (.t 11) (.t 13)),oA 17 (.ld none (.t 16)),oA 7 (.mv (.t 15)),oA 8 (.asg (.t 17))] [0,1,2,7,8,11,12,13]) (.seq (.seq
  (.re [oA 18 (.mv (.t 7)),oA 19 (.mv (.t 1)),oA 20 (.len (.t 19)),oA 21 (.bin .geq (.t 18) (.t 20))] [0,1,2,7,8,11,12,13,21]) (.cond (.t 21) (.seq
  (.re [oA 6 (.mv (.ci 1))] [6]) .ret) .skip)) (.seq
  (.re [oA 22 (.mv (.t 1)),oA 23 (.mv (.t 7)),oA 24 (.idx 1 (.t 22) (.t 23)),oA 25 (.ld none (.t 24)),oA 9 (.asg (.t 25))] [0,1,2,8,9,11,12,13]) (.seq
  (.re [oA 26 (.mv (.t 2)),oA 27 (.mv (.t 8)),oA 28 (.mv (.t 9)),oA 29 (.call (.t 26) [aR 27,aR 28]),oA 10 (.mv (.t 29))] [0,1,2,10,11,12,13]) (.seq
  (.re [oA 30 (.mv (.t 10)),oA 31 (.bin .neq (.t 30) (.ci 0))] [0,1,2,10,11,12,13,31]) (.cond (.t 31) (.seq
  (.re [oA 32 (.mv (.t 10)),oA 6 (.mv (.t 32))] [6]) .ret) .skip)))))))
  (.re [oA 33 (.bin .add (.t 13) (.ci 1)),oA 13 (.mv (.t 33))] [0,1,2,11,12,13]))))))) (.seq (.seq
  (.re [oA 34 (.mv (.t 0)),oA 35 (.len (.t 34)),oA 36 (.mv (.t 1)),oA 37 (.len (.t 36)),oA 38 (.bin .lss (.t 35) (.t 37))] [38]) (.cond (.t 38) (.seq
  (.re [oA 6 (.mv (.c (.int .i64 (-1))))] [6]) .ret) .skip)) (.seq
  (.re [oA 6 (.mv (.ci 0))] [6]) .ret))))

def c_impl_compareTables_1:F where
 np:=2
 rs:=[.t 4]
 body :=
  (.seq
  (.re [oA 4 (.mv (.ci 0))] [0,1]) (.seq
  (.re [oA 5 (.mv (.t 0)),oA 6 (.mv (.t 1)),oA 7 (.call (.f 314) [aR 5,aR 6]),oA 4 (.mv (.t 7))] [4]) .ret))

def j1h:F where
 np:=2
 rs:=[.t 4]
 body :=
  (.seq
  (.re [oA 4 (.mv (.ci 0))] [0,1]) (.seq (.seq
  (.re [oA 9 (.mv (.t 0)),oA 10 (.len (.t 9)),oA 11 (.mv (.ci 0))] [0,1,9,10,11]) (.block 0 (.loop (.seq
  (.re [oA 12 (.bin .lss (.t 11) (.t 10))] [0,1,9,10,11,12]) (.seq (.cond (.t 12) .skip (.exit 0)) (.seq (.block 1 (.seq
  (.re [oA 13 (.mv (.t 11)),oA 14 (.idx 1 (.t 9) (.t 11)),oA 15 (.ld none (.t 14)),oA 5 (.mv (.t 13)),oA 6 (.mv (.t 15))] [0,1,5,6,9,10,11]) (.seq (.seq
  (.re [oA 16 (.mv (.t 5)),oA 17 (.mv (.t 1)),oA 18 (.len (.t 17)),oA 19 (.bin .geq (.t 16) (.t 18))] [0,1,5,6,9,10,11,19]) (.cond (.t 19) (.seq
  (.re [oA 4 (.mv (.ci 1))] [4]) .ret) .skip)) (.seq
  (.re [oA 20 (.mv (.t 1)),oA 21 (.mv (.t 5)),oA 22 (.idx 1 (.t 20) (.t 21)),oA 23 (.ld none (.t 22)),oA 7 (.mv (.t 23))] [0,1,6,7,9,10,11]) (.seq
  (.re [oA 24 (.mv (.t 6)),oA 25 (.mv (.t 7)),oA 26 (.call (.f 395) [aR 24,aR 25]),oA 8 (.mv (.t 26))] [0,1,8,9,10,11]) (.seq
  (.re [oA 27 (.mv (.t 8)),oA 28 (.bin .neq (.t 27) (.ci 0))] [0,1,8,9,10,11,28]) (.cond (.t 28) (.seq
  (.re [oA 29 (.mv (.t 8)),oA 4 (.mv (.t 29))] [4]) .ret) .skip)))))))
  (.re [oA 30 (.bin .add (.t 11) (.ci 1)),oA 11 (.mv (.t 30))] [0,1,9,10,11]))))))) (.seq (.seq
  (.re [oA 31 (.mv (.t 0)),oA 32 (.len (.t 31)),oA 33 (.mv (.t 1)),oA 34 (.len (.t 33)),oA 35 (.bin .lss (.t 32) (.t 34))] [35]) (.cond (.t 35) (.seq
  (.re [oA 4 (.mv (.c (.int .i64 (-1))))] [4]) .ret) .skip)) (.seq
  (.re [oA 4 (.mv (.ci 0))] [4]) .ret))))

def c_cmp_Compare_int64_:F where
 np:=2
 rs:=[.t 4]
 body :=
  (.seq
  (.re [oA 4 (.mv (.ci 0))] [0,1]) (.seq
  (.re [oA 7 (.mv (.t 0)),oA 8 (.call (.f 443) [aR 7]),oA 5 (.mv (.t 8))] [0,1,5]) (.seq
  (.re [oA 9 (.mv (.t 1)),oA 10 (.call (.f 443) [aR 9]),oA 6 (.mv (.t 10))] [0,1,5,6]) (.seq (.seq
  (.re [oA 11 (.mv (.t 5))] [0,1,6,11]) (.cond (.t 11) (.seq (.seq
  (.re [oA 12 (.mv (.t 6))] [12]) (.cond (.t 12) (.seq
  (.re [oA 4 (.mv (.ci 0))] [4]) .ret) .skip)) (.seq
  (.re [oA 4 (.mv (.c (.int .i64 (-1))))] [4]) .ret)) .skip)) (.seq (.seq
  (.re [oA 13 (.mv (.t 6))] [0,1,13]) (.cond (.t 13) (.seq
  (.re [oA 4 (.mv (.ci 1))] [4]) .ret) .skip)) (.seq (.seq
  (.re [oA 14 (.mv (.t 0)),oA 15 (.mv (.t 1)),oA 16 (.bin .lss (.t 14) (.t 15))] [0,1,16]) (.cond (.t 16) (.seq
  (.re [oA 4 (.mv (.c (.int .i64 (-1))))] [4]) .ret) .skip)) (.seq (.seq
  (.re [oA 17 (.mv (.t 0)),oA 18 (.mv (.t 1)),oA 19 (.bin .gtr (.t 17) (.t 18))] [19]) (.cond (.t 19) (.seq
  (.re [oA 4 (.mv (.ci 1))] [4]) .ret) .skip)) (.seq
  (.re [oA 4 (.mv (.ci 0))] [4]) .ret))))))))

def c_cmp_isNaN_int64_:F where
 np:=1
 rs:=[.t 2]
 body :=
  (.seq
  (.re [oA 2 (.mv (.c (.bool false)))] [0]) (.seq
  (.re [oA 3 (.mv (.t 0)),oA 4 (.mv (.t 0)),oA 5 (.bin .neq (.t 3) (.t 4)),oA 2 (.mv (.t 5))] [2]) .ret))

def c_impl_TwistedSolution_1:F where
 np:=5
 rs:=[.t 7,.t 8]
 body :=
  (.seq
  (.re [oA 7 (.mv (.ci 0)),oA 8 (.mv (.ci 0))] [0,1,2,3,4]) (.seq
  (.region (some [7,9,10,11,12,13,14,15,16,17,18,19,20,21,22,23,24,25,26]) [oA 9 (.ld none (.t 2)),oA 10 (.mv (.t 1)),oA 11 (.idx 1 (.t 9) (.t 10)),oA 12 (.ld none (.t 11)),oA 13 (.ld none (.t 3)),oA 14 (.fld 0 (.t 4)),oA 15 (.ld none (.t 14)),oA 16 (.ld none (.t 2)),oA 17 (.mv (.t 1)),oA 18 (.idx 1 (.t 16) (.t 17)),oA 19 (.ld none (.t 18)),oA 20 (.idx 1 (.t 15) (.t 19)),oA 21 (.ld none (.t 20)),oA 22 (.mv (.t 0)),oA 23 (.idx 1 (.t 21) (.t 22)),oA 24 (.ld none (.t 23)),oA 25 (.idx 1 (.t 13) (.t 24)),oA 26 (.ld none (.t 25)),oA 7 (.mv (.t 12)),oA 8 (.mv (.t 26))] [7,8]) .ret))

def c_impl_solutionBy:F where
 np:=2
 rs:=[.cell 4 (some 2)]
 body :=
  (.seq
  (.re [oA 3 (.box (.t 1)),oA 4 (.alloc [(.slice none 0 0),(.slice none 0 0)])] [0,3,4]) (.seq
  (.re [oA 5 (.mv (.t 0)),oA 6 (.fnc 391 [(.t 3)]),oA 7 (.call (.f 376) [aR 5,aR 6]),oA 8 (.mv (.t 0)),oA 9 (.fnc 392 [(.t 3)]),oA 10 (.call (.f 376) [aR 8,aR 9]),oA 11 (.build [(.slice none 0 0),(.slice none 0 0)] [(0,1,(.t 7)),(1,1,(.t 10))]),oN (.st (some 2) (.t 4) (.t 11))] [4]) .ret))

def c_impl_solutionBy_1:F where
 np:=3
 rs:=[.t 5]
 body :=
  (.seq
  (.re [oA 5 (.mv (.ci 0))] [0,1,2]) (.seq
  (.re [oA 9 (.ld none (.t 2)),oA 10 (.mv (.t 0)),oA 11 (.mv (.t 1)),oA 12 (.call (.t 9) [aR 10,aR 11]),oA 8 (.mv (.t 12)),oA 13 (.ext (.t 8) 0),oA 14 (.ext (.t 8) 1),oA 6 (.mv (.t 13)),oA 7 (.mv (.t 14))] [6]) (.seq
  (.re [oA 15 (.mv (.t 6)),oA 5 (.mv (.t 15))] [5]) .ret)))

def c_impl_solutionBy_2:F where
 np:=3
 rs:=[.t 5]
 body :=
  (.seq
  (.re [oA 5 (.mv (.ci 0))] [0,1,2]) (.seq
  (.re [oA 9 (.ld none (.t 2)),oA 10 (.mv (.t 0)),oA 11 (.mv (.t 1)),oA 12 (.call (.t 9) [aR 10,aR 11]),oA 8 (.mv (.t 12)),oA 13 (.ext (.t 8) 0),oA 14 (.ext (.t 8) 1),oA 6 (.mv (.t 13)),oA 7 (.mv (.t 14))] [7]) (.seq
  (.re [oA 15 (.mv (.t 7)),oA 5 (.mv (.t 15))] [5]) .ret)))

def c_spec_l02Empty:F where
 np:=1
 rs:=[.cell 2 (some 2)]
 body :=
  (.seq
  (.re [oA 2 (.alloc [(.slice none 0 0),(.slice none 0 0)])] [0,2]) (.seq
  (.re [oA 5 (.build [(.slice none 0 0),(.slice none 0 0)] []),oA 3 (.alloc [(.slice none 0 0),(.slice none 0 0)]),oN (.st (some 2) (.t 3) (.t 5))] [0,2,3]) (.seq (.seq
  (.re [oA 4 (.mv (.ci 0))] [0,2,3,4]) (.block 0 (.loop (.seq (.seq
  (.re [oA 6 (.mv (.t 4)),oA 7 (.mv (.t 0)),oA 8 (.bin .lss (.t 6) (.t 7))] [0,2,3,4,8]) (.cond (.t 8) .skip (.exit 0))) (.seq (.block 1 (.seq
  (.region (some [11,12,13,14,15]) [oA 11 (.fld 0 (.t 3)),oA 12 (.ld none (.t 11)),oA 13 (.mv (.t 0)),oA 14 (.mks (.int .i64 0) (.t 13)),oA 15 (.bsl1 14),oA 16 (.app true 1 (.t 12) (.t 15)),oA 17 (.fld 0 (.t 3)),oN (.st none (.t 17) (.t 16))] [0,2,3,4])
  (.region (some [18,19,20,21,22]) [oA 18 (.fld 1 (.t 3)),oA 19 (.ld none (.t 18)),oA 20 (.mv (.t 0)),oA 21 (.mks (.int .i64 0) (.t 20)),oA 22 (.bsl1 21),oA 23 (.app true 1 (.t 19) (.t 22)),oA 24 (.fld 1 (.t 3)),oN (.st none (.t 24) (.t 23))] [0,2,3,4])))
  (.re [oA 9 (.mv (.t 4)),oA 10 (.bin .add (.t 9) (.ci 1)),oA 4 (.mv (.t 10))] [0,2,3,4])))))) (.seq
  (.re [oA 25 (.ld (some 2) (.t 3)),oN (.st (some 2) (.t 2) (.t 25))] [2]) .ret))))

end Go.Mch
