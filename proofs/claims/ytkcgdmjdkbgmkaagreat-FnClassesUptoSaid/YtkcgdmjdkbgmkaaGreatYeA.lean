/- Compact code of the functions that the first laws reach. -/
import Derived.Test.YtkcgdmjdkbgmkaaGreatM1
namespace Go.Mch

def c_spec_l01In:F where
 np:=3
 rs:=[.t 6]
 body :=
  (.seq
  (.re [oA 6 (.mv (.c (.bool false)))] [0,1,2]) (.seq
  (.re [oA 7 (.mv (.t 0)),oA 8 (.mv (.t 1)),oA 9 (.bin .geq (.t 7) (.t 8)),oA 10 (.mv (.t 9)),oI 11 10 true (.mv (.t 0)),oI 12 10 true (.mv (.t 2)),oI 13 10 true (.bin .leq (.t 11) (.t 12)),oA 14 (.pick (.t 10) (.t 13) (.c (.bool false))),oA 6 (.mv (.t 14))] [6]) .ret))

def c_spec_l01Own:F where
 np:=1
 rs:=[.t 2]
 body :=
  (.seq
  (.re [oA 2 (.asg (.c (.slice none 0 0)))] [0]) (.seq
  (.re [oA 3 (.bsl []),oA 4 (.mv (.t 0)),oA 5 (.app false 1 (.t 3) (.t 4)),oA 2 (.asg (.t 5))] [2]) .ret))

def c_impl_within:F where
 np:=3
 rs:=[.t 6]
 body :=
  (.seq
  (.re [oA 6 (.mv (.c (.bool false)))] [0,1,2]) (.seq
  (.re [oA 7 (.mv (.t 0)),oA 8 (.mv (.t 1)),oA 9 (.bin .geq (.t 7) (.t 8)),oA 10 (.mv (.t 9)),oI 11 10 true (.mv (.t 0)),oI 12 10 true (.mv (.t 2)),oI 13 10 true (.bin .leq (.t 11) (.t 12)),oA 14 (.pick (.t 10) (.t 13) (.c (.bool false))),oA 6 (.mv (.t 14))] [6]) .ret))

def c_slices_Clone___int64_int64_:F where
 np:=1
 rs:=[.t 2]
 body :=
  (.seq
  (.re [oA 2 (.asg (.c (.slice none 0 0)))] [0]) (.seq (.seq
  (.re [oA 3 (.mv (.t 0)),oA 4 (.isnil false (.t 3))] [0,4]) (.cond (.t 4) (.seq
  (.re [oA 2 (.asg (.c (.slice none 0 0)))] [2]) .ret) .skip)) (.seq
  (.re [oA 5 (.bsl []),oA 6 (.mv (.t 0)),oA 7 (.app false 1 (.t 5) (.t 6)),oA 2 (.asg (.t 7))] [2]) .ret)))

def c_spec_l09Code:F where
 np:=3
 rs:=[.t 6]
 body :=
  (.seq
  (.re [oA 3 (.box (.t 0)),oA 6 (.mv (.ci 0))] [1,2,3]) (.seq (.seq
  (.re [oA 8 (.ld (some 2) (.t 3)),oA 9 (.call (.f 41) [aR 8]),oA 10 (.un .not (.t 9))] [1,2,3,10]) (.cond (.t 10) (.seq
  (.re [oA 6 (.mv (.ci 1))] [6]) .ret) .skip)) (.seq
  (.re [oA 11 (.fld 0 (.t 3)),oA 12 (.ld none (.t 11)),oA 13 (.len (.t 12)),oA 7 (.mv (.t 13))] [1,2,7]) (.seq (.seq
  (.re [oA 14 (.mv (.t 7)),oA 15 (.mv (.t 1)),oA 16 (.call (.f 53) [aR 14,aR 15]),oA 17 (.un .not (.t 16)),oA 18 (.mv (.t 17)),oI 19 18 false (.mv (.t 7)),oI 20 18 false (.mv (.t 2)),oI 21 18 false (.call (.f 53) [aR 19,aR 20]),oI 22 18 false (.un .not (.t 21)),oA 23 (.pick (.t 18) (.c (.bool true)) (.t 22))] [23]) (.cond (.t 23) (.seq
  (.re [oA 6 (.mv (.ci 2))] [6]) .ret) .skip)) (.seq
  (.re [oA 6 (.mv (.ci 0))] [6]) .ret)))))

def c_impl_checkWords:F where
 np:=2
 rs:=[.t 4]
 body :=
  (.seq
  (.re [oA 2 (.box (.t 0)),oA 4 (.mv (.ci 0))] [1,2]) (.seq (.seq
  (.re [oA 7 (.ld (some 2) (.t 2)),oA 8 (.call (.f 42) [aR 7]),oA 9 (.un .not (.t 8))] [1,2,9]) (.cond (.t 9) (.seq
  (.re [oA 4 (.mv (.ci 1))] [4]) .ret) .skip)) (.seq (.seq
  (.re [oA 10 (.mv (.t 1)),oA 11 (.len (.t 10)),oA 12 (.mv (.ci 0))] [2,10,11,12]) (.block 0 (.loop (.seq
  (.re [oA 13 (.bin .lss (.t 12) (.t 11))] [2,10,11,12,13]) (.seq (.cond (.t 13) .skip (.exit 0)) (.seq (.block 1 (.seq
  (.re [oA 14 (.idx 1 (.t 10) (.t 12)),oA 15 (.ld none (.t 14)),oA 6 (.asg (.t 15))] [2,6,10,11,12]) (.seq
  (.re [oA 16 (.mv (.t 6)),oA 17 (.len (.t 16)),oA 18 (.bin .gtr (.t 17) (.ci 8)),oA 19 (.mv (.t 18)),oI 20 19 false (.fld 0 (.t 2)),oI 21 19 false (.ld none (.t 20)),oI 22 19 false (.len (.t 21)),oI 23 19 false (.mv (.t 6)),oI 24 19 false (.call (.f 39) [aR 22,aR 23]),oI 25 19 false (.un .not (.t 24)),oA 26 (.pick (.t 19) (.c (.bool true)) (.t 25))] [2,10,11,12,26]) (.cond (.t 26) (.seq
  (.re [oA 4 (.mv (.ci 2))] [4]) .ret) .skip))))
  (.re [oA 27 (.bin .add (.t 12) (.ci 1)),oA 12 (.mv (.t 27))] [2,10,11,12]))))))) (.seq
  (.re [oA 4 (.mv (.ci 0))] [4]) .ret))))

def c_impl_areElements:F where
 np:=2
 rs:=[.t 4]
 body :=
  (.seq
  (.re [oA 4 (.mv (.c (.bool false)))] [0,1]) (.seq
  (.re [oA 5 (.mv (.t 1)),oA 6 (.mv (.t 0)),oA 7 (.bin .sub (.t 6) (.ci 1)),oA 8 (.call (.f 54) [aR 5,((.ci 0),.r),aR 7]),oA 4 (.mv (.t 8))] [4]) .ret))

def c_slices_Backward___int64_int64_:F where
 np:=1
 rs:=[.t 2]
 body :=
  (.seq
  (.re [oA 1 (.box (.t 0)),oA 2 (.asg (.c .nilFunc))] [1]) (.seq
  (.re [oA 3 (.fnc 55 [(.t 1)]),oA 2 (.asg (.t 3))] [2]) .ret))

def c_spec_l02Is:F where
 np:=1
 rs:=[.t 2]
 body :=
  (.seq
  (.re [oA 1 (.box (.t 0)),oA 2 (.mv (.c (.bool false)))] [1]) (.seq
  (.re [oA 3 (.ld (some 2) (.t 1)),oA 4 (.call (.f 56) [aR 3]),oA 5 (.mv (.t 4)),oI 6 5 true (.ld (some 2) (.t 1)),oI 7 5 true (.call (.f 57) [aR 6]),oI 8 5 true (.len (.t 7)),oI 9 5 true (.bin .eql (.t 8) (.ci 0)),oA 10 (.pick (.t 5) (.t 9) (.c (.bool false))),oA 11 (.mv (.t 10)),oI 12 11 true (.ld (some 2) (.t 1)),oI 13 11 true (.call (.f 58) [aR 12]),oI 14 11 true (.len (.t 13)),oI 15 11 true (.bin .eql (.t 14) (.ci 0)),oA 16 (.pick (.t 11) (.t 15) (.c (.bool false))),oA 2 (.mv (.t 16))] [2]) .ret))

def c_impl_IsSolution:F where
 np:=1
 rs:=[.t 2]
 body :=
  (.seq
  (.re [oA 1 (.box (.t 0)),oA 2 (.mv (.c (.bool false)))] [1]) (.seq
  (.re [oA 3 (.ld (some 2) (.t 1)),oA 4 (.call (.f 59) [aR 3]),oA 5 (.mv (.t 4)),oI 6 5 true (.ld (some 2) (.t 1)),oI 7 5 true (.call (.f 60) [aR 6]),oI 8 5 true (.isnil false (.t 7)),oA 9 (.pick (.t 5) (.t 8) (.c (.bool false))),oA 10 (.mv (.t 9)),oI 11 10 true (.ld (some 2) (.t 1)),oI 12 10 true (.call (.f 61) [aR 11]),oI 13 10 true (.isnil false (.t 12)),oA 14 (.pick (.t 10) (.t 13) (.c (.bool false))),oA 2 (.mv (.t 14))] [2]) .ret))

def c_impl_moved:F where
 np:=3
 rs:=[.t 6]
 body :=
  (.seq
  (.re [oA 3 (.box (.t 0)),oA 6 (.asg (.c (.slice none 0 0)))] [1,2,3]) (.seq
  (.re [oA 10 (.mv (.t 1)),oA 11 (.call (.f 36) [aR 10]),oA 7 (.asg (.t 11))] [1,2,3,7]) (.seq
  (.region (some [8,12,13,14,15,16,17,18,19,20]) [oA 12 (.mv (.t 1)),oA 13 (.mv (.t 2)),oA 14 (.idx 1 (.t 12) (.t 13)),oA 15 (.ld none (.t 14)),oA 16 (.mv (.t 1)),oA 17 (.mv (.t 2)),oA 18 (.bin .add (.t 17) (.ci 1)),oA 19 (.idx 1 (.t 16) (.t 18)),oA 20 (.ld none (.t 19)),oA 8 (.mv (.t 15)),oA 9 (.mv (.t 20))] [2,3,7,8,9]) (.seq
  (.region (some [21,22,23,24,25,26,27,28,29,30,31,32,33,34,35,36,37,38,39,40,41,42]) [oA 21 (.mv (.t 7)),oA 22 (.mv (.t 2)),oA 23 (.mvw (.t 7)),oA 24 (.mvw (.t 2)),oA 25 (.bin .add (.t 24) (.ci 1)),oA 26 (.fld 0 (.t 3)),oA 27 (.ld none (.t 26)),oA 28 (.mv (.t 8)),oA 29 (.idx 1 (.t 27) (.t 28)),oA 30 (.ld none (.t 29)),oA 31 (.mv (.t 9)),oA 32 (.idx 1 (.t 30) (.t 31)),oA 33 (.ld none (.t 32)),oA 34 (.fld 1 (.t 3)),oA 35 (.ld none (.t 34)),oA 36 (.mv (.t 8)),oA 37 (.idx 1 (.t 35) (.t 36)),oA 38 (.ld none (.t 37)),oA 39 (.mv (.t 9)),oA 40 (.idx 1 (.t 38) (.t 39)),oA 41 (.ld none (.t 40)),oA 42 (.idx 1 (.t 21) (.t 22)),oN (.sts (.t 42) (.t 33)),oA 43 (.idx 1 (.t 23) (.t 25)),oN (.st none (.t 43) (.t 41))] [7]) (.seq
  (.re [oA 44 (.mv (.t 7)),oA 6 (.asg (.t 44))] [6]) .ret)))))

def c_spec_l01Table:F where
 np:=1
 rs:=[.t 2]
 body :=
  (.seq
  (.re [oA 2 (.mv (.c (.bool false)))] [0]) (.seq
  (.re [oA 6 (.mv (.t 0)),oA 7 (.len (.t 6)),oA 3 (.mv (.t 7))] [0,3]) (.seq (.seq
  (.re [oA 8 (.mv (.t 3)),oA 9 (.call (.f 30) [aR 8,((.ci 1),.r),((.ci 12),.r)]),oA 10 (.un .not (.t 9))] [0,3,10]) (.cond (.t 10) (.seq
  (.re [oA 2 (.mv (.c (.bool false)))] [2]) .ret) .skip)) (.seq (.seq
  (.re [oA 4 (.mv (.ci 0))] [0,3,4]) (.block 0 (.loop (.seq (.seq
  (.re [oA 11 (.mv (.t 4)),oA 12 (.mv (.t 0)),oA 13 (.len (.t 12)),oA 14 (.bin .lss (.t 11) (.t 13))] [0,3,4,14]) (.cond (.t 14) .skip (.exit 0))) (.seq (.block 1 (.seq (.seq
  (.re [oA 17 (.mv (.t 0)),oA 18 (.mv (.t 4)),oA 19 (.idx 1 (.t 17) (.t 18)),oA 20 (.ld none (.t 19)),oA 21 (.len (.t 20)),oA 22 (.mv (.t 3)),oA 23 (.bin .neq (.t 21) (.t 22))] [0,3,4,23]) (.cond (.t 23) (.seq
  (.re [oA 2 (.mv (.c (.bool false)))] [2]) .ret) .skip)) (.seq
  (.re [oA 5 (.mv (.ci 0))] [0,3,4,5]) (.block 2 (.loop (.seq (.seq
  (.re [oA 24 (.mv (.t 5)),oA 25 (.mv (.t 0)),oA 26 (.len (.t 25)),oA 27 (.bin .lss (.t 24) (.t 26))] [0,3,4,5,27]) (.cond (.t 27) .skip (.exit 2))) (.seq (.block 3 (.seq
  (.re [oA 30 (.mv (.t 0)),oA 31 (.mv (.t 4)),oA 32 (.idx 1 (.t 30) (.t 31)),oA 33 (.ld none (.t 32)),oA 34 (.mv (.t 5)),oA 35 (.idx 1 (.t 33) (.t 34)),oA 36 (.ld none (.t 35)),oA 37 (.mv (.t 3)),oA 38 (.bin .sub (.t 37) (.ci 1)),oA 39 (.call (.f 30) [aR 36,((.ci 0),.r),aR 38]),oA 40 (.un .not (.t 39))] [0,3,4,5,40]) (.cond (.t 40) (.seq
  (.re [oA 2 (.mv (.c (.bool false)))] [2]) .ret) .skip)))
  (.re [oA 28 (.mv (.t 5)),oA 29 (.bin .add (.t 28) (.ci 1)),oA 5 (.mv (.t 29))] [0,3,4,5]))))))))
  (.re [oA 15 (.mv (.t 4)),oA 16 (.bin .add (.t 15) (.ci 1)),oA 4 (.mv (.t 16))] [0,3,4])))))) (.seq
  (.re [oA 2 (.mv (.c (.bool true)))] [2]) .ret)))))

def c_spec_l01Perm:F where
 np:=1
 rs:=[.t 2]
 body :=
  (.seq
  (.re [oA 2 (.mv (.c (.bool false)))] [0]) (.seq
  (.re [oA 5 (.mv (.t 0)),oA 6 (.len (.t 5)),oA 3 (.mv (.t 6))] [0,3]) (.seq (.seq
  (.re [oA 7 (.mv (.t 3)),oA 8 (.call (.f 30) [aR 7,((.ci 1),.r),((.ci 12),.r)]),oA 9 (.un .not (.t 8))] [0,3,9]) (.cond (.t 9) (.seq
  (.re [oA 2 (.mv (.c (.bool false)))] [2]) .ret) .skip)) (.seq (.seq
  (.re [oA 4 (.mv (.ci 0))] [0,3,4]) (.block 0 (.loop (.seq (.seq
  (.re [oA 10 (.mv (.t 4)),oA 11 (.mv (.t 3)),oA 12 (.bin .lss (.t 10) (.t 11))] [0,3,4,12]) (.cond (.t 12) .skip (.exit 0))) (.seq (.block 1 (.seq
  (.re [oA 15 (.mv (.t 0)),oA 16 (.mv (.t 4)),oA 17 (.call (.f 62) [aR 15,aR 16]),oA 18 (.un .not (.t 17))] [0,3,4,18]) (.cond (.t 18) (.seq
  (.re [oA 2 (.mv (.c (.bool false)))] [2]) .ret) .skip)))
  (.re [oA 13 (.mv (.t 4)),oA 14 (.bin .add (.t 13) (.ci 1)),oA 4 (.mv (.t 14))] [0,3,4])))))) (.seq
  (.re [oA 2 (.mv (.c (.bool true)))] [2]) .ret)))))

def c_impl_IsTable:F where
 np:=1
 rs:=[.t 2]
 body :=
  (.seq
  (.re [oA 2 (.mv (.c (.bool false)))] [0]) (.seq
  (.re [oA 4 (.mv (.t 0)),oA 5 (.len (.t 4)),oA 3 (.alloc [(.int .i64 0)]),oN (.st none (.t 3) (.t 5))] [0,3]) (.seq
  (.re [oA 6 (.ld none (.t 3)),oA 7 (.call (.f 35) [aR 6,((.ci 1),.r),((.ci 12),.r)]),oA 8 (.mv (.t 7)),oI 9 8 true (.mv (.t 0)),oI 10 8 true (.fnc 64 [(.t 3)]),oI 11 8 true (.call (.f 63) [aR 9,aR 10]),oI 12 8 true (.un .not (.t 11)),oA 13 (.pick (.t 8) (.t 12) (.c (.bool false))),oA 2 (.mv (.t 13))] [2]) .ret)))

def c_spec_l09Word:F where
 np:=2
 rs:=[.t 4]
 body :=
  (.seq
  (.re [oA 4 (.mv (.c (.bool false)))] [0,1]) (.seq (.seq
  (.re [oA 5 (.mv (.ci 0))] [0,1,5]) (.block 0 (.loop (.seq (.seq
  (.re [oA 6 (.mv (.t 5)),oA 7 (.mv (.t 1)),oA 8 (.len (.t 7)),oA 9 (.bin .lss (.t 6) (.t 8))] [0,1,5,9]) (.cond (.t 9) .skip (.exit 0))) (.seq (.block 1 (.seq
  (.re [oA 12 (.mv (.t 1)),oA 13 (.mv (.t 5)),oA 14 (.idx 1 (.t 12) (.t 13)),oA 15 (.ld none (.t 14)),oA 16 (.mv (.t 0)),oA 17 (.bin .sub (.t 16) (.ci 1)),oA 18 (.call (.f 30) [aR 15,((.ci 0),.r),aR 17]),oA 19 (.un .not (.t 18))] [0,1,5,19]) (.cond (.t 19) (.seq
  (.re [oA 4 (.mv (.c (.bool false)))] [4]) .ret) .skip)))
  (.re [oA 10 (.mv (.t 5)),oA 11 (.bin .add (.t 10) (.ci 1)),oA 5 (.mv (.t 11))] [0,1,5])))))) (.seq
  (.re [oA 20 (.mv (.t 1)),oA 21 (.len (.t 20)),oA 22 (.bin .leq (.t 21) (.ci 8)),oA 4 (.mv (.t 22))] [4]) .ret)))

def c_impl_allWithin:F where
 np:=3
 rs:=[.t 6]
 body :=
  (.seq
  (.re [oA 6 (.mv (.c (.bool false)))] [0,1,2]) (.seq (.seq
  (.re [oA 9 (.mv (.t 0)),oA 10 (.len (.t 9)),oA 11 (.mv (.ci 0))] [1,2,9,10,11]) (.block 0 (.loop (.seq
  (.re [oA 12 (.bin .lss (.t 11) (.t 10))] [1,2,9,10,11,12]) (.seq (.cond (.t 12) .skip (.exit 0)) (.seq (.block 1 (.seq
  (.re [oA 13 (.idx 1 (.t 9) (.t 11)),oA 14 (.ld none (.t 13)),oA 8 (.mv (.t 14))] [1,2,8,9,10,11]) (.seq
  (.re [oA 15 (.mv (.t 8)),oA 16 (.mv (.t 1)),oA 17 (.mv (.t 2)),oA 18 (.call (.f 35) [aR 15,aR 16,aR 17]),oA 19 (.un .not (.t 18))] [1,2,9,10,11,19]) (.cond (.t 19) (.seq
  (.re [oA 6 (.mv (.c (.bool false)))] [6]) .ret) .skip))))
  (.re [oA 20 (.bin .add (.t 11) (.ci 1)),oA 11 (.mv (.t 20))] [1,2,9,10,11]))))))) (.seq
  (.re [oA 6 (.mv (.c (.bool true)))] [6]) .ret)))

def c_spec_l02Map:F where
 np:=1
 rs:=[.t 2]
 body :=
  (.seq
  (.re [oA 1 (.box (.t 0)),oA 2 (.mv (.c (.bool false)))] [1]) (.seq
  (.re [oA 3 (.fld 0 (.t 1)),oA 4 (.ld none (.t 3)),oA 5 (.call (.f 46) [aR 4]),oA 6 (.mv (.t 5)),oI 7 6 true (.fld 1 (.t 1)),oI 8 6 true (.ld none (.t 7)),oI 9 6 true (.call (.f 46) [aR 8]),oA 10 (.pick (.t 6) (.t 9) (.c (.bool false))),oA 11 (.mv (.t 10)),oI 12 11 true (.fld 0 (.t 1)),oI 13 11 true (.ld none (.t 12)),oI 14 11 true (.len (.t 13)),oI 15 11 true (.fld 1 (.t 1)),oI 16 11 true (.ld none (.t 15)),oI 17 11 true (.len (.t 16)),oI 18 11 true (.bin .eql (.t 14) (.t 17)),oA 19 (.pick (.t 11) (.t 18) (.c (.bool false))),oA 2 (.mv (.t 19))] [2]) .ret))

def c_spec_l02Collision:F where
 np:=1
 rs:=[.t 2]
 body :=
  (.seq
  (.re [oA 1 (.box (.t 0)),oA 2 (.asg (.c (.slice none 0 0)))] [1]) (.seq
  (.re [oA 10 (.fld 0 (.t 1)),oA 11 (.ld none (.t 10)),oA 12 (.len (.t 11)),oA 3 (.mv (.t 12))] [1,3]) (.seq (.seq
  (.re [oA 4 (.mv (.ci 0))] [1,3,4]) (.block 0 (.loop (.seq (.seq
  (.re [oA 13 (.mv (.t 4)),oA 14 (.mv (.t 3)),oA 15 (.mv (.t 3)),oA 16 (.bin .mul (.t 14) (.t 15)),oA 17 (.bin .lss (.t 13) (.t 16))] [1,3,4,17]) (.cond (.t 17) .skip (.exit 0))) (.seq (.block 1 (.seq
  (.re [oA 5 (.mv (.ci 0))] [1,3,4,5]) (.block 2 (.loop (.seq (.seq
  (.re [oA 20 (.mv (.t 5)),oA 21 (.mv (.t 3)),oA 22 (.mv (.t 3)),oA 23 (.bin .mul (.t 21) (.t 22)),oA 24 (.bin .lss (.t 20) (.t 23))] [1,3,4,5,24]) (.cond (.t 24) .skip (.exit 2))) (.seq (.block 3 (.seq
  (.region (some [6,7,8,27,28,29,30,31,32,33,34,35,36,37,38]) [oA 27 (.mv (.t 4)),oA 28 (.mv (.t 3)),oA 29 (.bin .quo (.t 27) (.t 28)),oA 30 (.mv (.t 4)),oA 31 (.mv (.t 3)),oA 32 (.bin .rem (.t 30) (.t 31)),oA 33 (.mv (.t 5)),oA 34 (.mv (.t 3)),oA 35 (.bin .quo (.t 33) (.t 34)),oA 36 (.mv (.t 5)),oA 37 (.mv (.t 3)),oA 38 (.bin .rem (.t 36) (.t 37)),oA 6 (.mv (.t 29)),oA 7 (.mv (.t 32)),oA 8 (.mv (.t 35)),oA 9 (.mv (.t 38))] [1,3,4,5,6,7,8,9]) (.seq
  (.region (some [39,40,43,44,45,46,47,48,49,50,51,52,53,54,55,56,57,58,62,63,64,65,66,67,68,69,70,71,72,73,74,75,76,77]) [oA 39 (.mv (.t 4)),oA 40 (.mv (.t 5)),oA 41 (.bin .neq (.t 39) (.t 40)),oA 42 (.mv (.t 41)),oI 43 42 true (.fld 0 (.t 1)),oI 44 42 true (.ld none (.t 43)),oI 45 42 true (.mv (.t 6)),oI 46 42 true (.idx 1 (.t 44) (.t 45)),oI 47 42 true (.ld none (.t 46)),oI 48 42 true (.mv (.t 7)),oI 49 42 true (.idx 1 (.t 47) (.t 48)),oI 50 42 true (.ld none (.t 49)),oI 51 42 true (.fld 0 (.t 1)),oI 52 42 true (.ld none (.t 51)),oI 53 42 true (.mv (.t 8)),oI 54 42 true (.idx 1 (.t 52) (.t 53)),oI 55 42 true (.ld none (.t 54)),oI 56 42 true (.mv (.t 9)),oI 57 42 true (.idx 1 (.t 55) (.t 56)),oI 58 42 true (.ld none (.t 57)),oI 59 42 true (.bin .eql (.t 50) (.t 58)),oA 60 (.pick (.t 42) (.t 59) (.c (.bool false))),oA 61 (.mv (.t 60)),oI 62 61 true (.fld 1 (.t 1)),oI 63 61 true (.ld none (.t 62)),oI 64 61 true (.mv (.t 6)),oI 65 61 true (.idx 1 (.t 63) (.t 64)),oI 66 61 true (.ld none (.t 65)),oI 67 61 true (.mv (.t 7)),oI 68 61 true (.idx 1 (.t 66) (.t 67)),oI 69 61 true (.ld none (.t 68)),oI 70 61 true (.fld 1 (.t 1)),oI 71 61 true (.ld none (.t 70)),oI 72 61 true (.mv (.t 8)),oI 73 61 true (.idx 1 (.t 71) (.t 72)),oI 74 61 true (.ld none (.t 73)),oI 75 61 true (.mv (.t 9)),oI 76 61 true (.idx 1 (.t 74) (.t 75)),oI 77 61 true (.ld none (.t 76)),oI 78 61 true (.bin .eql (.t 69) (.t 77)),oA 79 (.pick (.t 61) (.t 78) (.c (.bool false)))] [1,3,4,5,6,7,8,9,79]) (.cond (.t 79) (.seq
  (.re [oA 80 (.mv (.t 6)),oA 81 (.mv (.t 7)),oA 82 (.mv (.t 8)),oA 83 (.mv (.t 9)),oA 84 (.bsl [(.t 80),(.t 81),(.t 82),(.t 83)]),oA 2 (.asg (.t 84))] [2]) .ret) .skip))))
  (.re [oA 25 (.mv (.t 5)),oA 26 (.bin .add (.t 25) (.ci 1)),oA 5 (.mv (.t 26))] [1,3,4,5])))))))
  (.re [oA 18 (.mv (.t 4)),oA 19 (.bin .add (.t 18) (.ci 1)),oA 4 (.mv (.t 19))] [1,3,4])))))) (.seq
  (.re [oA 85 (.bsl []),oA 2 (.asg (.t 85))] [2]) .ret))))

def c_spec_l02Fault:F where
 np:=1
 rs:=[.t 2]
 body :=
  (.seq
  (.re [oA 1 (.box (.t 0)),oA 2 (.asg (.c (.slice none 0 0)))] [1]) (.seq
  (.re [oA 8 (.fld 0 (.t 1)),oA 9 (.ld none (.t 8)),oA 10 (.len (.t 9)),oA 3 (.mv (.t 10))] [1,3]) (.seq (.seq
  (.re [oA 4 (.mv (.ci 0))] [1,3,4]) (.block 0 (.loop (.seq (.seq
  (.re [oA 11 (.mv (.t 4)),oA 12 (.mv (.t 3)),oA 13 (.bin .lss (.t 11) (.t 12))] [1,3,4,13]) (.cond (.t 13) .skip (.exit 0))) (.seq (.block 1 (.seq
  (.re [oA 5 (.mv (.ci 0))] [1,3,4,5]) (.block 2 (.loop (.seq (.seq
  (.re [oA 16 (.mv (.t 5)),oA 17 (.mv (.t 3)),oA 18 (.bin .lss (.t 16) (.t 17))] [1,3,4,5,18]) (.cond (.t 18) .skip (.exit 2))) (.seq (.block 3 (.seq
  (.re [oA 6 (.mv (.ci 0))] [1,3,4,5,6]) (.block 4 (.loop (.seq (.seq
  (.re [oA 21 (.mv (.t 6)),oA 22 (.mv (.t 3)),oA 23 (.bin .lss (.t 21) (.t 22))] [1,3,4,5,6,23]) (.cond (.t 23) .skip (.exit 4))) (.seq (.block 5 (.seq
  (.re [oA 26 (.mv (.t 4)),oA 27 (.mv (.t 5)),oA 28 (.mv (.t 6)),oA 29 (.bsl [(.t 26),(.t 27),(.t 28)]),oA 7 (.asg (.t 29))] [1,3,4,5,6,7]) (.seq
  (.region (some [30,31,32,33,34,35,36,37,38,39,40,41,42]) [oA 30 (.ld (some 2) (.t 1)),oA 31 (.ld (some 2) (.t 1)),oA 32 (.ld (some 2) (.t 1)),oA 33 (.mv (.t 7)),oA 34 (.call (.f 68) [aR 32,aR 33,((.ci 0),.r)]),oA 35 (.call (.f 68) [aR 31,aR 34,((.ci 1),.r)]),oA 36 (.call (.f 68) [aR 30,aR 35,((.ci 0),.r)]),oA 37 (.ld (some 2) (.t 1)),oA 38 (.ld (some 2) (.t 1)),oA 39 (.ld (some 2) (.t 1)),oA 40 (.mv (.t 7)),oA 41 (.call (.f 68) [aR 39,aR 40,((.ci 1),.r)]),oA 42 (.call (.f 68) [aR 38,aR 41,((.ci 0),.r)]),oA 43 (.call (.f 68) [aR 37,aR 42,((.ci 1),.r)]),oA 44 (.call (.f 67) [aR 36,aR 43]),oA 45 (.un .not (.t 44))] [1,3,4,5,6,7,45]) (.cond (.t 45) (.seq
  (.re [oA 46 (.mv (.t 7)),oA 2 (.asg (.t 46))] [2]) .ret) .skip))))
  (.re [oA 24 (.mv (.t 6)),oA 25 (.bin .add (.t 24) (.ci 1)),oA 6 (.mv (.t 25))] [1,3,4,5,6])))))))
  (.re [oA 19 (.mv (.t 5)),oA 20 (.bin .add (.t 19) (.ci 1)),oA 5 (.mv (.t 20))] [1,3,4,5])))))))
  (.re [oA 14 (.mv (.t 4)),oA 15 (.bin .add (.t 14) (.ci 1)),oA 4 (.mv (.t 15))] [1,3,4])))))) (.seq
  (.re [oA 47 (.bsl []),oA 2 (.asg (.t 47))] [2]) .ret))))

def c_impl_IsPairMap:F where
 np:=1
 rs:=[.t 2]
 body :=
  (.seq
  (.re [oA 1 (.box (.t 0)),oA 2 (.mv (.c (.bool false)))] [1]) (.seq
  (.re [oA 3 (.fld 0 (.t 1)),oA 4 (.ld none (.t 3)),oA 5 (.call (.f 50) [aR 4]),oA 6 (.mv (.t 5)),oI 7 6 true (.fld 1 (.t 1)),oI 8 6 true (.ld none (.t 7)),oI 9 6 true (.call (.f 50) [aR 8]),oA 10 (.pick (.t 6) (.t 9) (.c (.bool false))),oA 11 (.mv (.t 10)),oI 12 11 true (.fld 0 (.t 1)),oI 13 11 true (.ld none (.t 12)),oI 14 11 true (.len (.t 13)),oI 15 11 true (.fld 1 (.t 1)),oI 16 11 true (.ld none (.t 15)),oI 17 11 true (.len (.t 16)),oI 18 11 true (.bin .eql (.t 14) (.t 17)),oA 19 (.pick (.t 11) (.t 18) (.c (.bool false))),oA 2 (.mv (.t 19))] [2]) .ret))

def c_impl_collisionOf:F where
 np:=1
 rs:=[.t 2]
 body :=
  (.seq
  (.re [oA 1 (.box (.t 0)),oA 2 (.asg (.c (.slice none 0 0)))] [1]) (.seq
  (.re [oA 10 (.fld 0 (.t 1)),oA 11 (.ld none (.t 10)),oA 12 (.len (.t 11)),oA 3 (.mv (.t 12))] [1,3]) (.seq (.seq
  (.re [oA 13 (.mv (.t 3)),oA 14 (.mv (.t 3)),oA 15 (.bin .mul (.t 13) (.t 14)),oA 16 (.mv (.ci 0))] [1,3,15,16]) (.block 0 (.loop (.seq
  (.re [oA 17 (.bin .lss (.t 16) (.t 15))] [1,3,15,16,17]) (.seq (.cond (.t 17) .skip (.exit 0)) (.seq (.block 1 (.seq
  (.re [oA 18 (.mv (.t 16)),oA 4 (.mv (.t 18))] [1,3,4,15,16]) (.seq
  (.region (some [5,19,20,21,22,23,24]) [oA 19 (.mv (.t 4)),oA 20 (.mv (.t 3)),oA 21 (.bin .quo (.t 19) (.t 20)),oA 22 (.mv (.t 4)),oA 23 (.mv (.t 3)),oA 24 (.bin .rem (.t 22) (.t 23)),oA 5 (.mv (.t 21)),oA 6 (.mv (.t 24))] [1,3,4,5,6,15,16]) (.seq
  (.re [oA 25 (.mv (.t 3)),oA 26 (.mv (.t 3)),oA 27 (.bin .mul (.t 25) (.t 26)),oA 28 (.mv (.ci 0))] [1,3,4,5,6,15,16,27,28]) (.block 2 (.loop (.seq
  (.re [oA 29 (.bin .lss (.t 28) (.t 27))] [1,3,4,5,6,15,16,27,28,29]) (.seq (.cond (.t 29) .skip (.exit 2)) (.seq (.block 3 (.seq
  (.re [oA 30 (.mv (.t 28)),oA 7 (.mv (.t 30))] [1,3,4,5,6,7,15,16,27,28]) (.seq
  (.region (some [8,31,32,33,34,35,36]) [oA 31 (.mv (.t 7)),oA 32 (.mv (.t 3)),oA 33 (.bin .quo (.t 31) (.t 32)),oA 34 (.mv (.t 7)),oA 35 (.mv (.t 3)),oA 36 (.bin .rem (.t 34) (.t 35)),oA 8 (.mv (.t 33)),oA 9 (.mv (.t 36))] [1,3,4,5,6,7,8,9,15,16,27,28]) (.seq
  (.region (some [37,38,41,42,43,44,45,46,47,48,49,50,51,52,53,54,55,56,60,61,62,63,64,65,66,67,68,69,70,71,72,73,74,75]) [oA 37 (.mv (.t 4)),oA 38 (.mv (.t 7)),oA 39 (.bin .neq (.t 37) (.t 38)),oA 40 (.mv (.t 39)),oI 41 40 true (.fld 0 (.t 1)),oI 42 40 true (.ld none (.t 41)),oI 43 40 true (.mv (.t 5)),oI 44 40 true (.idx 1 (.t 42) (.t 43)),oI 45 40 true (.ld none (.t 44)),oI 46 40 true (.mv (.t 6)),oI 47 40 true (.idx 1 (.t 45) (.t 46)),oI 48 40 true (.ld none (.t 47)),oI 49 40 true (.fld 0 (.t 1)),oI 50 40 true (.ld none (.t 49)),oI 51 40 true (.mv (.t 8)),oI 52 40 true (.idx 1 (.t 50) (.t 51)),oI 53 40 true (.ld none (.t 52)),oI 54 40 true (.mv (.t 9)),oI 55 40 true (.idx 1 (.t 53) (.t 54)),oI 56 40 true (.ld none (.t 55)),oI 57 40 true (.bin .eql (.t 48) (.t 56)),oA 58 (.pick (.t 40) (.t 57) (.c (.bool false))),oA 59 (.mv (.t 58)),oI 60 59 true (.fld 1 (.t 1)),oI 61 59 true (.ld none (.t 60)),oI 62 59 true (.mv (.t 5)),oI 63 59 true (.idx 1 (.t 61) (.t 62)),oI 64 59 true (.ld none (.t 63)),oI 65 59 true (.mv (.t 6)),oI 66 59 true (.idx 1 (.t 64) (.t 65)),oI 67 59 true (.ld none (.t 66)),oI 68 59 true (.fld 1 (.t 1)),oI 69 59 true (.ld none (.t 68)),oI 70 59 true (.mv (.t 8)),oI 71 59 true (.idx 1 (.t 69) (.t 70)),oI 72 59 true (.ld none (.t 71)),oI 73 59 true (.mv (.t 9)),oI 74 59 true (.idx 1 (.t 72) (.t 73)),oI 75 59 true (.ld none (.t 74)),oI 76 59 true (.bin .eql (.t 67) (.t 75)),oA 77 (.pick (.t 59) (.t 76) (.c (.bool false)))] [1,3,4,5,6,8,9,15,16,27,28,77]) (.cond (.t 77) (.seq
  (.re [oA 78 (.mv (.t 5)),oA 79 (.mv (.t 6)),oA 80 (.mv (.t 8)),oA 81 (.mv (.t 9)),oA 82 (.bsl [(.t 78),(.t 79),(.t 80),(.t 81)]),oA 2 (.asg (.t 82))] [2]) .ret) .skip)))))
  (.re [oA 83 (.bin .add (.t 28) (.ci 1)),oA 28 (.mv (.t 83))] [1,3,4,5,6,15,16,27,28]))))))))))
  (.re [oA 84 (.bin .add (.t 16) (.ci 1)),oA 16 (.mv (.t 84))] [1,3,15,16]))))))) (.seq
  (.re [oA 2 (.asg (.c (.slice none 0 0)))] [2]) .ret))))

def c_impl_equationFault:F where
 np:=1
 rs:=[.t 2]
 body :=
  (.seq
  (.re [oA 1 (.box (.t 0)),oA 2 (.asg (.c (.slice none 0 0)))] [1]) (.seq
  (.re [oA 13 (.fld 0 (.t 1)),oA 14 (.ld none (.t 13)),oA 15 (.len (.t 14)),oA 3 (.mv (.t 15))] [1,3]) (.seq (.seq
  (.re [oA 16 (.mv (.t 3)),oA 17 (.mv (.ci 0))] [1,3,16,17]) (.block 0 (.loop (.seq
  (.re [oA 18 (.bin .lss (.t 17) (.t 16))] [1,3,16,17,18]) (.seq (.cond (.t 18) .skip (.exit 0)) (.seq (.block 1 (.seq
  (.re [oA 19 (.mv (.t 17)),oA 4 (.mv (.t 19))] [1,3,4,16,17]) (.seq
  (.re [oA 20 (.mv (.t 3)),oA 21 (.mv (.ci 0))] [1,3,4,16,17,20,21]) (.block 2 (.loop (.seq
  (.re [oA 22 (.bin .lss (.t 21) (.t 20))] [1,3,4,16,17,20,21,22]) (.seq (.cond (.t 22) .skip (.exit 2)) (.seq (.block 3 (.seq
  (.re [oA 23 (.mv (.t 21)),oA 5 (.mv (.t 23))] [1,3,4,5,16,17,20,21]) (.seq
  (.re [oA 24 (.mv (.t 3)),oA 25 (.mv (.ci 0))] [1,3,4,5,16,17,20,21,24,25]) (.block 4 (.loop (.seq
  (.re [oA 26 (.bin .lss (.t 25) (.t 24))] [1,3,4,5,16,17,20,21,24,25,26]) (.seq (.cond (.t 26) .skip (.exit 4)) (.seq (.block 5 (.seq
  (.re [oA 27 (.mv (.t 25)),oA 6 (.mv (.t 27))] [1,3,4,5,6,16,17,20,21,24,25]) (.seq
  (.region (some [7,28,29,30,31,32,33,34,35,36,37,38,39,40,41,42,43]) [oA 28 (.fld 0 (.t 1)),oA 29 (.ld none (.t 28)),oA 30 (.mv (.t 4)),oA 31 (.idx 1 (.t 29) (.t 30)),oA 32 (.ld none (.t 31)),oA 33 (.mv (.t 5)),oA 34 (.idx 1 (.t 32) (.t 33)),oA 35 (.ld none (.t 34)),oA 36 (.fld 1 (.t 1)),oA 37 (.ld none (.t 36)),oA 38 (.mv (.t 4)),oA 39 (.idx 1 (.t 37) (.t 38)),oA 40 (.ld none (.t 39)),oA 41 (.mv (.t 5)),oA 42 (.idx 1 (.t 40) (.t 41)),oA 43 (.ld none (.t 42)),oA 7 (.mv (.t 35)),oA 8 (.mv (.t 43))] [1,3,4,5,6,7,8,16,17,20,21,24,25]) (.seq
  (.region (some [8,44,45,46,47,48,49,50,51,52,53,54,55,56,57,58,59]) [oA 44 (.fld 0 (.t 1)),oA 45 (.ld none (.t 44)),oA 46 (.mv (.t 8)),oA 47 (.idx 1 (.t 45) (.t 46)),oA 48 (.ld none (.t 47)),oA 49 (.mv (.t 6)),oA 50 (.idx 1 (.t 48) (.t 49)),oA 51 (.ld none (.t 50)),oA 52 (.fld 1 (.t 1)),oA 53 (.ld none (.t 52)),oA 54 (.mv (.t 8)),oA 55 (.idx 1 (.t 53) (.t 54)),oA 56 (.ld none (.t 55)),oA 57 (.mv (.t 6)),oA 58 (.idx 1 (.t 56) (.t 57)),oA 59 (.ld none (.t 58)),oA 8 (.mv (.t 51)),oA 9 (.mv (.t 59))] [1,3,4,5,6,7,8,9,16,17,20,21,24,25]) (.seq
  (.region (some [7,60,61,62,63,64,65,66,67,68,69,70,71,72,73,74,75]) [oA 60 (.fld 0 (.t 1)),oA 61 (.ld none (.t 60)),oA 62 (.mv (.t 7)),oA 63 (.idx 1 (.t 61) (.t 62)),oA 64 (.ld none (.t 63)),oA 65 (.mv (.t 8)),oA 66 (.idx 1 (.t 64) (.t 65)),oA 67 (.ld none (.t 66)),oA 68 (.fld 1 (.t 1)),oA 69 (.ld none (.t 68)),oA 70 (.mv (.t 7)),oA 71 (.idx 1 (.t 69) (.t 70)),oA 72 (.ld none (.t 71)),oA 73 (.mv (.t 8)),oA 74 (.idx 1 (.t 72) (.t 73)),oA 75 (.ld none (.t 74)),oA 7 (.mv (.t 67)),oA 8 (.mv (.t 75))] [1,3,4,5,6,7,8,9,16,17,20,21,24,25]) (.seq
  (.region (some [10,76,77,78,79,80,81,82,83,84,85,86,87,88,89,90,91]) [oA 76 (.fld 0 (.t 1)),oA 77 (.ld none (.t 76)),oA 78 (.mv (.t 5)),oA 79 (.idx 1 (.t 77) (.t 78)),oA 80 (.ld none (.t 79)),oA 81 (.mv (.t 6)),oA 82 (.idx 1 (.t 80) (.t 81)),oA 83 (.ld none (.t 82)),oA 84 (.fld 1 (.t 1)),oA 85 (.ld none (.t 84)),oA 86 (.mv (.t 5)),oA 87 (.idx 1 (.t 85) (.t 86)),oA 88 (.ld none (.t 87)),oA 89 (.mv (.t 6)),oA 90 (.idx 1 (.t 88) (.t 89)),oA 91 (.ld none (.t 90)),oA 10 (.mv (.t 83)),oA 11 (.mv (.t 91))] [1,3,4,5,6,7,8,9,10,11,16,17,20,21,24,25]) (.seq
  (.region (some [12,92,93,94,95,96,97,98,99,100,101,102,103,104,105,106,107]) [oA 92 (.fld 0 (.t 1)),oA 93 (.ld none (.t 92)),oA 94 (.mv (.t 4)),oA 95 (.idx 1 (.t 93) (.t 94)),oA 96 (.ld none (.t 95)),oA 97 (.mv (.t 10)),oA 98 (.idx 1 (.t 96) (.t 97)),oA 99 (.ld none (.t 98)),oA 100 (.fld 1 (.t 1)),oA 101 (.ld none (.t 100)),oA 102 (.mv (.t 4)),oA 103 (.idx 1 (.t 101) (.t 102)),oA 104 (.ld none (.t 103)),oA 105 (.mv (.t 10)),oA 106 (.idx 1 (.t 104) (.t 105)),oA 107 (.ld none (.t 106)),oA 12 (.mv (.t 99)),oA 10 (.mv (.t 107))] [1,3,4,5,6,7,8,9,10,11,12,16,17,20,21,24,25]) (.seq
  (.region (some [10,108,109,110,111,112,113,114,115,116,117,118,119,120,121,122,123]) [oA 108 (.fld 0 (.t 1)),oA 109 (.ld none (.t 108)),oA 110 (.mv (.t 10)),oA 111 (.idx 1 (.t 109) (.t 110)),oA 112 (.ld none (.t 111)),oA 113 (.mv (.t 11)),oA 114 (.idx 1 (.t 112) (.t 113)),oA 115 (.ld none (.t 114)),oA 116 (.fld 1 (.t 1)),oA 117 (.ld none (.t 116)),oA 118 (.mv (.t 10)),oA 119 (.idx 1 (.t 117) (.t 118)),oA 120 (.ld none (.t 119)),oA 121 (.mv (.t 11)),oA 122 (.idx 1 (.t 120) (.t 121)),oA 123 (.ld none (.t 122)),oA 10 (.mv (.t 115)),oA 11 (.mv (.t 123))] [1,3,4,5,6,7,8,9,10,11,12,16,17,20,21,24,25]) (.seq
  (.re [oA 124 (.mv (.t 7)),oA 125 (.mv (.t 12)),oA 126 (.bin .neq (.t 124) (.t 125)),oA 127 (.mv (.t 126)),oI 128 127 false (.mv (.t 8)),oI 129 127 false (.mv (.t 10)),oI 130 127 false (.bin .neq (.t 128) (.t 129)),oA 131 (.pick (.t 127) (.c (.bool true)) (.t 130)),oA 132 (.mv (.t 131)),oI 133 132 false (.mv (.t 9)),oI 134 132 false (.mv (.t 11)),oI 135 132 false (.bin .neq (.t 133) (.t 134)),oA 136 (.pick (.t 132) (.c (.bool true)) (.t 135))] [1,3,4,5,6,16,17,20,21,24,25,136]) (.cond (.t 136) (.seq
  (.re [oA 137 (.mv (.t 4)),oA 138 (.mv (.t 5)),oA 139 (.mv (.t 6)),oA 140 (.bsl [(.t 137),(.t 138),(.t 139)]),oA 2 (.asg (.t 140))] [2]) .ret) .skip))))))))))
  (.re [oA 141 (.bin .add (.t 25) (.ci 1)),oA 25 (.mv (.t 141))] [1,3,4,5,16,17,20,21,24,25])))))))))
  (.re [oA 142 (.bin .add (.t 21) (.ci 1)),oA 21 (.mv (.t 142))] [1,3,4,16,17,20,21])))))))))
  (.re [oA 143 (.bin .add (.t 17) (.ci 1)),oA 17 (.mv (.t 143))] [1,3,16,17]))))))) (.seq
  (.re [oA 2 (.asg (.c (.slice none 0 0)))] [2]) .ret))))

def c_spec_l01Has:F where
 np:=2
 rs:=[.t 4]
 body :=
  (.seq
  (.re [oA 4 (.mv (.c (.bool false)))] [0,1]) (.seq
  (.re [oA 5 (.mv (.t 0)),oA 6 (.mv (.t 1)),oA 7 (.call (.f 69) [aR 5,aR 6]),oA 8 (.bin .geq (.t 7) (.ci 0)),oA 4 (.mv (.t 8))] [4]) .ret))

def c_slices_ContainsFunc_____int64___int64_:F where
 np:=2
 rs:=[.t 4]
 body :=
  (.seq
  (.re [oA 4 (.mv (.c (.bool false)))] [0,1]) (.seq
  (.re [oA 5 (.mv (.t 0)),oA 6 (.mv (.t 1)),oA 7 (.call (.f 70) [aR 5,aR 6]),oA 8 (.bin .geq (.t 7) (.ci 0)),oA 4 (.mv (.t 8))] [4]) .ret))

def c_impl_IsTable_1:F where
 np:=2
 rs:=[.t 3]
 body :=
  (.seq
  (.re [oA 3 (.mv (.c (.bool false)))] [0,1]) (.seq
  (.re [oA 4 (.mv (.t 0)),oA 5 (.len (.t 4)),oA 6 (.ld none (.t 1)),oA 7 (.bin .neq (.t 5) (.t 6)),oA 8 (.mv (.t 7)),oI 9 8 false (.mv (.t 0)),oI 10 8 false (.ld none (.t 1)),oI 11 8 false (.bin .sub (.t 10) (.ci 1)),oI 12 8 false (.call (.f 54) [aR 9,((.ci 0),.r),aR 11]),oI 13 8 false (.un .not (.t 12)),oA 14 (.pick (.t 8) (.c (.bool true)) (.t 13)),oA 3 (.mv (.t 14))] [3]) .ret))

def c_spec_l01Same:F where
 np:=2
 rs:=[.t 4]
 body :=
  (.seq
  (.re [oA 4 (.mv (.c (.bool false)))] [0,1]) (.seq (.seq
  (.re [oA 6 (.mv (.t 0)),oA 7 (.len (.t 6)),oA 8 (.mv (.t 1)),oA 9 (.len (.t 8)),oA 10 (.bin .neq (.t 7) (.t 9))] [0,1,10]) (.cond (.t 10) (.seq
  (.re [oA 4 (.mv (.c (.bool false)))] [4]) .ret) .skip)) (.seq (.seq
  (.re [oA 5 (.mv (.ci 0))] [0,1,5]) (.block 0 (.loop (.seq (.seq
  (.re [oA 11 (.mv (.t 5)),oA 12 (.mv (.t 0)),oA 13 (.len (.t 12)),oA 14 (.bin .lss (.t 11) (.t 13))] [0,1,5,14]) (.cond (.t 14) .skip (.exit 0))) (.seq (.block 1 (.seq
  (.region (some [17,18,19,20,21,22,23,24]) [oA 17 (.mv (.t 0)),oA 18 (.mv (.t 5)),oA 19 (.idx 1 (.t 17) (.t 18)),oA 20 (.ld none (.t 19)),oA 21 (.mv (.t 1)),oA 22 (.mv (.t 5)),oA 23 (.idx 1 (.t 21) (.t 22)),oA 24 (.ld none (.t 23)),oA 25 (.bin .neq (.t 20) (.t 24))] [0,1,5,25]) (.cond (.t 25) (.seq
  (.re [oA 4 (.mv (.c (.bool false)))] [4]) .ret) .skip)))
  (.re [oA 15 (.mv (.t 5)),oA 16 (.bin .add (.t 15) (.ci 1)),oA 5 (.mv (.t 16))] [0,1,5])))))) (.seq
  (.re [oA 4 (.mv (.c (.bool true)))] [4]) .ret))))

def c_spec_l02Do:F where
 np:=3
 rs:=[.t 6]
 body :=
  (.seq
  (.re [oA 3 (.box (.t 0)),oA 6 (.asg (.c (.slice none 0 0)))] [1,2,3]) (.seq
  (.re [oA 8 (.mv (.t 1)),oA 9 (.call (.f 31) [aR 8]),oA 7 (.asg (.t 9))] [1,2,3,7]) (.seq
  (.region (some [10,11,12,13,14,15,16,17,18,19,20,21,22,23,24,25,26]) [oA 10 (.mv (.t 7)),oA 11 (.mv (.t 2)),oA 12 (.fld 0 (.t 3)),oA 13 (.ld none (.t 12)),oA 14 (.mv (.t 1)),oA 15 (.mv (.t 2)),oA 16 (.idx 1 (.t 14) (.t 15)),oA 17 (.ld none (.t 16)),oA 18 (.idx 1 (.t 13) (.t 17)),oA 19 (.ld none (.t 18)),oA 20 (.mv (.t 1)),oA 21 (.mv (.t 2)),oA 22 (.bin .add (.t 21) (.ci 1)),oA 23 (.idx 1 (.t 20) (.t 22)),oA 24 (.ld none (.t 23)),oA 25 (.idx 1 (.t 19) (.t 24)),oA 26 (.ld none (.t 25)),oA 27 (.idx 1 (.t 10) (.t 11)),oN (.st none (.t 27) (.t 26))] [1,2,3,7]) (.seq
  (.region (some [28,29,30,31,32,33,34,35,36,37,38,39,40,41,42,43,44,45]) [oA 28 (.mv (.t 7)),oA 29 (.mv (.t 2)),oA 30 (.bin .add (.t 29) (.ci 1)),oA 31 (.fld 1 (.t 3)),oA 32 (.ld none (.t 31)),oA 33 (.mv (.t 1)),oA 34 (.mv (.t 2)),oA 35 (.idx 1 (.t 33) (.t 34)),oA 36 (.ld none (.t 35)),oA 37 (.idx 1 (.t 32) (.t 36)),oA 38 (.ld none (.t 37)),oA 39 (.mv (.t 1)),oA 40 (.mv (.t 2)),oA 41 (.bin .add (.t 40) (.ci 1)),oA 42 (.idx 1 (.t 39) (.t 41)),oA 43 (.ld none (.t 42)),oA 44 (.idx 1 (.t 38) (.t 43)),oA 45 (.ld none (.t 44)),oA 46 (.idx 1 (.t 28) (.t 30)),oN (.st none (.t 46) (.t 45))] [7]) (.seq
  (.re [oA 47 (.mv (.t 7)),oA 6 (.asg (.t 47))] [6]) .ret)))))

def c_spec_l01Index:F where
 np:=2
 rs:=[.t 4]
 body :=
  (.seq
  (.re [oA 4 (.mv (.ci 0))] [0,1]) (.seq (.seq
  (.re [oA 5 (.mv (.ci 0))] [0,1,5]) (.block 0 (.loop (.seq (.seq
  (.re [oA 6 (.mv (.t 5)),oA 7 (.mv (.t 0)),oA 8 (.len (.t 7)),oA 9 (.bin .lss (.t 6) (.t 8))] [0,1,5,9]) (.cond (.t 9) .skip (.exit 0))) (.seq (.block 1 (.seq
  (.re [oA 12 (.mv (.t 0)),oA 13 (.mv (.t 5)),oA 14 (.idx 1 (.t 12) (.t 13)),oA 15 (.ld none (.t 14)),oA 16 (.mv (.t 1)),oA 17 (.bin .eql (.t 15) (.t 16))] [0,1,5,17]) (.cond (.t 17) (.seq
  (.re [oA 18 (.mv (.t 5)),oA 4 (.mv (.t 18))] [4]) .ret) .skip)))
  (.re [oA 10 (.mv (.t 5)),oA 11 (.bin .add (.t 10) (.ci 1)),oA 5 (.mv (.t 11))] [0,1,5])))))) (.seq
  (.re [oA 4 (.mv (.c (.int .i64 (-1))))] [4]) .ret)))

def c_slices_IndexFunc_____int64___int64_:F where
 np:=2
 rs:=[.t 4]
 body :=
  (.seq
  (.re [oA 4 (.mv (.ci 0))] [0,1]) (.seq (.seq
  (.re [oA 6 (.mv (.t 0)),oA 7 (.len (.t 6)),oA 8 (.mv (.ci 0))] [0,1,7,8]) (.block 0 (.loop (.seq
  (.re [oA 9 (.bin .lss (.t 8) (.t 7))] [0,1,7,8,9]) (.seq (.cond (.t 9) .skip (.exit 0)) (.seq (.block 1 (.seq
  (.re [oA 10 (.mv (.t 8)),oA 5 (.mv (.t 10))] [0,1,5,7,8]) (.seq
  (.re [oA 11 (.mv (.t 1)),oA 12 (.mv (.t 0)),oA 13 (.mv (.t 5)),oA 14 (.idx 1 (.t 12) (.t 13)),oA 15 (.ld none (.t 14)),oA 16 (.call (.t 11) [aR 15])] [0,1,5,7,8,16]) (.cond (.t 16) (.seq
  (.re [oA 17 (.mv (.t 5)),oA 4 (.mv (.t 17))] [4]) .ret) .skip))))
  (.re [oA 18 (.bin .add (.t 8) (.ci 1)),oA 8 (.mv (.t 18))] [0,1,7,8]))))))) (.seq
  (.re [oA 4 (.mv (.c (.int .i64 (-1))))] [4]) .ret)))

end Go.Mch
