/- Compact code of the functions that the first laws reach. -/
import Derived.Test.YtmlknafdnccddaaGreatM1
namespace Go.Mch

def c_spec_l01In:F where
 np:=3
 rs:=[.t 6]
 body :=
  (.seq
  (.re [oA 6 (.mv (.c (.bool false)))] [0,1,2]) (.seq
  (.re [oA 7 (.mv (.t 0)),oA 8 (.mv (.t 1)),oA 9 (.bin .geq (.t 7) (.t 8)),oA 10 (.mv (.t 9)),oI 11 10 true (.mv (.t 0)),oI 12 10 true (.mv (.t 2)),oI 13 10 true (.bin .leq (.t 11) (.t 12)),oA 14 (.pick (.t 10) (.t 13) (.c (.bool false))),oA 6 (.mv (.t 14))] [6]) .ret))

def c_spec_l01Own:F where
 np:=1
 rs:=[.t 2]
 body :=
  (.seq
  (.re [oA 2 (.asg (.c (.slice none 0 0)))] [0]) (.seq
  (.re [oA 3 (.bsl []),oA 4 (.mv (.t 0)),oA 5 (.app false 1 (.t 3) (.t 4)),oA 2 (.asg (.t 5))] [2]) .ret))

def c_impl_within:F where
 np:=3
 rs:=[.t 6]
 body :=
  (.seq
  (.re [oA 6 (.mv (.c (.bool false)))] [0,1,2]) (.seq
  (.re [oA 7 (.mv (.t 0)),oA 8 (.mv (.t 1)),oA 9 (.bin .geq (.t 7) (.t 8)),oA 10 (.mv (.t 9)),oI 11 10 true (.mv (.t 0)),oI 12 10 true (.mv (.t 2)),oI 13 10 true (.bin .leq (.t 11) (.t 12)),oA 14 (.pick (.t 10) (.t 13) (.c (.bool false))),oA 6 (.mv (.t 14))] [6]) .ret))

def c_slices_Clone___int64_int64_:F where
 np:=1
 rs:=[.t 2]
 body :=
  (.seq
  (.re [oA 2 (.asg (.c (.slice none 0 0)))] [0]) (.seq (.seq
  (.re [oA 3 (.mv (.t 0)),oA 4 (.isnil false (.t 3))] [0,4]) (.cond (.t 4) (.seq
  (.re [oA 2 (.asg (.c (.slice none 0 0)))] [2]) .ret) .skip)) (.seq
  (.re [oA 5 (.bsl []),oA 6 (.mv (.t 0)),oA 7 (.app false 1 (.t 5) (.t 6)),oA 2 (.asg (.t 7))] [2]) .ret)))

def c_spec_l01Table:F where
 np:=1
 rs:=[.t 2]
 body :=
  (.seq
  (.re [oA 2 (.mv (.c (.bool false)))] [0]) (.seq
  (.re [oA 6 (.mv (.t 0)),oA 7 (.len (.t 6)),oA 3 (.mv (.t 7))] [0,3]) (.seq (.seq
  (.re [oA 8 (.mv (.t 3)),oA 9 (.call (.f 30) [aR 8,((.ci 1),.r),((.ci 12),.r)]),oA 10 (.un .not (.t 9))] [0,3,10]) (.cond (.t 10) (.seq
  (.re [oA 2 (.mv (.c (.bool false)))] [2]) .ret) .skip)) (.seq (.seq
  (.re [oA 4 (.mv (.ci 0))] [0,3,4]) (.block 0 (.loop (.seq (.seq
  (.re [oA 11 (.mv (.t 4)),oA 12 (.mv (.t 0)),oA 13 (.len (.t 12)),oA 14 (.bin .lss (.t 11) (.t 13))] [0,3,4,14]) (.cond (.t 14) .skip (.exit 0))) (.seq (.block 1 (.seq (.seq
  (.re [oA 17 (.mv (.t 0)),oA 18 (.mv (.t 4)),oA 19 (.idx 1 (.t 17) (.t 18)),oA 20 (.ld none (.t 19)),oA 21 (.len (.t 20)),oA 22 (.mv (.t 3)),oA 23 (.bin .neq (.t 21) (.t 22))] [0,3,4,23]) (.cond (.t 23) (.seq
  (.re [oA 2 (.mv (.c (.bool false)))] [2]) .ret) .skip)) (.seq
  (.re [oA 5 (.mv (.ci 0))] [0,3,4,5]) (.block 2 (.loop (.seq (.seq
  (.re [oA 24 (.mv (.t 5)),oA 25 (.mv (.t 0)),oA 26 (.len (.t 25)),oA 27 (.bin .lss (.t 24) (.t 26))] [0,3,4,5,27]) (.cond (.t 27) .skip (.exit 2))) (.seq (.block 3 (.seq
  (.re [oA 30 (.mv (.t 0)),oA 31 (.mv (.t 4)),oA 32 (.idx 1 (.t 30) (.t 31)),oA 33 (.ld none (.t 32)),oA 34 (.mv (.t 5)),oA 35 (.idx 1 (.t 33) (.t 34)),oA 36 (.ld none (.t 35)),oA 37 (.mv (.t 3)),oA 38 (.bin .sub (.t 37) (.ci 1)),oA 39 (.call (.f 30) [aR 36,((.ci 0),.r),aR 38]),oA 40 (.un .not (.t 39))] [0,3,4,5,40]) (.cond (.t 40) (.seq
  (.re [oA 2 (.mv (.c (.bool false)))] [2]) .ret) .skip)))
  (.re [oA 28 (.mv (.t 5)),oA 29 (.bin .add (.t 28) (.ci 1)),oA 5 (.mv (.t 29))] [0,3,4,5]))))))))
  (.re [oA 15 (.mv (.t 4)),oA 16 (.bin .add (.t 15) (.ci 1)),oA 4 (.mv (.t 16))] [0,3,4])))))) (.seq
  (.re [oA 2 (.mv (.c (.bool true)))] [2]) .ret)))))

def c_spec_l01Perm:F where
 np:=1
 rs:=[.t 2]
 body :=
  (.seq
  (.re [oA 2 (.mv (.c (.bool false)))] [0]) (.seq
  (.re [oA 5 (.mv (.t 0)),oA 6 (.len (.t 5)),oA 3 (.mv (.t 6))] [0,3]) (.seq (.seq
  (.re [oA 7 (.mv (.t 3)),oA 8 (.call (.f 30) [aR 7,((.ci 1),.r),((.ci 12),.r)]),oA 9 (.un .not (.t 8))] [0,3,9]) (.cond (.t 9) (.seq
  (.re [oA 2 (.mv (.c (.bool false)))] [2]) .ret) .skip)) (.seq (.seq
  (.re [oA 4 (.mv (.ci 0))] [0,3,4]) (.block 0 (.loop (.seq (.seq
  (.re [oA 10 (.mv (.t 4)),oA 11 (.mv (.t 3)),oA 12 (.bin .lss (.t 10) (.t 11))] [0,3,4,12]) (.cond (.t 12) .skip (.exit 0))) (.seq (.block 1 (.seq
  (.re [oA 15 (.mv (.t 0)),oA 16 (.mv (.t 4)),oA 17 (.call (.f 62) [aR 15,aR 16]),oA 18 (.un .not (.t 17))] [0,3,4,18]) (.cond (.t 18) (.seq
  (.re [oA 2 (.mv (.c (.bool false)))] [2]) .ret) .skip)))
  (.re [oA 13 (.mv (.t 4)),oA 14 (.bin .add (.t 13) (.ci 1)),oA 4 (.mv (.t 14))] [0,3,4])))))) (.seq
  (.re [oA 2 (.mv (.c (.bool true)))] [2]) .ret)))))

def c_impl_IsTable:F where
 np:=1
 rs:=[.t 2]
 body :=
  (.seq
  (.re [oA 2 (.mv (.c (.bool false)))] [0]) (.seq
  (.re [oA 4 (.mv (.t 0)),oA 5 (.len (.t 4)),oA 3 (.alloc [(.int .i64 0)]),oN (.st none (.t 3) (.t 5))] [0,3]) (.seq
  (.re [oA 6 (.ld none (.t 3)),oA 7 (.call (.f 35) [aR 6,((.ci 1),.r),((.ci 12),.r)]),oA 8 (.mv (.t 7)),oI 9 8 true (.mv (.t 0)),oI 10 8 true (.fnc 64 [(.t 3)]),oI 11 8 true (.call (.f 63) [aR 9,aR 10]),oI 12 8 true (.un .not (.t 11)),oA 13 (.pick (.t 8) (.t 12) (.c (.bool false))),oA 2 (.mv (.t 13))] [2]) .ret)))

def c_impl_permutationRows:F where
 np:=1
 rs:=[.t 2]
 body :=
  (.seq
  (.re [oA 2 (.mv (.c (.bool false)))] [0]) (.seq
  (.re [oA 3 (.mv (.t 0)),oA 4 (.call (.f 63) [aR 3,((.f 65),.r)]),oA 5 (.un .not (.t 4)),oA 2 (.mv (.t 5))] [2]) .ret))

def c_impl_allWithin:F where
 np:=3
 rs:=[.t 6]
 body :=
  (.seq
  (.re [oA 6 (.mv (.c (.bool false)))] [0,1,2]) (.seq (.seq
  (.re [oA 9 (.mv (.t 0)),oA 10 (.len (.t 9)),oA 11 (.mv (.ci 0))] [1,2,9,10,11]) (.block 0 (.loop (.seq
  (.re [oA 12 (.bin .lss (.t 11) (.t 10))] [1,2,9,10,11,12]) (.seq (.cond (.t 12) .skip (.exit 0)) (.seq (.block 1 (.seq
  (.re [oA 13 (.idx 1 (.t 9) (.t 11)),oA 14 (.ld none (.t 13)),oA 8 (.mv (.t 14))] [1,2,8,9,10,11]) (.seq
  (.re [oA 15 (.mv (.t 8)),oA 16 (.mv (.t 1)),oA 17 (.mv (.t 2)),oA 18 (.call (.f 35) [aR 15,aR 16,aR 17]),oA 19 (.un .not (.t 18))] [1,2,9,10,11,19]) (.cond (.t 19) (.seq
  (.re [oA 6 (.mv (.c (.bool false)))] [6]) .ret) .skip))))
  (.re [oA 20 (.bin .add (.t 11) (.ci 1)),oA 11 (.mv (.t 20))] [1,2,9,10,11]))))))) (.seq
  (.re [oA 6 (.mv (.c (.bool true)))] [6]) .ret)))

def c_spec_l02Map:F where
 np:=1
 rs:=[.t 2]
 body :=
  (.seq
  (.re [oA 1 (.box (.t 0)),oA 2 (.mv (.c (.bool false)))] [1]) (.seq
  (.re [oA 3 (.fld 0 (.t 1)),oA 4 (.ld none (.t 3)),oA 5 (.call (.f 46) [aR 4]),oA 6 (.mv (.t 5)),oI 7 6 true (.fld 1 (.t 1)),oI 8 6 true (.ld none (.t 7)),oI 9 6 true (.call (.f 46) [aR 8]),oA 10 (.pick (.t 6) (.t 9) (.c (.bool false))),oA 11 (.mv (.t 10)),oI 12 11 true (.fld 0 (.t 1)),oI 13 11 true (.ld none (.t 12)),oI 14 11 true (.len (.t 13)),oI 15 11 true (.fld 1 (.t 1)),oI 16 11 true (.ld none (.t 15)),oI 17 11 true (.len (.t 16)),oI 18 11 true (.bin .eql (.t 14) (.t 17)),oA 19 (.pick (.t 11) (.t 18) (.c (.bool false))),oA 2 (.mv (.t 19))] [2]) .ret))

def c_impl_IsPairMap:F where
 np:=1
 rs:=[.t 2]
 body :=
  (.seq
  (.re [oA 1 (.box (.t 0)),oA 2 (.mv (.c (.bool false)))] [1]) (.seq
  (.re [oA 3 (.fld 0 (.t 1)),oA 4 (.ld none (.t 3)),oA 5 (.call (.f 50) [aR 4]),oA 6 (.mv (.t 5)),oI 7 6 true (.fld 1 (.t 1)),oI 8 6 true (.ld none (.t 7)),oI 9 6 true (.call (.f 50) [aR 8]),oA 10 (.pick (.t 6) (.t 9) (.c (.bool false))),oA 11 (.mv (.t 10)),oI 12 11 true (.fld 0 (.t 1)),oI 13 11 true (.ld none (.t 12)),oI 14 11 true (.len (.t 13)),oI 15 11 true (.fld 1 (.t 1)),oI 16 11 true (.ld none (.t 15)),oI 17 11 true (.len (.t 16)),oI 18 11 true (.bin .eql (.t 14) (.t 17)),oA 19 (.pick (.t 11) (.t 18) (.c (.bool false))),oA 2 (.mv (.t 19))] [2]) .ret))

def c_spec_l01Has:F where
 np:=2
 rs:=[.t 4]
 body :=
  (.seq
  (.re [oA 4 (.mv (.c (.bool false)))] [0,1]) (.seq
  (.re [oA 5 (.mv (.t 0)),oA 6 (.mv (.t 1)),oA 7 (.call (.f 69) [aR 5,aR 6]),oA 8 (.bin .geq (.t 7) (.ci 0)),oA 4 (.mv (.t 8))] [4]) .ret))

def c_slices_ContainsFunc_____int64___int64_:F where
 np:=2
 rs:=[.t 4]
 body :=
  (.seq
  (.re [oA 4 (.mv (.c (.bool false)))] [0,1]) (.seq
  (.re [oA 5 (.mv (.t 0)),oA 6 (.mv (.t 1)),oA 7 (.call (.f 70) [aR 5,aR 6]),oA 8 (.bin .geq (.t 7) (.ci 0)),oA 4 (.mv (.t 8))] [4]) .ret))

def c_impl_IsTable_1:F where
 np:=2
 rs:=[.t 3]
 body :=
  (.seq
  (.re [oA 3 (.mv (.c (.bool false)))] [0,1]) (.seq
  (.re [oA 4 (.mv (.t 0)),oA 5 (.len (.t 4)),oA 6 (.ld none (.t 1)),oA 7 (.bin .neq (.t 5) (.t 6)),oA 8 (.mv (.t 7)),oI 9 8 false (.mv (.t 0)),oI 10 8 false (.ld none (.t 1)),oI 11 8 false (.bin .sub (.t 10) (.ci 1)),oI 12 8 false (.call (.f 54) [aR 9,((.ci 0),.r),aR 11]),oI 13 8 false (.un .not (.t 12)),oA 14 (.pick (.t 8) (.c (.bool true)) (.t 13)),oA 3 (.mv (.t 14))] [3]) .ret))

def c_impl_permutationRows_1:F where
 np:=1
 rs:=[.t 2]
 body :=
  (.seq
  (.re [oA 2 (.mv (.c (.bool false)))] [0]) (.seq
  (.re [oA 3 (.mv (.t 0)),oA 4 (.call (.f 66) [aR 3]),oA 5 (.un .not (.t 4)),oA 2 (.mv (.t 5))] [2]) .ret))

def c_impl_isPermuted:F where
 np:=1
 rs:=[.t 2]
 body :=
  (.seq
  (.re [oA 2 (.mv (.c (.bool false)))] [0]) (.seq
  (.re [oA 6 (.mv (.t 0)),oA 7 (.len (.t 6)),oA 8 (.mks (.bool false) (.t 7)),oA 3 (.asg (.t 8))] [0,3]) (.seq (.seq
  (.re [oA 9 (.mv (.t 0)),oA 10 (.len (.t 9)),oA 11 (.mv (.ci 0))] [0,3,9,10,11]) (.block 0 (.loop (.seq
  (.re [oA 12 (.bin .lss (.t 11) (.t 10))] [0,3,9,10,11,12]) (.seq (.cond (.t 12) .skip (.exit 0)) (.seq (.block 1 (.seq
  (.re [oA 13 (.idx 1 (.t 9) (.t 11)),oA 14 (.ld none (.t 13)),oA 5 (.mv (.t 14))] [0,3,5,9,10,11]) (.seq (.seq
  (.re [oA 15 (.mv (.t 5)),oA 16 (.mv (.t 0)),oA 17 (.len (.t 16)),oA 18 (.bin .sub (.t 17) (.ci 1)),oA 19 (.call (.f 35) [aR 15,((.ci 0),.r),aR 18]),oA 20 (.un .not (.t 19)),oA 21 (.mv (.t 20)),oI 22 21 false (.mv (.t 3)),oI 23 21 false (.mv (.t 5)),oI 24 21 false (.idx 1 (.t 22) (.t 23)),oI 25 21 false (.ld none (.t 24)),oA 26 (.pick (.t 21) (.c (.bool true)) (.t 25))] [0,3,5,9,10,11,26]) (.cond (.t 26) (.seq
  (.re [oA 2 (.mv (.c (.bool false)))] [2]) .ret) .skip))
  (.re [oA 27 (.mv (.t 3)),oA 28 (.mv (.t 5)),oA 29 (.idx 1 (.t 27) (.t 28)),oN (.st none (.t 29) (.c (.bool true)))] [0,3,9,10,11]))))
  (.re [oA 30 (.bin .add (.t 11) (.ci 1)),oA 11 (.mv (.t 30))] [0,3,9,10,11]))))))) (.seq
  (.re [oA 2 (.mv (.c (.bool true)))] [2]) .ret))))

def c_spec_l01Same:F where
 np:=2
 rs:=[.t 4]
 body :=
  (.seq
  (.re [oA 4 (.mv (.c (.bool false)))] [0,1]) (.seq (.seq
  (.re [oA 6 (.mv (.t 0)),oA 7 (.len (.t 6)),oA 8 (.mv (.t 1)),oA 9 (.len (.t 8)),oA 10 (.bin .neq (.t 7) (.t 9))] [0,1,10]) (.cond (.t 10) (.seq
  (.re [oA 4 (.mv (.c (.bool false)))] [4]) .ret) .skip)) (.seq (.seq
  (.re [oA 5 (.mv (.ci 0))] [0,1,5]) (.block 0 (.loop (.seq (.seq
  (.re [oA 11 (.mv (.t 5)),oA 12 (.mv (.t 0)),oA 13 (.len (.t 12)),oA 14 (.bin .lss (.t 11) (.t 13))] [0,1,5,14]) (.cond (.t 14) .skip (.exit 0))) (.seq (.block 1 (.seq
  (.region (some [17,18,19,20,21,22,23,24]) [oA 17 (.mv (.t 0)),oA 18 (.mv (.t 5)),oA 19 (.idx 1 (.t 17) (.t 18)),oA 20 (.ld none (.t 19)),oA 21 (.mv (.t 1)),oA 22 (.mv (.t 5)),oA 23 (.idx 1 (.t 21) (.t 22)),oA 24 (.ld none (.t 23)),oA 25 (.bin .neq (.t 20) (.t 24))] [0,1,5,25]) (.cond (.t 25) (.seq
  (.re [oA 4 (.mv (.c (.bool false)))] [4]) .ret) .skip)))
  (.re [oA 15 (.mv (.t 5)),oA 16 (.bin .add (.t 15) (.ci 1)),oA 5 (.mv (.t 16))] [0,1,5])))))) (.seq
  (.re [oA 4 (.mv (.c (.bool true)))] [4]) .ret))))

def c_spec_l01Index:F where
 np:=2
 rs:=[.t 4]
 body :=
  (.seq
  (.re [oA 4 (.mv (.ci 0))] [0,1]) (.seq (.seq
  (.re [oA 5 (.mv (.ci 0))] [0,1,5]) (.block 0 (.loop (.seq (.seq
  (.re [oA 6 (.mv (.t 5)),oA 7 (.mv (.t 0)),oA 8 (.len (.t 7)),oA 9 (.bin .lss (.t 6) (.t 8))] [0,1,5,9]) (.cond (.t 9) .skip (.exit 0))) (.seq (.block 1 (.seq
  (.re [oA 12 (.mv (.t 0)),oA 13 (.mv (.t 5)),oA 14 (.idx 1 (.t 12) (.t 13)),oA 15 (.ld none (.t 14)),oA 16 (.mv (.t 1)),oA 17 (.bin .eql (.t 15) (.t 16))] [0,1,5,17]) (.cond (.t 17) (.seq
  (.re [oA 18 (.mv (.t 5)),oA 4 (.mv (.t 18))] [4]) .ret) .skip)))
  (.re [oA 10 (.mv (.t 5)),oA 11 (.bin .add (.t 10) (.ci 1)),oA 5 (.mv (.t 11))] [0,1,5])))))) (.seq
  (.re [oA 4 (.mv (.c (.int .i64 (-1))))] [4]) .ret)))

def c_slices_IndexFunc_____int64___int64_:F where
 np:=2
 rs:=[.t 4]
 body :=
  (.seq
  (.re [oA 4 (.mv (.ci 0))] [0,1]) (.seq (.seq
  (.re [oA 6 (.mv (.t 0)),oA 7 (.len (.t 6)),oA 8 (.mv (.ci 0))] [0,1,7,8]) (.block 0 (.loop (.seq
  (.re [oA 9 (.bin .lss (.t 8) (.t 7))] [0,1,7,8,9]) (.seq (.cond (.t 9) .skip (.exit 0)) (.seq (.block 1 (.seq
  (.re [oA 10 (.mv (.t 8)),oA 5 (.mv (.t 10))] [0,1,5,7,8]) (.seq
  (.re [oA 11 (.mv (.t 1)),oA 12 (.mv (.t 0)),oA 13 (.mv (.t 5)),oA 14 (.idx 1 (.t 12) (.t 13)),oA 15 (.ld none (.t 14)),oA 16 (.call (.t 11) [aR 15])] [0,1,5,7,8,16]) (.cond (.t 16) (.seq
  (.re [oA 17 (.mv (.t 5)),oA 4 (.mv (.t 17))] [4]) .ret) .skip))))
  (.re [oA 18 (.bin .add (.t 8) (.ci 1)),oA 8 (.mv (.t 18))] [0,1,7,8]))))))) (.seq
  (.re [oA 4 (.mv (.c (.int .i64 (-1))))] [4]) .ret)))

end Go.Mch
