/- Compact code of the functions that statements 5,6 and 8 to 12 reach further. -/
import Derived.Test.YtmlknafdnccddaaGreatM1
namespace Go.Mch

def c_spec_l02Good:F where
 np:=1
 rs:=[.t 2]
 body :=
  (.seq
  (.re [oA 1 (.box (.t 0)),oA 2 (.mv (.c (.bool false)))] [1]) (.seq
  (.re [oA 3 (.fld 0 (.t 1)),oA 4 (.ld none (.t 3)),oA 5 (.call (.f 410) [aR 4]),oA 6 (.mv (.t 5)),oI 7 6 true (.fld 1 (.t 1)),oI 8 6 true (.ld none (.t 7)),oI 9 6 true (.call (.f 265) [aR 8]),oI 10 6 true (.call (.f 410) [aR 9]),oA 11 (.pick (.t 6) (.t 10) (.c (.bool false))),oA 2 (.mv (.t 11))] [2]) .ret))

def c_spec_l01Rows:F where
 np:=1
 rs:=[.t 2]
 body :=
  (.seq
  (.re [oA 2 (.mv (.c (.bool false)))] [0]) (.seq (.seq
  (.re [oA 3 (.mv (.ci 0))] [0,3]) (.block 0 (.loop (.seq (.seq
  (.re [oA 4 (.mv (.t 3)),oA 5 (.mv (.t 0)),oA 6 (.len (.t 5)),oA 7 (.bin .lss (.t 4) (.t 6))] [0,3,7]) (.cond (.t 7) .skip (.exit 0))) (.seq (.block 1 (.seq
  (.re [oA 10 (.mv (.t 0)),oA 11 (.mv (.t 3)),oA 12 (.idx 1 (.t 10) (.t 11)),oA 13 (.ld none (.t 12)),oA 14 (.call (.f 47) [aR 13]),oA 15 (.un .not (.t 14))] [0,3,15]) (.cond (.t 15) (.seq
  (.re [oA 2 (.mv (.c (.bool false)))] [2]) .ret) .skip)))
  (.re [oA 8 (.mv (.t 3)),oA 9 (.bin .add (.t 8) (.ci 1)),oA 3 (.mv (.t 9))] [0,3])))))) (.seq
  (.re [oA 2 (.mv (.c (.bool true)))] [2]) .ret)))

def c_spec_l01Turn:F where
 np:=1
 rs:=[.t 2]
 body :=
  (.seq
  (.re [oA 2 (.asg (.c (.slice none 0 0)))] [0]) (.seq
  (.re [oA 5 (.bsl []),oA 3 (.asg (.t 5))] [0,3]) (.seq (.seq
  (.re [oA 4 (.mv (.ci 0))] [0,3,4]) (.block 0 (.loop (.seq (.seq
  (.re [oA 6 (.mv (.t 4)),oA 7 (.mv (.t 0)),oA 8 (.len (.t 7)),oA 9 (.bin .lss (.t 6) (.t 8))] [0,3,4,9]) (.cond (.t 9) .skip (.exit 0))) (.seq (.block 1
  (.re [oA 12 (.mv (.t 3)),oA 13 (.mv (.t 0)),oA 14 (.mv (.t 4)),oA 15 (.call (.f 375) [aR 13,aR 14]),oA 16 (.bsl [(.t 15)]),oA 17 (.app true 1 (.t 12) (.t 16)),oA 3 (.asg (.t 17))] [0,3,4]))
  (.re [oA 10 (.mv (.t 4)),oA 11 (.bin .add (.t 10) (.ci 1)),oA 4 (.mv (.t 11))] [0,3,4])))))) (.seq
  (.re [oA 18 (.mv (.t 3)),oA 2 (.asg (.t 18))] [2]) .ret))))

def c_spec_l01Column:F where
 np:=2
 rs:=[.t 4]
 body :=
  (.seq
  (.re [oA 4 (.asg (.c (.slice none 0 0)))] [0,1]) (.seq
  (.re [oA 7 (.bsl []),oA 5 (.asg (.t 7))] [0,1,5]) (.seq (.seq
  (.re [oA 6 (.mv (.ci 0))] [0,1,5,6]) (.block 0 (.loop (.seq (.seq
  (.re [oA 8 (.mv (.t 6)),oA 9 (.mv (.t 0)),oA 10 (.len (.t 9)),oA 11 (.bin .lss (.t 8) (.t 10))] [0,1,5,6,11]) (.cond (.t 11) .skip (.exit 0))) (.seq (.block 1
  (.re [oA 14 (.mv (.t 5)),oA 15 (.mv (.t 0)),oA 16 (.mv (.t 6)),oA 17 (.idx 1 (.t 15) (.t 16)),oA 18 (.ld none (.t 17)),oA 19 (.mv (.t 1)),oA 20 (.idx 1 (.t 18) (.t 19)),oA 21 (.ld none (.t 20)),oA 22 (.bsl [(.t 21)]),oA 23 (.app true 1 (.t 14) (.t 22)),oA 5 (.asg (.t 23))] [0,1,5,6]))
  (.re [oA 12 (.mv (.t 6)),oA 13 (.bin .add (.t 12) (.ci 1)),oA 6 (.mv (.t 13))] [0,1,5,6])))))) (.seq
  (.re [oA 24 (.mv (.t 5)),oA 4 (.asg (.t 24))] [4]) .ret))))

def c_impl_transposed:F where
 np:=1
 rs:=[.t 2]
 body :=
  (.seq
  (.re [oA 1 (.box (.t 0)),oA 2 (.asg (.c (.slice none 0 0)))] [1]) (.seq
  (.re [oA 3 (.ld none (.t 1)),oA 4 (.len (.t 3)),oA 5 (.fnc 377 [(.t 1)]),oA 6 (.call (.f 376) [aR 4,aR 5]),oA 2 (.asg (.t 6))] [2]) .ret))

def c_impl_transposed_1:F where
 np:=3
 rs:=[.t 5]
 body :=
  (.seq
  (.re [oA 5 (.mv (.ci 0))] [0,1,2]) (.seq
  (.re [oA 6 (.ld none (.t 2)),oA 7 (.mv (.t 1)),oA 8 (.idx 1 (.t 6) (.t 7)),oA 9 (.ld none (.t 8)),oA 10 (.mv (.t 0)),oA 11 (.idx 1 (.t 9) (.t 10)),oA 12 (.ld none (.t 11)),oA 5 (.mv (.t 12))] [5]) .ret))

def c_impl_tableBy:F where
 np:=2
 rs:=[.t 4]
 body :=
  (.seq
  (.re [oA 4 (.asg (.c (.slice none 0 0)))] [0,1]) (.seq
  (.re [oA 8 (.mv (.t 0)),oA 9 (.mks (.slice none 0 0) (.t 8)),oA 5 (.asg (.t 9))] [0,1,5]) (.seq (.seq
  (.re [oA 10 (.mv (.t 5)),oA 11 (.len (.t 10)),oA 12 (.mv (.ci 0))] [0,1,5,11,12]) (.block 0 (.loop (.seq
  (.re [oA 13 (.bin .lss (.t 12) (.t 11))] [0,1,5,11,12,13]) (.seq (.cond (.t 13) .skip (.exit 0)) (.seq (.block 1 (.seq
  (.re [oA 14 (.mv (.t 12)),oA 6 (.mv (.t 14))] [0,1,5,6,11,12]) (.seq
  (.re [oA 15 (.mv (.t 5)),oA 16 (.mv (.t 6)),oA 17 (.mv (.t 0)),oA 18 (.mks (.int .i64 0) (.t 17)),oA 19 (.idx 1 (.t 15) (.t 16)),oN (.st none (.t 19) (.t 18))] [0,1,5,6,11,12]) (.seq
  (.re [oA 20 (.mv (.t 5)),oA 21 (.mv (.t 6)),oA 22 (.idx 1 (.t 20) (.t 21)),oA 23 (.ld none (.t 22)),oA 24 (.len (.t 23)),oA 25 (.mv (.ci 0))] [0,1,5,6,11,12,24,25]) (.block 2 (.loop (.seq
  (.re [oA 26 (.bin .lss (.t 25) (.t 24))] [0,1,5,6,11,12,24,25,26]) (.seq (.cond (.t 26) .skip (.exit 2)) (.seq (.block 3 (.seq
  (.re [oA 27 (.mv (.t 25)),oA 7 (.mv (.t 27))] [0,1,5,6,7,11,12,24,25])
  (.region (some [28,29,30,31,32,33,34,35,36]) [oA 28 (.mv (.t 5)),oA 29 (.mv (.t 6)),oA 30 (.idx 1 (.t 28) (.t 29)),oA 31 (.ld none (.t 30)),oA 32 (.mv (.t 7)),oA 33 (.mv (.t 1)),oA 34 (.mv (.t 6)),oA 35 (.mv (.t 7)),oA 36 (.call (.t 33) [aR 34,aR 35]),oA 37 (.idx 1 (.t 31) (.t 32)),oN (.st none (.t 37) (.t 36))] [0,1,5,6,11,12,24,25])))
  (.re [oA 38 (.bin .add (.t 25) (.ci 1)),oA 25 (.mv (.t 38))] [0,1,5,6,11,12,24,25]))))))))))
  (.re [oA 39 (.bin .add (.t 12) (.ci 1)),oA 12 (.mv (.t 39))] [0,1,5,11,12]))))))) (.seq
  (.re [oA 40 (.mv (.t 5)),oA 4 (.asg (.t 40))] [4]) .ret))))

def c_spec_l01Then:F where
 np:=2
 rs:=[.t 4]
 body :=
  (.seq
  (.re [oA 4 (.asg (.c (.slice none 0 0)))] [0,1]) (.seq
  (.re [oA 7 (.bsl []),oA 5 (.asg (.t 7))] [0,1,5]) (.seq (.seq
  (.re [oA 6 (.mv (.ci 0))] [0,1,5,6]) (.block 0 (.loop (.seq (.seq
  (.re [oA 8 (.mv (.t 6)),oA 9 (.mv (.t 0)),oA 10 (.len (.t 9)),oA 11 (.bin .lss (.t 8) (.t 10))] [0,1,5,6,11]) (.cond (.t 11) .skip (.exit 0))) (.seq (.block 1
  (.re [oA 14 (.mv (.t 5)),oA 15 (.mv (.t 1)),oA 16 (.mv (.t 0)),oA 17 (.mv (.t 6)),oA 18 (.idx 1 (.t 16) (.t 17)),oA 19 (.ld none (.t 18)),oA 20 (.idx 1 (.t 15) (.t 19)),oA 21 (.ld none (.t 20)),oA 22 (.bsl [(.t 21)]),oA 23 (.app true 1 (.t 14) (.t 22)),oA 5 (.asg (.t 23))] [0,1,5,6]))
  (.re [oA 12 (.mv (.t 6)),oA 13 (.bin .add (.t 12) (.ci 1)),oA 6 (.mv (.t 13))] [0,1,5,6])))))) (.seq
  (.re [oA 24 (.mv (.t 5)),oA 4 (.asg (.t 24))] [4]) .ret))))

def c_spec_l01Own2:F where
 np:=1
 rs:=[.t 2]
 body :=
  (.seq
  (.re [oA 2 (.asg (.c (.slice none 0 0)))] [0]) (.seq
  (.re [oA 5 (.bsl []),oA 3 (.asg (.t 5))] [0,3]) (.seq (.seq
  (.re [oA 4 (.mv (.ci 0))] [0,3,4]) (.block 0 (.loop (.seq (.seq
  (.re [oA 6 (.mv (.t 4)),oA 7 (.mv (.t 0)),oA 8 (.len (.t 7)),oA 9 (.bin .lss (.t 6) (.t 8))] [0,3,4,9]) (.cond (.t 9) .skip (.exit 0))) (.seq (.block 1
  (.re [oA 12 (.mv (.t 3)),oA 13 (.mv (.t 0)),oA 14 (.mv (.t 4)),oA 15 (.idx 1 (.t 13) (.t 14)),oA 16 (.ld none (.t 15)),oA 17 (.call (.f 31) [aR 16]),oA 18 (.bsl [(.t 17)]),oA 19 (.app true 1 (.t 12) (.t 18)),oA 3 (.asg (.t 19))] [0,3,4]))
  (.re [oA 10 (.mv (.t 4)),oA 11 (.bin .add (.t 10) (.ci 1)),oA 4 (.mv (.t 11))] [0,3,4])))))) (.seq
  (.re [oA 20 (.mv (.t 3)),oA 2 (.asg (.t 20))] [2]) .ret))))

def c_impl_indexIn:F where
 np:=2
 rs:=[.t 4]
 body :=
  (.seq
  (.re [oA 4 (.mv (.ci 0))] [0,1]) (.seq
  (.re [oA 5 (.mv (.t 0)),oA 6 (.mv (.t 1)),oA 7 (.call (.f 384) [aR 5,aR 6]),oA 4 (.mv (.t 7))] [4]) .ret))

def c_slices_Index___int64_int64_:F where
 np:=2
 rs:=[.t 4]
 body :=
  (.seq
  (.re [oA 4 (.mv (.ci 0))] [0,1]) (.seq (.seq
  (.re [oA 6 (.mv (.t 0)),oA 7 (.len (.t 6)),oA 8 (.mv (.ci 0))] [0,1,7,8]) (.block 0 (.loop (.seq
  (.re [oA 9 (.bin .lss (.t 8) (.t 7))] [0,1,7,8,9]) (.seq (.cond (.t 9) .skip (.exit 0)) (.seq (.block 1 (.seq
  (.re [oA 10 (.mv (.t 8)),oA 5 (.mv (.t 10))] [0,1,5,7,8]) (.seq
  (.re [oA 11 (.mv (.t 1)),oA 12 (.mv (.t 0)),oA 13 (.mv (.t 5)),oA 14 (.idx 1 (.t 12) (.t 13)),oA 15 (.ld none (.t 14)),oA 16 (.bin .eql (.t 11) (.t 15))] [0,1,5,7,8,16]) (.cond (.t 16) (.seq
  (.re [oA 17 (.mv (.t 5)),oA 4 (.mv (.t 17))] [4]) .ret) .skip))))
  (.re [oA 18 (.bin .add (.t 8) (.ci 1)),oA 8 (.mv (.t 18))] [0,1,7,8]))))))) (.seq
  (.re [oA 4 (.mv (.c (.int .i64 (-1))))] [4]) .ret)))

end Go.Mch
