/- Compact code of the functions that statements 13 to 36 reach further. -/
import Derived.Test.YtmlknafdnccddaaGreatM1
namespace Go.Mch

def c_spec_l01Unit:F where
 np:=1
 rs:=[.t 2]
 body :=
  (.seq
  (.re [oA 2 (.asg (.c (.slice none 0 0)))] [0]) (.seq
  (.re [oA 5 (.bsl []),oA 3 (.asg (.t 5))] [0,3]) (.seq (.seq
  (.re [oA 4 (.mv (.ci 0))] [0,3,4]) (.block 0 (.loop (.seq (.seq
  (.re [oA 6 (.mv (.t 4)),oA 7 (.mv (.t 0)),oA 8 (.bin .lss (.t 6) (.t 7))] [0,3,4,8]) (.cond (.t 8) .skip (.exit 0))) (.seq (.block 1
  (.re [oA 11 (.mv (.t 3)),oA 12 (.mv (.t 4)),oA 13 (.bsl [(.t 12)]),oA 14 (.app true 1 (.t 11) (.t 13)),oA 3 (.asg (.t 14))] [0,3,4]))
  (.re [oA 9 (.mv (.t 4)),oA 10 (.bin .add (.t 9) (.ci 1)),oA 4 (.mv (.t 10))] [0,3,4])))))) (.seq
  (.re [oA 15 (.mv (.t 3)),oA 2 (.asg (.t 15))] [2]) .ret))))

def c_spec_l01Less:F where
 np:=2
 rs:=[.t 4]
 body :=
  (.seq
  (.re [oA 4 (.mv (.c (.bool false)))] [0,1]) (.seq (.seq
  (.re [oA 5 (.mv (.ci 0))] [0,1,5]) (.block 0 (.loop (.seq (.seq
  (.re [oA 6 (.mv (.t 5)),oA 7 (.mv (.t 0)),oA 8 (.len (.t 7)),oA 9 (.bin .lss (.t 6) (.t 8)),oA 10 (.mv (.t 9)),oI 11 10 true (.mv (.t 5)),oI 12 10 true (.mv (.t 1)),oI 13 10 true (.len (.t 12)),oI 14 10 true (.bin .lss (.t 11) (.t 13)),oA 15 (.pick (.t 10) (.t 14) (.c (.bool false)))] [0,1,5,15]) (.cond (.t 15) .skip (.exit 0))) (.seq (.block 1 (.seq
  (.region (some [18,19,20,21,22,23,24,25]) [oA 18 (.mv (.t 0)),oA 19 (.mv (.t 5)),oA 20 (.idx 1 (.t 18) (.t 19)),oA 21 (.ld none (.t 20)),oA 22 (.mv (.t 1)),oA 23 (.mv (.t 5)),oA 24 (.idx 1 (.t 22) (.t 23)),oA 25 (.ld none (.t 24)),oA 26 (.bin .neq (.t 21) (.t 25))] [0,1,5,26]) (.cond (.t 26) (.seq
  (.region (some [27,28,29,30,31,32,33,34]) [oA 27 (.mv (.t 0)),oA 28 (.mv (.t 5)),oA 29 (.idx 1 (.t 27) (.t 28)),oA 30 (.ld none (.t 29)),oA 31 (.mv (.t 1)),oA 32 (.mv (.t 5)),oA 33 (.idx 1 (.t 31) (.t 32)),oA 34 (.ld none (.t 33)),oA 35 (.bin .lss (.t 30) (.t 34)),oA 4 (.mv (.t 35))] [4]) .ret) .skip)))
  (.re [oA 16 (.mv (.t 5)),oA 17 (.bin .add (.t 16) (.ci 1)),oA 5 (.mv (.t 17))] [0,1,5])))))) (.seq
  (.re [oA 36 (.mv (.t 0)),oA 37 (.len (.t 36)),oA 38 (.mv (.t 1)),oA 39 (.len (.t 38)),oA 40 (.bin .lss (.t 37) (.t 39)),oA 4 (.mv (.t 40))] [4]) .ret)))

def c_spec_l01Back:F where
 np:=1
 rs:=[.t 2]
 body :=
  (.seq
  (.re [oA 2 (.asg (.c (.slice none 0 0)))] [0]) (.seq
  (.re [oA 5 (.mv (.t 0)),oA 6 (.len (.t 5)),oA 7 (.mks (.int .i64 0) (.t 6)),oA 3 (.asg (.t 7))] [0,3]) (.seq (.seq
  (.re [oA 4 (.mv (.ci 0))] [0,3,4]) (.block 0 (.loop (.seq (.seq
  (.re [oA 8 (.mv (.t 4)),oA 9 (.mv (.t 0)),oA 10 (.len (.t 9)),oA 11 (.bin .lss (.t 8) (.t 10))] [0,3,4,11]) (.cond (.t 11) .skip (.exit 0))) (.seq (.block 1
  (.re [oA 14 (.mv (.t 3)),oA 15 (.mv (.t 0)),oA 16 (.mv (.t 4)),oA 17 (.idx 1 (.t 15) (.t 16)),oA 18 (.ld none (.t 17)),oA 19 (.mv (.t 4)),oA 20 (.idx 1 (.t 14) (.t 18)),oN (.st none (.t 20) (.t 19))] [0,3,4]))
  (.re [oA 12 (.mv (.t 4)),oA 13 (.bin .add (.t 12) (.ci 1)),oA 4 (.mv (.t 13))] [0,3,4])))))) (.seq
  (.re [oA 21 (.mv (.t 3)),oA 2 (.asg (.t 21))] [2]) .ret))))

def c_impl_renamed:F where
 np:=2
 rs:=[.t 4]
 body :=
  (.seq
  (.re [oA 2 (.box (.t 0)),oA 3 (.box (.t 1)),oA 4 (.asg (.c (.slice none 0 0)))] [2,3]) (.seq
  (.re [oA 6 (.ld none (.t 3)),oA 7 (.call (.f 307) [aR 6]),oA 5 (.alloc [(.slice none 0 0)]),oN (.st none (.t 5) (.t 7))] [2,3,5]) (.seq
  (.re [oA 8 (.ld none (.t 2)),oA 9 (.len (.t 8)),oA 10 (.fnc 390 [(.t 3),(.t 2),(.t 5)]),oA 11 (.call (.f 376) [aR 9,aR 10]),oA 4 (.asg (.t 11))] [4]) .ret)))

def c_impl_inverse:F where
 np:=1
 rs:=[.t 2]
 body :=
  (.seq
  (.re [oA 2 (.asg (.c (.slice none 0 0)))] [0]) (.seq
  (.re [oA 6 (.mv (.t 0)),oA 7 (.len (.t 6)),oA 8 (.mks (.int .i64 0) (.t 7)),oA 3 (.asg (.t 8))] [0,3]) (.seq (.seq
  (.re [oA 9 (.mv (.t 0)),oA 10 (.len (.t 9)),oA 11 (.mv (.ci 0))] [3,9,10,11]) (.block 0 (.loop (.seq
  (.re [oA 12 (.bin .lss (.t 11) (.t 10))] [3,9,10,11,12]) (.seq (.cond (.t 12) .skip (.exit 0)) (.seq (.block 1 (.seq
  (.re [oA 13 (.mv (.t 11)),oA 14 (.idx 1 (.t 9) (.t 11)),oA 15 (.ld none (.t 14)),oA 4 (.mv (.t 13)),oA 5 (.mv (.t 15))] [3,4,5,9,10,11])
  (.re [oA 16 (.mv (.t 3)),oA 17 (.mv (.t 5)),oA 18 (.mv (.t 4)),oA 19 (.idx 1 (.t 16) (.t 17)),oN (.st none (.t 19) (.t 18))] [3,9,10,11])))
  (.re [oA 20 (.bin .add (.t 11) (.ci 1)),oA 11 (.mv (.t 20))] [3,9,10,11]))))))) (.seq
  (.re [oA 21 (.mv (.t 3)),oA 2 (.asg (.t 21))] [2]) .ret))))

def c_impl_renamed_1:F where
 np:=5
 rs:=[.t 7]
 body :=
  (.seq
  (.re [oA 7 (.mv (.ci 0))] [0,1,2,3,4]) (.seq
  (.region (some [8,9,10,11,12,13,14,15,16,17,18,19,20,21]) [oA 8 (.ld none (.t 2)),oA 9 (.ld none (.t 3)),oA 10 (.ld none (.t 4)),oA 11 (.mv (.t 0)),oA 12 (.idx 1 (.t 10) (.t 11)),oA 13 (.ld none (.t 12)),oA 14 (.idx 1 (.t 9) (.t 13)),oA 15 (.ld none (.t 14)),oA 16 (.ld none (.t 4)),oA 17 (.mv (.t 1)),oA 18 (.idx 1 (.t 16) (.t 17)),oA 19 (.ld none (.t 18)),oA 20 (.idx 1 (.t 15) (.t 19)),oA 21 (.ld none (.t 20)),oA 22 (.idx 1 (.t 8) (.t 21)),oA 23 (.ld none (.t 22)),oA 7 (.mv (.t 23))] [7]) .ret))

def c_impl_solutionBy:F where
 np:=2
 rs:=[.cell 4 (some 2)]
 body :=
  (.seq
  (.re [oA 3 (.box (.t 1)),oA 4 (.alloc [(.slice none 0 0),(.slice none 0 0)])] [0,3,4]) (.seq
  (.re [oA 5 (.mv (.t 0)),oA 6 (.fnc 391 [(.t 3)]),oA 7 (.call (.f 376) [aR 5,aR 6]),oA 8 (.mv (.t 0)),oA 9 (.fnc 392 [(.t 3)]),oA 10 (.call (.f 376) [aR 8,aR 9]),oA 11 (.build [(.slice none 0 0),(.slice none 0 0)] [(0,1,(.t 7)),(1,1,(.t 10))]),oN (.st (some 2) (.t 4) (.t 11))] [4]) .ret))

def c_impl_solutionBy_1:F where
 np:=3
 rs:=[.t 5]
 body :=
  (.seq
  (.re [oA 5 (.mv (.ci 0))] [0,1,2]) (.seq
  (.re [oA 9 (.ld none (.t 2)),oA 10 (.mv (.t 0)),oA 11 (.mv (.t 1)),oA 12 (.call (.t 9) [aR 10,aR 11]),oA 8 (.mv (.t 12)),oA 13 (.ext (.t 8) 0),oA 14 (.ext (.t 8) 1),oA 6 (.mv (.t 13)),oA 7 (.mv (.t 14))] [6]) (.seq
  (.re [oA 15 (.mv (.t 6)),oA 5 (.mv (.t 15))] [5]) .ret)))

def c_impl_solutionBy_2:F where
 np:=3
 rs:=[.t 5]
 body :=
  (.seq
  (.re [oA 5 (.mv (.ci 0))] [0,1,2]) (.seq
  (.re [oA 9 (.ld none (.t 2)),oA 10 (.mv (.t 0)),oA 11 (.mv (.t 1)),oA 12 (.call (.t 9) [aR 10,aR 11]),oA 8 (.mv (.t 12)),oA 13 (.ext (.t 8) 0),oA 14 (.ext (.t 8) 1),oA 6 (.mv (.t 13)),oA 7 (.mv (.t 14))] [7]) (.seq
  (.re [oA 15 (.mv (.t 7)),oA 5 (.mv (.t 15))] [5]) .ret)))

def c_spec_l02Empty:F where
 np:=1
 rs:=[.cell 2 (some 2)]
 body :=
  (.seq
  (.re [oA 2 (.alloc [(.slice none 0 0),(.slice none 0 0)])] [0,2]) (.seq
  (.re [oA 5 (.build [(.slice none 0 0),(.slice none 0 0)] []),oA 3 (.alloc [(.slice none 0 0),(.slice none 0 0)]),oN (.st (some 2) (.t 3) (.t 5))] [0,2,3]) (.seq (.seq
  (.re [oA 4 (.mv (.ci 0))] [0,2,3,4]) (.block 0 (.loop (.seq (.seq
  (.re [oA 6 (.mv (.t 4)),oA 7 (.mv (.t 0)),oA 8 (.bin .lss (.t 6) (.t 7))] [0,2,3,4,8]) (.cond (.t 8) .skip (.exit 0))) (.seq (.block 1 (.seq
  (.region (some [11,12,13,14,15]) [oA 11 (.fld 0 (.t 3)),oA 12 (.ld none (.t 11)),oA 13 (.mv (.t 0)),oA 14 (.mks (.int .i64 0) (.t 13)),oA 15 (.bsl1 14),oA 16 (.app true 1 (.t 12) (.t 15)),oA 17 (.fld 0 (.t 3)),oN (.st none (.t 17) (.t 16))] [0,2,3,4])
  (.region (some [18,19,20,21,22]) [oA 18 (.fld 1 (.t 3)),oA 19 (.ld none (.t 18)),oA 20 (.mv (.t 0)),oA 21 (.mks (.int .i64 0) (.t 20)),oA 22 (.bsl1 21),oA 23 (.app true 1 (.t 19) (.t 22)),oA 24 (.fld 1 (.t 3)),oN (.st none (.t 24) (.t 23))] [0,2,3,4])))
  (.re [oA 9 (.mv (.t 4)),oA 10 (.bin .add (.t 9) (.ci 1)),oA 4 (.mv (.t 10))] [0,2,3,4])))))) (.seq
  (.re [oA 25 (.ld (some 2) (.t 3)),oN (.st (some 2) (.t 2) (.t 25))] [2]) .ret))))

end Go.Mch
