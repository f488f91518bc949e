/- Compact code of the functions that statements 13 to 36 reach further. -/
import Derived.Test.YtkcgdmjdkbgmkaaGreatM1
namespace Go.Mch

def c_spec_l01Unit:F where
 np:=1
 rs:=[.t 2]
 body :=
  (.seq
  (.re [oA 2 (.asg (.c (.slice none 0 0)))] [0]) (.seq
  (.re [oA 5 (.bsl []),oA 3 (.asg (.t 5))] [0,3]) (.seq (.seq
  (.re [oA 4 (.mv (.ci 0))] [0,3,4]) (.block 0 (.loop (.seq (.seq
  (.re [oA 6 (.mv (.t 4)),oA 7 (.mv (.t 0)),oA 8 (.bin .lss (.t 6) (.t 7))] [0,3,4,8]) (.cond (.t 8) .skip (.exit 0))) (.seq (.block 1
  (.re [oA 11 (.mv (.t 3)),oA 12 (.mv (.t 4)),oA 13 (.bsl [(.t 12)]),oA 14 (.app true 1 (.t 11) (.t 13)),oA 3 (.asg (.t 14))] [0,3,4]))
  (.re [oA 9 (.mv (.t 4)),oA 10 (.bin .add (.t 9) (.ci 1)),oA 4 (.mv (.t 10))] [0,3,4])))))) (.seq
  (.re [oA 15 (.mv (.t 3)),oA 2 (.asg (.t 15))] [2]) .ret))))

def c_spec_l01Put:F where
 np:=2
 rs:=[.t 4,.t 5]
 fix:=[0,1]
 body :=
  (.seq
  (.re [oA 4 (.asg (.c (.slice none 0 0))),oA 5 (.mv (.c (.bool false)))] [0,1]) (.seq
  (.re [oA 11 (.mv (.t 0)),oA 12 (.len (.t 11)),oA 6 (.mv (.ci 0)),oA 7 (.mv (.t 12))] [0,1,6,7]) (.seq (.block 0 (.loop (.seq (.seq
  (.re [oA 13 (.mv (.t 6)),oA 14 (.mv (.t 7)),oA 15 (.bin .lss (.t 13) (.t 14))] [0,1,6,7,15]) (.cond (.t 15) .skip (.exit 0))) (.block 1 (.seq
  (.re [oA 16 (.mv (.t 6)),oA 17 (.mv (.t 7)),oA 18 (.bin .add (.t 16) (.t 17)),oA 19 (.bin .quo (.t 18) (.ci 2)),oA 8 (.mv (.t 19))] [0,1,6,7,8]) (.seq
  (.re [oA 20 (.mv (.t 0)),oA 21 (.mv (.t 8)),oA 22 (.idx 1 (.t 20) (.t 21)),oA 23 (.ld none (.t 22)),oA 24 (.mv (.t 1)),oA 25 (.call (.f 408) [aR 23,aR 24])] [0,1,6,7,8,25]) (.cond (.t 25)
  (.re [oA 26 (.mv (.t 8)),oA 27 (.bin .add (.t 26) (.ci 1)),oA 6 (.mv (.t 27))] [0,1,6,7])
  (.re [oA 28 (.mv (.t 8)),oA 7 (.mv (.t 28))] [0,1,6,7])))))))) (.seq (.seq
  (.re [oA 29 (.mv (.t 6)),oA 30 (.mv (.t 0)),oA 31 (.len (.t 30)),oA 32 (.bin .lss (.t 29) (.t 31)),oA 33 (.mv (.t 32)),oI 34 33 true (.mv (.t 0)),oI 35 33 true (.mv (.t 6)),oI 36 33 true (.idx 1 (.t 34) (.t 35)),oI 37 33 true (.ld none (.t 36)),oI 38 33 true (.mv (.t 1)),oI 39 33 true (.call (.f 67) [aR 37,aR 38]),oA 40 (.pick (.t 33) (.t 39) (.c (.bool false)))] [0,1,6,40]) (.cond (.t 40) (.seq
  (.re [oA 41 (.mv (.t 0)),oA 4 (.asg (.t 41)),oA 5 (.mv (.c (.bool false)))] [0,1,4,5]) .ret) .skip)) (.seq
  (.re [oA 42 (.mv (.t 0)),oA 43 (.mv (.t 1)),oA 44 (.bsl [(.t 43)]),oA 45 (.app true 1 (.t 42) (.t 44)),oA 9 (.asg (.t 45))] [0,1,6,9]) (.seq (.seq
  (.re [oA 46 (.mv (.t 9)),oA 47 (.len (.t 46)),oA 48 (.bin .sub (.t 47) (.ci 1)),oA 10 (.mv (.t 48))] [0,1,6,9,10]) (.block 2 (.loop (.seq (.seq
  (.re [oA 49 (.mv (.t 10)),oA 50 (.mv (.t 6)),oA 51 (.bin .gtr (.t 49) (.t 50))] [0,1,6,9,10,51]) (.cond (.t 51) .skip (.exit 2))) (.seq (.block 3
  (.re [oA 54 (.mv (.t 9)),oA 55 (.mv (.t 10)),oA 56 (.mv (.t 9)),oA 57 (.mv (.t 10)),oA 58 (.bin .sub (.t 57) (.ci 1)),oA 59 (.idx 1 (.t 56) (.t 58)),oA 60 (.ld none (.t 59)),oA 61 (.idx 1 (.t 54) (.t 55)),oN (.st none (.t 61) (.t 60))] [0,1,6,9,10]))
  (.re [oA 52 (.mv (.t 10)),oA 53 (.bin .sub (.t 52) (.ci 1)),oA 10 (.mv (.t 53))] [0,1,6,9,10])))))) (.seq
  (.re [oA 62 (.mv (.t 9)),oA 63 (.mv (.t 6)),oA 64 (.mv (.t 1)),oA 65 (.idx 1 (.t 62) (.t 63)),oN (.st none (.t 65) (.t 64))] [0,1,9]) (.seq
  (.re [oA 66 (.mv (.t 9)),oA 4 (.asg (.t 66)),oA 5 (.mv (.c (.bool true)))] [0,1,4,5]) .ret))))))))

def c_spec_l01Less:F where
 np:=2
 rs:=[.t 4]
 body :=
  (.seq
  (.re [oA 4 (.mv (.c (.bool false)))] [0,1]) (.seq (.seq
  (.re [oA 5 (.mv (.ci 0))] [0,1,5]) (.block 0 (.loop (.seq (.seq
  (.re [oA 6 (.mv (.t 5)),oA 7 (.mv (.t 0)),oA 8 (.len (.t 7)),oA 9 (.bin .lss (.t 6) (.t 8)),oA 10 (.mv (.t 9)),oI 11 10 true (.mv (.t 5)),oI 12 10 true (.mv (.t 1)),oI 13 10 true (.len (.t 12)),oI 14 10 true (.bin .lss (.t 11) (.t 13)),oA 15 (.pick (.t 10) (.t 14) (.c (.bool false)))] [0,1,5,15]) (.cond (.t 15) .skip (.exit 0))) (.seq (.block 1 (.seq
  (.region (some [18,19,20,21,22,23,24,25]) [oA 18 (.mv (.t 0)),oA 19 (.mv (.t 5)),oA 20 (.idx 1 (.t 18) (.t 19)),oA 21 (.ld none (.t 20)),oA 22 (.mv (.t 1)),oA 23 (.mv (.t 5)),oA 24 (.idx 1 (.t 22) (.t 23)),oA 25 (.ld none (.t 24)),oA 26 (.bin .neq (.t 21) (.t 25))] [0,1,5,26]) (.cond (.t 26) (.seq
  (.region (some [27,28,29,30,31,32,33,34]) [oA 27 (.mv (.t 0)),oA 28 (.mv (.t 5)),oA 29 (.idx 1 (.t 27) (.t 28)),oA 30 (.ld none (.t 29)),oA 31 (.mv (.t 1)),oA 32 (.mv (.t 5)),oA 33 (.idx 1 (.t 31) (.t 32)),oA 34 (.ld none (.t 33)),oA 35 (.bin .lss (.t 30) (.t 34)),oA 4 (.mv (.t 35))] [4]) .ret) .skip)))
  (.re [oA 16 (.mv (.t 5)),oA 17 (.bin .add (.t 16) (.ci 1)),oA 5 (.mv (.t 17))] [0,1,5])))))) (.seq
  (.re [oA 36 (.mv (.t 0)),oA 37 (.len (.t 36)),oA 38 (.mv (.t 1)),oA 39 (.len (.t 38)),oA 40 (.bin .lss (.t 37) (.t 39)),oA 4 (.mv (.t 40))] [4]) .ret)))

def c_impl_digitsText:F where
 np:=1
 rs:=[.t 2]
 body :=
  (.seq
  (.re [oA 2 (.mv (.c (.string (ByteArray.mk #[]))))] [0]) (.seq
  (.re [oA 6 (.mv (.t 0)),oA 7 (.len (.t 6)),oA 8 (.mks (.int .u8 0) (.t 7)),oA 3 (.asg (.t 8))] [0,3]) (.seq (.seq
  (.re [oA 9 (.mv (.t 0)),oA 10 (.len (.t 9)),oA 11 (.mv (.ci 0))] [3,9,10,11]) (.block 0 (.loop (.seq
  (.re [oA 12 (.bin .lss (.t 11) (.t 10))] [3,9,10,11,12]) (.seq (.cond (.t 12) .skip (.exit 0)) (.seq (.block 1 (.seq
  (.re [oA 13 (.mv (.t 11)),oA 14 (.idx 1 (.t 9) (.t 11)),oA 15 (.ld none (.t 14)),oA 4 (.mv (.t 13)),oA 5 (.mv (.t 15))] [3,4,5,9,10,11])
  (.re [oA 16 (.mv (.t 3)),oA 17 (.mv (.t 4)),oA 18 (.mv (.t 5)),oA 19 (.at (.c (.string (ByteArray.mk #[48,49,50,51,52,53,54,55,56,57,97,98]))) (.t 18)),oA 20 (.idx 1 (.t 16) (.t 17)),oN (.st none (.t 20) (.t 19))] [3,9,10,11])))
  (.re [oA 21 (.bin .add (.t 11) (.ci 1)),oA 11 (.mv (.t 21))] [3,9,10,11]))))))) (.seq
  (.re [oA 22 (.mv (.t 3)),oA 23 (.bstr (.t 22)),oA 2 (.mv (.t 23))] [2]) .ret))))

def c_spec_l01Back:F where
 np:=1
 rs:=[.t 2]
 body :=
  (.seq
  (.re [oA 2 (.asg (.c (.slice none 0 0)))] [0]) (.seq
  (.re [oA 5 (.mv (.t 0)),oA 6 (.len (.t 5)),oA 7 (.mks (.int .i64 0) (.t 6)),oA 3 (.asg (.t 7))] [0,3]) (.seq (.seq
  (.re [oA 4 (.mv (.ci 0))] [0,3,4]) (.block 0 (.loop (.seq (.seq
  (.re [oA 8 (.mv (.t 4)),oA 9 (.mv (.t 0)),oA 10 (.len (.t 9)),oA 11 (.bin .lss (.t 8) (.t 10))] [0,3,4,11]) (.cond (.t 11) .skip (.exit 0))) (.seq (.block 1
  (.re [oA 14 (.mv (.t 3)),oA 15 (.mv (.t 0)),oA 16 (.mv (.t 4)),oA 17 (.idx 1 (.t 15) (.t 16)),oA 18 (.ld none (.t 17)),oA 19 (.mv (.t 4)),oA 20 (.idx 1 (.t 14) (.t 18)),oN (.st none (.t 20) (.t 19))] [0,3,4]))
  (.re [oA 12 (.mv (.t 4)),oA 13 (.bin .add (.t 12) (.ci 1)),oA 4 (.mv (.t 13))] [0,3,4])))))) (.seq
  (.re [oA 21 (.mv (.t 3)),oA 2 (.asg (.t 21))] [2]) .ret))))

def c_slices_Compare___int64_int64_:F where
 np:=2
 rs:=[.t 4]
 body :=
  (.seq
  (.re [oA 4 (.mv (.ci 0))] [0,1]) (.seq (.seq
  (.re [oA 9 (.mv (.t 0)),oA 10 (.len (.t 9)),oA 11 (.mv (.ci 0))] [0,1,9,10,11]) (.block 0 (.loop (.seq
  (.re [oA 12 (.bin .lss (.t 11) (.t 10))] [0,1,9,10,11,12]) (.seq (.cond (.t 12) .skip (.exit 0)) (.seq (.block 1 (.seq
  (.re [oA 13 (.mv (.t 11)),oA 14 (.idx 1 (.t 9) (.t 11)),oA 15 (.ld none (.t 14)),oA 5 (.mv (.t 13)),oA 6 (.mv (.t 15))] [0,1,5,6,9,10,11]) (.seq (.seq
  (.re [oA 16 (.mv (.t 5)),oA 17 (.mv (.t 1)),oA 18 (.len (.t 17)),oA 19 (.bin .geq (.t 16) (.t 18))] [0,1,5,6,9,10,11,19]) (.cond (.t 19) (.seq
  (.re [oA 4 (.mv (.ci 1))] [4]) .ret) .skip)) (.seq
  (.re [oA 20 (.mv (.t 1)),oA 21 (.mv (.t 5)),oA 22 (.idx 1 (.t 20) (.t 21)),oA 23 (.ld none (.t 22)),oA 7 (.mv (.t 23))] [0,1,6,7,9,10,11]) (.seq
  (.re [oA 24 (.mv (.t 6)),oA 25 (.mv (.t 7)),oA 26 (.call (.f 395) [aR 24,aR 25]),oA 8 (.mv (.t 26))] [0,1,8,9,10,11]) (.seq
  (.re [oA 27 (.mv (.t 8)),oA 28 (.bin .neq (.t 27) (.ci 0))] [0,1,8,9,10,11,28]) (.cond (.t 28) (.seq
  (.re [oA 29 (.mv (.t 8)),oA 4 (.mv (.t 29))] [4]) .ret) .skip)))))))
  (.re [oA 30 (.bin .add (.t 11) (.ci 1)),oA 11 (.mv (.t 30))] [0,1,9,10,11]))))))) (.seq (.seq
  (.re [oA 31 (.mv (.t 0)),oA 32 (.len (.t 31)),oA 33 (.mv (.t 1)),oA 34 (.len (.t 33)),oA 35 (.bin .lss (.t 32) (.t 34))] [35]) (.cond (.t 35) (.seq
  (.re [oA 4 (.mv (.c (.int .i64 (-1))))] [4]) .ret) .skip)) (.seq
  (.re [oA 4 (.mv (.ci 0))] [4]) .ret))))

def c_cmp_Compare_int64_:F where
 np:=2
 rs:=[.t 4]
 body :=
  (.seq
  (.re [oA 4 (.mv (.ci 0))] [0,1]) (.seq
  (.re [oA 7 (.mv (.t 0)),oA 8 (.call (.f 443) [aR 7]),oA 5 (.mv (.t 8))] [0,1,5]) (.seq
  (.re [oA 9 (.mv (.t 1)),oA 10 (.call (.f 443) [aR 9]),oA 6 (.mv (.t 10))] [0,1,5,6]) (.seq (.seq
  (.re [oA 11 (.mv (.t 5))] [0,1,6,11]) (.cond (.t 11) (.seq (.seq
  (.re [oA 12 (.mv (.t 6))] [12]) (.cond (.t 12) (.seq
  (.re [oA 4 (.mv (.ci 0))] [4]) .ret) .skip)) (.seq
  (.re [oA 4 (.mv (.c (.int .i64 (-1))))] [4]) .ret)) .skip)) (.seq (.seq
  (.re [oA 13 (.mv (.t 6))] [0,1,13]) (.cond (.t 13) (.seq
  (.re [oA 4 (.mv (.ci 1))] [4]) .ret) .skip)) (.seq (.seq
  (.re [oA 14 (.mv (.t 0)),oA 15 (.mv (.t 1)),oA 16 (.bin .lss (.t 14) (.t 15))] [0,1,16]) (.cond (.t 16) (.seq
  (.re [oA 4 (.mv (.c (.int .i64 (-1))))] [4]) .ret) .skip)) (.seq (.seq
  (.re [oA 17 (.mv (.t 0)),oA 18 (.mv (.t 1)),oA 19 (.bin .gtr (.t 17) (.t 18))] [19]) (.cond (.t 19) (.seq
  (.re [oA 4 (.mv (.ci 1))] [4]) .ret) .skip)) (.seq
  (.re [oA 4 (.mv (.ci 0))] [4]) .ret))))))))

def c_cmp_isNaN_int64_:F where
 np:=1
 rs:=[.t 2]
 body :=
  (.seq
  (.re [oA 2 (.mv (.c (.bool false)))] [0]) (.seq
  (.re [oA 3 (.mv (.t 0)),oA 4 (.mv (.t 0)),oA 5 (.bin .neq (.t 3) (.t 4)),oA 2 (.mv (.t 5))] [2]) .ret))

def c_spec_l02Empty:F where
 np:=1
 rs:=[.cell 2 (some 2)]
 body :=
  (.seq
  (.re [oA 2 (.alloc [(.slice none 0 0),(.slice none 0 0)])] [0,2]) (.seq
  (.re [oA 5 (.build [(.slice none 0 0),(.slice none 0 0)] []),oA 3 (.alloc [(.slice none 0 0),(.slice none 0 0)]),oN (.st (some 2) (.t 3) (.t 5))] [0,2,3]) (.seq (.seq
  (.re [oA 4 (.mv (.ci 0))] [0,2,3,4]) (.block 0 (.loop (.seq (.seq
  (.re [oA 6 (.mv (.t 4)),oA 7 (.mv (.t 0)),oA 8 (.bin .lss (.t 6) (.t 7))] [0,2,3,4,8]) (.cond (.t 8) .skip (.exit 0))) (.seq (.block 1 (.seq
  (.region (some [11,12,13,14,15]) [oA 11 (.fld 0 (.t 3)),oA 12 (.ld none (.t 11)),oA 13 (.mv (.t 0)),oA 14 (.mks (.int .i64 0) (.t 13)),oA 15 (.bsl1 14),oA 16 (.app true 1 (.t 12) (.t 15)),oA 17 (.fld 0 (.t 3)),oN (.st none (.t 17) (.t 16))] [0,2,3,4])
  (.region (some [18,19,20,21,22]) [oA 18 (.fld 1 (.t 3)),oA 19 (.ld none (.t 18)),oA 20 (.mv (.t 0)),oA 21 (.mks (.int .i64 0) (.t 20)),oA 22 (.bsl1 21),oA 23 (.app true 1 (.t 19) (.t 22)),oA 24 (.fld 1 (.t 3)),oN (.st none (.t 24) (.t 23))] [0,2,3,4])))
  (.re [oA 9 (.mv (.t 4)),oA 10 (.bin .add (.t 9) (.ci 1)),oA 4 (.mv (.t 10))] [0,2,3,4])))))) (.seq
  (.re [oA 25 (.ld (some 2) (.t 3)),oN (.st (some 2) (.t 2) (.t 25))] [2]) .ret))))

end Go.Mch
