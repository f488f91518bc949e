/- Compact code of draws and laws. -/
import Derived.Test.YtkcgdmjdkbgmkaaGreatM1
namespace Go.Mch

def c_spec_l01Next:F where
 np:=2
 rs:=[.t 4]
 fix:=[0,1]
 body :=
  (.seq
  (.re [oA 4 (.mv (.ci 0))] [0,1]) (.seq (.seq
  (.re [oA 6 (.mv (.t 1)),oA 7 (.bin .lss (.t 6) (.ci 1))] [0,1,7]) (.cond (.t 7) (.seq
  (.re [oA 4 (.mv (.ci 0))] [0,1,4]) .ret) .skip)) (.seq
  (.re [oA 8 (.mv (.t 0)),oA 9 (.mv (.t 0)),oA 10 (.nilck (.t 9)),oA 11 (.fld 2 (.t 10)),oA 12 (.ld none (.t 11)),oA 13 (.bin .mul (.t 12) (.c (.int .u64 6364136223846793005))),oA 14 (.bin .add (.t 13) (.c (.int .u64 1442695040888963407))),oA 15 (.nilck (.t 8)),oA 16 (.fld 2 (.t 15)),oN (.st none (.t 16) (.t 14))] [0,1]) (.seq
  (.re [oA 17 (.mv (.t 0)),oA 18 (.nilck (.t 17)),oA 19 (.fld 2 (.t 18)),oA 20 (.ld none (.t 19)),oA 21 (.bin .shr (.t 20) (.c (.int .u64 33))),oA 22 (.bin .and (.t 21) (.c (.int .u64 16777215))),oA 23 (.conv .i64 (.t 22)),oA 5 (.mv (.t 23))] [0,1,5]) (.seq (.seq
  (.region (some [24,25,26,27,28,29,30,31,32]) [oA 24 (.mv (.t 0)),oA 25 (.nilck (.t 24)),oA 26 (.fld 1 (.t 25)),oA 27 (.ld none (.t 26)),oA 28 (.mv (.t 0)),oA 29 (.nilck (.t 28)),oA 30 (.fld 0 (.t 29)),oA 31 (.ld none (.t 30)),oA 32 (.len (.t 31)),oA 33 (.bin .lss (.t 27) (.t 32))] [0,1,5,33]) (.cond (.t 33) (.seq
  (.region (some [34,35,36,37,38,39,40,41,42,43,44,45]) [oA 34 (.mv (.t 5)),oA 35 (.mv (.t 0)),oA 36 (.nilck (.t 35)),oA 37 (.fld 0 (.t 36)),oA 38 (.ld none (.t 37)),oA 39 (.mv (.t 0)),oA 40 (.nilck (.t 39)),oA 41 (.fld 1 (.t 40)),oA 42 (.ld none (.t 41)),oA 43 (.idx 1 (.t 38) (.t 42)),oA 44 (.ld none (.t 43)),oA 45 (.conv .i64 (.t 44)),oA 46 (.bin .add (.t 34) (.t 45)),oA 5 (.mv (.t 46))] [0,1,5])
  (.re [oA 47 (.mv (.t 0)),oA 48 (.mv (.t 0)),oA 49 (.nilck (.t 48)),oA 50 (.fld 1 (.t 49)),oA 51 (.ld none (.t 50)),oA 52 (.bin .add (.t 51) (.ci 1)),oA 53 (.nilck (.t 47)),oA 54 (.fld 1 (.t 53)),oN (.st none (.t 54) (.t 52))] [0,1,5])) .skip)) (.seq
  (.re [oA 55 (.mv (.t 5)),oA 56 (.mv (.t 1)),oA 57 (.bin .rem (.t 55) (.t 56)),oA 4 (.mv (.t 57))] [0,1,4]) .ret))))))

def c_spec_l02Draw:F where
 np:=2
 rs:=[.cell 4 (some 2)]
 fix:=[0,1]
 body :=
  (.seq
  (.re [oA 4 (.alloc [(.slice none 0 0),(.slice none 0 0)])] [0,1,4]) (.seq
  (.re [oA 6 (.mvs 0),oA 7 (.mv (.t 1)),oA 8 (.calls (.f 445) (.t 6) 0 [(.t 7)]),oA 5 (.alloc [(.slice none 0 0),(.slice none 0 0)]),oN (.st (some 2) (.t 5) (.t 8))] [0,1,4,5]) (.seq (.seq
  (.re [oA 9 (.mvs 0),oA 10 (.calls (.f 336) (.t 9) 0 [(.ci 4)]),oA 11 (.bin .gtr (.t 10) (.ci 0))] [0,1,4,5,11]) (.cond (.t 11) (.seq
  (.region (some [12,13,14,15,16,17]) [oA 12 (.ld (some 2) (.t 5)),oA 13 (.mvs 0),oA 14 (.fld 0 (.t 5)),oA 15 (.ld none (.t 14)),oA 16 (.len (.t 15)),oA 17 (.calls (.f 368) (.t 13) 0 [(.t 16)]),oA 18 (.call (.f 422) [aR 12,aR 17]),oN (.st (some 2) (.t 4) (.t 18))] [0,1,4]) .ret) .skip)) (.seq
  (.re [oA 19 (.ld (some 2) (.t 5)),oN (.st (some 2) (.t 4) (.t 19))] [0,1,4]) .ret))))

def c_spec_l02Any:F where
 np:=2
 rs:=[.cell 4 (some 2)]
 fix:=[0,1]
 body :=
  (.seq
  (.re [oA 4 (.alloc [(.slice none 0 0),(.slice none 0 0)])] [0,1,4]) (.seq
  (.re [oA 9 (.mvs 0),oA 10 (.mv (.t 1)),oA 11 (.calls (.f 336) (.t 9) 0 [(.t 10)]),oA 12 (.bin .add (.ci 1) (.t 11)),oA 5 (.mv (.t 12))] [0,1,4,5]) (.seq (.seq
  (.re [oA 13 (.mvs 0),oA 14 (.calls (.f 336) (.t 13) 0 [(.ci 8)])] [0,1,4,5,14]) (.block 0 (.seq
  (.re [oA 16 (.bin .eql (.t 14) (.ci 0)),oA 15 (.mv (.t 16))] [0,1,4,5,14,15]) (.cond (.t 15) (.seq
  (.re [oA 17 (.mv (.t 5)),oA 18 (.call (.f 449) [aR 17]),oN (.st (some 2) (.t 4) (.t 18))] [0,1,4]) .ret) (.seq
  (.re [oA 20 (.bin .eql (.t 14) (.ci 1)),oA 19 (.mv (.t 20))] [0,1,4,5,14,19]) (.cond (.t 19) (.seq
  (.re [oA 21 (.mv (.t 5)),oA 22 (.call (.f 423) [aR 21]),oN (.st (some 2) (.t 4) (.t 22))] [0,1,4]) .ret) (.seq
  (.re [oA 24 (.bin .eql (.t 14) (.ci 2)),oA 23 (.mv (.t 24))] [0,1,4,5,14,23]) (.cond (.t 23) (.seq
  (.re [oA 25 (.mv (.t 5)),oA 26 (.bin .geq (.t 25) (.ci 4)),oA 27 (.mv (.t 26)),oI 28 27 true (.mv (.t 5)),oI 29 27 true (.bin .rem (.t 28) (.ci 2)),oI 30 27 true (.bin .eql (.t 29) (.ci 0)),oA 31 (.pick (.t 27) (.t 30) (.c (.bool false)))] [0,1,4,5,31]) (.cond (.t 31) (.seq
  (.re [oA 32 (.mvs 0),oA 33 (.mv (.t 5)),oA 34 (.bin .quo (.t 33) (.ci 2)),oA 35 (.calls (.f 459) (.t 32) 0 [(.t 34)]),oA 36 (.mvs 0),oA 37 (.calls (.f 459) (.t 36) 0 [(.ci 2)]),oA 38 (.call (.f 458) [aR 35,aR 37]),oN (.st (some 2) (.t 4) (.t 38))] [0,1,4]) .ret) .skip)) (.seq
  (.re [oA 40 (.bin .eql (.t 14) (.ci 3)),oA 39 (.mv (.t 40))] [0,1,4,5,14,39]) (.cond (.t 39) (.seq
  (.re [oA 41 (.mv (.t 5)),oA 42 (.bin .geq (.t 41) (.ci 2))] [0,1,4,5,42]) (.cond (.t 42) (.seq
  (.re [oA 43 (.mvs 0),oA 44 (.mv (.t 5)),oA 45 (.bin .sub (.t 44) (.ci 1)),oA 46 (.calls (.f 336) (.t 43) 0 [(.t 45)]),oA 47 (.bin .add (.ci 1) (.t 46)),oA 6 (.mv (.t 47))] [0,1,4,5,6]) (.seq
  (.re [oA 48 (.mvs 0),oA 49 (.mv (.t 6)),oA 50 (.calls (.f 445) (.t 48) 0 [(.t 49)]),oA 51 (.mvs 0),oA 52 (.mv (.t 5)),oA 53 (.mv (.t 6)),oA 54 (.bin .sub (.t 52) (.t 53)),oA 55 (.calls (.f 459) (.t 51) 0 [(.t 54)]),oA 56 (.call (.f 460) [aR 50,aR 55]),oN (.st (some 2) (.t 4) (.t 56))] [0,1,4]) .ret)) .skip)) (.seq
  (.re [oA 58 (.bin .eql (.t 14) (.ci 4)),oA 57 (.mv (.t 58))] [0,1,4,5,14,57]) (.cond (.t 57) (.seq
  (.re [oA 59 (.mv (.t 1)),oA 60 (.bin .geq (.t 59) (.ci 4))] [0,1,4,5,60]) (.cond (.t 60) (.seq
  (.re [oA 61 (.bsl [(.ci 0),(.ci 1),(.ci 3),(.ci 2)]),oA 62 (.bsl [(.ci 0),(.ci 1),(.ci 3),(.ci 2)]),oA 63 (.bsl [(.ci 1),(.ci 0),(.ci 2),(.ci 3)]),oA 64 (.bsl [(.ci 1),(.ci 0),(.ci 2),(.ci 3)]),oA 65 (.bsl [(.t 61),(.t 62),(.t 63),(.t 64)]),oA 7 (.asg (.t 65))] [0,1,4,7]) (.seq
  (.re [oA 66 (.mv (.t 7)),oA 67 (.call (.f 461) [aR 66]),oN (.st (some 2) (.t 4) (.t 67))] [0,1,4]) .ret)) .skip)) (.seq
  (.re [oA 69 (.bin .eql (.t 14) (.ci 5)),oA 68 (.mv (.t 69))] [0,1,4,5,14,68]) (.cond (.t 68) (.seq
  (.re [oA 70 (.mv (.t 5)),oA 71 (.bin .geq (.t 70) (.ci 2))] [0,1,4,5,71]) (.cond (.t 71) (.seq
  (.re [oA 72 (.mv (.t 5)),oA 73 (.call (.f 423) [aR 72]),oA 74 (.call (.f 406) [aR 73]),oN (.st (some 2) (.t 4) (.t 74))] [0,1,4]) .ret) .skip)) (.seq
  (.re [oA 76 (.bin .eql (.t 14) (.ci 6)),oA 75 (.mv (.t 76))] [0,1,4,5,75]) (.cond (.t 75) (.seq
  (.re [oA 77 (.mv (.t 1)),oA 78 (.bin .geq (.t 77) (.ci 3))] [0,1,4,5,78]) (.cond (.t 78) (.seq
  (.re [oA 79 (.bsl [(.ci 0),(.ci 1),(.ci 2)]),oA 80 (.bsl [(.ci 0),(.ci 1),(.ci 2)]),oA 81 (.bsl [(.ci 1),(.ci 0),(.ci 2)]),oA 82 (.bsl [(.t 79),(.t 80),(.t 81)]),oA 8 (.asg (.t 82))] [0,1,4,8]) (.seq
  (.re [oA 83 (.mv (.t 8)),oA 84 (.call (.f 461) [aR 83]),oN (.st (some 2) (.t 4) (.t 84))] [0,1,4]) .ret)) .skip)) .skip)))))))))))))))) (.seq
  (.re [oA 85 (.mvs 0),oA 86 (.mv (.t 5)),oA 87 (.calls (.f 459) (.t 85) 0 [(.t 86)]),oN (.st (some 2) (.t 4) (.t 87))] [0,1,4]) .ret))))

def c_spec_l02Flip:F where
 np:=1
 rs:=[.cell 2 (some 2)]
 body :=
  (.seq
  (.re [oA 2 (.alloc [(.slice none 0 0),(.slice none 0 0)])] [0,2]) (.seq
  (.re [oA 4 (.mv (.t 0)),oA 5 (.call (.f 334) [aR 4]),oA 3 (.asg (.t 5))] [2,3]) (.seq
  (.re [oA 6 (.mv (.t 3)),oA 7 (.mv (.t 3)),oA 8 (.call (.f 425) [aR 6,aR 7]),oN (.st (some 2) (.t 2) (.t 8))] [2]) .ret)))

def c_spec_l02Twist:F where
 np:=2
 rs:=[.cell 4 (some 2)]
 body :=
  (.seq
  (.re [oA 4 (.alloc [(.slice none 0 0),(.slice none 0 0)])] [0,1,4]) (.seq
  (.re [oA 9 (.build [(.slice none 0 0),(.slice none 0 0)] []),oA 5 (.alloc [(.slice none 0 0),(.slice none 0 0)]),oN (.st (some 2) (.t 5) (.t 9))] [0,1,4,5]) (.seq (.seq
  (.re [oA 6 (.mv (.ci 0))] [0,1,4,5,6]) (.block 0 (.loop (.seq (.seq
  (.re [oA 10 (.mv (.t 6)),oA 11 (.mv (.t 0)),oA 12 (.len (.t 11)),oA 13 (.bin .lss (.t 10) (.t 12))] [0,1,4,5,6,13]) (.cond (.t 13) .skip (.exit 0))) (.seq (.block 1 (.seq
  (.re [oA 16 (.bsl []),oA 7 (.asg (.t 16))] [0,1,4,5,6,7]) (.seq (.seq
  (.re [oA 8 (.mv (.ci 0))] [0,1,4,5,6,7,8]) (.block 2 (.loop (.seq (.seq
  (.re [oA 17 (.mv (.t 8)),oA 18 (.mv (.t 0)),oA 19 (.len (.t 18)),oA 20 (.bin .lss (.t 17) (.t 19))] [0,1,4,5,6,7,8,20]) (.cond (.t 20) .skip (.exit 2))) (.seq (.block 3
  (.re [oA 23 (.mv (.t 7)),oA 24 (.mv (.t 1)),oA 25 (.mv (.t 6)),oA 26 (.idx 1 (.t 24) (.t 25)),oA 27 (.ld none (.t 26)),oA 28 (.bsl [(.t 27)]),oA 29 (.app true 1 (.t 23) (.t 28)),oA 7 (.asg (.t 29))] [0,1,4,5,6,7,8]))
  (.re [oA 21 (.mv (.t 8)),oA 22 (.bin .add (.t 21) (.ci 1)),oA 8 (.mv (.t 22))] [0,1,4,5,6,7,8])))))) (.seq
  (.region (some [30,31,32,33,34]) [oA 30 (.fld 0 (.t 5)),oA 31 (.ld none (.t 30)),oA 32 (.mv (.t 0)),oA 33 (.call (.f 31) [aR 32]),oA 34 (.bsl1 33),oA 35 (.app true 1 (.t 31) (.t 34)),oA 36 (.fld 0 (.t 5)),oN (.st none (.t 36) (.t 35))] [0,1,4,5,6,7])
  (.re [oA 37 (.fld 1 (.t 5)),oA 38 (.ld none (.t 37)),oA 39 (.mv (.t 7)),oA 40 (.bsl [(.t 39)]),oA 41 (.app true 1 (.t 38) (.t 40)),oA 42 (.fld 1 (.t 5)),oN (.st none (.t 42) (.t 41))] [0,1,4,5,6])))))
  (.re [oA 14 (.mv (.t 6)),oA 15 (.bin .add (.t 14) (.ci 1)),oA 6 (.mv (.t 15))] [0,1,4,5,6])))))) (.seq
  (.re [oA 43 (.ld (some 2) (.t 5)),oN (.st (some 2) (.t 4) (.t 43))] [4]) .ret))))

def c_spec_l02Polygon:F where
 np:=1
 rs:=[.cell 2 (some 2)]
 body :=
  (.seq
  (.re [oA 2 (.alloc [(.slice none 0 0),(.slice none 0 0)])] [0,2]) (.seq
  (.re [oA 8 (.build [(.slice none 0 0),(.slice none 0 0)] []),oA 3 (.alloc [(.slice none 0 0),(.slice none 0 0)]),oN (.st (some 2) (.t 3) (.t 8))] [0,2,3]) (.seq (.seq
  (.re [oA 4 (.mv (.ci 0))] [0,2,3,4]) (.block 0 (.loop (.seq (.seq
  (.re [oA 9 (.mv (.t 4)),oA 10 (.mv (.t 0)),oA 11 (.bin .lss (.t 9) (.t 10))] [0,2,3,4,11]) (.cond (.t 11) .skip (.exit 0))) (.seq (.block 1 (.seq
  (.re [oA 14 (.bsl []),oA 15 (.bsl []),oA 5 (.asg (.t 14)),oA 6 (.asg (.t 15))] [0,2,3,4,5,6]) (.seq (.seq
  (.re [oA 7 (.mv (.ci 0))] [0,2,3,4,5,6,7]) (.block 2 (.loop (.seq (.seq
  (.re [oA 16 (.mv (.t 7)),oA 17 (.mv (.t 0)),oA 18 (.bin .lss (.t 16) (.t 17))] [0,2,3,4,5,6,7,18]) (.cond (.t 18) .skip (.exit 2))) (.seq (.block 3 (.seq
  (.re [oA 21 (.mv (.t 5)),oA 22 (.mv (.t 4)),oA 23 (.bin .mul (.ci 2) (.t 22)),oA 24 (.mv (.t 7)),oA 25 (.bin .sub (.t 23) (.t 24)),oA 26 (.mv (.t 0)),oA 27 (.bin .add (.t 25) (.t 26)),oA 28 (.mv (.t 0)),oA 29 (.bin .rem (.t 27) (.t 28)),oA 30 (.bsl [(.t 29)]),oA 31 (.app true 1 (.t 21) (.t 30)),oA 5 (.asg (.t 31))] [0,2,3,4,5,6,7])
  (.re [oA 32 (.mv (.t 6)),oA 33 (.mv (.t 4)),oA 34 (.bsl [(.t 33)]),oA 35 (.app true 1 (.t 32) (.t 34)),oA 6 (.asg (.t 35))] [0,2,3,4,5,6,7])))
  (.re [oA 19 (.mv (.t 7)),oA 20 (.bin .add (.t 19) (.ci 1)),oA 7 (.mv (.t 20))] [0,2,3,4,5,6,7])))))) (.seq
  (.re [oA 36 (.fld 0 (.t 3)),oA 37 (.ld none (.t 36)),oA 38 (.mv (.t 5)),oA 39 (.bsl [(.t 38)]),oA 40 (.app true 1 (.t 37) (.t 39)),oA 41 (.fld 0 (.t 3)),oN (.st none (.t 41) (.t 40))] [0,2,3,4,6])
  (.re [oA 42 (.fld 1 (.t 3)),oA 43 (.ld none (.t 42)),oA 44 (.mv (.t 6)),oA 45 (.bsl [(.t 44)]),oA 46 (.app true 1 (.t 43) (.t 45)),oA 47 (.fld 1 (.t 3)),oN (.st none (.t 47) (.t 46))] [0,2,3,4])))))
  (.re [oA 12 (.mv (.t 4)),oA 13 (.bin .add (.t 12) (.ci 1)),oA 4 (.mv (.t 13))] [0,2,3,4])))))) (.seq
  (.re [oA 48 (.ld (some 2) (.t 3)),oN (.st (some 2) (.t 2) (.t 48))] [2]) .ret))))

def j1w:F where
 np:=2
 rs:=[.cell 4 (some 2)]
 fix:=[0,1]
 body :=
  (.seq
  (.re [oA 4 (.alloc [(.slice none 0 0),(.slice none 0 0)])] [0,1,4]) (.seq
  (.re [oA 8 (.mvs 0),oA 9 (.mv (.t 1)),oA 10 (.calls (.f 368) (.t 8) 0 [(.t 9)]),oA 5 (.asg (.t 10))] [0,1,4,5]) (.seq
  (.re [oA 11 (.mv (.t 1)),oA 12 (.call (.f 334) [aR 11]),oA 6 (.asg (.t 12))] [0,1,4,5,6]) (.seq (.seq
  (.re [oA 13 (.mvs 0),oA 14 (.calls (.f 336) (.t 13) 0 [(.ci 4)]),oA 7 (.mv (.t 14))] [0,1,4,5,6,7]) (.block 0 (.loop (.seq (.seq
  (.re [oA 15 (.mv (.t 7)),oA 16 (.bin .gtr (.t 15) (.ci 0))] [0,1,4,5,6,7,16]) (.cond (.t 16) .skip (.exit 0))) (.seq (.block 1
  (.re [oA 19 (.mv (.t 6)),oA 20 (.mv (.t 5)),oA 21 (.call (.f 279) [aR 19,aR 20]),oA 6 (.asg (.t 21))] [0,1,4,5,6,7]))
  (.re [oA 17 (.mv (.t 7)),oA 18 (.bin .sub (.t 17) (.ci 1)),oA 7 (.mv (.t 18))] [0,1,4,5,6,7])))))) (.seq (.seq
  (.re [oA 22 (.mvs 0),oA 23 (.calls (.f 336) (.t 22) 0 [(.ci 2)]),oA 24 (.bin .eql (.t 23) (.ci 0))] [0,1,4,5,6,24]) (.cond (.t 24) (.seq
  (.re [oA 25 (.mv (.t 5)),oA 26 (.mv (.t 6)),oA 27 (.call (.f 425) [aR 25,aR 26]),oN (.st (some 2) (.t 4) (.t 27))] [0,1,4]) .ret) .skip)) (.seq
  (.re [oA 28 (.mv (.t 6)),oA 29 (.mv (.t 5)),oA 30 (.call (.f 425) [aR 28,aR 29]),oN (.st (some 2) (.t 4) (.t 30))] [0,1,4]) .ret))))))

def c_spec_l01Draw:F where
 np:=2
 rs:=[.t 4]
 fix:=[0,1]
 body :=
  (.seq
  (.re [oA 4 (.asg (.c (.slice none 0 0)))] [0,1]) (.seq
  (.re [oA 9 (.mv (.t 1)),oA 10 (.call (.f 334) [aR 9]),oA 5 (.asg (.t 10))] [0,1,5]) (.seq (.seq
  (.re [oA 11 (.mv (.t 1)),oA 12 (.bin .sub (.t 11) (.ci 1)),oA 6 (.mv (.t 12))] [0,1,5,6]) (.block 0 (.loop (.seq (.seq
  (.re [oA 13 (.mv (.t 6)),oA 14 (.bin .gtr (.t 13) (.ci 0))] [0,1,5,6,14]) (.cond (.t 14) .skip (.exit 0))) (.seq (.block 1 (.seq
  (.re [oA 17 (.mvs 0),oA 18 (.mv (.t 6)),oA 19 (.bin .add (.t 18) (.ci 1)),oA 20 (.calls (.f 336) (.t 17) 0 [(.t 19)]),oA 7 (.mv (.t 20))] [0,1,5,6,7]) (.seq
  (.re [oA 21 (.mv (.t 5)),oA 22 (.mv (.t 6)),oA 23 (.idx 1 (.t 21) (.t 22)),oA 24 (.ld none (.t 23)),oA 8 (.mv (.t 24))] [0,1,5,6,7,8]) (.seq
  (.re [oA 25 (.mv (.t 5)),oA 26 (.mv (.t 6)),oA 27 (.mv (.t 5)),oA 28 (.mv (.t 7)),oA 29 (.idx 1 (.t 27) (.t 28)),oA 30 (.ld none (.t 29)),oA 31 (.idx 1 (.t 25) (.t 26)),oN (.st none (.t 31) (.t 30))] [0,1,5,6,7,8])
  (.re [oA 32 (.mv (.t 5)),oA 33 (.mv (.t 7)),oA 34 (.mv (.t 8)),oA 35 (.idx 1 (.t 32) (.t 33)),oN (.st none (.t 35) (.t 34))] [0,1,5,6])))))
  (.re [oA 15 (.mv (.t 6)),oA 16 (.bin .sub (.t 15) (.ci 1)),oA 6 (.mv (.t 16))] [0,1,5,6])))))) (.seq
  (.re [oA 36 (.mv (.t 5)),oA 4 (.asg (.t 36))] [0,1,4]) .ret))))

def c_spec_l02Product:F where
 np:=2
 rs:=[.cell 4 (some 2)]
 body :=
  (.seq
  (.re [oA 2 (.box (.t 0)),oA 3 (.box (.t 1)),oA 4 (.alloc [(.slice none 0 0),(.slice none 0 0)])] [2,3,4]) (.seq
  (.region (some [5,12,13,14,15,16,17]) [oA 12 (.fld 0 (.t 2)),oA 13 (.ld none (.t 12)),oA 14 (.len (.t 13)),oA 15 (.fld 0 (.t 3)),oA 16 (.ld none (.t 15)),oA 17 (.len (.t 16)),oA 5 (.mv (.t 14)),oA 6 (.mv (.t 17))] [2,3,4,5,6]) (.seq
  (.re [oA 18 (.build [(.slice none 0 0),(.slice none 0 0)] []),oA 7 (.alloc [(.slice none 0 0),(.slice none 0 0)]),oN (.st (some 2) (.t 7) (.t 18))] [2,3,4,5,6,7]) (.seq (.seq
  (.re [oA 8 (.mv (.ci 0))] [2,3,4,5,6,7,8]) (.block 0 (.loop (.seq (.seq
  (.re [oA 19 (.mv (.t 8)),oA 20 (.mv (.t 5)),oA 21 (.mv (.t 6)),oA 22 (.bin .mul (.t 20) (.t 21)),oA 23 (.bin .lss (.t 19) (.t 22))] [2,3,4,5,6,7,8,23]) (.cond (.t 23) .skip (.exit 0))) (.seq (.block 1 (.seq
  (.re [oA 26 (.bsl []),oA 27 (.bsl []),oA 9 (.asg (.t 26)),oA 10 (.asg (.t 27))] [2,3,4,5,6,7,8,9,10]) (.seq (.seq
  (.re [oA 11 (.mv (.ci 0))] [2,3,4,5,6,7,8,9,10,11]) (.block 2 (.loop (.seq (.seq
  (.re [oA 28 (.mv (.t 11)),oA 29 (.mv (.t 5)),oA 30 (.mv (.t 6)),oA 31 (.bin .mul (.t 29) (.t 30)),oA 32 (.bin .lss (.t 28) (.t 31))] [2,3,4,5,6,7,8,9,10,11,32]) (.cond (.t 32) .skip (.exit 2))) (.seq (.block 3 (.seq
  (.region (some [35,36,37,38,39,40,41,42,43,44,45,46,47,48,49,50,51,52,53,54,55,56,57,58,59,60,61,62,63]) [oA 35 (.mv (.t 9)),oA 36 (.fld 0 (.t 2)),oA 37 (.ld none (.t 36)),oA 38 (.mv (.t 8)),oA 39 (.mv (.t 6)),oA 40 (.bin .quo (.t 38) (.t 39)),oA 41 (.idx 1 (.t 37) (.t 40)),oA 42 (.ld none (.t 41)),oA 43 (.mv (.t 11)),oA 44 (.mv (.t 6)),oA 45 (.bin .quo (.t 43) (.t 44)),oA 46 (.idx 1 (.t 42) (.t 45)),oA 47 (.ld none (.t 46)),oA 48 (.mv (.t 6)),oA 49 (.bin .mul (.t 47) (.t 48)),oA 50 (.fld 0 (.t 3)),oA 51 (.ld none (.t 50)),oA 52 (.mv (.t 8)),oA 53 (.mv (.t 6)),oA 54 (.bin .rem (.t 52) (.t 53)),oA 55 (.idx 1 (.t 51) (.t 54)),oA 56 (.ld none (.t 55)),oA 57 (.mv (.t 11)),oA 58 (.mv (.t 6)),oA 59 (.bin .rem (.t 57) (.t 58)),oA 60 (.idx 1 (.t 56) (.t 59)),oA 61 (.ld none (.t 60)),oA 62 (.bin .add (.t 49) (.t 61)),oA 63 (.bslv 1 [(.t 62)]),oA 64 (.app true 1 (.t 35) (.t 63)),oA 9 (.asg (.t 64))] [2,3,4,5,6,7,8,9,10,11])
  (.region (some [65,66,67,68,69,70,71,72,73,74,75,76,77,78,79,80,81,82,83,84,85,86,87,88,89,90,91,92,93]) [oA 65 (.mv (.t 10)),oA 66 (.fld 1 (.t 2)),oA 67 (.ld none (.t 66)),oA 68 (.mv (.t 8)),oA 69 (.mv (.t 6)),oA 70 (.bin .quo (.t 68) (.t 69)),oA 71 (.idx 1 (.t 67) (.t 70)),oA 72 (.ld none (.t 71)),oA 73 (.mv (.t 11)),oA 74 (.mv (.t 6)),oA 75 (.bin .quo (.t 73) (.t 74)),oA 76 (.idx 1 (.t 72) (.t 75)),oA 77 (.ld none (.t 76)),oA 78 (.mv (.t 6)),oA 79 (.bin .mul (.t 77) (.t 78)),oA 80 (.fld 1 (.t 3)),oA 81 (.ld none (.t 80)),oA 82 (.mv (.t 8)),oA 83 (.mv (.t 6)),oA 84 (.bin .rem (.t 82) (.t 83)),oA 85 (.idx 1 (.t 81) (.t 84)),oA 86 (.ld none (.t 85)),oA 87 (.mv (.t 11)),oA 88 (.mv (.t 6)),oA 89 (.bin .rem (.t 87) (.t 88)),oA 90 (.idx 1 (.t 86) (.t 89)),oA 91 (.ld none (.t 90)),oA 92 (.bin .add (.t 79) (.t 91)),oA 93 (.bslv 1 [(.t 92)]),oA 94 (.app true 1 (.t 65) (.t 93)),oA 10 (.asg (.t 94))] [2,3,4,5,6,7,8,9,10,11])))
  (.re [oA 33 (.mv (.t 11)),oA 34 (.bin .add (.t 33) (.ci 1)),oA 11 (.mv (.t 34))] [2,3,4,5,6,7,8,9,10,11])))))) (.seq
  (.re [oA 95 (.fld 0 (.t 7)),oA 96 (.ld none (.t 95)),oA 97 (.mv (.t 9)),oA 98 (.bsl [(.t 97)]),oA 99 (.app true 1 (.t 96) (.t 98)),oA 100 (.fld 0 (.t 7)),oN (.st none (.t 100) (.t 99))] [2,3,4,5,6,7,8,10])
  (.re [oA 101 (.fld 1 (.t 7)),oA 102 (.ld none (.t 101)),oA 103 (.mv (.t 10)),oA 104 (.bsl [(.t 103)]),oA 105 (.app true 1 (.t 102) (.t 104)),oA 106 (.fld 1 (.t 7)),oN (.st none (.t 106) (.t 105))] [2,3,4,5,6,7,8])))))
  (.re [oA 24 (.mv (.t 8)),oA 25 (.bin .add (.t 24) (.ci 1)),oA 8 (.mv (.t 25))] [2,3,4,5,6,7,8])))))) (.seq
  (.re [oA 107 (.ld (some 2) (.t 7)),oN (.st (some 2) (.t 4) (.t 107))] [4]) .ret)))))

def c_spec_l02Union:F where
 np:=2
 rs:=[.cell 4 (some 2)]
 body :=
  (.seq
  (.re [oA 2 (.box (.t 0)),oA 3 (.box (.t 1)),oA 4 (.alloc [(.slice none 0 0),(.slice none 0 0)])] [2,3,4]) (.seq
  (.region (some [5,12,13,14,15,16,17]) [oA 12 (.fld 0 (.t 2)),oA 13 (.ld none (.t 12)),oA 14 (.len (.t 13)),oA 15 (.fld 0 (.t 3)),oA 16 (.ld none (.t 15)),oA 17 (.len (.t 16)),oA 5 (.mv (.t 14)),oA 6 (.mv (.t 17))] [2,3,4,5,6]) (.seq
  (.re [oA 18 (.build [(.slice none 0 0),(.slice none 0 0)] []),oA 7 (.alloc [(.slice none 0 0),(.slice none 0 0)]),oN (.st (some 2) (.t 7) (.t 18))] [2,3,4,5,6,7]) (.seq (.seq
  (.re [oA 8 (.mv (.ci 0))] [2,3,4,5,6,7,8]) (.block 0 (.loop (.seq (.seq
  (.re [oA 19 (.mv (.t 8)),oA 20 (.mv (.t 5)),oA 21 (.mv (.t 6)),oA 22 (.bin .add (.t 20) (.t 21)),oA 23 (.bin .lss (.t 19) (.t 22))] [2,3,4,5,6,7,8,23]) (.cond (.t 23) .skip (.exit 0))) (.seq (.block 1 (.seq
  (.re [oA 26 (.bsl []),oA 27 (.bsl []),oA 9 (.asg (.t 26)),oA 10 (.asg (.t 27))] [2,3,4,5,6,7,8,9,10]) (.seq (.seq
  (.re [oA 11 (.mv (.ci 0))] [2,3,4,5,6,7,8,9,10,11]) (.block 2 (.loop (.seq (.seq
  (.re [oA 28 (.mv (.t 11)),oA 29 (.mv (.t 5)),oA 30 (.mv (.t 6)),oA 31 (.bin .add (.t 29) (.t 30)),oA 32 (.bin .lss (.t 28) (.t 31))] [2,3,4,5,6,7,8,9,10,11,32]) (.cond (.t 32) .skip (.exit 2))) (.seq (.block 3 (.block 4 (.seq
  (.re [oA 44 (.mv (.t 8)),oA 45 (.mv (.t 5)),oA 46 (.bin .lss (.t 44) (.t 45)),oA 47 (.mv (.t 46)),oI 48 47 true (.mv (.t 11)),oI 49 47 true (.mv (.t 5)),oI 50 47 true (.bin .lss (.t 48) (.t 49)),oA 51 (.pick (.t 47) (.t 50) (.c (.bool false))),oA 43 (.mv (.t 51))] [2,3,4,5,6,7,8,9,10,11,43]) (.cond (.t 43) (.seq
  (.re [oA 52 (.mv (.t 9)),oA 53 (.fld 0 (.t 2)),oA 54 (.ld none (.t 53)),oA 55 (.mv (.t 8)),oA 56 (.idx 1 (.t 54) (.t 55)),oA 57 (.ld none (.t 56)),oA 58 (.mv (.t 11)),oA 59 (.idx 1 (.t 57) (.t 58)),oA 60 (.ld none (.t 59)),oA 61 (.bsl [(.t 60)]),oA 62 (.app true 1 (.t 52) (.t 61)),oA 9 (.asg (.t 62))] [2,3,4,5,6,7,8,9,10,11])
  (.re [oA 63 (.mv (.t 10)),oA 64 (.fld 1 (.t 2)),oA 65 (.ld none (.t 64)),oA 66 (.mv (.t 8)),oA 67 (.idx 1 (.t 65) (.t 66)),oA 68 (.ld none (.t 67)),oA 69 (.mv (.t 11)),oA 70 (.idx 1 (.t 68) (.t 69)),oA 71 (.ld none (.t 70)),oA 72 (.bsl [(.t 71)]),oA 73 (.app true 1 (.t 63) (.t 72)),oA 10 (.asg (.t 73))] [2,3,4,5,6,7,8,9,10,11])) (.seq
  (.re [oA 75 (.mv (.t 8)),oA 76 (.mv (.t 5)),oA 77 (.bin .geq (.t 75) (.t 76)),oA 78 (.mv (.t 77)),oI 79 78 true (.mv (.t 11)),oI 80 78 true (.mv (.t 5)),oI 81 78 true (.bin .geq (.t 79) (.t 80)),oA 82 (.pick (.t 78) (.t 81) (.c (.bool false))),oA 74 (.mv (.t 82))] [2,3,4,5,6,7,8,9,10,11,74]) (.cond (.t 74) (.seq
  (.re [oA 83 (.mv (.t 9)),oA 84 (.fld 0 (.t 3)),oA 85 (.ld none (.t 84)),oA 86 (.mv (.t 8)),oA 87 (.mv (.t 5)),oA 88 (.bin .sub (.t 86) (.t 87)),oA 89 (.idx 1 (.t 85) (.t 88)),oA 90 (.ld none (.t 89)),oA 91 (.mv (.t 11)),oA 92 (.mv (.t 5)),oA 93 (.bin .sub (.t 91) (.t 92)),oA 94 (.idx 1 (.t 90) (.t 93)),oA 95 (.ld none (.t 94)),oA 96 (.mv (.t 5)),oA 97 (.bin .add (.t 95) (.t 96)),oA 98 (.bsl [(.t 97)]),oA 99 (.app true 1 (.t 83) (.t 98)),oA 9 (.asg (.t 99))] [2,3,4,5,6,7,8,9,10,11])
  (.re [oA 100 (.mv (.t 10)),oA 101 (.fld 1 (.t 3)),oA 102 (.ld none (.t 101)),oA 103 (.mv (.t 8)),oA 104 (.mv (.t 5)),oA 105 (.bin .sub (.t 103) (.t 104)),oA 106 (.idx 1 (.t 102) (.t 105)),oA 107 (.ld none (.t 106)),oA 108 (.mv (.t 11)),oA 109 (.mv (.t 5)),oA 110 (.bin .sub (.t 108) (.t 109)),oA 111 (.idx 1 (.t 107) (.t 110)),oA 112 (.ld none (.t 111)),oA 113 (.mv (.t 5)),oA 114 (.bin .add (.t 112) (.t 113)),oA 115 (.bsl [(.t 114)]),oA 116 (.app true 1 (.t 100) (.t 115)),oA 10 (.asg (.t 116))] [2,3,4,5,6,7,8,9,10,11])) (.seq
  (.re [oA 35 (.mv (.t 9)),oA 36 (.mv (.t 11)),oA 37 (.bsl [(.t 36)]),oA 38 (.app true 1 (.t 35) (.t 37)),oA 9 (.asg (.t 38))] [2,3,4,5,6,7,8,9,10,11])
  (.re [oA 39 (.mv (.t 10)),oA 40 (.mv (.t 8)),oA 41 (.bsl [(.t 40)]),oA 42 (.app true 1 (.t 39) (.t 41)),oA 10 (.asg (.t 42))] [2,3,4,5,6,7,8,9,10,11]))))))))
  (.re [oA 33 (.mv (.t 11)),oA 34 (.bin .add (.t 33) (.ci 1)),oA 11 (.mv (.t 34))] [2,3,4,5,6,7,8,9,10,11])))))) (.seq
  (.re [oA 117 (.fld 0 (.t 7)),oA 118 (.ld none (.t 117)),oA 119 (.mv (.t 9)),oA 120 (.bsl [(.t 119)]),oA 121 (.app true 1 (.t 118) (.t 120)),oA 122 (.fld 0 (.t 7)),oN (.st none (.t 122) (.t 121))] [2,3,4,5,6,7,8,10])
  (.re [oA 123 (.fld 1 (.t 7)),oA 124 (.ld none (.t 123)),oA 125 (.mv (.t 10)),oA 126 (.bsl [(.t 125)]),oA 127 (.app true 1 (.t 124) (.t 126)),oA 128 (.fld 1 (.t 7)),oN (.st none (.t 128) (.t 127))] [2,3,4,5,6,7,8])))))
  (.re [oA 24 (.mv (.t 8)),oA 25 (.bin .add (.t 24) (.ci 1)),oA 8 (.mv (.t 25))] [2,3,4,5,6,7,8])))))) (.seq
  (.re [oA 129 (.ld (some 2) (.t 7)),oN (.st (some 2) (.t 4) (.t 129))] [4]) .ret)))))

def c_spec_l02Involutive:F where
 np:=1
 rs:=[.cell 2 (some 2)]
 body :=
  (.seq
  (.re [oA 2 (.alloc [(.slice none 0 0),(.slice none 0 0)])] [0,2]) (.seq
  (.re [oA 7 (.mv (.t 0)),oA 8 (.call (.f 280) [aR 7]),oA 9 (.build [(.slice none 0 0),(.slice none 0 0)] [(0,1,(.t 8))]),oA 3 (.alloc [(.slice none 0 0),(.slice none 0 0)]),oN (.st (some 2) (.t 3) (.t 9))] [0,2,3]) (.seq (.seq
  (.re [oA 4 (.mv (.ci 0))] [0,2,3,4]) (.block 0 (.loop (.seq (.seq
  (.re [oA 10 (.mv (.t 4)),oA 11 (.mv (.t 0)),oA 12 (.len (.t 11)),oA 13 (.bin .lss (.t 10) (.t 12))] [0,2,3,4,13]) (.cond (.t 13) .skip (.exit 0))) (.seq (.block 1 (.seq
  (.re [oA 16 (.bsl []),oA 5 (.asg (.t 16))] [0,2,3,4,5]) (.seq (.seq
  (.re [oA 6 (.mv (.ci 0))] [0,2,3,4,5,6]) (.block 2 (.loop (.seq (.seq
  (.re [oA 17 (.mv (.t 6)),oA 18 (.mv (.t 0)),oA 19 (.len (.t 18)),oA 20 (.bin .lss (.t 17) (.t 19))] [0,2,3,4,5,6,20]) (.cond (.t 20) .skip (.exit 2))) (.seq (.block 3
  (.re [oA 23 (.mv (.t 5)),oA 24 (.mv (.t 0)),oA 25 (.mv (.t 0)),oA 26 (.mv (.t 4)),oA 27 (.idx 1 (.t 25) (.t 26)),oA 28 (.ld none (.t 27)),oA 29 (.mv (.t 6)),oA 30 (.idx 1 (.t 28) (.t 29)),oA 31 (.ld none (.t 30)),oA 32 (.idx 1 (.t 24) (.t 31)),oA 33 (.ld none (.t 32)),oA 34 (.mv (.t 4)),oA 35 (.call (.f 69) [aR 33,aR 34]),oA 36 (.bsl [(.t 35)]),oA 37 (.app true 1 (.t 23) (.t 36)),oA 5 (.asg (.t 37))] [0,2,3,4,5,6]))
  (.re [oA 21 (.mv (.t 6)),oA 22 (.bin .add (.t 21) (.ci 1)),oA 6 (.mv (.t 22))] [0,2,3,4,5,6]))))))
  (.re [oA 38 (.fld 1 (.t 3)),oA 39 (.ld none (.t 38)),oA 40 (.mv (.t 5)),oA 41 (.bsl [(.t 40)]),oA 42 (.app true 1 (.t 39) (.t 41)),oA 43 (.fld 1 (.t 3)),oN (.st none (.t 43) (.t 42))] [0,2,3,4]))))
  (.re [oA 14 (.mv (.t 4)),oA 15 (.bin .add (.t 14) (.ci 1)),oA 4 (.mv (.t 15))] [0,2,3,4])))))) (.seq
  (.re [oA 44 (.ld (some 2) (.t 3)),oN (.st (some 2) (.t 2) (.t 44))] [2]) .ret))))

def c_spec_l02Rename:F where
 np:=2
 rs:=[.cell 4 (some 2)]
 body :=
  (.seq
  (.re [oA 2 (.box (.t 0)),oA 4 (.alloc [(.slice none 0 0),(.slice none 0 0)])] [1,2,4]) (.seq
  (.region (some [5,6,7,8,9,10,11]) [oA 5 (.fld 0 (.t 2)),oA 6 (.ld none (.t 5)),oA 7 (.mv (.t 1)),oA 8 (.call (.f 367) [aR 6,aR 7]),oA 9 (.fld 1 (.t 2)),oA 10 (.ld none (.t 9)),oA 11 (.mv (.t 1)),oA 12 (.call (.f 367) [aR 10,aR 11]),oA 13 (.build [(.slice none 0 0),(.slice none 0 0)] [(0,1,(.t 8)),(1,1,(.t 12))]),oN (.st (some 2) (.t 4) (.t 13))] [4]) .ret))

def c_spec_l01Rename:F where
 np:=2
 rs:=[.t 4]
 body :=
  (.seq
  (.re [oA 4 (.asg (.c (.slice none 0 0)))] [0,1]) (.seq
  (.re [oA 10 (.bsl []),oA 5 (.asg (.t 10))] [0,1,5]) (.seq (.seq
  (.re [oA 6 (.mv (.ci 0))] [0,1,5,6]) (.block 0 (.loop (.seq (.seq
  (.re [oA 11 (.mv (.t 6)),oA 12 (.mv (.t 0)),oA 13 (.len (.t 12)),oA 14 (.bin .lss (.t 11) (.t 13))] [0,1,5,6,14]) (.cond (.t 14) .skip (.exit 0))) (.seq (.block 1
  (.re [oA 17 (.mv (.t 5)),oA 18 (.mv (.t 0)),oA 19 (.len (.t 18)),oA 20 (.mks (.int .i64 0) (.t 19)),oA 21 (.bsl [(.t 20)]),oA 22 (.app true 1 (.t 17) (.t 21)),oA 5 (.asg (.t 22))] [0,1,5,6]))
  (.re [oA 15 (.mv (.t 6)),oA 16 (.bin .add (.t 15) (.ci 1)),oA 6 (.mv (.t 16))] [0,1,5,6])))))) (.seq (.seq
  (.re [oA 7 (.mv (.ci 0))] [0,1,5,7]) (.block 2 (.loop (.seq (.seq
  (.re [oA 23 (.mv (.t 7)),oA 24 (.mv (.t 0)),oA 25 (.len (.t 24)),oA 26 (.bin .lss (.t 23) (.t 25))] [0,1,5,7,26]) (.cond (.t 26) .skip (.exit 2))) (.seq (.block 3 (.seq
  (.re [oA 29 (.mv (.t 5)),oA 30 (.mv (.t 1)),oA 31 (.mv (.t 7)),oA 32 (.idx 1 (.t 30) (.t 31)),oA 33 (.ld none (.t 32)),oA 34 (.idx 1 (.t 29) (.t 33)),oA 35 (.ld none (.t 34)),oA 8 (.mv (.t 35))] [0,1,5,7,8]) (.seq
  (.re [oA 9 (.mv (.ci 0))] [0,1,5,7,8,9]) (.block 4 (.loop (.seq (.seq
  (.re [oA 36 (.mv (.t 9)),oA 37 (.mv (.t 0)),oA 38 (.len (.t 37)),oA 39 (.bin .lss (.t 36) (.t 38))] [0,1,5,7,8,9,39]) (.cond (.t 39) .skip (.exit 4))) (.seq (.block 5
  (.region (some [42,43,44,45,46,47,48,49,50,51,52,53,54,55,56]) [oA 42 (.mv (.t 8)),oA 43 (.mv (.t 1)),oA 44 (.mv (.t 9)),oA 45 (.idx 1 (.t 43) (.t 44)),oA 46 (.ld none (.t 45)),oA 47 (.mv (.t 1)),oA 48 (.mv (.t 0)),oA 49 (.mv (.t 7)),oA 50 (.idx 1 (.t 48) (.t 49)),oA 51 (.ld none (.t 50)),oA 52 (.mv (.t 9)),oA 53 (.idx 1 (.t 51) (.t 52)),oA 54 (.ld none (.t 53)),oA 55 (.idx 1 (.t 47) (.t 54)),oA 56 (.ld none (.t 55)),oA 57 (.idx 1 (.t 42) (.t 46)),oN (.st none (.t 57) (.t 56))] [0,1,5,7,8,9]))
  (.re [oA 40 (.mv (.t 9)),oA 41 (.bin .add (.t 40) (.ci 1)),oA 9 (.mv (.t 41))] [0,1,5,7,8,9]))))))))
  (.re [oA 27 (.mv (.t 7)),oA 28 (.bin .add (.t 27) (.ci 1)),oA 7 (.mv (.t 28))] [0,1,5,7])))))) (.seq
  (.re [oA 58 (.mv (.t 5)),oA 4 (.asg (.t 58))] [4]) .ret)))))

def c_spec_l01Pick:F where
 np:=2
 rs:=[.t 4]
 fix:=[0,1]
 body :=
  (.seq
  (.re [oA 4 (.mv (.ci 0))] [0,1]) (.seq
  (.re [oA 5 (.mv (.t 1)),oA 6 (.mvs 0),oA 7 (.mv (.t 1)),oA 8 (.len (.t 7)),oA 9 (.calls (.f 336) (.t 6) 0 [(.t 8)]),oA 10 (.idx 1 (.t 5) (.t 9)),oA 11 (.ld none (.t 10)),oA 4 (.mv (.t 11))] [0,1,4]) .ret))

def c_spec_l06Draw:F where
 np:=2
 rs:=[.cell 4 (some 2)]
 fix:=[0,1]
 body :=
  (.seq
  (.re [oA 4 (.alloc [(.slice none 0 0),(.slice none 0 0)])] [0,1,4]) (.seq (.seq
  (.re [oA 8 (.mvs 0),oA 9 (.calls (.f 336) (.t 8) 0 [(.ci 3)])] [0,1,4,9]) (.block 0 (.seq
  (.re [oA 11 (.bin .eql (.t 9) (.ci 0)),oA 10 (.mv (.t 11))] [0,1,4,9,10]) (.cond (.t 10) (.seq
  (.re [oA 12 (.mvs 0),oA 13 (.mv (.t 1)),oA 14 (.calls (.f 401) (.t 12) 0 [(.t 13)]),oA 15 (.call (.f 324) [aR 14]),oN (.st (some 2) (.t 4) (.t 15))] [0,1,4]) .ret) (.seq
  (.re [oA 17 (.bin .eql (.t 9) (.ci 1)),oA 16 (.mv (.t 17))] [0,1,4,16]) (.cond (.t 16) (.seq
  (.re [oA 18 (.mvs 0),oA 19 (.mv (.t 1)),oA 20 (.calls (.f 401) (.t 18) 0 [(.t 19)]),oA 5 (.alloc [(.slice none 0 0)]),oN (.st (some 1) (.t 5) (.t 20))] [0,1,4,5]) (.seq
  (.region (some [6,21,22,23,24,25,26,27,28,29]) [oA 22 (.ld (some 1) (.t 5)),oA 23 (.fld 0 (.t 5)),oA 24 (.ld none (.t 23)),oA 25 (.idx 1 (.t 24) (.ci 0)),oA 26 (.ld none (.t 25)),oA 27 (.call (.f 170) [aR 22,aR 26]),oA 21 (.tk1 none 27),oA 28 (.ext (.t 21) 0),oA 29 (.exts 21 1),oA 6 (.alloc [(.slice none 0 0),(.slice none 0 0)]),oN (.st (some 2) (.t 6) (.t 28)),oA 7 (.mv (.t 29))] [0,1,4,6,7]) (.seq
  (.re [oA 30 (.mv (.t 7)),oA 31 (.bin .eql (.t 30) (.ci 0))] [0,1,4,6,31]) (.cond (.t 31) (.seq
  (.re [oA 32 (.ld (some 2) (.t 6)),oN (.st (some 2) (.t 4) (.t 32))] [0,1,4]) .ret) .skip)))) .skip)))))) (.seq
  (.re [oA 33 (.mvs 0),oA 34 (.mv (.t 1)),oA 35 (.calls (.f 412) (.t 33) 0 [(.t 34)]),oN (.st (some 2) (.t 4) (.t 35))] [0,1,4]) .ret)))

def c_spec_l03Draw:F where
 np:=2
 rs:=[.cell 4 (some 1)]
 fix:=[0,1]
 body :=
  (.seq
  (.re [oA 4 (.alloc [(.slice none 0 0)])] [0,1,4]) (.seq
  (.re [oA 6 (.mvs 0),oA 7 (.mv (.t 1)),oA 8 (.calls (.f 444) (.t 6) 0 [(.t 7)]),oA 5 (.asg (.t 8))] [0,1,4,5]) (.seq (.seq
  (.re [oA 9 (.mvs 0),oA 10 (.calls (.f 336) (.t 9) 0 [(.ci 2)]),oA 11 (.bin .eql (.t 10) (.ci 0))] [0,1,4,5,11]) (.cond (.t 11)
  (.re [oA 12 (.mv (.t 5)),oA 13 (.mvs 0),oA 14 (.mv (.t 5)),oA 15 (.len (.t 14)),oA 16 (.calls (.f 338) (.t 13) 0 [(.t 15)]),oA 17 (.call (.f 303) [aR 12,aR 16]),oA 5 (.asg (.t 17))] [0,1,4,5]) .skip)) (.seq
  (.re [oA 18 (.mv (.t 5)),oA 19 (.build [(.slice none 0 0)] [(0,1,(.t 18))]),oN (.st (some 1) (.t 4) (.t 19))] [0,1,4]) .ret))))

def j1u:F where
 np:=2
 rs:=[.t 4]
 fix:=[0,1]
 body :=
  (.seq
  (.re [oA 4 (.asg (.c (.slice none 0 0)))] [0,1]) (.seq
  (.re [oA 26 (.mvs 0),oA 27 (.mv (.t 1)),oA 28 (.calls (.f 336) (.t 26) 0 [(.t 27)]),oA 29 (.bin .add (.ci 1) (.t 28)),oA 5 (.mv (.t 29))] [0,1,5]) (.seq (.seq
  (.re [oA 30 (.mvs 0),oA 31 (.calls (.f 336) (.t 30) 0 [(.ci 5)])] [0,1,5,31]) (.block 0 (.seq
  (.re [oA 33 (.bin .eql (.t 31) (.ci 0)),oA 32 (.mv (.t 33))] [0,1,5,31,32]) (.cond (.t 32) (.seq
  (.re [oA 34 (.mvs 0),oA 35 (.mv (.t 5)),oA 36 (.calls (.f 338) (.t 34) 0 [(.t 35)]),oA 6 (.asg (.t 36))] [0,1,5,6]) (.seq
  (.re [oA 37 (.bsl []),oA 7 (.asg (.t 37))] [0,1,5,6,7]) (.seq (.seq
  (.re [oA 8 (.mv (.ci 0))] [0,1,5,6,7,8]) (.block 1 (.loop (.seq (.seq
  (.re [oA 38 (.mv (.t 8)),oA 39 (.mv (.t 5)),oA 40 (.bin .lss (.t 38) (.t 39))] [0,1,5,6,7,8,40]) (.cond (.t 40) .skip (.exit 1))) (.seq (.block 2
  (.re [oA 43 (.mv (.t 7)),oA 44 (.mv (.t 6)),oA 45 (.call (.f 31) [aR 44]),oA 46 (.bsl [(.t 45)]),oA 47 (.app true 1 (.t 43) (.t 46)),oA 7 (.asg (.t 47))] [0,1,5,6,7,8]))
  (.re [oA 41 (.mv (.t 8)),oA 42 (.bin .add (.t 41) (.ci 1)),oA 8 (.mv (.t 42))] [0,1,5,6,7,8])))))) (.seq
  (.re [oA 48 (.mv (.t 7)),oA 4 (.asg (.t 48))] [0,1,4]) .ret)))) (.seq
  (.re [oA 50 (.bin .eql (.t 31) (.ci 1)),oA 49 (.mv (.t 50))] [0,1,5,31,49]) (.cond (.t 49) (.seq
  (.re [oA 51 (.mv (.t 5)),oA 52 (.mv (.t 5)),oA 53 (.bin .sub (.t 52) (.ci 1)),oA 54 (.mv (.t 5)),oA 55 (.bin .rem (.ci 2) (.t 54)),oA 56 (.call (.f 455) [aR 51,aR 53,aR 55]),oA 4 (.asg (.t 56))] [0,1,4]) .ret) (.seq
  (.re [oA 58 (.bin .eql (.t 31) (.ci 2)),oA 57 (.mv (.t 58))] [0,1,5,31,57]) (.cond (.t 57) (.seq
  (.re [oA 9 (.mv (.ci 0))] [0,1,5,9]) (.block 3 (.loop (.seq (.seq
  (.re [oA 59 (.mv (.t 9)),oA 60 (.bin .lss (.t 59) (.ci 6))] [0,1,5,9,60]) (.cond (.t 60) .skip (.exit 3))) (.seq (.block 4 (.seq
  (.re [oA 63 (.mvs 0),oA 64 (.mv (.t 5)),oA 65 (.calls (.f 336) (.t 63) 0 [(.t 64)]),oA 10 (.mv (.t 65))] [0,1,5,9,10]) (.seq
  (.re [oA 66 (.mv (.t 10)),oA 67 (.mv (.t 5)),oA 68 (.call (.f 456) [aR 66,aR 67])] [0,1,5,9,10,68]) (.cond (.t 68) (.seq
  (.re [oA 69 (.mv (.t 5)),oA 70 (.mv (.t 10)),oA 71 (.mv (.t 10)),oA 72 (.bin .sub (.ci 1) (.t 71)),oA 73 (.mv (.t 5)),oA 74 (.bin .add (.t 72) (.t 73)),oA 75 (.mv (.t 5)),oA 76 (.bin .rem (.t 74) (.t 75)),oA 77 (.call (.f 455) [aR 69,aR 70,aR 76]),oA 4 (.asg (.t 77))] [0,1,4]) .ret) .skip))))
  (.re [oA 61 (.mv (.t 9)),oA 62 (.bin .add (.t 61) (.ci 1)),oA 9 (.mv (.t 62))] [0,1,5,9])))))) (.seq
  (.re [oA 79 (.bin .eql (.t 31) (.ci 3)),oA 78 (.mv (.t 79))] [0,1,5,78]) (.cond (.t 78) (.seq
  (.re [oA 80 (.mv (.t 1)),oA 81 (.bin .geq (.t 80) (.ci 6))] [0,1,5,81]) (.cond (.t 81) (.seq
  (.re [oA 82 (.call (.f 457) [((.ci 3),.r)]),oA 83 (.bsl []),oA 11 (.asg (.t 82)),oA 12 (.asg (.t 83))] [0,1,11,12]) (.seq (.seq
  (.re [oA 84 (.mvs 0),oA 85 (.calls (.f 336) (.t 84) 0 [(.ci 2)]),oA 86 (.bin .eql (.t 85) (.ci 0))] [0,1,11,12,86]) (.cond (.t 86)
  (.re [oA 87 (.bsl [(.ci 0),(.ci 2),(.ci 1)]),oA 88 (.bsl [(.ci 1),(.ci 0),(.ci 2)]),oA 89 (.bsl [(.ci 2),(.ci 1),(.ci 0)]),oA 90 (.bsl [(.t 87),(.t 88),(.t 89)]),oA 11 (.asg (.t 90))] [0,1,11,12]) .skip)) (.seq (.seq
  (.re [oA 13 (.mv (.ci 0))] [0,1,11,12,13]) (.block 5 (.loop (.seq (.seq
  (.re [oA 91 (.mv (.t 13)),oA 92 (.mv (.t 11)),oA 93 (.len (.t 92)),oA 94 (.bin .lss (.t 91) (.t 93))] [0,1,11,12,13,94]) (.cond (.t 94) .skip (.exit 5))) (.seq (.block 6 (.seq
  (.re [oA 97 (.bsl []),oA 14 (.asg (.t 97))] [0,1,11,12,13,14]) (.seq (.seq
  (.re [oA 15 (.mv (.ci 0))] [0,1,11,12,13,14,15]) (.block 7 (.loop (.seq (.seq
  (.re [oA 98 (.mv (.t 15)),oA 99 (.mv (.t 11)),oA 100 (.len (.t 99)),oA 101 (.bin .lss (.t 98) (.t 100))] [0,1,11,12,13,14,15,101]) (.cond (.t 101) .skip (.exit 7))) (.seq (.block 8 (.seq
  (.region (some [104,105,106,107,108,109,110,111,112,113,114,115,116,117]) [oA 104 (.mv (.t 11)),oA 105 (.mv (.t 13)),oA 106 (.idx 1 (.t 104) (.t 105)),oA 107 (.ld none (.t 106)),oA 108 (.call (.f 304) [aR 107]),oA 109 (.mv (.t 11)),oA 110 (.mv (.t 15)),oA 111 (.idx 1 (.t 109) (.t 110)),oA 112 (.ld none (.t 111)),oA 113 (.call (.f 279) [aR 108,aR 112]),oA 114 (.mv (.t 11)),oA 115 (.mv (.t 13)),oA 116 (.idx 1 (.t 114) (.t 115)),oA 117 (.ld none (.t 116)),oA 118 (.call (.f 279) [aR 113,aR 117]),oA 16 (.asg (.t 118))] [0,1,11,12,13,14,15,16]) (.seq
  (.re [oA 17 (.mv (.ci 0))] [0,1,11,12,13,14,15,16,17]) (.seq (.block 9 (.loop (.seq (.seq
  (.re [oA 119 (.mv (.t 11)),oA 120 (.mv (.t 17)),oA 121 (.idx 1 (.t 119) (.t 120)),oA 122 (.ld none (.t 121)),oA 123 (.mv (.t 16)),oA 124 (.call (.f 67) [aR 122,aR 123]),oA 125 (.un .not (.t 124))] [0,1,11,12,13,14,15,16,17,125]) (.cond (.t 125) .skip (.exit 9))) (.block 10
  (.re [oA 126 (.mv (.t 17)),oA 127 (.bin .add (.t 126) (.ci 1)),oA 17 (.mv (.t 127))] [0,1,11,12,13,14,15,16,17])))))
  (.re [oA 128 (.mv (.t 14)),oA 129 (.mv (.t 17)),oA 130 (.bsl [(.t 129)]),oA 131 (.app true 1 (.t 128) (.t 130)),oA 14 (.asg (.t 131))] [0,1,11,12,13,14,15])))))
  (.re [oA 102 (.mv (.t 15)),oA 103 (.bin .add (.t 102) (.ci 1)),oA 15 (.mv (.t 103))] [0,1,11,12,13,14,15]))))))
  (.re [oA 132 (.mv (.t 12)),oA 133 (.mv (.t 14)),oA 134 (.bsl [(.t 133)]),oA 135 (.app true 1 (.t 132) (.t 134)),oA 12 (.asg (.t 135))] [0,1,11,12,13]))))
  (.re [oA 95 (.mv (.t 13)),oA 96 (.bin .add (.t 95) (.ci 1)),oA 13 (.mv (.t 96))] [0,1,11,12,13])))))) (.seq
  (.re [oA 136 (.mv (.t 12)),oA 4 (.asg (.t 136))] [0,1,4]) .ret)))) .skip)) .skip)))))))))) (.seq
  (.re [oA 137 (.mvs 0),oA 138 (.mv (.t 5)),oA 139 (.calls (.f 336) (.t 137) 0 [(.t 138)]),oA 18 (.mv (.t 139))] [0,1,5,18]) (.seq
  (.region (some [140,141,142,143,144,145,146,147,148,149,150,151,152,153,154,155]) [oA 140 (.mv (.t 18)),oA 141 (.mm true (.ci 1) (.t 140)),oA 142 (.mv (.t 18)),oA 143 (.mm true (.ci 1) (.t 142)),oA 144 (.bin .sub (.t 143) (.ci 1)),oA 145 (.mv (.t 18)),oA 146 (.mm true (.ci 1) (.t 145)),oA 147 (.bin .rem (.ci 2) (.t 146)),oA 148 (.call (.f 455) [aR 141,aR 144,aR 147]),oA 149 (.mv (.t 5)),oA 150 (.mv (.t 18)),oA 151 (.bin .sub (.t 149) (.t 150)),oA 152 (.mv (.t 5)),oA 153 (.mv (.t 18)),oA 154 (.bin .sub (.t 152) (.t 153)),oA 155 (.bin .rem (.ci 1) (.t 154)),oA 156 (.call (.f 455) [aR 151,aR 155,((.ci 0),.r)]),oA 19 (.asg (.t 148)),oA 20 (.asg (.t 156))] [0,1,5,18,19,20]) (.seq (.seq
  (.re [oA 157 (.mv (.t 18)),oA 158 (.bin .eql (.t 157) (.ci 0))] [0,1,5,18,19,20,158]) (.cond (.t 158) (.seq
  (.re [oA 159 (.mv (.t 20)),oA 4 (.asg (.t 159))] [0,1,4]) .ret) .skip)) (.seq
  (.re [oA 160 (.mvs 0),oA 161 (.mv (.t 5)),oA 162 (.mv (.t 18)),oA 163 (.bin .sub (.t 161) (.t 162)),oA 164 (.calls (.f 338) (.t 160) 0 [(.t 163)]),oA 21 (.asg (.t 164))] [0,1,5,18,19,20,21]) (.seq
  (.re [oA 165 (.bsl []),oA 22 (.asg (.t 165))] [0,1,5,18,19,20,21,22]) (.seq (.seq
  (.re [oA 23 (.mv (.ci 0))] [0,1,5,18,19,20,21,22,23]) (.block 11 (.loop (.seq (.seq
  (.re [oA 166 (.mv (.t 23)),oA 167 (.mv (.t 5)),oA 168 (.bin .lss (.t 166) (.t 167))] [0,1,5,18,19,20,21,22,23,168]) (.cond (.t 168) .skip (.exit 11))) (.seq (.block 12 (.seq
  (.re [oA 171 (.bsl []),oA 24 (.asg (.t 171))] [0,1,5,18,19,20,21,22,23,24]) (.seq (.seq
  (.re [oA 25 (.mv (.ci 0))] [0,1,5,18,19,20,21,22,23,24,25]) (.block 13 (.loop (.seq (.seq
  (.re [oA 172 (.mv (.t 25)),oA 173 (.mv (.t 5)),oA 174 (.bin .lss (.t 172) (.t 173))] [0,1,5,18,19,20,21,22,23,24,25,174]) (.cond (.t 174) .skip (.exit 13))) (.seq (.block 14 (.block 15 (.seq
  (.re [oA 182 (.mv (.t 23)),oA 183 (.mv (.t 18)),oA 184 (.bin .lss (.t 182) (.t 183)),oA 185 (.mv (.t 184)),oI 186 185 true (.mv (.t 25)),oI 187 185 true (.mv (.t 18)),oI 188 185 true (.bin .lss (.t 186) (.t 187)),oA 189 (.pick (.t 185) (.t 188) (.c (.bool false))),oA 181 (.mv (.t 189))] [0,1,5,18,19,20,21,22,23,24,25,181]) (.cond (.t 181)
  (.re [oA 190 (.mv (.t 24)),oA 191 (.mv (.t 19)),oA 192 (.mv (.t 23)),oA 193 (.idx 1 (.t 191) (.t 192)),oA 194 (.ld none (.t 193)),oA 195 (.mv (.t 25)),oA 196 (.idx 1 (.t 194) (.t 195)),oA 197 (.ld none (.t 196)),oA 198 (.bsl [(.t 197)]),oA 199 (.app true 1 (.t 190) (.t 198)),oA 24 (.asg (.t 199))] [0,1,5,18,19,20,21,22,23,24,25]) (.seq
  (.re [oA 201 (.mv (.t 23)),oA 202 (.mv (.t 18)),oA 203 (.bin .geq (.t 201) (.t 202)),oA 204 (.mv (.t 203)),oI 205 204 true (.mv (.t 25)),oI 206 204 true (.mv (.t 18)),oI 207 204 true (.bin .geq (.t 205) (.t 206)),oA 208 (.pick (.t 204) (.t 207) (.c (.bool false))),oA 200 (.mv (.t 208))] [0,1,5,18,19,20,21,22,23,24,25,200]) (.cond (.t 200)
  (.re [oA 209 (.mv (.t 24)),oA 210 (.mv (.t 18)),oA 211 (.mv (.t 21)),oA 212 (.mv (.t 20)),oA 213 (.mv (.t 23)),oA 214 (.mv (.t 18)),oA 215 (.bin .sub (.t 213) (.t 214)),oA 216 (.idx 1 (.t 212) (.t 215)),oA 217 (.ld none (.t 216)),oA 218 (.mv (.t 25)),oA 219 (.mv (.t 18)),oA 220 (.bin .sub (.t 218) (.t 219)),oA 221 (.idx 1 (.t 217) (.t 220)),oA 222 (.ld none (.t 221)),oA 223 (.idx 1 (.t 211) (.t 222)),oA 224 (.ld none (.t 223)),oA 225 (.bin .add (.t 210) (.t 224)),oA 226 (.bsl [(.t 225)]),oA 227 (.app true 1 (.t 209) (.t 226)),oA 24 (.asg (.t 227))] [0,1,5,18,19,20,21,22,23,24,25])
  (.re [oA 177 (.mv (.t 24)),oA 178 (.mv (.t 25)),oA 179 (.bsl [(.t 178)]),oA 180 (.app true 1 (.t 177) (.t 179)),oA 24 (.asg (.t 180))] [0,1,5,18,19,20,21,22,23,24,25])))))))
  (.re [oA 175 (.mv (.t 25)),oA 176 (.bin .add (.t 175) (.ci 1)),oA 25 (.mv (.t 176))] [0,1,5,18,19,20,21,22,23,24,25]))))))
  (.re [oA 228 (.mv (.t 22)),oA 229 (.mv (.t 24)),oA 230 (.bsl [(.t 229)]),oA 231 (.app true 1 (.t 228) (.t 230)),oA 22 (.asg (.t 231))] [0,1,5,18,19,20,21,22,23]))))
  (.re [oA 169 (.mv (.t 23)),oA 170 (.bin .add (.t 169) (.ci 1)),oA 23 (.mv (.t 170))] [0,1,5,18,19,20,21,22,23])))))) (.seq
  (.re [oA 232 (.mv (.t 22)),oA 4 (.asg (.t 232))] [0,1,4]) .ret))))))))))

def c_spec_l03DrawPerm:F where
 np:=2
 rs:=[.t 4]
 fix:=[0,1]
 body :=
  (.seq
  (.re [oA 4 (.asg (.c (.slice none 0 0)))] [0,1]) (.seq
  (.re [oA 9 (.bsl []),oA 5 (.asg (.t 9))] [0,1,5]) (.seq (.seq
  (.re [oA 6 (.mv (.ci 0))] [0,1,5,6]) (.block 0 (.loop (.seq (.seq
  (.re [oA 10 (.mv (.t 6)),oA 11 (.mv (.t 1)),oA 12 (.bin .lss (.t 10) (.t 11))] [0,1,5,6,12]) (.cond (.t 12) .skip (.exit 0))) (.seq (.block 1 (.seq
  (.re [oA 15 (.mvs 0),oA 16 (.mv (.t 6)),oA 17 (.bin .add (.t 16) (.ci 1)),oA 18 (.calls (.f 336) (.t 15) 0 [(.t 17)]),oA 7 (.mv (.t 18))] [0,1,5,6,7]) (.seq
  (.re [oA 19 (.mv (.t 6)),oA 20 (.bsl [(.t 19)]),oA 21 (.mv (.t 5)),oA 22 (.mv (.t 7)),oA 23 (.sl 1 (.t 21) (some (.t 22)) none),oA 24 (.app false 1 (.t 20) (.t 23)),oA 8 (.asg (.t 24))] [0,1,5,6,7,8])
  (.re [oA 25 (.bsl []),oA 26 (.mv (.t 5)),oA 27 (.mv (.t 7)),oA 28 (.sl 1 (.t 26) none (some (.t 27))),oA 29 (.app false 1 (.t 25) (.t 28)),oA 30 (.mv (.t 8)),oA 31 (.app false 1 (.t 29) (.t 30)),oA 5 (.asg (.t 31))] [0,1,5,6]))))
  (.re [oA 13 (.mv (.t 6)),oA 14 (.bin .add (.t 13) (.ci 1)),oA 6 (.mv (.t 14))] [0,1,5,6])))))) (.seq
  (.re [oA 32 (.mv (.t 5)),oA 4 (.asg (.t 32))] [0,1,4]) .ret))))

def c_spec_l03Alexander:F where
 np:=3
 rs:=[.t 6]
 body :=
  (.seq
  (.re [oA 6 (.asg (.c (.slice none 0 0)))] [0,1,2]) (.seq
  (.re [oA 11 (.bsl []),oA 7 (.asg (.t 11))] [0,1,2,7]) (.seq (.seq
  (.re [oA 8 (.mv (.ci 0))] [0,1,2,7,8]) (.block 0 (.loop (.seq (.seq
  (.re [oA 12 (.mv (.t 8)),oA 13 (.mv (.t 0)),oA 14 (.bin .lss (.t 12) (.t 13))] [0,1,2,7,8,14]) (.cond (.t 14) .skip (.exit 0))) (.seq (.block 1 (.seq
  (.re [oA 17 (.bsl []),oA 9 (.asg (.t 17))] [0,1,2,7,8,9]) (.seq (.seq
  (.re [oA 10 (.mv (.ci 0))] [0,1,2,7,8,9,10]) (.block 2 (.loop (.seq (.seq
  (.re [oA 18 (.mv (.t 10)),oA 19 (.mv (.t 0)),oA 20 (.bin .lss (.t 18) (.t 19))] [0,1,2,7,8,9,10,20]) (.cond (.t 20) .skip (.exit 2))) (.seq (.block 3
  (.re [oA 23 (.mv (.t 9)),oA 24 (.mv (.t 2)),oA 25 (.mv (.t 8)),oA 26 (.bin .mul (.t 24) (.t 25)),oA 27 (.mv (.t 1)),oA 28 (.mv (.t 10)),oA 29 (.bin .mul (.t 27) (.t 28)),oA 30 (.bin .add (.t 26) (.t 29)),oA 31 (.mv (.t 0)),oA 32 (.bin .rem (.t 30) (.t 31)),oA 33 (.bsl [(.t 32)]),oA 34 (.app true 1 (.t 23) (.t 33)),oA 9 (.asg (.t 34))] [0,1,2,7,8,9,10]))
  (.re [oA 21 (.mv (.t 10)),oA 22 (.bin .add (.t 21) (.ci 1)),oA 10 (.mv (.t 22))] [0,1,2,7,8,9,10]))))))
  (.re [oA 35 (.mv (.t 7)),oA 36 (.mv (.t 9)),oA 37 (.bsl [(.t 36)]),oA 38 (.app true 1 (.t 35) (.t 37)),oA 7 (.asg (.t 38))] [0,1,2,7,8]))))
  (.re [oA 15 (.mv (.t 8)),oA 16 (.bin .add (.t 15) (.ci 1)),oA 8 (.mv (.t 16))] [0,1,2,7,8])))))) (.seq
  (.re [oA 39 (.mv (.t 7)),oA 6 (.asg (.t 39))] [6]) .ret))))

def c_spec_l03Coprime:F where
 np:=2
 rs:=[.t 4]
 body :=
  (.seq
  (.re [oA 4 (.mv (.c (.bool false)))] [0,1]) (.seq (.seq
  (.re [oA 5 (.mv (.ci 2))] [0,1,5]) (.block 0 (.loop (.seq (.seq
  (.re [oA 6 (.mv (.t 5)),oA 7 (.mv (.t 1)),oA 8 (.bin .leq (.t 6) (.t 7))] [0,1,5,8]) (.cond (.t 8) .skip (.exit 0))) (.seq (.block 1 (.seq
  (.re [oA 11 (.mv (.t 0)),oA 12 (.mv (.t 5)),oA 13 (.bin .rem (.t 11) (.t 12)),oA 14 (.bin .eql (.t 13) (.ci 0)),oA 15 (.mv (.t 14)),oI 16 15 true (.mv (.t 1)),oI 17 15 true (.mv (.t 5)),oI 18 15 true (.bin .rem (.t 16) (.t 17)),oI 19 15 true (.bin .eql (.t 18) (.ci 0)),oA 20 (.pick (.t 15) (.t 19) (.c (.bool false)))] [0,1,5,20]) (.cond (.t 20) (.seq
  (.re [oA 4 (.mv (.c (.bool false)))] [4]) .ret) .skip)))
  (.re [oA 9 (.mv (.t 5)),oA 10 (.bin .add (.t 9) (.ci 1)),oA 5 (.mv (.t 10))] [0,1,5])))))) (.seq
  (.re [oA 4 (.mv (.c (.bool true)))] [4]) .ret)))

def c_spec_l01Perms:F where
 np:=1
 rs:=[.t 2]
 body :=
  (.seq
  (.re [oA 2 (.asg (.c (.slice none 0 0)))] [0]) (.seq
  (.re [oA 3 (.mv (.t 0)),oA 4 (.bsl []),oA 5 (.bsl []),oA 6 (.callm (.f 466) [((.t 3),false),((.t 4),false),((.t 5),false)] []),oA 2 (.asg (.t 6))] [2]) .ret))

def c_spec_l01Grow:F where
 np:=3
 rs:=[.t 6]
 fix:=[0,1]
 body :=
  (.seq
  (.re [oA 6 (.asg (.c (.slice none 0 0)))] [0,1,2]) (.seq (.seq
  (.re [oA 8 (.mv (.t 1)),oA 9 (.len (.t 8)),oA 10 (.mv (.t 0)),oA 11 (.bin .eql (.t 9) (.t 10))] [0,1,2,11]) (.cond (.t 11) (.seq
  (.re [oA 12 (.mv (.t 2)),oA 13 (.mv (.t 1)),oA 14 (.bsl [(.t 13)]),oA 15 (.app true 1 (.t 12) (.t 14)),oA 6 (.asg (.t 15))] [0,1,2,6]) .ret) .skip)) (.seq (.seq
  (.re [oA 7 (.mv (.ci 0))] [0,1,2,7]) (.block 0 (.loop (.seq (.seq
  (.re [oA 16 (.mv (.t 7)),oA 17 (.mv (.t 0)),oA 18 (.bin .lss (.t 16) (.t 17))] [0,1,2,7,18]) (.cond (.t 18) .skip (.exit 0))) (.seq (.block 1 (.seq
  (.re [oA 21 (.mv (.t 1)),oA 22 (.mv (.t 7)),oA 23 (.call (.f 62) [aR 21,aR 22]),oA 24 (.un .not (.t 23))] [0,1,2,7,24]) (.cond (.t 24)
  (.re [oA 25 (.mv (.t 0)),oA 26 (.mv (.t 1)),oA 27 (.call (.f 31) [aR 26]),oA 28 (.mv (.t 7)),oA 29 (.bsl [(.t 28)]),oA 30 (.app true 1 (.t 27) (.t 29)),oA 31 (.mv (.t 2)),oA 32 (.callm (.f 466) [((.t 25),false),((.t 30),false),((.t 31),false)] []),oA 2 (.asg (.t 32))] [0,1,2,7]) .skip)))
  (.re [oA 19 (.mv (.t 7)),oA 20 (.bin .add (.t 19) (.ci 1)),oA 7 (.mv (.t 20))] [0,1,2,7])))))) (.seq
  (.re [oA 33 (.mv (.t 2)),oA 6 (.asg (.t 33))] [0,1,2,6]) .ret))))

def c_spec_l03Solution:F where
 np:=1
 rs:=[.cell 2 (some 2)]
 body :=
  (.seq
  (.re [oA 1 (.box (.t 0)),oA 2 (.alloc [(.slice none 0 0),(.slice none 0 0)])] [1,2]) (.seq
  (.re [oA 7 (.fld 0 (.t 1)),oA 8 (.ld none (.t 7)),oA 9 (.call (.f 280) [aR 8]),oA 10 (.build [(.slice none 0 0),(.slice none 0 0)] [(0,1,(.t 9))]),oA 3 (.alloc [(.slice none 0 0),(.slice none 0 0)]),oN (.st (some 2) (.t 3) (.t 10))] [1,2,3]) (.seq (.seq
  (.re [oA 4 (.mv (.ci 0))] [1,2,3,4]) (.block 0 (.loop (.seq (.seq
  (.re [oA 11 (.mv (.t 4)),oA 12 (.fld 0 (.t 1)),oA 13 (.ld none (.t 12)),oA 14 (.len (.t 13)),oA 15 (.bin .lss (.t 11) (.t 14))] [1,2,3,4,15]) (.cond (.t 15) .skip (.exit 0))) (.seq (.block 1 (.seq
  (.re [oA 18 (.bsl []),oA 5 (.asg (.t 18))] [1,2,3,4,5]) (.seq (.seq
  (.re [oA 6 (.mv (.ci 0))] [1,2,3,4,5,6]) (.block 2 (.loop (.seq (.seq
  (.re [oA 19 (.mv (.t 6)),oA 20 (.fld 0 (.t 1)),oA 21 (.ld none (.t 20)),oA 22 (.len (.t 21)),oA 23 (.bin .lss (.t 19) (.t 22))] [1,2,3,4,5,6,23]) (.cond (.t 23) .skip (.exit 2))) (.seq (.block 3
  (.re [oA 26 (.mv (.t 5)),oA 27 (.mv (.t 4)),oA 28 (.bsl [(.t 27)]),oA 29 (.app true 1 (.t 26) (.t 28)),oA 5 (.asg (.t 29))] [1,2,3,4,5,6]))
  (.re [oA 24 (.mv (.t 6)),oA 25 (.bin .add (.t 24) (.ci 1)),oA 6 (.mv (.t 25))] [1,2,3,4,5,6]))))))
  (.re [oA 30 (.fld 1 (.t 3)),oA 31 (.ld none (.t 30)),oA 32 (.mv (.t 5)),oA 33 (.bsl [(.t 32)]),oA 34 (.app true 1 (.t 31) (.t 33)),oA 35 (.fld 1 (.t 3)),oN (.st none (.t 35) (.t 34))] [1,2,3,4]))))
  (.re [oA 16 (.mv (.t 4)),oA 17 (.bin .add (.t 16) (.ci 1)),oA 4 (.mv (.t 17))] [1,2,3,4])))))) (.seq
  (.re [oA 36 (.ld (some 2) (.t 3)),oN (.st (some 2) (.t 2) (.t 36))] [2]) .ret))))

def j1t:F where
 np:=3
 rs:=[.t 6]
 fix:=[0,1,2]
 body :=
  (.seq
  (.re [oA 6 (.asg (.c (.slice none 0 0)))] [0,1,2]) (.seq
  (.re [oA 9 (.bsl []),oA 7 (.asg (.t 9))] [0,1,2,7]) (.seq (.seq
  (.re [oA 10 (.mvs 0),oA 11 (.mv (.t 2)),oA 12 (.bin .add (.t 11) (.ci 1)),oA 13 (.calls (.f 336) (.t 10) 0 [(.t 12)]),oA 8 (.mv (.t 13))] [0,1,2,7,8]) (.block 0 (.loop (.seq (.seq
  (.re [oA 14 (.mv (.t 8)),oA 15 (.bin .gtr (.t 14) (.ci 0))] [0,1,2,7,8,15]) (.cond (.t 15) .skip (.exit 0))) (.seq (.block 1
  (.re [oA 18 (.mv (.t 7)),oA 19 (.mvs 0),oA 20 (.mv (.t 1)),oA 21 (.calls (.f 336) (.t 19) 0 [(.t 20)]),oA 22 (.bsl [(.t 21)]),oA 23 (.app true 1 (.t 18) (.t 22)),oA 7 (.asg (.t 23))] [0,1,2,7,8]))
  (.re [oA 16 (.mv (.t 8)),oA 17 (.bin .sub (.t 16) (.ci 1)),oA 8 (.mv (.t 17))] [0,1,2,7,8])))))) (.seq (.seq
  (.re [oA 24 (.mvs 0),oA 25 (.calls (.f 336) (.t 24) 0 [(.ci 24)])] [0,1,2,7,25]) (.block 2 (.seq
  (.re [oA 27 (.bin .eql (.t 25) (.ci 0)),oA 26 (.mv (.t 27))] [0,1,2,7,25,26]) (.cond (.t 26)
  (.re [oA 28 (.mv (.t 7)),oA 29 (.mv (.t 1)),oA 30 (.bsl [(.t 29)]),oA 31 (.app true 1 (.t 28) (.t 30)),oA 7 (.asg (.t 31))] [0,1,2,7]) (.seq
  (.re [oA 33 (.bin .eql (.t 25) (.ci 1)),oA 32 (.mv (.t 33))] [0,1,2,7,32]) (.cond (.t 32) (.block 3 (.loop (.seq (.seq
  (.re [oA 34 (.mv (.t 7)),oA 35 (.len (.t 34)),oA 36 (.bin .lss (.t 35) (.ci 13))] [0,1,2,7,36]) (.cond (.t 36) .skip (.exit 3))) (.block 4
  (.re [oA 37 (.mv (.t 7)),oA 38 (.bsl [(.ci 0)]),oA 39 (.app true 1 (.t 37) (.t 38)),oA 7 (.asg (.t 39))] [0,1,2,7]))))) .skip)))))) (.seq
  (.re [oA 40 (.mv (.t 7)),oA 6 (.asg (.t 40))] [0,1,2,6]) .ret)))))

def c_spec_l01From:F where
 np:=1
 rs:=[.t 2]
 body :=
  (.seq
  (.re [oA 2 (.asg (.c (.pointer none)))] [0]) (.seq
  (.re [oA 5 (.mv (.t 0)),oA 6 (.mv (.t 0)),oA 7 (.len (.t 6)),oA 8 (.conv .u64 (.t 7)),oA 9 (.bin .add (.c (.int .u64 6553)) (.t 8)),oA 10 (.build [(.slice none 0 0),(.int .i64 0),(.int .u64 0)] [(0,1,(.t 5)),(2,1,(.t 9))]),oA 11 (.box (.t 10)),oA 3 (.asg (.t 11))] [0,3]) (.seq (.seq
  (.re [oA 4 (.mv (.ci 0))] [0,3,4]) (.block 0 (.loop (.seq (.seq
  (.re [oA 12 (.mv (.t 4)),oA 13 (.mv (.t 0)),oA 14 (.len (.t 13)),oA 15 (.bin .lss (.t 12) (.t 14)),oA 16 (.mv (.t 15)),oI 17 16 true (.mv (.t 4)),oI 18 16 true (.bin .lss (.t 17) (.ci 4096)),oA 19 (.pick (.t 16) (.t 18) (.c (.bool false)))] [0,3,4,19]) (.cond (.t 19) .skip (.exit 0))) (.seq (.block 1
  (.region (some [22,23,24,25,26,27,28,29,30,31,32,33,34]) [oA 22 (.mv (.t 3)),oA 23 (.mv (.t 3)),oA 24 (.nilck (.t 23)),oA 25 (.fld 2 (.t 24)),oA 26 (.ld none (.t 25)),oA 27 (.bin .mul (.t 26) (.c (.int .u64 1099511628211))),oA 28 (.mv (.t 0)),oA 29 (.mv (.t 4)),oA 30 (.idx 1 (.t 28) (.t 29)),oA 31 (.ld none (.t 30)),oA 32 (.conv .u64 (.t 31)),oA 33 (.bin .add (.t 27) (.t 32)),oA 34 (.bin .add (.t 33) (.c (.int .u64 11))),oA 35 (.nilck (.t 22)),oA 36 (.fld 2 (.t 35)),oN (.st none (.t 36) (.t 34))] [0,3,4]))
  (.re [oA 20 (.mv (.t 4)),oA 21 (.bin .add (.t 20) (.ci 1)),oA 4 (.mv (.t 21))] [0,3,4])))))) (.seq
  (.re [oA 37 (.mv (.t 3)),oA 2 (.asg (.t 37))] [2]) .ret))))

def c_laws_big:F where
 np:=1
 rs:=[.t 2]
 body :=
  (.seq
  (.re [oA 2 (.mv (.c (.bool false)))] [0]) (.seq
  (.re [oA 3 (.mv (.t 0)),oA 4 (.len (.t 3)),oA 5 (.bin .gtr (.t 4) (.ci 4096)),oA 2 (.mv (.t 5))] [2]) .ret))

def c_laws_likeInts:F where
 np:=2
 rs:=[.t 4]
 body :=
  (.seq
  (.re [oA 4 (.mv (.c (.bool false)))] [0,1]) (.seq (.seq
  (.re [oA 6 (.mv (.t 0)),oA 7 (.len (.t 6)),oA 8 (.mv (.t 1)),oA 9 (.len (.t 8)),oA 10 (.bin .neq (.t 7) (.t 9))] [0,1,10]) (.cond (.t 10) (.seq
  (.re [oA 4 (.mv (.c (.bool false)))] [4]) .ret) .skip)) (.seq (.seq
  (.re [oA 5 (.mv (.ci 0))] [0,1,5]) (.block 0 (.loop (.seq (.seq
  (.re [oA 11 (.mv (.t 5)),oA 12 (.mv (.t 0)),oA 13 (.len (.t 12)),oA 14 (.bin .lss (.t 11) (.t 13))] [0,1,5,14]) (.cond (.t 14) .skip (.exit 0))) (.seq (.block 1 (.seq
  (.region (some [17,18,19,20,21,22,23,24]) [oA 17 (.mv (.t 0)),oA 18 (.mv (.t 5)),oA 19 (.idx 1 (.t 17) (.t 18)),oA 20 (.ld none (.t 19)),oA 21 (.mv (.t 1)),oA 22 (.mv (.t 5)),oA 23 (.idx 1 (.t 21) (.t 22)),oA 24 (.ld none (.t 23)),oA 25 (.bin .neq (.t 20) (.t 24))] [0,1,5,25]) (.cond (.t 25) (.seq
  (.re [oA 4 (.mv (.c (.bool false)))] [4]) .ret) .skip)))
  (.re [oA 15 (.mv (.t 5)),oA 16 (.bin .add (.t 15) (.ci 1)),oA 5 (.mv (.t 16))] [0,1,5])))))) (.seq
  (.re [oA 4 (.mv (.c (.bool true)))] [4]) .ret))))

def c_laws_roll:F where
 np:=2
 rs:=[.t 4]
 body :=
  (.seq
  (.re [oA 4 (.asg (.c (.pointer none)))] [0,1]) (.seq
  (.re [oA 7 (.mv (.t 0)),oA 8 (.mv (.t 1)),oA 9 (.bin .mul (.t 8) (.c (.int .u64 5507))),oA 10 (.mv (.t 0)),oA 11 (.len (.t 10)),oA 12 (.conv .u64 (.t 11)),oA 13 (.bin .add (.t 9) (.t 12)),oA 14 (.build [(.slice none 0 0),(.int .i64 0),(.int .u64 0)] [(0,1,(.t 7)),(2,1,(.t 13))]),oA 15 (.box (.t 14)),oA 5 (.asg (.t 15))] [0,5]) (.seq (.seq
  (.re [oA 6 (.mv (.ci 0))] [0,5,6]) (.block 0 (.loop (.seq (.seq
  (.re [oA 16 (.mv (.t 6)),oA 17 (.mv (.t 0)),oA 18 (.len (.t 17)),oA 19 (.bin .lss (.t 16) (.t 18))] [0,5,6,19]) (.cond (.t 19) .skip (.exit 0))) (.seq (.block 1
  (.region (some [22,23,24,25,26,27,28,29,30,31,32,33,34]) [oA 22 (.mv (.t 5)),oA 23 (.mv (.t 5)),oA 24 (.nilck (.t 23)),oA 25 (.fld 2 (.t 24)),oA 26 (.ld none (.t 25)),oA 27 (.bin .mul (.t 26) (.c (.int .u64 1099511628211))),oA 28 (.mv (.t 0)),oA 29 (.mv (.t 6)),oA 30 (.idx 1 (.t 28) (.t 29)),oA 31 (.ld none (.t 30)),oA 32 (.conv .u64 (.t 31)),oA 33 (.bin .add (.t 27) (.t 32)),oA 34 (.bin .add (.t 33) (.c (.int .u64 5))),oA 35 (.nilck (.t 22)),oA 36 (.fld 2 (.t 35)),oN (.st none (.t 36) (.t 34))] [0,5,6]))
  (.re [oA 20 (.mv (.t 6)),oA 21 (.bin .add (.t 20) (.ci 1)),oA 6 (.mv (.t 21))] [0,5,6])))))) (.seq
  (.re [oA 37 (.mv (.t 5)),oA 4 (.asg (.t 37))] [4]) .ret))))

def c_laws_FnTupleOrbits:F where
 np:=1
 rs:=[.t 2]
 body :=
  (.seq
  (.re [oA 2 (.mv (.c (.bool false)))] [0]) (.seq (.seq
  (.re [oA 30 (.mv (.t 0)),oA 31 (.call (.f 128) [aR 30])] [0,31]) (.cond (.t 31) (.seq
  (.re [oA 2 (.mv (.c (.bool true)))] [2]) .ret) .skip)) (.seq
  (.re [oA 33 (.mv (.t 0)),oA 34 (.call (.f 175) [aR 33]),oA 32 (.mv (.t 34)),oA 35 (.ext (.t 32) 0),oA 36 (.ext (.t 32) 1),oA 3 (.alloc [(.slice none 0 0),(.slice none 0 0)]),oN (.st (some 2) (.t 3) (.t 35)),oA 4 (.asg (.t 36))] [0,3,4]) (.seq
  (.re [oA 38 (.ld (some 2) (.t 3)),oA 39 (.mv (.t 4)),oA 40 (.call (.f 176) [aR 38,aR 39]),oN (.freeze 40),oA 37 (.mv (.t 40)),oA 41 (.ext (.t 37) 0),oA 42 (.ext (.t 37) 1),oA 5 (.asg (.t 41)),oA 6 (.mv (.t 42))] [0,3,4,5,6]) (.seq (.seq
  (.re [oA 44 (.ld (some 2) (.t 3)),oA 45 (.mv (.t 4)),oA 46 (.call (.f 177) [aR 44,aR 45]),oA 43 (.mv (.t 46)),oA 47 (.ext (.t 43) 0),oA 48 (.ext (.t 43) 1),oA 7 (.asg (.t 47)),oA 8 (.mv (.t 48))] [0,3,5,6,7,8]) (.seq
  (.re [oA 49 (.mv (.t 6)),oA 50 (.mv (.t 8)),oA 51 (.bin .neq (.t 49) (.t 50)),oA 52 (.mv (.t 51)),oI 53 52 false (.mv (.t 5)),oI 54 52 false (.mv (.t 7)),oI 55 52 false (.call (.f 178) [aR 53,aR 54]),oI 56 52 false (.un .not (.t 55)),oA 57 (.pick (.t 52) (.c (.bool true)) (.t 56))] [0,3,5,6,57]) (.cond (.t 57) (.seq
  (.re [oA 2 (.mv (.c (.bool false)))] [2]) .ret) .skip))) (.seq (.seq
  (.re [oA 58 (.mv (.t 6)),oA 59 (.bin .eql (.t 58) (.ci 0))] [0,3,5,59]) (.cond (.t 59) (.seq
  (.re [oA 60 (.mv (.t 0)),oA 61 (.call (.f 139) [aR 60,((.c (.int .u64 1261)),.r)]),oA 9 (.asg (.t 61))] [0,3,5,9]) (.seq
  (.re [oA 62 (.mv (.t 5)),oA 63 (.mvs 9),oA 64 (.mv (.t 5)),oA 65 (.len (.t 64)),oA 66 (.calls (.f 140) (.t 63) 9 [(.t 65)]),oA 67 (.idx 1 (.t 62) (.t 66)),oA 68 (.ld none (.t 67)),oA 10 (.asg (.t 68))] [0,3,5,10]) (.seq
  (.re [oA 11 (.mv (.ci 0))] [0,3,5,10,11]) (.block 0 (.loop (.seq (.seq
  (.re [oA 69 (.mv (.t 11)),oA 70 (.bin .add (.t 69) (.ci 1)),oA 71 (.mv (.t 10)),oA 72 (.len (.t 71)),oA 73 (.bin .lss (.t 70) (.t 72))] [0,3,5,10,11,73]) (.cond (.t 73) .skip (.exit 0))) (.seq (.block 1 (.seq
  (.re [oA 77 (.ld (some 2) (.t 3)),oA 78 (.mv (.t 10)),oA 79 (.mv (.t 11)),oA 80 (.call (.f 26) [aR 77,aR 78,aR 79]),oA 76 (.mv (.t 80)),oA 81 (.ext (.t 76) 0),oA 82 (.ext (.t 76) 1),oA 12 (.asg (.t 81)),oA 13 (.mv (.t 82))] [0,3,5,10,11,12,13]) (.seq
  (.re [oA 14 (.mv (.c (.bool false)))] [0,3,5,10,11,12,13,14]) (.seq (.seq
  (.re [oA 15 (.mv (.ci 0))] [0,3,5,10,11,12,13,14,15]) (.block 2 (.loop (.seq (.seq
  (.re [oA 83 (.mv (.t 15)),oA 84 (.mv (.t 5)),oA 85 (.len (.t 84)),oA 86 (.bin .lss (.t 83) (.t 85))] [0,3,5,10,11,12,13,14,15,86]) (.cond (.t 86) .skip (.exit 2))) (.seq (.block 3
  (.re [oA 89 (.mv (.t 14)),oA 90 (.mv (.t 89)),oI 91 90 false (.mv (.t 5)),oI 92 90 false (.mv (.t 15)),oI 93 90 false (.idx 1 (.t 91) (.t 92)),oI 94 90 false (.ld none (.t 93)),oI 95 90 false (.mv (.t 12)),oI 96 90 false (.call (.f 141) [aR 94,aR 95]),oA 97 (.pick (.t 90) (.c (.bool true)) (.t 96)),oA 14 (.mv (.t 97))] [0,3,5,10,11,12,13,14,15]))
  (.re [oA 87 (.mv (.t 15)),oA 88 (.bin .add (.t 87) (.ci 1)),oA 15 (.mv (.t 88))] [0,3,5,10,11,12,13,14,15])))))) (.seq
  (.re [oA 98 (.mv (.t 13)),oA 99 (.bin .neq (.t 98) (.ci 0)),oA 100 (.mv (.t 99)),oI 101 100 false (.mv (.t 14)),oI 102 100 false (.un .not (.t 101)),oA 103 (.pick (.t 100) (.c (.bool true)) (.t 102))] [0,3,5,10,11,103]) (.cond (.t 103) (.seq
  (.re [oA 2 (.mv (.c (.bool false)))] [2]) .ret) .skip))))))
  (.re [oA 74 (.mv (.t 11)),oA 75 (.bin .add (.t 74) (.ci 1)),oA 11 (.mv (.t 75))] [0,3,5,10,11])))))))) .skip)) (.seq
  (.re [oA 105 (.mv (.t 0)),oA 106 (.call (.f 179) [aR 105]),oA 104 (.mv (.t 106)),oA 107 (.ext (.t 104) 0),oA 108 (.ext (.t 104) 1),oA 16 (.alloc [(.slice none 0 0),(.slice none 0 0)]),oN (.st (some 2) (.t 16) (.t 107)),oA 17 (.mv (.t 108))] [16,17]) (.seq
  (.re [oA 110 (.ld (some 2) (.t 16)),oA 111 (.mv (.t 17)),oA 112 (.call (.f 125) [aR 110,aR 111]),oA 109 (.mv (.t 112)),oA 113 (.ext (.t 109) 0),oA 114 (.ext (.t 109) 1),oA 18 (.mv (.t 113)),oA 19 (.mv (.t 114))] [16,17,18,19]) (.seq (.seq
  (.re [oA 116 (.ld (some 2) (.t 16)),oA 117 (.mv (.t 17)),oA 118 (.call (.f 124) [aR 116,aR 117]),oA 115 (.mv (.t 118)),oA 119 (.ext (.t 115) 0),oA 120 (.ext (.t 115) 1),oA 20 (.mv (.t 119)),oA 21 (.mv (.t 120))] [16,17,18,19,20,21]) (.seq
  (.re [oA 121 (.mv (.t 19)),oA 122 (.mv (.t 21)),oA 123 (.bin .neq (.t 121) (.t 122)),oA 124 (.mv (.t 123)),oI 125 124 false (.mv (.t 18)),oI 126 124 false (.mv (.t 20)),oI 127 124 false (.bin .neq (.t 125) (.t 126)),oA 128 (.pick (.t 124) (.c (.bool true)) (.t 127))] [16,17,18,19,128]) (.cond (.t 128) (.seq
  (.re [oA 2 (.mv (.c (.bool false)))] [2]) .ret) .skip))) (.seq
  (.re [oA 130 (.ld (some 2) (.t 16)),oA 131 (.call (.f 148) [aR 130]),oA 129 (.mv (.t 131)),oA 132 (.ext (.t 129) 0),oA 133 (.ext (.t 129) 1),oA 22 (.alloc [(.slice none 0 0)]),oN (.st (some 1) (.t 22) (.t 132)),oA 23 (.mv (.t 133))] [17,18,19,22,23]) (.seq (.seq
  (.re [oA 134 (.mv (.t 19)),oA 135 (.bin .neq (.t 134) (.ci 0)),oA 136 (.mv (.t 135)),oI 137 136 false (.mv (.t 23)),oI 138 136 false (.bin .neq (.t 137) (.ci 0)),oA 139 (.pick (.t 136) (.c (.bool true)) (.t 138))] [17,18,22,139]) (.cond (.t 139) (.seq
  (.re [oA 2 (.mv (.c (.bool true)))] [2]) .ret) .skip)) (.seq
  (.re [oA 140 (.bsl []),oA 24 (.asg (.t 140))] [17,18,22,24]) (.seq (.seq
  (.re [oA 25 (.mv (.ci 0))] [17,18,22,24,25]) (.block 4 (.loop (.seq (.seq
  (.re [oA 141 (.mv (.t 25)),oA 142 (.fld 0 (.t 22)),oA 143 (.ld none (.t 142)),oA 144 (.len (.t 143)),oA 145 (.bin .lss (.t 141) (.t 144))] [17,18,22,24,25,145]) (.cond (.t 145) .skip (.exit 4))) (.seq (.block 5
  (.re [oA 148 (.mv (.t 24)),oA 149 (.mv (.t 25)),oA 150 (.bsl [(.t 149)]),oA 151 (.app true 1 (.t 148) (.t 150)),oA 24 (.asg (.t 151))] [17,18,22,24,25]))
  (.re [oA 146 (.mv (.t 25)),oA 147 (.bin .add (.t 146) (.ci 1)),oA 25 (.mv (.t 147))] [17,18,22,24,25])))))) (.seq
  (.re [oA 153 (.ld (some 1) (.t 22)),oA 154 (.mv (.t 24)),oA 155 (.call (.f 171) [aR 153,aR 154]),oA 152 (.mv (.t 155)),oA 156 (.ext (.t 152) 0),oA 157 (.ext (.t 152) 1),oA 26 (.alloc [(.slice none 0 0),(.slice none 0 0)]),oN (.st (some 2) (.t 26) (.t 156)),oA 27 (.mv (.t 157))] [17,18,26,27]) (.seq
  (.re [oA 159 (.ld (some 2) (.t 26)),oA 160 (.mv (.t 17)),oA 161 (.call (.f 125) [aR 159,aR 160]),oA 158 (.mv (.t 161)),oA 162 (.ext (.t 158) 0),oA 163 (.ext (.t 158) 1),oA 28 (.mv (.t 162)),oA 29 (.mv (.t 163))] [18,27,28,29]) (.seq
  (.re [oA 164 (.mv (.t 27)),oA 165 (.bin .eql (.t 164) (.ci 0)),oA 166 (.mv (.t 165)),oI 167 166 true (.mv (.t 29)),oI 168 166 true (.bin .eql (.t 167) (.ci 0)),oA 169 (.pick (.t 166) (.t 168) (.c (.bool false))),oA 170 (.mv (.t 169)),oI 171 170 true (.mv (.t 28)),oI 172 170 true (.mv (.t 18)),oI 173 170 true (.bin .eql (.t 171) (.t 172)),oA 174 (.pick (.t 170) (.t 173) (.c (.bool false))),oA 2 (.mv (.t 174))] [2]) .ret))))))))))))))))

def c_spec_DrawTupleOrbit:F where
 np:=1
 rs:=[.cell 2 (some 2),.t 3]
 body :=
  (.seq
  (.re [oA 2 (.alloc [(.slice none 0 0),(.slice none 0 0)]),oA 3 (.asg (.c (.slice none 0 0)))] [0,2]) (.seq
  (.re [oA 6 (.mv (.t 0)),oA 7 (.call (.f 269) [aR 6]),oA 4 (.asg (.t 7))] [0,2,4]) (.seq
  (.re [oA 8 (.mv (.t 0)),oA 9 (.call (.f 233) [aR 8]),oA 5 (.alloc [(.slice none 0 0),(.slice none 0 0)]),oN (.st (some 2) (.t 5) (.t 9))] [2,4,5]) (.seq
  (.region (some [10,11,12,13,14,15]) [oA 10 (.ld (some 2) (.t 5)),oA 11 (.mvs 4),oA 12 (.fld 0 (.t 5)),oA 13 (.ld none (.t 12)),oA 14 (.len (.t 13)),oA 15 (.calls (.f 311) (.t 11) 4 [(.t 14),(.ci 4)]),oN (.st (some 2) (.t 2) (.t 10)),oA 3 (.asg (.t 15))] [2,3]) .ret))))

def j1r:F where
 np:=1
 rs:=[.cell 2 (some 2)]
 body :=
  (.seq
  (.re [oA 2 (.alloc [(.slice none 0 0),(.slice none 0 0)])] [0,2]) (.seq
  (.re [oA 5 (.mv (.t 0)),oA 6 (.call (.f 269) [aR 5]),oA 3 (.asg (.t 6))] [2,3]) (.seq
  (.re [oA 7 (.mvs 3),oA 8 (.calls (.f 354) (.t 7) 3 [(.ci 6)]),oA 4 (.alloc [(.slice none 0 0),(.slice none 0 0)]),oN (.st (some 2) (.t 4) (.t 8))] [2,3,4]) (.seq (.seq
  (.re [oA 9 (.mvs 3),oA 10 (.calls (.f 336) (.t 9) 3 [(.ci 12)]),oA 11 (.bin .eql (.t 10) (.ci 0)),oA 12 (.mv (.t 11)),oI 13 12 true (.fld 0 (.t 4)),oI 14 12 true (.ld none (.t 13)),oI 15 12 true (.len (.t 14)),oI 16 12 true (.bin .gtr (.t 15) (.ci 0)),oA 17 (.pick (.t 12) (.t 16) (.c (.bool false)))] [2,3,4,17]) (.cond (.t 17)
  (.region (some [18,19,20,21,22,23,24,25,26,27]) [oA 18 (.fld 0 (.t 4)),oA 19 (.ld none (.t 18)),oA 20 (.idx 1 (.t 19) (.ci 0)),oA 21 (.ld none (.t 20)),oA 22 (.mvs 3),oA 23 (.fld 0 (.t 4)),oA 24 (.ld none (.t 23)),oA 25 (.len (.t 24)),oA 26 (.bin .add (.t 25) (.ci 1)),oA 27 (.calls (.f 336) (.t 22) 3 [(.t 26)]),oA 28 (.idx 1 (.t 21) (.ci 0)),oN (.st none (.t 28) (.t 27))] [2,4]) .skip)) (.seq
  (.re [oA 29 (.ld (some 2) (.t 4)),oN (.st (some 2) (.t 2) (.t 29))] [2]) .ret)))))

def c_laws_same9:F where
 np:=2
 rs:=[.t 4]
 body :=
  (.seq
  (.re [oA 4 (.mv (.c (.bool false)))] [0,1]) (.seq (.seq
  (.re [oA 6 (.mv (.t 0)),oA 7 (.len (.t 6)),oA 8 (.mv (.t 1)),oA 9 (.len (.t 8)),oA 10 (.bin .neq (.t 7) (.t 9))] [0,1,10]) (.cond (.t 10) (.seq
  (.re [oA 4 (.mv (.c (.bool false)))] [4]) .ret) .skip)) (.seq (.seq
  (.re [oA 5 (.mv (.ci 0))] [0,1,5]) (.block 0 (.loop (.seq (.seq
  (.re [oA 11 (.mv (.t 5)),oA 12 (.mv (.t 0)),oA 13 (.len (.t 12)),oA 14 (.bin .lss (.t 11) (.t 13))] [0,1,5,14]) (.cond (.t 14) .skip (.exit 0))) (.seq (.block 1 (.seq
  (.region (some [17,18,19,20,21,22,23,24]) [oA 17 (.mv (.t 0)),oA 18 (.mv (.t 5)),oA 19 (.idx 1 (.t 17) (.t 18)),oA 20 (.ld none (.t 19)),oA 21 (.mv (.t 1)),oA 22 (.mv (.t 5)),oA 23 (.idx 1 (.t 21) (.t 22)),oA 24 (.ld none (.t 23)),oA 25 (.call (.f 141) [aR 20,aR 24]),oA 26 (.un .not (.t 25))] [0,1,5,26]) (.cond (.t 26) (.seq
  (.re [oA 4 (.mv (.c (.bool false)))] [4]) .ret) .skip)))
  (.re [oA 15 (.mv (.t 5)),oA 16 (.bin .add (.t 15) (.ci 1)),oA 5 (.mv (.t 16))] [0,1,5])))))) (.seq
  (.re [oA 4 (.mv (.c (.bool true)))] [4]) .ret))))

def j1c:F where
 np:=1
 rs:=[.cell 2 (some 2),.t 3]
 body :=
  (.seq
  (.re [oA 2 (.alloc [(.slice none 0 0),(.slice none 0 0)]),oA 3 (.mv (.ci 0))] [0,2]) (.seq
  (.re [oA 7 (.mv (.t 0)),oA 8 (.call (.f 269) [aR 7]),oA 4 (.asg (.t 8))] [0,2,4]) (.seq
  (.re [oA 9 (.mv (.t 0)),oA 10 (.call (.f 233) [aR 9]),oA 5 (.alloc [(.slice none 0 0),(.slice none 0 0)]),oN (.st (some 2) (.t 5) (.t 10))] [2,4,5]) (.seq
  (.re [oA 11 (.mvs 4),oA 12 (.bslw 1 [(.ci 0),(.ci 1),(.ci 2),(.ci 2),(.ci 3),(.ci 3),(.ci 4),(.c (.int .i64 (-1))),(.ci 13)]),oA 13 (.calls (.f 292) (.t 11) 4 [(.t 12)]),oA 6 (.mv (.t 13))] [2,5,6]) (.seq (.seq
  (.re [oA 14 (.fld 0 (.t 5)),oA 15 (.ld none (.t 14)),oA 16 (.len (.t 15)),oA 17 (.bin .gtr (.t 16) (.ci 4))] [2,5,6,17]) (.cond (.t 17)
  (.re [oA 18 (.mv (.t 6)),oA 19 (.mm false (.t 18) (.ci 3)),oA 6 (.mv (.t 19))] [2,5,6]) .skip)) (.seq
  (.re [oA 20 (.ld (some 2) (.t 5)),oA 21 (.mv (.t 6)),oN (.st (some 2) (.t 2) (.t 20)),oA 3 (.mv (.t 21))] [2,3]) .ret))))))

end Go.Mch
