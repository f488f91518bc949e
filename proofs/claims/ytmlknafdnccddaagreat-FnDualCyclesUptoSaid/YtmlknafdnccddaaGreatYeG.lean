/- Compact code of draws and laws. -/
import Derived.Test.YtmlknafdnccddaaGreatM1
namespace Go.Mch

def c_spec_l01Next:F where
 np:=2
 rs:=[.t 4]
 fix:=[0,1]
 body :=
  (.seq
  (.re [oA 4 (.mv (.ci 0))] [0,1]) (.seq (.seq
  (.re [oA 6 (.mv (.t 1)),oA 7 (.bin .lss (.t 6) (.ci 1))] [0,1,7]) (.cond (.t 7) (.seq
  (.re [oA 4 (.mv (.ci 0))] [0,1,4]) .ret) .skip)) (.seq
  (.re [oA 8 (.mv (.t 0)),oA 9 (.mv (.t 0)),oA 10 (.nilck (.t 9)),oA 11 (.fld 2 (.t 10)),oA 12 (.ld none (.t 11)),oA 13 (.bin .mul (.t 12) (.c (.int .u64 6364136223846793005))),oA 14 (.bin .add (.t 13) (.c (.int .u64 1442695040888963407))),oA 15 (.nilck (.t 8)),oA 16 (.fld 2 (.t 15)),oN (.st none (.t 16) (.t 14))] [0,1]) (.seq
  (.re [oA 17 (.mv (.t 0)),oA 18 (.nilck (.t 17)),oA 19 (.fld 2 (.t 18)),oA 20 (.ld none (.t 19)),oA 21 (.bin .shr (.t 20) (.c (.int .u64 33))),oA 22 (.bin .and (.t 21) (.c (.int .u64 16777215))),oA 23 (.conv .i64 (.t 22)),oA 5 (.mv (.t 23))] [0,1,5]) (.seq (.seq
  (.region (some [24,25,26,27,28,29,30,31,32]) [oA 24 (.mv (.t 0)),oA 25 (.nilck (.t 24)),oA 26 (.fld 1 (.t 25)),oA 27 (.ld none (.t 26)),oA 28 (.mv (.t 0)),oA 29 (.nilck (.t 28)),oA 30 (.fld 0 (.t 29)),oA 31 (.ld none (.t 30)),oA 32 (.len (.t 31)),oA 33 (.bin .lss (.t 27) (.t 32))] [0,1,5,33]) (.cond (.t 33) (.seq
  (.region (some [34,35,36,37,38,39,40,41,42,43,44,45]) [oA 34 (.mv (.t 5)),oA 35 (.mv (.t 0)),oA 36 (.nilck (.t 35)),oA 37 (.fld 0 (.t 36)),oA 38 (.ld none (.t 37)),oA 39 (.mv (.t 0)),oA 40 (.nilck (.t 39)),oA 41 (.fld 1 (.t 40)),oA 42 (.ld none (.t 41)),oA 43 (.idx 1 (.t 38) (.t 42)),oA 44 (.ld none (.t 43)),oA 45 (.conv .i64 (.t 44)),oA 46 (.bin .add (.t 34) (.t 45)),oA 5 (.mv (.t 46))] [0,1,5])
  (.re [oA 47 (.mv (.t 0)),oA 48 (.mv (.t 0)),oA 49 (.nilck (.t 48)),oA 50 (.fld 1 (.t 49)),oA 51 (.ld none (.t 50)),oA 52 (.bin .add (.t 51) (.ci 1)),oA 53 (.nilck (.t 47)),oA 54 (.fld 1 (.t 53)),oN (.st none (.t 54) (.t 52))] [0,1,5])) .skip)) (.seq
  (.re [oA 55 (.mv (.t 5)),oA 56 (.mv (.t 1)),oA 57 (.bin .rem (.t 55) (.t 56)),oA 4 (.mv (.t 57))] [0,1,4]) .ret))))))

def c_spec_l05Draw:F where
 np:=2
 rs:=[.cell 4 (some 1)]
 fix:=[0,1]
 body :=
  (.seq
  (.re [oA 4 (.alloc [(.slice none 0 0)])] [0,1,4]) (.seq
  (.re [oA 6 (.mvs 0),oA 7 (.mv (.t 1)),oA 8 (.calls (.f 427) (.t 6) 0 [(.t 7)]),oA 5 (.alloc [(.slice none 0 0)]),oN (.st (some 1) (.t 5) (.t 8))] [0,1,4,5]) (.seq (.seq
  (.re [oA 9 (.mvs 0),oA 10 (.calls (.f 336) (.t 9) 0 [(.ci 3)]),oA 11 (.bin .gtr (.t 10) (.ci 0))] [0,1,4,5,11]) (.cond (.t 11) (.seq
  (.region (some [12,13,14,15,16,17,18]) [oA 12 (.fld 0 (.t 5)),oA 13 (.ld none (.t 12)),oA 14 (.mvs 0),oA 15 (.fld 0 (.t 5)),oA 16 (.ld none (.t 15)),oA 17 (.len (.t 16)),oA 18 (.calls (.f 368) (.t 14) 0 [(.t 17)]),oA 19 (.call (.f 367) [aR 13,aR 18]),oA 20 (.build [(.slice none 0 0)] [(0,1,(.t 19))]),oN (.st (some 1) (.t 4) (.t 20))] [0,1,4]) .ret) .skip)) (.seq
  (.re [oA 21 (.ld (some 1) (.t 5)),oN (.st (some 1) (.t 4) (.t 21))] [0,1,4]) .ret))))

def c_spec_l05Any:F where
 np:=2
 rs:=[.cell 4 (some 1)]
 fix:=[0,1]
 body :=
  (.seq
  (.re [oA 4 (.alloc [(.slice none 0 0)])] [0,1,4]) (.seq
  (.re [oA 10 (.mvs 0),oA 11 (.mv (.t 1)),oA 12 (.calls (.f 336) (.t 10) 0 [(.t 11)]),oA 13 (.bin .add (.ci 1) (.t 12)),oA 5 (.mv (.t 13))] [0,1,4,5]) (.seq (.seq
  (.re [oA 14 (.mvs 0),oA 15 (.calls (.f 336) (.t 14) 0 [(.ci 3)]),oA 16 (.bin .eql (.t 15) (.ci 0))] [0,1,4,5,16]) (.cond (.t 16) (.seq
  (.re [oA 6 (.mv (.ci 0))] [0,1,4,5,6]) (.block 0 (.loop (.seq (.seq
  (.re [oA 17 (.mv (.t 6)),oA 18 (.bin .lss (.t 17) (.ci 30))] [0,1,4,5,6,18]) (.cond (.t 18) .skip (.exit 0))) (.seq (.block 1 (.seq
  (.re [oA 21 (.mv (.t 5)),oA 22 (.mvs 0),oA 23 (.mv (.t 5)),oA 24 (.calls (.f 336) (.t 22) 0 [(.t 23)]),oA 25 (.mvs 0),oA 26 (.mv (.t 5)),oA 27 (.calls (.f 336) (.t 25) 0 [(.t 26)]),oA 28 (.mvs 0),oA 29 (.mv (.t 5)),oA 30 (.calls (.f 336) (.t 28) 0 [(.t 29)]),oA 31 (.call (.f 424) [aR 21,aR 24,aR 27,aR 30]),oA 7 (.alloc [(.slice none 0 0)]),oN (.st (some 1) (.t 7) (.t 31))] [0,1,4,5,6,7]) (.seq
  (.re [oA 32 (.ld (some 1) (.t 7)),oA 33 (.call (.f 363) [aR 32])] [0,1,4,5,6,7,33]) (.cond (.t 33) (.seq
  (.re [oA 34 (.ld (some 1) (.t 7)),oN (.st (some 1) (.t 4) (.t 34))] [0,1,4]) .ret) .skip))))
  (.re [oA 19 (.mv (.t 6)),oA 20 (.bin .add (.t 19) (.ci 1)),oA 6 (.mv (.t 20))] [0,1,4,5,6])))))) .skip)) (.seq (.seq
  (.re [oA 8 (.mv (.ci 0))] [0,1,4,5,8]) (.block 2 (.loop (.seq (.seq
  (.re [oA 35 (.mv (.t 8)),oA 36 (.bin .lss (.t 35) (.ci 8))] [0,1,4,5,8,36]) (.cond (.t 36) .skip (.exit 2))) (.seq (.block 3 (.seq
  (.re [oA 39 (.mvs 0),oA 40 (.mv (.t 5)),oA 41 (.calls (.f 412) (.t 39) 0 [(.t 40)]),oA 9 (.alloc [(.slice none 0 0),(.slice none 0 0)]),oN (.st (some 2) (.t 9) (.t 41))] [0,1,4,5,8,9]) (.seq
  (.re [oA 42 (.ld (some 2) (.t 9)),oA 43 (.call (.f 350) [aR 42]),oA 44 (.mv (.t 43)),oI 45 44 true (.ld (some 2) (.t 9)),oI 46 44 true (.call (.f 351) [aR 45]),oA 47 (.pick (.t 44) (.t 46) (.c (.bool false)))] [0,1,4,5,8,9,47]) (.cond (.t 47) (.seq
  (.re [oA 48 (.ld (some 2) (.t 9)),oA 49 (.call (.f 364) [aR 48]),oN (.st (some 1) (.t 4) (.t 49))] [0,1,4]) .ret) .skip))))
  (.re [oA 37 (.mv (.t 8)),oA 38 (.bin .add (.t 37) (.ci 1)),oA 8 (.mv (.t 38))] [0,1,4,5,8])))))) (.seq
  (.re [oA 50 (.mv (.t 5)),oA 51 (.call (.f 449) [aR 50]),oA 52 (.call (.f 364) [aR 51]),oN (.st (some 1) (.t 4) (.t 52))] [0,1,4]) .ret)))))

def c_spec_l05Affine:F where
 np:=4
 rs:=[.cell 8 (some 1)]
 body :=
  (.seq
  (.re [oA 8 (.alloc [(.slice none 0 0)])] [0,1,2,3,8]) (.seq
  (.re [oA 13 (.build [(.slice none 0 0)] []),oA 9 (.alloc [(.slice none 0 0)]),oN (.st (some 1) (.t 9) (.t 13))] [0,1,2,3,8,9]) (.seq (.seq
  (.re [oA 10 (.mv (.ci 0))] [0,1,2,3,8,9,10]) (.block 0 (.loop (.seq (.seq
  (.re [oA 14 (.mv (.t 10)),oA 15 (.mv (.t 0)),oA 16 (.bin .lss (.t 14) (.t 15))] [0,1,2,3,8,9,10,16]) (.cond (.t 16) .skip (.exit 0))) (.seq (.block 1 (.seq
  (.re [oA 19 (.bsl []),oA 11 (.asg (.t 19))] [0,1,2,3,8,9,10,11]) (.seq (.seq
  (.re [oA 12 (.mv (.ci 0))] [0,1,2,3,8,9,10,11,12]) (.block 2 (.loop (.seq (.seq
  (.re [oA 20 (.mv (.t 12)),oA 21 (.mv (.t 0)),oA 22 (.bin .lss (.t 20) (.t 21))] [0,1,2,3,8,9,10,11,12,22]) (.cond (.t 22) .skip (.exit 2))) (.seq (.block 3
  (.re [oA 25 (.mv (.t 11)),oA 26 (.mv (.t 1)),oA 27 (.mv (.t 10)),oA 28 (.bin .mul (.t 26) (.t 27)),oA 29 (.mv (.t 2)),oA 30 (.mv (.t 12)),oA 31 (.bin .mul (.t 29) (.t 30)),oA 32 (.bin .add (.t 28) (.t 31)),oA 33 (.mv (.t 3)),oA 34 (.bin .add (.t 32) (.t 33)),oA 35 (.mv (.t 0)),oA 36 (.bin .rem (.t 34) (.t 35)),oA 37 (.bsl [(.t 36)]),oA 38 (.app true 1 (.t 25) (.t 37)),oA 11 (.asg (.t 38))] [0,1,2,3,8,9,10,11,12]))
  (.re [oA 23 (.mv (.t 12)),oA 24 (.bin .add (.t 23) (.ci 1)),oA 12 (.mv (.t 24))] [0,1,2,3,8,9,10,11,12]))))))
  (.re [oA 39 (.fld 0 (.t 9)),oA 40 (.ld none (.t 39)),oA 41 (.mv (.t 11)),oA 42 (.bsl [(.t 41)]),oA 43 (.app true 1 (.t 40) (.t 42)),oA 44 (.fld 0 (.t 9)),oN (.st none (.t 44) (.t 43))] [0,1,2,3,8,9,10]))))
  (.re [oA 17 (.mv (.t 10)),oA 18 (.bin .add (.t 17) (.ci 1)),oA 10 (.mv (.t 18))] [0,1,2,3,8,9,10])))))) (.seq
  (.re [oA 45 (.ld (some 1) (.t 9)),oN (.st (some 1) (.t 8) (.t 45))] [8]) .ret))))

def c_spec_l05Is:F where
 np:=1
 rs:=[.t 2]
 body :=
  (.seq
  (.re [oA 1 (.box (.t 0)),oA 2 (.mv (.c (.bool false)))] [1]) (.seq
  (.re [oA 3 (.fld 0 (.t 1)),oA 4 (.ld none (.t 3)),oA 5 (.call (.f 46) [aR 4]),oA 6 (.mv (.t 5)),oI 7 6 true (.fld 0 (.t 1)),oI 8 6 true (.ld none (.t 7)),oI 9 6 true (.call (.f 410) [aR 8]),oA 10 (.pick (.t 6) (.t 9) (.c (.bool false))),oA 11 (.mv (.t 10)),oI 12 11 true (.fld 0 (.t 1)),oI 13 11 true (.ld none (.t 12)),oI 14 11 true (.call (.f 417) [aR 13]),oI 15 11 true (.call (.f 47) [aR 14]),oA 16 (.pick (.t 11) (.t 15) (.c (.bool false))),oA 17 (.mv (.t 16)),oI 18 17 true (.fld 0 (.t 1)),oI 19 17 true (.ld none (.t 18)),oI 20 17 true (.call (.f 418) [aR 19]),oI 21 17 true (.len (.t 20)),oI 22 17 true (.bin .eql (.t 21) (.ci 0)),oA 23 (.pick (.t 17) (.t 22) (.c (.bool false))),oA 2 (.mv (.t 23))] [2]) .ret))

def c_spec_l05Squares:F where
 np:=1
 rs:=[.t 2]
 body :=
  (.seq
  (.re [oA 2 (.asg (.c (.slice none 0 0)))] [0]) (.seq
  (.re [oA 5 (.bsl []),oA 3 (.asg (.t 5))] [0,3]) (.seq (.seq
  (.re [oA 4 (.mv (.ci 0))] [0,3,4]) (.block 0 (.loop (.seq (.seq
  (.re [oA 6 (.mv (.t 4)),oA 7 (.mv (.t 0)),oA 8 (.len (.t 7)),oA 9 (.bin .lss (.t 6) (.t 8))] [0,3,4,9]) (.cond (.t 9) .skip (.exit 0))) (.seq (.block 1
  (.re [oA 12 (.mv (.t 3)),oA 13 (.mv (.t 0)),oA 14 (.mv (.t 4)),oA 15 (.idx 1 (.t 13) (.t 14)),oA 16 (.ld none (.t 15)),oA 17 (.mv (.t 4)),oA 18 (.idx 1 (.t 16) (.t 17)),oA 19 (.ld none (.t 18)),oA 20 (.bsl [(.t 19)]),oA 21 (.app true 1 (.t 12) (.t 20)),oA 3 (.asg (.t 21))] [0,3,4]))
  (.re [oA 10 (.mv (.t 4)),oA 11 (.bin .add (.t 10) (.ci 1)),oA 4 (.mv (.t 11))] [0,3,4])))))) (.seq
  (.re [oA 22 (.mv (.t 3)),oA 2 (.asg (.t 22))] [2]) .ret))))

def c_spec_l05Fault:F where
 np:=1
 rs:=[.t 2]
 body :=
  (.seq
  (.re [oA 2 (.asg (.c (.slice none 0 0)))] [0]) (.seq
  (.re [oA 7 (.mv (.t 0)),oA 8 (.len (.t 7)),oA 3 (.mv (.t 8))] [0,3]) (.seq (.seq
  (.re [oA 4 (.mv (.ci 0))] [0,3,4]) (.block 0 (.loop (.seq (.seq
  (.re [oA 9 (.mv (.t 4)),oA 10 (.mv (.t 3)),oA 11 (.bin .lss (.t 9) (.t 10))] [0,3,4,11]) (.cond (.t 11) .skip (.exit 0))) (.seq (.block 1 (.seq
  (.re [oA 5 (.mv (.ci 0))] [0,3,4,5]) (.block 2 (.loop (.seq (.seq
  (.re [oA 14 (.mv (.t 5)),oA 15 (.mv (.t 3)),oA 16 (.bin .lss (.t 14) (.t 15))] [0,3,4,5,16]) (.cond (.t 16) .skip (.exit 2))) (.seq (.block 3 (.seq
  (.re [oA 6 (.mv (.ci 0))] [0,3,4,5,6]) (.block 4 (.loop (.seq (.seq
  (.re [oA 19 (.mv (.t 6)),oA 20 (.mv (.t 3)),oA 21 (.bin .lss (.t 19) (.t 20))] [0,3,4,5,6,21]) (.cond (.t 21) .skip (.exit 4))) (.seq (.block 5 (.seq
  (.region (some [24,25,26,27,28,29,30,31,32,33,34,35,36,37,38,39,40,41,42,43,44,45,46,47,48,49,50,51,52,53,54,55,56,57,58,59,60,61]) [oA 24 (.mv (.t 0)),oA 25 (.mv (.t 0)),oA 26 (.mv (.t 4)),oA 27 (.idx 1 (.t 25) (.t 26)),oA 28 (.ld none (.t 27)),oA 29 (.mv (.t 5)),oA 30 (.idx 1 (.t 28) (.t 29)),oA 31 (.ld none (.t 30)),oA 32 (.idx 1 (.t 24) (.t 31)),oA 33 (.ld none (.t 32)),oA 34 (.mv (.t 0)),oA 35 (.mv (.t 4)),oA 36 (.idx 1 (.t 34) (.t 35)),oA 37 (.ld none (.t 36)),oA 38 (.mv (.t 6)),oA 39 (.idx 1 (.t 37) (.t 38)),oA 40 (.ld none (.t 39)),oA 41 (.idx 1 (.t 33) (.t 40)),oA 42 (.ld none (.t 41)),oA 43 (.mv (.t 0)),oA 44 (.mv (.t 0)),oA 45 (.mv (.t 5)),oA 46 (.idx 1 (.t 44) (.t 45)),oA 47 (.ld none (.t 46)),oA 48 (.mv (.t 4)),oA 49 (.idx 1 (.t 47) (.t 48)),oA 50 (.ld none (.t 49)),oA 51 (.idx 1 (.t 43) (.t 50)),oA 52 (.ld none (.t 51)),oA 53 (.mv (.t 0)),oA 54 (.mv (.t 5)),oA 55 (.idx 1 (.t 53) (.t 54)),oA 56 (.ld none (.t 55)),oA 57 (.mv (.t 6)),oA 58 (.idx 1 (.t 56) (.t 57)),oA 59 (.ld none (.t 58)),oA 60 (.idx 1 (.t 52) (.t 59)),oA 61 (.ld none (.t 60)),oA 62 (.bin .neq (.t 42) (.t 61))] [0,3,4,5,6,62]) (.cond (.t 62) (.seq
  (.re [oA 63 (.mv (.t 4)),oA 64 (.mv (.t 5)),oA 65 (.mv (.t 6)),oA 66 (.bsl [(.t 63),(.t 64),(.t 65)]),oA 2 (.asg (.t 66))] [2]) .ret) .skip)))
  (.re [oA 22 (.mv (.t 6)),oA 23 (.bin .add (.t 22) (.ci 1)),oA 6 (.mv (.t 23))] [0,3,4,5,6])))))))
  (.re [oA 17 (.mv (.t 5)),oA 18 (.bin .add (.t 17) (.ci 1)),oA 5 (.mv (.t 18))] [0,3,4,5])))))))
  (.re [oA 12 (.mv (.t 4)),oA 13 (.bin .add (.t 12) (.ci 1)),oA 4 (.mv (.t 13))] [0,3,4])))))) (.seq
  (.re [oA 67 (.bsl []),oA 2 (.asg (.t 67))] [2]) .ret))))

def c_spec_l02Draw:F where
 np:=2
 rs:=[.cell 4 (some 2)]
 fix:=[0,1]
 body :=
  (.seq
  (.re [oA 4 (.alloc [(.slice none 0 0),(.slice none 0 0)])] [0,1,4]) (.seq
  (.re [oA 6 (.mvs 0),oA 7 (.mv (.t 1)),oA 8 (.calls (.f 445) (.t 6) 0 [(.t 7)]),oA 5 (.alloc [(.slice none 0 0),(.slice none 0 0)]),oN (.st (some 2) (.t 5) (.t 8))] [0,1,4,5]) (.seq (.seq
  (.re [oA 9 (.mvs 0),oA 10 (.calls (.f 336) (.t 9) 0 [(.ci 4)]),oA 11 (.bin .gtr (.t 10) (.ci 0))] [0,1,4,5,11]) (.cond (.t 11) (.seq
  (.region (some [12,13,14,15,16,17]) [oA 12 (.ld (some 2) (.t 5)),oA 13 (.mvs 0),oA 14 (.fld 0 (.t 5)),oA 15 (.ld none (.t 14)),oA 16 (.len (.t 15)),oA 17 (.calls (.f 368) (.t 13) 0 [(.t 16)]),oA 18 (.call (.f 422) [aR 12,aR 17]),oN (.st (some 2) (.t 4) (.t 18))] [0,1,4]) .ret) .skip)) (.seq
  (.re [oA 19 (.ld (some 2) (.t 5)),oN (.st (some 2) (.t 4) (.t 19))] [0,1,4]) .ret))))

def c_spec_l02Any:F where
 np:=2
 rs:=[.cell 4 (some 2)]
 fix:=[0,1]
 body :=
  (.seq
  (.re [oA 4 (.alloc [(.slice none 0 0),(.slice none 0 0)])] [0,1,4]) (.seq
  (.re [oA 9 (.mvs 0),oA 10 (.mv (.t 1)),oA 11 (.calls (.f 336) (.t 9) 0 [(.t 10)]),oA 12 (.bin .add (.ci 1) (.t 11)),oA 5 (.mv (.t 12))] [0,1,4,5]) (.seq (.seq
  (.re [oA 13 (.mvs 0),oA 14 (.calls (.f 336) (.t 13) 0 [(.ci 8)])] [0,1,4,5,14]) (.block 0 (.seq
  (.re [oA 16 (.bin .eql (.t 14) (.ci 0)),oA 15 (.mv (.t 16))] [0,1,4,5,14,15]) (.cond (.t 15) (.seq
  (.re [oA 17 (.mv (.t 5)),oA 18 (.call (.f 449) [aR 17]),oN (.st (some 2) (.t 4) (.t 18))] [0,1,4]) .ret) (.seq
  (.re [oA 20 (.bin .eql (.t 14) (.ci 1)),oA 19 (.mv (.t 20))] [0,1,4,5,14,19]) (.cond (.t 19) (.seq
  (.re [oA 21 (.mv (.t 5)),oA 22 (.call (.f 423) [aR 21]),oN (.st (some 2) (.t 4) (.t 22))] [0,1,4]) .ret) (.seq
  (.re [oA 24 (.bin .eql (.t 14) (.ci 2)),oA 23 (.mv (.t 24))] [0,1,4,5,14,23]) (.cond (.t 23) (.seq
  (.re [oA 25 (.mv (.t 5)),oA 26 (.bin .geq (.t 25) (.ci 4)),oA 27 (.mv (.t 26)),oI 28 27 true (.mv (.t 5)),oI 29 27 true (.bin .rem (.t 28) (.ci 2)),oI 30 27 true (.bin .eql (.t 29) (.ci 0)),oA 31 (.pick (.t 27) (.t 30) (.c (.bool false)))] [0,1,4,5,31]) (.cond (.t 31) (.seq
  (.re [oA 32 (.mvs 0),oA 33 (.mv (.t 5)),oA 34 (.bin .quo (.t 33) (.ci 2)),oA 35 (.calls (.f 459) (.t 32) 0 [(.t 34)]),oA 36 (.mvs 0),oA 37 (.calls (.f 459) (.t 36) 0 [(.ci 2)]),oA 38 (.call (.f 458) [aR 35,aR 37]),oN (.st (some 2) (.t 4) (.t 38))] [0,1,4]) .ret) .skip)) (.seq
  (.re [oA 40 (.bin .eql (.t 14) (.ci 3)),oA 39 (.mv (.t 40))] [0,1,4,5,14,39]) (.cond (.t 39) (.seq
  (.re [oA 41 (.mv (.t 5)),oA 42 (.bin .geq (.t 41) (.ci 2))] [0,1,4,5,42]) (.cond (.t 42) (.seq
  (.re [oA 43 (.mvs 0),oA 44 (.mv (.t 5)),oA 45 (.bin .sub (.t 44) (.ci 1)),oA 46 (.calls (.f 336) (.t 43) 0 [(.t 45)]),oA 47 (.bin .add (.ci 1) (.t 46)),oA 6 (.mv (.t 47))] [0,1,4,5,6]) (.seq
  (.re [oA 48 (.mvs 0),oA 49 (.mv (.t 6)),oA 50 (.calls (.f 445) (.t 48) 0 [(.t 49)]),oA 51 (.mvs 0),oA 52 (.mv (.t 5)),oA 53 (.mv (.t 6)),oA 54 (.bin .sub (.t 52) (.t 53)),oA 55 (.calls (.f 459) (.t 51) 0 [(.t 54)]),oA 56 (.call (.f 460) [aR 50,aR 55]),oN (.st (some 2) (.t 4) (.t 56))] [0,1,4]) .ret)) .skip)) (.seq
  (.re [oA 58 (.bin .eql (.t 14) (.ci 4)),oA 57 (.mv (.t 58))] [0,1,4,5,14,57]) (.cond (.t 57) (.seq
  (.re [oA 59 (.mv (.t 1)),oA 60 (.bin .geq (.t 59) (.ci 4))] [0,1,4,5,60]) (.cond (.t 60) (.seq
  (.re [oA 61 (.bsl [(.ci 0),(.ci 1),(.ci 3),(.ci 2)]),oA 62 (.bsl [(.ci 0),(.ci 1),(.ci 3),(.ci 2)]),oA 63 (.bsl [(.ci 1),(.ci 0),(.ci 2),(.ci 3)]),oA 64 (.bsl [(.ci 1),(.ci 0),(.ci 2),(.ci 3)]),oA 65 (.bsl [(.t 61),(.t 62),(.t 63),(.t 64)]),oA 7 (.asg (.t 65))] [0,1,4,7]) (.seq
  (.re [oA 66 (.mv (.t 7)),oA 67 (.call (.f 461) [aR 66]),oN (.st (some 2) (.t 4) (.t 67))] [0,1,4]) .ret)) .skip)) (.seq
  (.re [oA 69 (.bin .eql (.t 14) (.ci 5)),oA 68 (.mv (.t 69))] [0,1,4,5,14,68]) (.cond (.t 68) (.seq
  (.re [oA 70 (.mv (.t 5)),oA 71 (.bin .geq (.t 70) (.ci 2))] [0,1,4,5,71]) (.cond (.t 71) (.seq
  (.re [oA 72 (.mv (.t 5)),oA 73 (.call (.f 423) [aR 72]),oA 74 (.call (.f 406) [aR 73]),oN (.st (some 2) (.t 4) (.t 74))] [0,1,4]) .ret) .skip)) (.seq
  (.re [oA 76 (.bin .eql (.t 14) (.ci 6)),oA 75 (.mv (.t 76))] [0,1,4,5,75]) (.cond (.t 75) (.seq
  (.re [oA 77 (.mv (.t 1)),oA 78 (.bin .geq (.t 77) (.ci 3))] [0,1,4,5,78]) (.cond (.t 78) (.seq
  (.re [oA 79 (.bsl [(.ci 0),(.ci 1),(.ci 2)]),oA 80 (.bsl [(.ci 0),(.ci 1),(.ci 2)]),oA 81 (.bsl [(.ci 1),(.ci 0),(.ci 2)]),oA 82 (.bsl [(.t 79),(.t 80),(.t 81)]),oA 8 (.asg (.t 82))] [0,1,4,8]) (.seq
  (.re [oA 83 (.mv (.t 8)),oA 84 (.call (.f 461) [aR 83]),oN (.st (some 2) (.t 4) (.t 84))] [0,1,4]) .ret)) .skip)) .skip)))))))))))))))) (.seq
  (.re [oA 85 (.mvs 0),oA 86 (.mv (.t 5)),oA 87 (.calls (.f 459) (.t 85) 0 [(.t 86)]),oN (.st (some 2) (.t 4) (.t 87))] [0,1,4]) .ret))))

def c_spec_l02Flip:F where
 np:=1
 rs:=[.cell 2 (some 2)]
 body :=
  (.seq
  (.re [oA 2 (.alloc [(.slice none 0 0),(.slice none 0 0)])] [0,2]) (.seq
  (.re [oA 4 (.mv (.t 0)),oA 5 (.call (.f 334) [aR 4]),oA 3 (.asg (.t 5))] [2,3]) (.seq
  (.re [oA 6 (.mv (.t 3)),oA 7 (.mv (.t 3)),oA 8 (.call (.f 425) [aR 6,aR 7]),oN (.st (some 2) (.t 2) (.t 8))] [2]) .ret)))

def c_spec_l02Twist:F where
 np:=2
 rs:=[.cell 4 (some 2)]
 body :=
  (.seq
  (.re [oA 4 (.alloc [(.slice none 0 0),(.slice none 0 0)])] [0,1,4]) (.seq
  (.re [oA 9 (.build [(.slice none 0 0),(.slice none 0 0)] []),oA 5 (.alloc [(.slice none 0 0),(.slice none 0 0)]),oN (.st (some 2) (.t 5) (.t 9))] [0,1,4,5]) (.seq (.seq
  (.re [oA 6 (.mv (.ci 0))] [0,1,4,5,6]) (.block 0 (.loop (.seq (.seq
  (.re [oA 10 (.mv (.t 6)),oA 11 (.mv (.t 0)),oA 12 (.len (.t 11)),oA 13 (.bin .lss (.t 10) (.t 12))] [0,1,4,5,6,13]) (.cond (.t 13) .skip (.exit 0))) (.seq (.block 1 (.seq
  (.re [oA 16 (.bsl []),oA 7 (.asg (.t 16))] [0,1,4,5,6,7]) (.seq (.seq
  (.re [oA 8 (.mv (.ci 0))] [0,1,4,5,6,7,8]) (.block 2 (.loop (.seq (.seq
  (.re [oA 17 (.mv (.t 8)),oA 18 (.mv (.t 0)),oA 19 (.len (.t 18)),oA 20 (.bin .lss (.t 17) (.t 19))] [0,1,4,5,6,7,8,20]) (.cond (.t 20) .skip (.exit 2))) (.seq (.block 3
  (.re [oA 23 (.mv (.t 7)),oA 24 (.mv (.t 1)),oA 25 (.mv (.t 6)),oA 26 (.idx 1 (.t 24) (.t 25)),oA 27 (.ld none (.t 26)),oA 28 (.bsl [(.t 27)]),oA 29 (.app true 1 (.t 23) (.t 28)),oA 7 (.asg (.t 29))] [0,1,4,5,6,7,8]))
  (.re [oA 21 (.mv (.t 8)),oA 22 (.bin .add (.t 21) (.ci 1)),oA 8 (.mv (.t 22))] [0,1,4,5,6,7,8])))))) (.seq
  (.region (some [30,31,32,33,34]) [oA 30 (.fld 0 (.t 5)),oA 31 (.ld none (.t 30)),oA 32 (.mv (.t 0)),oA 33 (.call (.f 31) [aR 32]),oA 34 (.bsl1 33),oA 35 (.app true 1 (.t 31) (.t 34)),oA 36 (.fld 0 (.t 5)),oN (.st none (.t 36) (.t 35))] [0,1,4,5,6,7])
  (.re [oA 37 (.fld 1 (.t 5)),oA 38 (.ld none (.t 37)),oA 39 (.mv (.t 7)),oA 40 (.bsl [(.t 39)]),oA 41 (.app true 1 (.t 38) (.t 40)),oA 42 (.fld 1 (.t 5)),oN (.st none (.t 42) (.t 41))] [0,1,4,5,6])))))
  (.re [oA 14 (.mv (.t 6)),oA 15 (.bin .add (.t 14) (.ci 1)),oA 6 (.mv (.t 15))] [0,1,4,5,6])))))) (.seq
  (.re [oA 43 (.ld (some 2) (.t 5)),oN (.st (some 2) (.t 4) (.t 43))] [4]) .ret))))

def c_spec_l02Polygon:F where
 np:=1
 rs:=[.cell 2 (some 2)]
 body :=
  (.seq
  (.re [oA 2 (.alloc [(.slice none 0 0),(.slice none 0 0)])] [0,2]) (.seq
  (.re [oA 8 (.build [(.slice none 0 0),(.slice none 0 0)] []),oA 3 (.alloc [(.slice none 0 0),(.slice none 0 0)]),oN (.st (some 2) (.t 3) (.t 8))] [0,2,3]) (.seq (.seq
  (.re [oA 4 (.mv (.ci 0))] [0,2,3,4]) (.block 0 (.loop (.seq (.seq
  (.re [oA 9 (.mv (.t 4)),oA 10 (.mv (.t 0)),oA 11 (.bin .lss (.t 9) (.t 10))] [0,2,3,4,11]) (.cond (.t 11) .skip (.exit 0))) (.seq (.block 1 (.seq
  (.re [oA 14 (.bsl []),oA 15 (.bsl []),oA 5 (.asg (.t 14)),oA 6 (.asg (.t 15))] [0,2,3,4,5,6]) (.seq (.seq
  (.re [oA 7 (.mv (.ci 0))] [0,2,3,4,5,6,7]) (.block 2 (.loop (.seq (.seq
  (.re [oA 16 (.mv (.t 7)),oA 17 (.mv (.t 0)),oA 18 (.bin .lss (.t 16) (.t 17))] [0,2,3,4,5,6,7,18]) (.cond (.t 18) .skip (.exit 2))) (.seq (.block 3 (.seq
  (.re [oA 21 (.mv (.t 5)),oA 22 (.mv (.t 4)),oA 23 (.bin .mul (.ci 2) (.t 22)),oA 24 (.mv (.t 7)),oA 25 (.bin .sub (.t 23) (.t 24)),oA 26 (.mv (.t 0)),oA 27 (.bin .add (.t 25) (.t 26)),oA 28 (.mv (.t 0)),oA 29 (.bin .rem (.t 27) (.t 28)),oA 30 (.bsl [(.t 29)]),oA 31 (.app true 1 (.t 21) (.t 30)),oA 5 (.asg (.t 31))] [0,2,3,4,5,6,7])
  (.re [oA 32 (.mv (.t 6)),oA 33 (.mv (.t 4)),oA 34 (.bsl [(.t 33)]),oA 35 (.app true 1 (.t 32) (.t 34)),oA 6 (.asg (.t 35))] [0,2,3,4,5,6,7])))
  (.re [oA 19 (.mv (.t 7)),oA 20 (.bin .add (.t 19) (.ci 1)),oA 7 (.mv (.t 20))] [0,2,3,4,5,6,7])))))) (.seq
  (.re [oA 36 (.fld 0 (.t 3)),oA 37 (.ld none (.t 36)),oA 38 (.mv (.t 5)),oA 39 (.bsl [(.t 38)]),oA 40 (.app true 1 (.t 37) (.t 39)),oA 41 (.fld 0 (.t 3)),oN (.st none (.t 41) (.t 40))] [0,2,3,4,6])
  (.re [oA 42 (.fld 1 (.t 3)),oA 43 (.ld none (.t 42)),oA 44 (.mv (.t 6)),oA 45 (.bsl [(.t 44)]),oA 46 (.app true 1 (.t 43) (.t 45)),oA 47 (.fld 1 (.t 3)),oN (.st none (.t 47) (.t 46))] [0,2,3,4])))))
  (.re [oA 12 (.mv (.t 4)),oA 13 (.bin .add (.t 12) (.ci 1)),oA 4 (.mv (.t 13))] [0,2,3,4])))))) (.seq
  (.re [oA 48 (.ld (some 2) (.t 3)),oN (.st (some 2) (.t 2) (.t 48))] [2]) .ret))))

def c_spec_l02Twisted:F where
 np:=2
 rs:=[.cell 4 (some 2)]
 fix:=[0,1]
 body :=
  (.seq
  (.re [oA 4 (.alloc [(.slice none 0 0),(.slice none 0 0)])] [0,1,4]) (.seq
  (.re [oA 8 (.mvs 0),oA 9 (.mv (.t 1)),oA 10 (.calls (.f 368) (.t 8) 0 [(.t 9)]),oA 5 (.asg (.t 10))] [0,1,4,5]) (.seq
  (.re [oA 11 (.mv (.t 1)),oA 12 (.call (.f 334) [aR 11]),oA 6 (.asg (.t 12))] [0,1,4,5,6]) (.seq (.seq
  (.re [oA 13 (.mvs 0),oA 14 (.calls (.f 336) (.t 13) 0 [(.ci 4)]),oA 7 (.mv (.t 14))] [0,1,4,5,6,7]) (.block 0 (.loop (.seq (.seq
  (.re [oA 15 (.mv (.t 7)),oA 16 (.bin .gtr (.t 15) (.ci 0))] [0,1,4,5,6,7,16]) (.cond (.t 16) .skip (.exit 0))) (.seq (.block 1
  (.re [oA 19 (.mv (.t 6)),oA 20 (.mv (.t 5)),oA 21 (.call (.f 279) [aR 19,aR 20]),oA 6 (.asg (.t 21))] [0,1,4,5,6,7]))
  (.re [oA 17 (.mv (.t 7)),oA 18 (.bin .sub (.t 17) (.ci 1)),oA 7 (.mv (.t 18))] [0,1,4,5,6,7])))))) (.seq (.seq
  (.re [oA 22 (.mvs 0),oA 23 (.calls (.f 336) (.t 22) 0 [(.ci 2)]),oA 24 (.bin .eql (.t 23) (.ci 0))] [0,1,4,5,6,24]) (.cond (.t 24) (.seq
  (.re [oA 25 (.mv (.t 5)),oA 26 (.mv (.t 6)),oA 27 (.call (.f 425) [aR 25,aR 26]),oN (.st (some 2) (.t 4) (.t 27))] [0,1,4]) .ret) .skip)) (.seq
  (.re [oA 28 (.mv (.t 6)),oA 29 (.mv (.t 5)),oA 30 (.call (.f 425) [aR 28,aR 29]),oN (.st (some 2) (.t 4) (.t 30))] [0,1,4]) .ret))))))

def c_spec_l01Draw:F where
 np:=2
 rs:=[.t 4]
 fix:=[0,1]
 body :=
  (.seq
  (.re [oA 4 (.asg (.c (.slice none 0 0)))] [0,1]) (.seq
  (.re [oA 9 (.mv (.t 1)),oA 10 (.call (.f 334) [aR 9]),oA 5 (.asg (.t 10))] [0,1,5]) (.seq (.seq
  (.re [oA 11 (.mv (.t 1)),oA 12 (.bin .sub (.t 11) (.ci 1)),oA 6 (.mv (.t 12))] [0,1,5,6]) (.block 0 (.loop (.seq (.seq
  (.re [oA 13 (.mv (.t 6)),oA 14 (.bin .gtr (.t 13) (.ci 0))] [0,1,5,6,14]) (.cond (.t 14) .skip (.exit 0))) (.seq (.block 1 (.seq
  (.re [oA 17 (.mvs 0),oA 18 (.mv (.t 6)),oA 19 (.bin .add (.t 18) (.ci 1)),oA 20 (.calls (.f 336) (.t 17) 0 [(.t 19)]),oA 7 (.mv (.t 20))] [0,1,5,6,7]) (.seq
  (.re [oA 21 (.mv (.t 5)),oA 22 (.mv (.t 6)),oA 23 (.idx 1 (.t 21) (.t 22)),oA 24 (.ld none (.t 23)),oA 8 (.mv (.t 24))] [0,1,5,6,7,8]) (.seq
  (.re [oA 25 (.mv (.t 5)),oA 26 (.mv (.t 6)),oA 27 (.mv (.t 5)),oA 28 (.mv (.t 7)),oA 29 (.idx 1 (.t 27) (.t 28)),oA 30 (.ld none (.t 29)),oA 31 (.idx 1 (.t 25) (.t 26)),oN (.st none (.t 31) (.t 30))] [0,1,5,6,7,8])
  (.re [oA 32 (.mv (.t 5)),oA 33 (.mv (.t 7)),oA 34 (.mv (.t 8)),oA 35 (.idx 1 (.t 32) (.t 33)),oN (.st none (.t 35) (.t 34))] [0,1,5,6])))))
  (.re [oA 15 (.mv (.t 6)),oA 16 (.bin .sub (.t 15) (.ci 1)),oA 6 (.mv (.t 16))] [0,1,5,6])))))) (.seq
  (.re [oA 36 (.mv (.t 5)),oA 4 (.asg (.t 36))] [0,1,4]) .ret))))

def c_spec_l02Product:F where
 np:=2
 rs:=[.cell 4 (some 2)]
 body :=
  (.seq
  (.re [oA 2 (.box (.t 0)),oA 3 (.box (.t 1)),oA 4 (.alloc [(.slice none 0 0),(.slice none 0 0)])] [2,3,4]) (.seq
  (.region (some [5,12,13,14,15,16,17]) [oA 12 (.fld 0 (.t 2)),oA 13 (.ld none (.t 12)),oA 14 (.len (.t 13)),oA 15 (.fld 0 (.t 3)),oA 16 (.ld none (.t 15)),oA 17 (.len (.t 16)),oA 5 (.mv (.t 14)),oA 6 (.mv (.t 17))] [2,3,4,5,6]) (.seq
  (.re [oA 18 (.build [(.slice none 0 0),(.slice none 0 0)] []),oA 7 (.alloc [(.slice none 0 0),(.slice none 0 0)]),oN (.st (some 2) (.t 7) (.t 18))] [2,3,4,5,6,7]) (.seq (.seq
  (.re [oA 8 (.mv (.ci 0))] [2,3,4,5,6,7,8]) (.block 0 (.loop (.seq (.seq
  (.re [oA 19 (.mv (.t 8)),oA 20 (.mv (.t 5)),oA 21 (.mv (.t 6)),oA 22 (.bin .mul (.t 20) (.t 21)),oA 23 (.bin .lss (.t 19) (.t 22))] [2,3,4,5,6,7,8,23]) (.cond (.t 23) .skip (.exit 0))) (.seq (.block 1 (.seq
  (.re [oA 26 (.bsl []),oA 27 (.bsl []),oA 9 (.asg (.t 26)),oA 10 (.asg (.t 27))] [2,3,4,5,6,7,8,9,10]) (.seq (.seq
  (.re [oA 11 (.mv (.ci 0))] [2,3,4,5,6,7,8,9,10,11]) (.block 2 (.loop (.seq (.seq
  (.re [oA 28 (.mv (.t 11)),oA 29 (.mv (.t 5)),oA 30 (.mv (.t 6)),oA 31 (.bin .mul (.t 29) (.t 30)),oA 32 (.bin .lss (.t 28) (.t 31))] [2,3,4,5,6,7,8,9,10,11,32]) (.cond (.t 32) .skip (.exit 2))) (.seq (.block 3 (.seq
  (.region (some [35,36,37,38,39,40,41,42,43,44,45,46,47,48,49,50,51,52,53,54,55,56,57,58,59,60,61,62,63]) [oA 35 (.mv (.t 9)),oA 36 (.fld 0 (.t 2)),oA 37 (.ld none (.t 36)),oA 38 (.mv (.t 8)),oA 39 (.mv (.t 6)),oA 40 (.bin .quo (.t 38) (.t 39)),oA 41 (.idx 1 (.t 37) (.t 40)),oA 42 (.ld none (.t 41)),oA 43 (.mv (.t 11)),oA 44 (.mv (.t 6)),oA 45 (.bin .quo (.t 43) (.t 44)),oA 46 (.idx 1 (.t 42) (.t 45)),oA 47 (.ld none (.t 46)),oA 48 (.mv (.t 6)),oA 49 (.bin .mul (.t 47) (.t 48)),oA 50 (.fld 0 (.t 3)),oA 51 (.ld none (.t 50)),oA 52 (.mv (.t 8)),oA 53 (.mv (.t 6)),oA 54 (.bin .rem (.t 52) (.t 53)),oA 55 (.idx 1 (.t 51) (.t 54)),oA 56 (.ld none (.t 55)),oA 57 (.mv (.t 11)),oA 58 (.mv (.t 6)),oA 59 (.bin .rem (.t 57) (.t 58)),oA 60 (.idx 1 (.t 56) (.t 59)),oA 61 (.ld none (.t 60)),oA 62 (.bin .add (.t 49) (.t 61)),oA 63 (.bslv 1 [(.t 62)]),oA 64 (.app true 1 (.t 35) (.t 63)),oA 9 (.asg (.t 64))] [2,3,4,5,6,7,8,9,10,11])
  (.region (some [65,66,67,68,69,70,71,72,73,74,75,76,77,78,79,80,81,82,83,84,85,86,87,88,89,90,91,92,93]) [oA 65 (.mv (.t 10)),oA 66 (.fld 1 (.t 2)),oA 67 (.ld none (.t 66)),oA 68 (.mv (.t 8)),oA 69 (.mv (.t 6)),oA 70 (.bin .quo (.t 68) (.t 69)),oA 71 (.idx 1 (.t 67) (.t 70)),oA 72 (.ld none (.t 71)),oA 73 (.mv (.t 11)),oA 74 (.mv (.t 6)),oA 75 (.bin .quo (.t 73) (.t 74)),oA 76 (.idx 1 (.t 72) (.t 75)),oA 77 (.ld none (.t 76)),oA 78 (.mv (.t 6)),oA 79 (.bin .mul (.t 77) (.t 78)),oA 80 (.fld 1 (.t 3)),oA 81 (.ld none (.t 80)),oA 82 (.mv (.t 8)),oA 83 (.mv (.t 6)),oA 84 (.bin .rem (.t 82) (.t 83)),oA 85 (.idx 1 (.t 81) (.t 84)),oA 86 (.ld none (.t 85)),oA 87 (.mv (.t 11)),oA 88 (.mv (.t 6)),oA 89 (.bin .rem (.t 87) (.t 88)),oA 90 (.idx 1 (.t 86) (.t 89)),oA 91 (.ld none (.t 90)),oA 92 (.bin .add (.t 79) (.t 91)),oA 93 (.bslv 1 [(.t 92)]),oA 94 (.app true 1 (.t 65) (.t 93)),oA 10 (.asg (.t 94))] [2,3,4,5,6,7,8,9,10,11])))
  (.re [oA 33 (.mv (.t 11)),oA 34 (.bin .add (.t 33) (.ci 1)),oA 11 (.mv (.t 34))] [2,3,4,5,6,7,8,9,10,11])))))) (.seq
  (.re [oA 95 (.fld 0 (.t 7)),oA 96 (.ld none (.t 95)),oA 97 (.mv (.t 9)),oA 98 (.bsl [(.t 97)]),oA 99 (.app true 1 (.t 96) (.t 98)),oA 100 (.fld 0 (.t 7)),oN (.st none (.t 100) (.t 99))] [2,3,4,5,6,7,8,10])
  (.re [oA 101 (.fld 1 (.t 7)),oA 102 (.ld none (.t 101)),oA 103 (.mv (.t 10)),oA 104 (.bsl [(.t 103)]),oA 105 (.app true 1 (.t 102) (.t 104)),oA 106 (.fld 1 (.t 7)),oN (.st none (.t 106) (.t 105))] [2,3,4,5,6,7,8])))))
  (.re [oA 24 (.mv (.t 8)),oA 25 (.bin .add (.t 24) (.ci 1)),oA 8 (.mv (.t 25))] [2,3,4,5,6,7,8])))))) (.seq
  (.re [oA 107 (.ld (some 2) (.t 7)),oN (.st (some 2) (.t 4) (.t 107))] [4]) .ret)))))

def c_spec_l02Union:F where
 np:=2
 rs:=[.cell 4 (some 2)]
 body :=
  (.seq
  (.re [oA 2 (.box (.t 0)),oA 3 (.box (.t 1)),oA 4 (.alloc [(.slice none 0 0),(.slice none 0 0)])] [2,3,4]) (.seq
  (.region (some [5,12,13,14,15,16,17]) [oA 12 (.fld 0 (.t 2)),oA 13 (.ld none (.t 12)),oA 14 (.len (.t 13)),oA 15 (.fld 0 (.t 3)),oA 16 (.ld none (.t 15)),oA 17 (.len (.t 16)),oA 5 (.mv (.t 14)),oA 6 (.mv (.t 17))] [2,3,4,5,6]) (.seq
  (.re [oA 18 (.build [(.slice none 0 0),(.slice none 0 0)] []),oA 7 (.alloc [(.slice none 0 0),(.slice none 0 0)]),oN (.st (some 2) (.t 7) (.t 18))] [2,3,4,5,6,7]) (.seq (.seq
  (.re [oA 8 (.mv (.ci 0))] [2,3,4,5,6,7,8]) (.block 0 (.loop (.seq (.seq
  (.re [oA 19 (.mv (.t 8)),oA 20 (.mv (.t 5)),oA 21 (.mv (.t 6)),oA 22 (.bin .add (.t 20) (.t 21)),oA 23 (.bin .lss (.t 19) (.t 22))] [2,3,4,5,6,7,8,23]) (.cond (.t 23) .skip (.exit 0))) (.seq (.block 1 (.seq
  (.re [oA 26 (.bsl []),oA 27 (.bsl []),oA 9 (.asg (.t 26)),oA 10 (.asg (.t 27))] [2,3,4,5,6,7,8,9,10]) (.seq (.seq
  (.re [oA 11 (.mv (.ci 0))] [2,3,4,5,6,7,8,9,10,11]) (.block 2 (.loop (.seq (.seq
  (.re [oA 28 (.mv (.t 11)),oA 29 (.mv (.t 5)),oA 30 (.mv (.t 6)),oA 31 (.bin .add (.t 29) (.t 30)),oA 32 (.bin .lss (.t 28) (.t 31))] [2,3,4,5,6,7,8,9,10,11,32]) (.cond (.t 32) .skip (.exit 2))) (.seq (.block 3 (.block 4 (.seq
  (.re [oA 44 (.mv (.t 8)),oA 45 (.mv (.t 5)),oA 46 (.bin .lss (.t 44) (.t 45)),oA 47 (.mv (.t 46)),oI 48 47 true (.mv (.t 11)),oI 49 47 true (.mv (.t 5)),oI 50 47 true (.bin .lss (.t 48) (.t 49)),oA 51 (.pick (.t 47) (.t 50) (.c (.bool false))),oA 43 (.mv (.t 51))] [2,3,4,5,6,7,8,9,10,11,43]) (.cond (.t 43) (.seq
  (.re [oA 52 (.mv (.t 9)),oA 53 (.fld 0 (.t 2)),oA 54 (.ld none (.t 53)),oA 55 (.mv (.t 8)),oA 56 (.idx 1 (.t 54) (.t 55)),oA 57 (.ld none (.t 56)),oA 58 (.mv (.t 11)),oA 59 (.idx 1 (.t 57) (.t 58)),oA 60 (.ld none (.t 59)),oA 61 (.bsl [(.t 60)]),oA 62 (.app true 1 (.t 52) (.t 61)),oA 9 (.asg (.t 62))] [2,3,4,5,6,7,8,9,10,11])
  (.re [oA 63 (.mv (.t 10)),oA 64 (.fld 1 (.t 2)),oA 65 (.ld none (.t 64)),oA 66 (.mv (.t 8)),oA 67 (.idx 1 (.t 65) (.t 66)),oA 68 (.ld none (.t 67)),oA 69 (.mv (.t 11)),oA 70 (.idx 1 (.t 68) (.t 69)),oA 71 (.ld none (.t 70)),oA 72 (.bsl [(.t 71)]),oA 73 (.app true 1 (.t 63) (.t 72)),oA 10 (.asg (.t 73))] [2,3,4,5,6,7,8,9,10,11])) (.seq
  (.re [oA 75 (.mv (.t 8)),oA 76 (.mv (.t 5)),oA 77 (.bin .geq (.t 75) (.t 76)),oA 78 (.mv (.t 77)),oI 79 78 true (.mv (.t 11)),oI 80 78 true (.mv (.t 5)),oI 81 78 true (.bin .geq (.t 79) (.t 80)),oA 82 (.pick (.t 78) (.t 81) (.c (.bool false))),oA 74 (.mv (.t 82))] [2,3,4,5,6,7,8,9,10,11,74]) (.cond (.t 74) (.seq
  (.re [oA 83 (.mv (.t 9)),oA 84 (.fld 0 (.t 3)),oA 85 (.ld none (.t 84)),oA 86 (.mv (.t 8)),oA 87 (.mv (.t 5)),oA 88 (.bin .sub (.t 86) (.t 87)),oA 89 (.idx 1 (.t 85) (.t 88)),oA 90 (.ld none (.t 89)),oA 91 (.mv (.t 11)),oA 92 (.mv (.t 5)),oA 93 (.bin .sub (.t 91) (.t 92)),oA 94 (.idx 1 (.t 90) (.t 93)),oA 95 (.ld none (.t 94)),oA 96 (.mv (.t 5)),oA 97 (.bin .add (.t 95) (.t 96)),oA 98 (.bsl [(.t 97)]),oA 99 (.app true 1 (.t 83) (.t 98)),oA 9 (.asg (.t 99))] [2,3,4,5,6,7,8,9,10,11])
  (.re [oA 100 (.mv (.t 10)),oA 101 (.fld 1 (.t 3)),oA 102 (.ld none (.t 101)),oA 103 (.mv (.t 8)),oA 104 (.mv (.t 5)),oA 105 (.bin .sub (.t 103) (.t 104)),oA 106 (.idx 1 (.t 102) (.t 105)),oA 107 (.ld none (.t 106)),oA 108 (.mv (.t 11)),oA 109 (.mv (.t 5)),oA 110 (.bin .sub (.t 108) (.t 109)),oA 111 (.idx 1 (.t 107) (.t 110)),oA 112 (.ld none (.t 111)),oA 113 (.mv (.t 5)),oA 114 (.bin .add (.t 112) (.t 113)),oA 115 (.bsl [(.t 114)]),oA 116 (.app true 1 (.t 100) (.t 115)),oA 10 (.asg (.t 116))] [2,3,4,5,6,7,8,9,10,11])) (.seq
  (.re [oA 35 (.mv (.t 9)),oA 36 (.mv (.t 11)),oA 37 (.bsl [(.t 36)]),oA 38 (.app true 1 (.t 35) (.t 37)),oA 9 (.asg (.t 38))] [2,3,4,5,6,7,8,9,10,11])
  (.re [oA 39 (.mv (.t 10)),oA 40 (.mv (.t 8)),oA 41 (.bsl [(.t 40)]),oA 42 (.app true 1 (.t 39) (.t 41)),oA 10 (.asg (.t 42))] [2,3,4,5,6,7,8,9,10,11]))))))))
  (.re [oA 33 (.mv (.t 11)),oA 34 (.bin .add (.t 33) (.ci 1)),oA 11 (.mv (.t 34))] [2,3,4,5,6,7,8,9,10,11])))))) (.seq
  (.re [oA 117 (.fld 0 (.t 7)),oA 118 (.ld none (.t 117)),oA 119 (.mv (.t 9)),oA 120 (.bsl [(.t 119)]),oA 121 (.app true 1 (.t 118) (.t 120)),oA 122 (.fld 0 (.t 7)),oN (.st none (.t 122) (.t 121))] [2,3,4,5,6,7,8,10])
  (.re [oA 123 (.fld 1 (.t 7)),oA 124 (.ld none (.t 123)),oA 125 (.mv (.t 10)),oA 126 (.bsl [(.t 125)]),oA 127 (.app true 1 (.t 124) (.t 126)),oA 128 (.fld 1 (.t 7)),oN (.st none (.t 128) (.t 127))] [2,3,4,5,6,7,8])))))
  (.re [oA 24 (.mv (.t 8)),oA 25 (.bin .add (.t 24) (.ci 1)),oA 8 (.mv (.t 25))] [2,3,4,5,6,7,8])))))) (.seq
  (.re [oA 129 (.ld (some 2) (.t 7)),oN (.st (some 2) (.t 4) (.t 129))] [4]) .ret)))))

def c_spec_l02Involutive:F where
 np:=1
 rs:=[.cell 2 (some 2)]
 body :=
  (.seq
  (.re [oA 2 (.alloc [(.slice none 0 0),(.slice none 0 0)])] [0,2]) (.seq
  (.re [oA 7 (.mv (.t 0)),oA 8 (.call (.f 280) [aR 7]),oA 9 (.build [(.slice none 0 0),(.slice none 0 0)] [(0,1,(.t 8))]),oA 3 (.alloc [(.slice none 0 0),(.slice none 0 0)]),oN (.st (some 2) (.t 3) (.t 9))] [0,2,3]) (.seq (.seq
  (.re [oA 4 (.mv (.ci 0))] [0,2,3,4]) (.block 0 (.loop (.seq (.seq
  (.re [oA 10 (.mv (.t 4)),oA 11 (.mv (.t 0)),oA 12 (.len (.t 11)),oA 13 (.bin .lss (.t 10) (.t 12))] [0,2,3,4,13]) (.cond (.t 13) .skip (.exit 0))) (.seq (.block 1 (.seq
  (.re [oA 16 (.bsl []),oA 5 (.asg (.t 16))] [0,2,3,4,5]) (.seq (.seq
  (.re [oA 6 (.mv (.ci 0))] [0,2,3,4,5,6]) (.block 2 (.loop (.seq (.seq
  (.re [oA 17 (.mv (.t 6)),oA 18 (.mv (.t 0)),oA 19 (.len (.t 18)),oA 20 (.bin .lss (.t 17) (.t 19))] [0,2,3,4,5,6,20]) (.cond (.t 20) .skip (.exit 2))) (.seq (.block 3
  (.re [oA 23 (.mv (.t 5)),oA 24 (.mv (.t 0)),oA 25 (.mv (.t 0)),oA 26 (.mv (.t 4)),oA 27 (.idx 1 (.t 25) (.t 26)),oA 28 (.ld none (.t 27)),oA 29 (.mv (.t 6)),oA 30 (.idx 1 (.t 28) (.t 29)),oA 31 (.ld none (.t 30)),oA 32 (.idx 1 (.t 24) (.t 31)),oA 33 (.ld none (.t 32)),oA 34 (.mv (.t 4)),oA 35 (.call (.f 69) [aR 33,aR 34]),oA 36 (.bsl [(.t 35)]),oA 37 (.app true 1 (.t 23) (.t 36)),oA 5 (.asg (.t 37))] [0,2,3,4,5,6]))
  (.re [oA 21 (.mv (.t 6)),oA 22 (.bin .add (.t 21) (.ci 1)),oA 6 (.mv (.t 22))] [0,2,3,4,5,6]))))))
  (.re [oA 38 (.fld 1 (.t 3)),oA 39 (.ld none (.t 38)),oA 40 (.mv (.t 5)),oA 41 (.bsl [(.t 40)]),oA 42 (.app true 1 (.t 39) (.t 41)),oA 43 (.fld 1 (.t 3)),oN (.st none (.t 43) (.t 42))] [0,2,3,4]))))
  (.re [oA 14 (.mv (.t 4)),oA 15 (.bin .add (.t 14) (.ci 1)),oA 4 (.mv (.t 15))] [0,2,3,4])))))) (.seq
  (.re [oA 44 (.ld (some 2) (.t 3)),oN (.st (some 2) (.t 2) (.t 44))] [2]) .ret))))

def c_spec_l02Rename:F where
 np:=2
 rs:=[.cell 4 (some 2)]
 body :=
  (.seq
  (.re [oA 2 (.box (.t 0)),oA 4 (.alloc [(.slice none 0 0),(.slice none 0 0)])] [1,2,4]) (.seq
  (.region (some [5,6,7,8,9,10,11]) [oA 5 (.fld 0 (.t 2)),oA 6 (.ld none (.t 5)),oA 7 (.mv (.t 1)),oA 8 (.call (.f 367) [aR 6,aR 7]),oA 9 (.fld 1 (.t 2)),oA 10 (.ld none (.t 9)),oA 11 (.mv (.t 1)),oA 12 (.call (.f 367) [aR 10,aR 11]),oA 13 (.build [(.slice none 0 0),(.slice none 0 0)] [(0,1,(.t 8)),(1,1,(.t 12))]),oN (.st (some 2) (.t 4) (.t 13))] [4]) .ret))

def c_spec_l01Rename:F where
 np:=2
 rs:=[.t 4]
 body :=
  (.seq
  (.re [oA 4 (.asg (.c (.slice none 0 0)))] [0,1]) (.seq
  (.re [oA 10 (.bsl []),oA 5 (.asg (.t 10))] [0,1,5]) (.seq (.seq
  (.re [oA 6 (.mv (.ci 0))] [0,1,5,6]) (.block 0 (.loop (.seq (.seq
  (.re [oA 11 (.mv (.t 6)),oA 12 (.mv (.t 0)),oA 13 (.len (.t 12)),oA 14 (.bin .lss (.t 11) (.t 13))] [0,1,5,6,14]) (.cond (.t 14) .skip (.exit 0))) (.seq (.block 1
  (.re [oA 17 (.mv (.t 5)),oA 18 (.mv (.t 0)),oA 19 (.len (.t 18)),oA 20 (.mks (.int .i64 0) (.t 19)),oA 21 (.bsl [(.t 20)]),oA 22 (.app true 1 (.t 17) (.t 21)),oA 5 (.asg (.t 22))] [0,1,5,6]))
  (.re [oA 15 (.mv (.t 6)),oA 16 (.bin .add (.t 15) (.ci 1)),oA 6 (.mv (.t 16))] [0,1,5,6])))))) (.seq (.seq
  (.re [oA 7 (.mv (.ci 0))] [0,1,5,7]) (.block 2 (.loop (.seq (.seq
  (.re [oA 23 (.mv (.t 7)),oA 24 (.mv (.t 0)),oA 25 (.len (.t 24)),oA 26 (.bin .lss (.t 23) (.t 25))] [0,1,5,7,26]) (.cond (.t 26) .skip (.exit 2))) (.seq (.block 3 (.seq
  (.re [oA 29 (.mv (.t 5)),oA 30 (.mv (.t 1)),oA 31 (.mv (.t 7)),oA 32 (.idx 1 (.t 30) (.t 31)),oA 33 (.ld none (.t 32)),oA 34 (.idx 1 (.t 29) (.t 33)),oA 35 (.ld none (.t 34)),oA 8 (.mv (.t 35))] [0,1,5,7,8]) (.seq
  (.re [oA 9 (.mv (.ci 0))] [0,1,5,7,8,9]) (.block 4 (.loop (.seq (.seq
  (.re [oA 36 (.mv (.t 9)),oA 37 (.mv (.t 0)),oA 38 (.len (.t 37)),oA 39 (.bin .lss (.t 36) (.t 38))] [0,1,5,7,8,9,39]) (.cond (.t 39) .skip (.exit 4))) (.seq (.block 5
  (.region (some [42,43,44,45,46,47,48,49,50,51,52,53,54,55,56]) [oA 42 (.mv (.t 8)),oA 43 (.mv (.t 1)),oA 44 (.mv (.t 9)),oA 45 (.idx 1 (.t 43) (.t 44)),oA 46 (.ld none (.t 45)),oA 47 (.mv (.t 1)),oA 48 (.mv (.t 0)),oA 49 (.mv (.t 7)),oA 50 (.idx 1 (.t 48) (.t 49)),oA 51 (.ld none (.t 50)),oA 52 (.mv (.t 9)),oA 53 (.idx 1 (.t 51) (.t 52)),oA 54 (.ld none (.t 53)),oA 55 (.idx 1 (.t 47) (.t 54)),oA 56 (.ld none (.t 55)),oA 57 (.idx 1 (.t 42) (.t 46)),oN (.st none (.t 57) (.t 56))] [0,1,5,7,8,9]))
  (.re [oA 40 (.mv (.t 9)),oA 41 (.bin .add (.t 40) (.ci 1)),oA 9 (.mv (.t 41))] [0,1,5,7,8,9]))))))))
  (.re [oA 27 (.mv (.t 7)),oA 28 (.bin .add (.t 27) (.ci 1)),oA 7 (.mv (.t 28))] [0,1,5,7])))))) (.seq
  (.re [oA 58 (.mv (.t 5)),oA 4 (.asg (.t 58))] [4]) .ret)))))

def c_spec_l05Cycle:F where
 np:=1
 rs:=[.cell 2 (some 1)]
 body :=
  (.seq
  (.re [oA 1 (.box (.t 0)),oA 2 (.alloc [(.slice none 0 0)])] [1,2]) (.seq
  (.re [oA 5 (.build [(.slice none 0 0)] []),oA 3 (.alloc [(.slice none 0 0)]),oN (.st (some 1) (.t 3) (.t 5))] [1,2,3]) (.seq (.seq
  (.re [oA 4 (.mv (.ci 0))] [1,2,3,4]) (.block 0 (.loop (.seq (.seq
  (.re [oA 6 (.mv (.t 4)),oA 7 (.fld 0 (.t 1)),oA 8 (.ld none (.t 7)),oA 9 (.len (.t 8)),oA 10 (.bin .lss (.t 6) (.t 9))] [1,2,3,4,10]) (.cond (.t 10) .skip (.exit 0))) (.seq (.block 1
  (.region (some [13,14,15,16,17,18,19,20,21]) [oA 13 (.fld 0 (.t 3)),oA 14 (.ld none (.t 13)),oA 15 (.fld 0 (.t 1)),oA 16 (.ld none (.t 15)),oA 17 (.mv (.t 4)),oA 18 (.idx 1 (.t 16) (.t 17)),oA 19 (.ld none (.t 18)),oA 20 (.call (.f 304) [aR 19]),oA 21 (.bsl1 20),oA 22 (.app true 1 (.t 14) (.t 21)),oA 23 (.fld 0 (.t 3)),oN (.st none (.t 23) (.t 22))] [1,2,3,4]))
  (.re [oA 11 (.mv (.t 4)),oA 12 (.bin .add (.t 11) (.ci 1)),oA 4 (.mv (.t 12))] [1,2,3,4])))))) (.seq
  (.re [oA 24 (.ld (some 1) (.t 3)),oN (.st (some 1) (.t 2) (.t 24))] [2]) .ret))))

def c_spec_l05Solution:F where
 np:=1
 rs:=[.cell 2 (some 2)]
 body :=
  (.seq
  (.re [oA 1 (.box (.t 0)),oA 2 (.alloc [(.slice none 0 0),(.slice none 0 0)])] [1,2]) (.seq
  (.re [oA 10 (.fld 0 (.t 1)),oA 11 (.ld none (.t 10)),oA 12 (.len (.t 11)),oA 3 (.mv (.t 12))] [1,2,3]) (.seq
  (.re [oA 13 (.mv (.t 3)),oA 14 (.call (.f 398) [aR 13]),oA 4 (.alloc [(.slice none 0 0),(.slice none 0 0)]),oN (.st (some 2) (.t 4) (.t 14))] [1,2,3,4]) (.seq (.seq
  (.re [oA 5 (.mv (.ci 0))] [1,2,3,4,5]) (.block 0 (.loop (.seq (.seq
  (.re [oA 15 (.mv (.t 5)),oA 16 (.mv (.t 3)),oA 17 (.bin .lss (.t 15) (.t 16))] [1,2,3,4,5,17]) (.cond (.t 17) .skip (.exit 0))) (.seq (.block 1 (.seq
  (.region (some [6,20,21,22,23,24,25,26,27,28,29]) [oA 20 (.fld 0 (.t 4)),oA 21 (.ld none (.t 20)),oA 22 (.mv (.t 5)),oA 23 (.idx 1 (.t 21) (.t 22)),oA 24 (.ld none (.t 23)),oA 25 (.fld 1 (.t 4)),oA 26 (.ld none (.t 25)),oA 27 (.mv (.t 5)),oA 28 (.idx 1 (.t 26) (.t 27)),oA 29 (.ld none (.t 28)),oA 6 (.mv (.t 24)),oA 7 (.mv (.t 29))] [1,2,3,4,5,6,7]) (.seq
  (.re [oA 8 (.mv (.ci 0))] [1,2,3,4,5,6,7,8]) (.block 2 (.loop (.seq (.seq
  (.re [oA 30 (.mv (.t 8)),oA 31 (.mv (.t 3)),oA 32 (.bin .lss (.t 30) (.t 31))] [1,2,3,4,5,6,7,8,32]) (.cond (.t 32) .skip (.exit 2))) (.seq (.block 3 (.seq
  (.re [oA 35 (.fld 0 (.t 1)),oA 36 (.ld none (.t 35)),oA 37 (.mv (.t 5)),oA 38 (.idx 1 (.t 36) (.t 37)),oA 39 (.ld none (.t 38)),oA 40 (.mv (.t 8)),oA 41 (.call (.f 69) [aR 39,aR 40]),oA 9 (.mv (.t 41))] [1,2,3,4,5,6,7,8,9]) (.seq
  (.re [oA 42 (.mv (.t 6)),oA 43 (.mv (.t 8)),oA 44 (.mv (.t 9)),oA 45 (.idx 1 (.t 42) (.t 43)),oN (.st none (.t 45) (.t 44))] [1,2,3,4,5,6,7,8,9])
  (.re [oA 46 (.mv (.t 7)),oA 47 (.mv (.t 8)),oA 48 (.fld 0 (.t 1)),oA 49 (.ld none (.t 48)),oA 50 (.mv (.t 9)),oA 51 (.idx 1 (.t 49) (.t 50)),oA 52 (.ld none (.t 51)),oA 53 (.mv (.t 5)),oA 54 (.idx 1 (.t 52) (.t 53)),oA 55 (.ld none (.t 54)),oA 56 (.idx 1 (.t 46) (.t 47)),oN (.st none (.t 56) (.t 55))] [1,2,3,4,5,6,7,8]))))
  (.re [oA 33 (.mv (.t 8)),oA 34 (.bin .add (.t 33) (.ci 1)),oA 8 (.mv (.t 34))] [1,2,3,4,5,6,7,8]))))))))
  (.re [oA 18 (.mv (.t 5)),oA 19 (.bin .add (.t 18) (.ci 1)),oA 5 (.mv (.t 19))] [1,2,3,4,5])))))) (.seq
  (.re [oA 57 (.ld (some 2) (.t 4)),oN (.st (some 2) (.t 2) (.t 57))] [2]) .ret)))))

def c_spec_l01Tables:F where
 np:=2
 rs:=[.t 4]
 fix:=[0,1]
 body :=
  (.seq
  (.re [oA 4 (.asg (.c (.slice none 0 0)))] [0,1]) (.seq
  (.re [oA 12 (.bsl []),oA 13 (.mvs 0),oA 14 (.calls (.f 336) (.t 13) 0 [(.ci 3)]),oA 5 (.asg (.t 12)),oA 6 (.mv (.t 14))] [0,1,5,6]) (.seq
  (.re [oA 15 (.mvs 0),oA 16 (.mv (.t 1)),oA 17 (.calls (.f 368) (.t 15) 0 [(.t 16)]),oA 7 (.asg (.t 17))] [0,1,5,6,7]) (.seq (.seq
  (.re [oA 8 (.mv (.ci 0))] [0,1,5,6,7,8]) (.block 0 (.loop (.seq (.seq
  (.re [oA 18 (.mv (.t 8)),oA 19 (.mv (.t 1)),oA 20 (.bin .lss (.t 18) (.t 19))] [0,1,5,6,7,8,20]) (.cond (.t 20) .skip (.exit 0))) (.seq (.block 1 (.seq
  (.re [oA 23 (.mvs 0),oA 24 (.mv (.t 1)),oA 25 (.calls (.f 368) (.t 23) 0 [(.t 24)]),oA 9 (.asg (.t 25))] [0,1,5,6,7,8,9]) (.seq (.seq
  (.re [oA 26 (.mv (.t 6))] [0,1,5,6,7,8,9,26]) (.block 2 (.seq
  (.re [oA 28 (.bin .eql (.t 26) (.ci 0)),oA 27 (.mv (.t 28))] [0,1,5,6,7,8,9,26,27]) (.cond (.t 27) (.seq
  (.re [oA 10 (.mv (.ci 0))] [0,1,5,6,7,8,9,10]) (.block 3 (.loop (.seq (.seq
  (.re [oA 29 (.mv (.t 10)),oA 30 (.mv (.t 1)),oA 31 (.bin .lss (.t 29) (.t 30))] [0,1,5,6,7,8,9,10,31]) (.cond (.t 31) .skip (.exit 3))) (.seq (.block 4
  (.re [oA 34 (.mv (.t 9)),oA 35 (.mv (.t 10)),oA 36 (.mvs 0),oA 37 (.mv (.t 1)),oA 38 (.calls (.f 336) (.t 36) 0 [(.t 37)]),oA 39 (.idx 1 (.t 34) (.t 35)),oN (.st none (.t 39) (.t 38))] [0,1,5,6,7,8,9,10]))
  (.re [oA 32 (.mv (.t 10)),oA 33 (.bin .add (.t 32) (.ci 1)),oA 10 (.mv (.t 33))] [0,1,5,6,7,8,9,10])))))) (.seq
  (.re [oA 41 (.bin .eql (.t 26) (.ci 1)),oA 40 (.mv (.t 41))] [0,1,5,6,7,8,9,40]) (.cond (.t 40) (.seq
  (.re [oA 11 (.mv (.ci 0))] [0,1,5,6,7,8,9,11]) (.block 5 (.loop (.seq (.seq
  (.re [oA 42 (.mv (.t 11)),oA 43 (.mv (.t 1)),oA 44 (.bin .lss (.t 42) (.t 43))] [0,1,5,6,7,8,9,11,44]) (.cond (.t 44) .skip (.exit 5))) (.seq (.block 6
  (.re [oA 47 (.mv (.t 9)),oA 48 (.mv (.t 11)),oA 49 (.mv (.t 7)),oA 50 (.mv (.t 8)),oA 51 (.mv (.t 11)),oA 52 (.bin .add (.t 50) (.t 51)),oA 53 (.mv (.t 1)),oA 54 (.bin .rem (.t 52) (.t 53)),oA 55 (.idx 1 (.t 49) (.t 54)),oA 56 (.ld none (.t 55)),oA 57 (.idx 1 (.t 47) (.t 48)),oN (.st none (.t 57) (.t 56))] [0,1,5,6,7,8,9,11]))
  (.re [oA 45 (.mv (.t 11)),oA 46 (.bin .add (.t 45) (.ci 1)),oA 11 (.mv (.t 46))] [0,1,5,6,7,8,9,11])))))) .skip))))))
  (.re [oA 58 (.mv (.t 5)),oA 59 (.mv (.t 9)),oA 60 (.bsl [(.t 59)]),oA 61 (.app true 1 (.t 58) (.t 60)),oA 5 (.asg (.t 61))] [0,1,5,6,7,8]))))
  (.re [oA 21 (.mv (.t 8)),oA 22 (.bin .add (.t 21) (.ci 1)),oA 8 (.mv (.t 22))] [0,1,5,6,7,8])))))) (.seq
  (.re [oA 62 (.mv (.t 5)),oA 4 (.asg (.t 62))] [0,1,4]) .ret)))))

def c_spec_l01Bad:F where
 np:=2
 rs:=[.t 4]
 fix:=[0,1]
 body :=
  (.seq
  (.re [oA 4 (.asg (.c (.slice none 0 0)))] [0,1]) (.seq
  (.re [oA 6 (.mvs 0),oA 7 (.mv (.t 1)),oA 8 (.calls (.f 428) (.t 6) 0 [(.t 7)]),oA 5 (.asg (.t 8))] [0,1,5]) (.seq (.seq
  (.re [oA 9 (.mvs 0),oA 10 (.calls (.f 336) (.t 9) 0 [(.ci 30)])] [0,1,5,10]) (.block 0 (.seq
  (.re [oA 12 (.bin .eql (.t 10) (.ci 0)),oA 11 (.mv (.t 12))] [0,1,5,10,11]) (.cond (.t 11)
  (.re [oA 13 (.mv (.t 5)),oA 14 (.mv (.t 1)),oA 15 (.call (.f 334) [aR 14]),oA 16 (.bsl [(.t 15)]),oA 17 (.app true 1 (.t 13) (.t 16)),oA 5 (.asg (.t 17))] [0,1,5]) (.seq
  (.re [oA 19 (.bin .eql (.t 10) (.ci 1)),oA 18 (.mv (.t 19))] [0,1,5,10,18]) (.cond (.t 18)
  (.re [oA 20 (.mv (.t 5)),oA 21 (.mv (.t 5)),oA 22 (.idx 1 (.t 21) (.ci 0)),oA 23 (.ld none (.t 22)),oA 24 (.bsl [(.ci 0)]),oA 25 (.app true 1 (.t 23) (.t 24)),oA 26 (.idx 1 (.t 20) (.ci 0)),oN (.st none (.t 26) (.t 25))] [0,1,5]) (.seq
  (.re [oA 28 (.bin .eql (.t 10) (.ci 2)),oA 27 (.mv (.t 28))] [0,1,5,10,27]) (.cond (.t 27)
  (.region (some [29,30,31,32,33,34,35]) [oA 29 (.mv (.t 5)),oA 30 (.idx 1 (.t 29) (.ci 0)),oA 31 (.ld none (.t 30)),oA 32 (.mvs 0),oA 33 (.mv (.t 1)),oA 34 (.bslw 1 [(.c (.int .i64 (-1))),(.t 33),(.ci 1099511627776)]),oA 35 (.calls (.f 292) (.t 32) 0 [(.t 34)]),oA 36 (.idx 1 (.t 31) (.ci 0)),oN (.st none (.t 36) (.t 35))] [0,1,5]) (.seq
  (.re [oA 38 (.bin .eql (.t 10) (.ci 3)),oA 37 (.mv (.t 38))] [0,1,5,10,37]) (.cond (.t 37)
  (.re [oA 39 (.bsl []),oA 5 (.asg (.t 39))] [0,1,5]) (.seq
  (.re [oA 41 (.bin .eql (.t 10) (.ci 4)),oA 40 (.mv (.t 41))] [0,1,5,40]) (.cond (.t 40)
  (.re [oA 42 (.mvs 0),oA 43 (.calls (.f 428) (.t 42) 0 [(.ci 13)]),oA 5 (.asg (.t 43))] [0,1,5]) .skip)))))))))))) (.seq
  (.re [oA 44 (.mv (.t 5)),oA 4 (.asg (.t 44))] [0,1,4]) .ret))))

def c_spec_l01Pick:F where
 np:=2
 rs:=[.t 4]
 fix:=[0,1]
 body :=
  (.seq
  (.re [oA 4 (.mv (.ci 0))] [0,1]) (.seq
  (.re [oA 5 (.mv (.t 1)),oA 6 (.mvs 0),oA 7 (.mv (.t 1)),oA 8 (.len (.t 7)),oA 9 (.calls (.f 336) (.t 6) 0 [(.t 8)]),oA 10 (.idx 1 (.t 5) (.t 9)),oA 11 (.ld none (.t 10)),oA 4 (.mv (.t 11))] [0,1,4]) .ret))

def c_spec_l05Spoil:F where
 np:=2
 rs:=[.cell 4 (some 1)]
 fix:=[0,1]
 body :=
  (.seq
  (.re [oA 4 (.alloc [(.slice none 0 0)])] [0,1,4]) (.seq
  (.re [oA 8 (.mvs 0),oA 9 (.mv (.t 1)),oA 10 (.calls (.f 378) (.t 8) 0 [(.t 9)]),oA 5 (.alloc [(.slice none 0 0)]),oN (.st (some 1) (.t 5) (.t 10))] [0,1,4,5]) (.seq
  (.re [oA 11 (.fld 0 (.t 5)),oA 12 (.ld none (.t 11)),oA 13 (.len (.t 12)),oA 6 (.mv (.t 13))] [0,1,4,5,6]) (.seq (.seq
  (.re [oA 14 (.mvs 0),oA 15 (.calls (.f 336) (.t 14) 0 [(.ci 20)])] [0,1,4,5,6,15]) (.block 0 (.seq
  (.re [oA 17 (.bin .eql (.t 15) (.ci 0)),oA 16 (.mv (.t 17))] [0,1,4,5,6,15,16]) (.cond (.t 16)
  (.region (some [18,19,20,21,22,23,24,25]) [oA 18 (.fld 0 (.t 5)),oA 19 (.ld none (.t 18)),oA 20 (.mvs 0),oA 21 (.mv (.t 6)),oA 22 (.calls (.f 336) (.t 20) 0 [(.t 21)]),oA 23 (.mvs 0),oA 24 (.mv (.t 6)),oA 25 (.calls (.f 368) (.t 23) 0 [(.t 24)]),oA 26 (.idx 1 (.t 19) (.t 22)),oN (.st none (.t 26) (.t 25))] [0,1,4,5]) (.seq
  (.re [oA 28 (.bin .eql (.t 15) (.ci 1)),oA 27 (.mv (.t 28))] [0,1,4,5,6,15,27]) (.cond (.t 27)
  (.re [oA 29 (.mvs 0),oA 30 (.mv (.t 6)),oA 31 (.calls (.f 413) (.t 29) 0 [(.t 30)]),oA 32 (.fld 0 (.t 5)),oN (.st none (.t 32) (.t 31))] [0,1,4,5]) (.seq
  (.re [oA 34 (.bin .eql (.t 15) (.ci 2)),oA 33 (.mv (.t 34))] [0,1,4,5,6,33]) (.cond (.t 33) (.seq
  (.region (some [35,36,37,38,39]) [oA 35 (.fld 0 (.t 5)),oA 36 (.ld none (.t 35)),oA 37 (.mvs 0),oA 38 (.mv (.t 6)),oA 39 (.calls (.f 336) (.t 37) 0 [(.t 38)]),oA 40 (.idx 1 (.t 36) (.t 39)),oA 41 (.ld none (.t 40)),oA 7 (.mv (.t 41))] [0,1,4,5,6,7])
  (.re [oA 42 (.mv (.t 7)),oA 43 (.mvs 0),oA 44 (.mv (.t 6)),oA 45 (.calls (.f 336) (.t 43) 0 [(.t 44)]),oA 46 (.mvs 0),oA 47 (.mv (.t 6)),oA 48 (.calls (.f 336) (.t 46) 0 [(.t 47)]),oA 49 (.idx 1 (.t 42) (.t 45)),oN (.st none (.t 49) (.t 48))] [0,1,4,5])) .skip)))))))) (.seq
  (.re [oA 50 (.ld (some 1) (.t 5)),oN (.st (some 1) (.t 4) (.t 50))] [0,1,4]) .ret)))))

def c_spec_l01From:F where
 np:=1
 rs:=[.t 2]
 body :=
  (.seq
  (.re [oA 2 (.asg (.c (.pointer none)))] [0]) (.seq
  (.re [oA 5 (.mv (.t 0)),oA 6 (.mv (.t 0)),oA 7 (.len (.t 6)),oA 8 (.conv .u64 (.t 7)),oA 9 (.bin .add (.c (.int .u64 6553)) (.t 8)),oA 10 (.build [(.slice none 0 0),(.int .i64 0),(.int .u64 0)] [(0,1,(.t 5)),(2,1,(.t 9))]),oA 11 (.box (.t 10)),oA 3 (.asg (.t 11))] [0,3]) (.seq (.seq
  (.re [oA 4 (.mv (.ci 0))] [0,3,4]) (.block 0 (.loop (.seq (.seq
  (.re [oA 12 (.mv (.t 4)),oA 13 (.mv (.t 0)),oA 14 (.len (.t 13)),oA 15 (.bin .lss (.t 12) (.t 14)),oA 16 (.mv (.t 15)),oI 17 16 true (.mv (.t 4)),oI 18 16 true (.bin .lss (.t 17) (.ci 4096)),oA 19 (.pick (.t 16) (.t 18) (.c (.bool false)))] [0,3,4,19]) (.cond (.t 19) .skip (.exit 0))) (.seq (.block 1
  (.region (some [22,23,24,25,26,27,28,29,30,31,32,33,34]) [oA 22 (.mv (.t 3)),oA 23 (.mv (.t 3)),oA 24 (.nilck (.t 23)),oA 25 (.fld 2 (.t 24)),oA 26 (.ld none (.t 25)),oA 27 (.bin .mul (.t 26) (.c (.int .u64 1099511628211))),oA 28 (.mv (.t 0)),oA 29 (.mv (.t 4)),oA 30 (.idx 1 (.t 28) (.t 29)),oA 31 (.ld none (.t 30)),oA 32 (.conv .u64 (.t 31)),oA 33 (.bin .add (.t 27) (.t 32)),oA 34 (.bin .add (.t 33) (.c (.int .u64 11))),oA 35 (.nilck (.t 22)),oA 36 (.fld 2 (.t 35)),oN (.st none (.t 36) (.t 34))] [0,3,4]))
  (.re [oA 20 (.mv (.t 4)),oA 21 (.bin .add (.t 20) (.ci 1)),oA 4 (.mv (.t 21))] [0,3,4])))))) (.seq
  (.re [oA 37 (.mv (.t 3)),oA 2 (.asg (.t 37))] [2]) .ret))))

def c_laws_big:F where
 np:=1
 rs:=[.t 2]
 body :=
  (.seq
  (.re [oA 2 (.mv (.c (.bool false)))] [0]) (.seq
  (.re [oA 3 (.mv (.t 0)),oA 4 (.len (.t 3)),oA 5 (.bin .gtr (.t 4) (.ci 4096)),oA 2 (.mv (.t 5))] [2]) .ret))

def c_laws_likeRows5:F where
 np:=2
 rs:=[.t 4]
 body :=
  (.seq
  (.re [oA 4 (.mv (.c (.bool false)))] [0,1]) (.seq (.seq
  (.re [oA 6 (.mv (.t 0)),oA 7 (.len (.t 6)),oA 8 (.mv (.t 1)),oA 9 (.len (.t 8)),oA 10 (.bin .neq (.t 7) (.t 9))] [0,1,10]) (.cond (.t 10) (.seq
  (.re [oA 4 (.mv (.c (.bool false)))] [4]) .ret) .skip)) (.seq (.seq
  (.re [oA 5 (.mv (.ci 0))] [0,1,5]) (.block 0 (.loop (.seq (.seq
  (.re [oA 11 (.mv (.t 5)),oA 12 (.mv (.t 0)),oA 13 (.len (.t 12)),oA 14 (.bin .lss (.t 11) (.t 13))] [0,1,5,14]) (.cond (.t 14) .skip (.exit 0))) (.seq (.block 1 (.seq
  (.region (some [17,18,19,20,21,22,23,24]) [oA 17 (.mv (.t 0)),oA 18 (.mv (.t 5)),oA 19 (.idx 1 (.t 17) (.t 18)),oA 20 (.ld none (.t 19)),oA 21 (.mv (.t 1)),oA 22 (.mv (.t 5)),oA 23 (.idx 1 (.t 21) (.t 22)),oA 24 (.ld none (.t 23)),oA 25 (.call (.f 141) [aR 20,aR 24]),oA 26 (.un .not (.t 25))] [0,1,5,26]) (.cond (.t 26) (.seq
  (.re [oA 4 (.mv (.c (.bool false)))] [4]) .ret) .skip)))
  (.re [oA 15 (.mv (.t 5)),oA 16 (.bin .add (.t 15) (.ci 1)),oA 5 (.mv (.t 16))] [0,1,5])))))) (.seq
  (.re [oA 4 (.mv (.c (.bool true)))] [4]) .ret))))

def c_laws_likeInts:F where
 np:=2
 rs:=[.t 4]
 body :=
  (.seq
  (.re [oA 4 (.mv (.c (.bool false)))] [0,1]) (.seq (.seq
  (.re [oA 6 (.mv (.t 0)),oA 7 (.len (.t 6)),oA 8 (.mv (.t 1)),oA 9 (.len (.t 8)),oA 10 (.bin .neq (.t 7) (.t 9))] [0,1,10]) (.cond (.t 10) (.seq
  (.re [oA 4 (.mv (.c (.bool false)))] [4]) .ret) .skip)) (.seq (.seq
  (.re [oA 5 (.mv (.ci 0))] [0,1,5]) (.block 0 (.loop (.seq (.seq
  (.re [oA 11 (.mv (.t 5)),oA 12 (.mv (.t 0)),oA 13 (.len (.t 12)),oA 14 (.bin .lss (.t 11) (.t 13))] [0,1,5,14]) (.cond (.t 14) .skip (.exit 0))) (.seq (.block 1 (.seq
  (.region (some [17,18,19,20,21,22,23,24]) [oA 17 (.mv (.t 0)),oA 18 (.mv (.t 5)),oA 19 (.idx 1 (.t 17) (.t 18)),oA 20 (.ld none (.t 19)),oA 21 (.mv (.t 1)),oA 22 (.mv (.t 5)),oA 23 (.idx 1 (.t 21) (.t 22)),oA 24 (.ld none (.t 23)),oA 25 (.bin .neq (.t 20) (.t 24))] [0,1,5,25]) (.cond (.t 25) (.seq
  (.re [oA 4 (.mv (.c (.bool false)))] [4]) .ret) .skip)))
  (.re [oA 15 (.mv (.t 5)),oA 16 (.bin .add (.t 15) (.ci 1)),oA 5 (.mv (.t 16))] [0,1,5])))))) (.seq
  (.re [oA 4 (.mv (.c (.bool true)))] [4]) .ret))))

def c_impl_IsPermutation:F where
 np:=1
 rs:=[.t 2]
 body :=
  (.seq
  (.re [oA 2 (.mv (.c (.bool false)))] [0]) (.seq
  (.re [oA 3 (.mv (.t 0)),oA 4 (.len (.t 3)),oA 5 (.call (.f 35) [aR 4,((.ci 1),.r),((.ci 12),.r)]),oA 6 (.mv (.t 5)),oI 7 6 true (.mv (.t 0)),oI 8 6 true (.call (.f 66) [aR 7]),oA 9 (.pick (.t 6) (.t 8) (.c (.bool false))),oA 2 (.mv (.t 9))] [2]) .ret))

def c_laws_likeSolution5:F where
 np:=2
 rs:=[.t 4]
 body :=
  (.seq
  (.re [oA 2 (.box (.t 0)),oA 3 (.box (.t 1)),oA 4 (.mv (.c (.bool false)))] [2,3]) (.seq
  (.re [oA 5 (.fld 0 (.t 2)),oA 6 (.ld none (.t 5)),oA 7 (.fld 0 (.t 3)),oA 8 (.ld none (.t 7)),oA 9 (.call (.f 137) [aR 6,aR 8]),oA 10 (.mv (.t 9)),oI 11 10 true (.fld 1 (.t 2)),oI 12 10 true (.ld none (.t 11)),oI 13 10 true (.fld 1 (.t 3)),oI 14 10 true (.ld none (.t 13)),oI 15 10 true (.call (.f 137) [aR 12,aR 14]),oA 16 (.pick (.t 10) (.t 15) (.c (.bool false))),oA 4 (.mv (.t 16))] [4]) .ret))

def c_laws_FnDualCycles:F where
 np:=1
 rs:=[.t 2]
 body :=
  (.seq
  (.re [oA 2 (.mv (.c (.bool false)))] [0]) (.seq (.seq
  (.re [oA 30 (.mv (.t 0)),oA 31 (.call (.f 128) [aR 30])] [0,31]) (.cond (.t 31) (.seq
  (.re [oA 2 (.mv (.c (.bool true)))] [2]) .ret) .skip)) (.seq
  (.re [oA 32 (.mv (.t 0)),oA 33 (.call (.f 242) [aR 32]),oA 3 (.alloc [(.slice none 0 0)]),oN (.st (some 1) (.t 3) (.t 33))] [0,3]) (.seq
  (.re [oA 35 (.ld (some 1) (.t 3)),oA 36 (.call (.f 243) [aR 35]),oA 34 (.mv (.t 36)),oA 37 (.ext (.t 34) 0),oA 38 (.ext (.t 34) 1),oA 4 (.alloc [(.slice none 0 0)]),oN (.st (some 1) (.t 4) (.t 37)),oA 5 (.mv (.t 38))] [0,3,4,5]) (.seq
  (.re [oA 40 (.ld (some 1) (.t 3)),oA 41 (.call (.f 244) [aR 40]),oA 39 (.mv (.t 41)),oA 42 (.ext (.t 39) 0),oA 43 (.ext (.t 39) 1),oA 6 (.alloc [(.slice none 0 0)]),oN (.st (some 1) (.t 6) (.t 42)),oA 7 (.mv (.t 43))] [0,3,4,5,6,7]) (.seq (.seq
  (.re [oA 44 (.mv (.t 5)),oA 45 (.mv (.t 7)),oA 46 (.bin .neq (.t 44) (.t 45)),oA 47 (.mv (.t 46)),oI 48 47 false (.fld 0 (.t 4)),oI 49 47 false (.ld none (.t 48)),oI 50 47 false (.fld 0 (.t 6)),oI 51 47 false (.ld none (.t 50)),oI 52 47 false (.call (.f 137) [aR 49,aR 51]),oI 53 47 false (.un .not (.t 52)),oA 54 (.pick (.t 47) (.c (.bool true)) (.t 53))] [0,3,4,5,54]) (.cond (.t 54) (.seq
  (.re [oA 2 (.mv (.c (.bool false)))] [2]) .ret) .skip)) (.seq (.seq
  (.re [oA 55 (.mv (.t 5)),oA 56 (.bin .eql (.t 55) (.ci 0))] [0,3,4,56]) (.cond (.t 56) (.seq
  (.re [oA 58 (.ld (some 1) (.t 4)),oA 59 (.call (.f 243) [aR 58]),oA 57 (.mv (.t 59)),oA 60 (.ext (.t 57) 0),oA 61 (.ext (.t 57) 1),oA 8 (.alloc [(.slice none 0 0)]),oN (.st (some 1) (.t 8) (.t 60)),oA 9 (.mv (.t 61))] [0,3,4,8,9]) (.seq
  (.re [oA 63 (.ld (some 1) (.t 3)),oA 64 (.call (.f 245) [aR 63]),oA 62 (.mv (.t 64)),oA 65 (.ext (.t 62) 0),oA 66 (.ext (.t 62) 1),oA 10 (.alloc [(.slice none 0 0),(.slice none 0 0)]),oN (.st (some 2) (.t 10) (.t 65)),oA 11 (.mv (.t 66))] [0,3,4,8,9,10,11]) (.seq
  (.re [oA 68 (.ld (some 1) (.t 4)),oA 69 (.call (.f 245) [aR 68]),oA 67 (.mv (.t 69)),oA 70 (.ext (.t 67) 0),oA 71 (.ext (.t 67) 1),oA 12 (.alloc [(.slice none 0 0),(.slice none 0 0)]),oN (.st (some 2) (.t 12) (.t 70)),oA 13 (.mv (.t 71))] [0,3,8,9,10,11,12,13]) (.seq
  (.re [oA 73 (.ld (some 2) (.t 10)),oA 74 (.call (.f 246) [aR 73]),oA 72 (.mv (.t 74)),oA 75 (.ext (.t 72) 0),oA 76 (.ext (.t 72) 1),oA 14 (.alloc [(.slice none 0 0),(.slice none 0 0)]),oN (.st (some 2) (.t 14) (.t 75)),oA 15 (.mv (.t 76))] [0,3,8,9,11,12,13,14,15]) (.seq
  (.re [oA 77 (.mv (.t 9)),oA 78 (.bin .neq (.t 77) (.ci 0)),oA 79 (.mv (.t 78)),oI 80 79 false (.mv (.t 11)),oI 81 79 false (.bin .neq (.t 80) (.ci 0)),oA 82 (.pick (.t 79) (.c (.bool true)) (.t 81)),oA 83 (.mv (.t 82)),oI 84 83 false (.mv (.t 13)),oI 85 83 false (.bin .neq (.t 84) (.ci 0)),oA 86 (.pick (.t 83) (.c (.bool true)) (.t 85)),oA 87 (.mv (.t 86)),oI 88 87 false (.mv (.t 15)),oI 89 87 false (.bin .neq (.t 88) (.ci 0)),oA 90 (.pick (.t 87) (.c (.bool true)) (.t 89)),oA 91 (.mv (.t 90)),oI 92 91 false (.fld 0 (.t 8)),oI 93 91 false (.ld none (.t 92)),oI 94 91 false (.fld 0 (.t 3)),oI 95 91 false (.ld none (.t 94)),oI 96 91 false (.call (.f 137) [aR 93,aR 95]),oI 97 91 false (.un .not (.t 96)),oA 98 (.pick (.t 91) (.c (.bool true)) (.t 97)),oA 99 (.mv (.t 98)),oI 100 99 false (.ld (some 2) (.t 14)),oI 101 99 false (.ld (some 2) (.t 12)),oI 102 99 false (.call (.f 218) [aR 100,aR 101]),oI 103 99 false (.un .not (.t 102)),oA 104 (.pick (.t 99) (.c (.bool true)) (.t 103))] [0,104]) (.cond (.t 104) (.seq
  (.re [oA 2 (.mv (.c (.bool false)))] [2]) .ret) .skip)))))) .skip)) (.seq
  (.re [oA 106 (.mv (.t 0)),oA 107 (.call (.f 247) [aR 106]),oA 105 (.mv (.t 107)),oA 108 (.ext (.t 105) 0),oA 109 (.ext (.t 105) 1),oA 16 (.alloc [(.slice none 0 0)]),oA 17 (.alloc [(.slice none 0 0)]),oN (.st (some 1) (.t 16) (.t 108)),oN (.st (some 1) (.t 17) (.t 109))] [16,17]) (.seq
  (.re [oA 111 (.ld (some 1) (.t 16)),oA 112 (.ld (some 1) (.t 17)),oA 113 (.call (.f 248) [aR 111,aR 112]),oA 110 (.mv (.t 113)),oA 114 (.ext (.t 110) 0),oA 115 (.ext (.t 110) 1),oA 18 (.asg (.t 114)),oA 19 (.mv (.t 115))] [16,17,18,19]) (.seq
  (.re [oA 117 (.ld (some 1) (.t 16)),oA 118 (.ld (some 1) (.t 17)),oA 119 (.call (.f 249) [aR 117,aR 118]),oA 116 (.mv (.t 119)),oA 120 (.ext (.t 116) 0),oA 121 (.ext (.t 116) 1),oA 20 (.asg (.t 120)),oA 21 (.mv (.t 121))] [16,17,18,19,20,21]) (.seq (.seq
  (.re [oA 122 (.mv (.t 19)),oA 123 (.mv (.t 21)),oA 124 (.bin .neq (.t 122) (.t 123)),oA 125 (.mv (.t 124)),oI 126 125 false (.mv (.t 18)),oI 127 125 false (.mv (.t 20)),oI 128 125 false (.call (.f 141) [aR 126,aR 127]),oI 129 125 false (.un .not (.t 128)),oA 130 (.pick (.t 125) (.c (.bool true)) (.t 129))] [16,17,18,19,130]) (.cond (.t 130) (.seq
  (.re [oA 2 (.mv (.c (.bool false)))] [2]) .ret) .skip)) (.seq (.seq
  (.re [oA 131 (.mv (.t 19)),oA 132 (.bin .eql (.t 131) (.ci 1))] [16,17,18,19,132]) (.cond (.t 132) (.seq
  (.re [oA 2 (.mv (.c (.bool true)))] [2]) .ret) .skip)) (.seq (.seq
  (.re [oA 133 (.mv (.t 19)),oA 134 (.bin .eql (.t 133) (.ci 0))] [16,17,18,19,134]) (.cond (.t 134) (.seq
  (.re [oA 136 (.fld 0 (.t 16)),oA 137 (.ld none (.t 136)),oA 138 (.mv (.t 18)),oA 139 (.call (.f 250) [aR 137,aR 138]),oA 135 (.mv (.t 139)),oA 140 (.ext (.t 135) 0),oA 141 (.ext (.t 135) 1),oA 22 (.asg (.t 140)),oA 23 (.mv (.t 141))] [16,17,19,22,23]) (.seq
  (.re [oA 142 (.mv (.t 23)),oA 143 (.bin .neq (.t 142) (.ci 0)),oA 144 (.mv (.t 143)),oI 145 144 false (.mv (.t 22)),oI 146 144 false (.fld 0 (.t 17)),oI 147 144 false (.ld none (.t 146)),oI 148 144 false (.call (.f 137) [aR 145,aR 147]),oI 149 144 false (.un .not (.t 148)),oA 150 (.pick (.t 144) (.c (.bool true)) (.t 149))] [16,17,19,150]) (.cond (.t 150) (.seq
  (.re [oA 2 (.mv (.c (.bool false)))] [2]) .ret) .skip))) .skip)) (.seq
  (.re [oA 152 (.ld (some 1) (.t 16)),oA 153 (.call (.f 245) [aR 152]),oA 151 (.mv (.t 153)),oA 154 (.ext (.t 151) 0),oA 155 (.ext (.t 151) 1),oA 24 (.alloc [(.slice none 0 0),(.slice none 0 0)]),oN (.st (some 2) (.t 24) (.t 154)),oA 25 (.mv (.t 155))] [17,19,24,25]) (.seq
  (.re [oA 157 (.ld (some 1) (.t 17)),oA 158 (.call (.f 245) [aR 157]),oA 156 (.mv (.t 158)),oA 159 (.ext (.t 156) 0),oA 160 (.ext (.t 156) 1),oA 26 (.alloc [(.slice none 0 0),(.slice none 0 0)]),oN (.st (some 2) (.t 26) (.t 159)),oA 27 (.mv (.t 160))] [19,24,25,26,27]) (.seq
  (.re [oA 162 (.ld (some 2) (.t 24)),oA 163 (.ld (some 2) (.t 26)),oA 164 (.call (.f 251) [aR 162,aR 163]),oA 161 (.mv (.t 164)),oA 165 (.ext (.t 161) 0),oA 166 (.ext (.t 161) 1),oA 28 (.asg (.t 165)),oA 29 (.mv (.t 166))] [19,25,27,29]) (.seq
  (.re [oA 167 (.mv (.t 25)),oA 168 (.bin .eql (.t 167) (.ci 0)),oA 169 (.mv (.t 168)),oI 170 169 true (.mv (.t 27)),oI 171 169 true (.bin .eql (.t 170) (.ci 0)),oA 172 (.pick (.t 169) (.t 171) (.c (.bool false))),oA 173 (.mv (.t 172)),oI 174 173 true (.mv (.t 29)),oI 175 173 true (.mv (.t 19)),oI 176 173 true (.bin .eql (.t 174) (.t 175)),oA 177 (.pick (.t 173) (.t 176) (.c (.bool false))),oA 2 (.mv (.t 177))] [2]) .ret)))))))))))))))))

def c_spec_DrawDualCycleSet:F where
 np:=1
 rs:=[.cell 2 (some 1)]
 body :=
  (.seq
  (.re [oA 2 (.alloc [(.slice none 0 0)])] [0,2]) (.seq
  (.re [oA 3 (.mv (.t 0)),oA 4 (.call (.f 269) [aR 3]),oA 5 (.callm (.f 359) [((.t 4),true),((.ci 8),false)] []),oN (.st (some 1) (.t 2) (.t 5))] [2]) .ret))

def c_impl_DualCycleSet:F where
 np:=1
 rs:=[.cell 2 (some 1),.t 3]
 body :=
  (.seq
  (.re [oA 1 (.box (.t 0)),oA 2 (.alloc [(.slice none 0 0)]),oA 3 (.mv (.ci 0))] [1,2]) (.seq (.seq
  (.re [oA 6 (.ld (some 1) (.t 1)),oA 7 (.call (.f 360) [aR 6]),oA 8 (.un .not (.t 7))] [1,2,8]) (.cond (.t 8) (.seq
  (.re [oA 9 (.build [(.slice none 0 0)] []),oN (.st (some 1) (.t 2) (.t 9)),oA 3 (.mv (.ci 1))] [2,3]) .ret) .skip)) (.seq
  (.re [oA 11 (.ld (some 1) (.t 1)),oA 12 (.call (.f 361) [aR 11]),oA 13 (.call (.f 246) [aR 12]),oA 10 (.mv (.t 13)),oA 14 (.ext (.t 10) 0),oA 15 (.ext (.t 10) 1),oA 4 (.alloc [(.slice none 0 0),(.slice none 0 0)]),oN (.st (some 2) (.t 4) (.t 14)),oA 5 (.mv (.t 15))] [2,4]) (.seq
  (.re [oA 16 (.ld (some 2) (.t 4)),oA 17 (.call (.f 362) [aR 16]),oN (.st (some 1) (.t 2) (.t 17)),oA 3 (.mv (.ci 0))] [2,3]) .ret))))

def c_impl_IsCycleSet:F where
 np:=1
 rs:=[.t 2]
 body :=
  (.seq
  (.re [oA 1 (.box (.t 0)),oA 2 (.mv (.c (.bool false)))] [1]) (.seq
  (.re [oA 3 (.fld 0 (.t 1)),oA 4 (.ld none (.t 3)),oA 5 (.call (.f 50) [aR 4]),oA 6 (.mv (.t 5)),oI 7 6 true (.fld 0 (.t 1)),oI 8 6 true (.ld none (.t 7)),oI 9 6 true (.call (.f 51) [aR 8]),oA 10 (.pick (.t 6) (.t 9) (.c (.bool false))),oA 11 (.mv (.t 10)),oI 12 11 true (.ld (some 1) (.t 1)),oI 13 11 true (.call (.f 414) [aR 12]),oI 14 11 true (.call (.f 66) [aR 13]),oA 15 (.pick (.t 11) (.t 14) (.c (.bool false))),oA 16 (.mv (.t 15)),oI 17 16 true (.fld 0 (.t 1)),oI 18 16 true (.ld none (.t 17)),oI 19 16 true (.call (.f 415) [aR 18]),oI 20 16 true (.isnil false (.t 19)),oA 21 (.pick (.t 16) (.t 20) (.c (.bool false))),oA 2 (.mv (.t 21))] [2]) .ret))

def c_impl_squaresOf:F where
 np:=1
 rs:=[.t 2]
 body :=
  (.seq
  (.re [oA 1 (.box (.t 0)),oA 2 (.asg (.c (.slice none 0 0)))] [1]) (.seq
  (.re [oA 5 (.fld 0 (.t 1)),oA 6 (.ld none (.t 5)),oA 7 (.len (.t 6)),oA 8 (.mks (.int .i64 0) (.t 7)),oA 3 (.asg (.t 8))] [1,3]) (.seq (.seq
  (.re [oA 9 (.mv (.t 3)),oA 10 (.len (.t 9)),oA 11 (.mv (.ci 0))] [1,3,10,11]) (.block 0 (.loop (.seq
  (.re [oA 12 (.bin .lss (.t 11) (.t 10))] [1,3,10,11,12]) (.seq (.cond (.t 12) .skip (.exit 0)) (.seq (.block 1 (.seq
  (.re [oA 13 (.mv (.t 11)),oA 4 (.mv (.t 13))] [1,3,4,10,11])
  (.re [oA 14 (.mv (.t 3)),oA 15 (.mv (.t 4)),oA 16 (.fld 0 (.t 1)),oA 17 (.ld none (.t 16)),oA 18 (.mv (.t 4)),oA 19 (.idx 1 (.t 17) (.t 18)),oA 20 (.ld none (.t 19)),oA 21 (.mv (.t 4)),oA 22 (.idx 1 (.t 20) (.t 21)),oA 23 (.ld none (.t 22)),oA 24 (.idx 1 (.t 14) (.t 15)),oN (.st none (.t 24) (.t 23))] [1,3,10,11])))
  (.re [oA 25 (.bin .add (.t 11) (.ci 1)),oA 11 (.mv (.t 25))] [1,3,10,11]))))))) (.seq
  (.re [oA 26 (.mv (.t 3)),oA 2 (.asg (.t 26))] [2]) .ret))))

def c_impl_cycleFault:F where
 np:=1
 rs:=[.t 2]
 body :=
  (.seq
  (.re [oA 2 (.asg (.c (.slice none 0 0)))] [0]) (.seq
  (.re [oA 7 (.mv (.t 0)),oA 8 (.len (.t 7)),oA 3 (.mv (.t 8))] [0,3]) (.seq (.seq
  (.re [oA 9 (.mv (.t 3)),oA 10 (.mv (.ci 0))] [0,3,9,10]) (.block 0 (.loop (.seq
  (.re [oA 11 (.bin .lss (.t 10) (.t 9))] [0,3,9,10,11]) (.seq (.cond (.t 11) .skip (.exit 0)) (.seq (.block 1 (.seq
  (.re [oA 12 (.mv (.t 10)),oA 4 (.mv (.t 12))] [0,3,4,9,10]) (.seq
  (.re [oA 13 (.mv (.t 3)),oA 14 (.mv (.ci 0))] [0,3,4,9,10,13,14]) (.block 2 (.loop (.seq
  (.re [oA 15 (.bin .lss (.t 14) (.t 13))] [0,3,4,9,10,13,14,15]) (.seq (.cond (.t 15) .skip (.exit 2)) (.seq (.block 3 (.seq
  (.re [oA 16 (.mv (.t 14)),oA 5 (.mv (.t 16))] [0,3,4,5,9,10,13,14]) (.seq
  (.re [oA 17 (.mv (.t 3)),oA 18 (.mv (.ci 0))] [0,3,4,5,9,10,13,14,17,18]) (.block 4 (.loop (.seq
  (.re [oA 19 (.bin .lss (.t 18) (.t 17))] [0,3,4,5,9,10,13,14,17,18,19]) (.seq (.cond (.t 19) .skip (.exit 4)) (.seq (.block 5 (.seq
  (.re [oA 20 (.mv (.t 18)),oA 6 (.mv (.t 20))] [0,3,4,5,6,9,10,13,14,17,18]) (.seq
  (.region (some [21,22,23,24,25,26,27,28,29,30,31,32,33,34,35,36,37,38,39,40,41,42,43,44,45,46,47,48,49,50,51,52,53,54,55,56,57,58]) [oA 21 (.mv (.t 0)),oA 22 (.mv (.t 0)),oA 23 (.mv (.t 4)),oA 24 (.idx 1 (.t 22) (.t 23)),oA 25 (.ld none (.t 24)),oA 26 (.mv (.t 5)),oA 27 (.idx 1 (.t 25) (.t 26)),oA 28 (.ld none (.t 27)),oA 29 (.idx 1 (.t 21) (.t 28)),oA 30 (.ld none (.t 29)),oA 31 (.mv (.t 0)),oA 32 (.mv (.t 4)),oA 33 (.idx 1 (.t 31) (.t 32)),oA 34 (.ld none (.t 33)),oA 35 (.mv (.t 6)),oA 36 (.idx 1 (.t 34) (.t 35)),oA 37 (.ld none (.t 36)),oA 38 (.idx 1 (.t 30) (.t 37)),oA 39 (.ld none (.t 38)),oA 40 (.mv (.t 0)),oA 41 (.mv (.t 0)),oA 42 (.mv (.t 5)),oA 43 (.idx 1 (.t 41) (.t 42)),oA 44 (.ld none (.t 43)),oA 45 (.mv (.t 4)),oA 46 (.idx 1 (.t 44) (.t 45)),oA 47 (.ld none (.t 46)),oA 48 (.idx 1 (.t 40) (.t 47)),oA 49 (.ld none (.t 48)),oA 50 (.mv (.t 0)),oA 51 (.mv (.t 5)),oA 52 (.idx 1 (.t 50) (.t 51)),oA 53 (.ld none (.t 52)),oA 54 (.mv (.t 6)),oA 55 (.idx 1 (.t 53) (.t 54)),oA 56 (.ld none (.t 55)),oA 57 (.idx 1 (.t 49) (.t 56)),oA 58 (.ld none (.t 57)),oA 59 (.bin .neq (.t 39) (.t 58))] [0,3,4,5,6,9,10,13,14,17,18,59]) (.cond (.t 59) (.seq
  (.re [oA 60 (.mv (.t 4)),oA 61 (.mv (.t 5)),oA 62 (.mv (.t 6)),oA 63 (.bsl [(.t 60),(.t 61),(.t 62)]),oA 2 (.asg (.t 63))] [2]) .ret) .skip))))
  (.re [oA 64 (.bin .add (.t 18) (.ci 1)),oA 18 (.mv (.t 64))] [0,3,4,5,9,10,13,14,17,18])))))))))
  (.re [oA 65 (.bin .add (.t 14) (.ci 1)),oA 14 (.mv (.t 65))] [0,3,4,9,10,13,14])))))))))
  (.re [oA 66 (.bin .add (.t 10) (.ci 1)),oA 10 (.mv (.t 66))] [0,3,9,10]))))))) (.seq
  (.re [oA 2 (.asg (.c (.slice none 0 0)))] [2]) .ret))))

def c_impl_cycleSolution:F where
 np:=1
 rs:=[.cell 2 (some 2)]
 body :=
  (.seq
  (.re [oA 1 (.box (.t 0)),oA 2 (.alloc [(.slice none 0 0),(.slice none 0 0)])] [1,2]) (.seq
  (.re [oA 3 (.fld 0 (.t 1)),oA 4 (.ld none (.t 3)),oA 5 (.len (.t 4)),oA 6 (.fnc 416 [(.t 1)]),oA 7 (.call (.f 308) [aR 5,aR 6]),oN (.st (some 2) (.t 2) (.t 7))] [2]) .ret))

def c_impl_cycleSolution_1:F where
 np:=3
 rs:=[.t 5,.t 6]
 body :=
  (.seq
  (.re [oA 5 (.mv (.ci 0)),oA 6 (.mv (.ci 0))] [0,1,2]) (.seq
  (.re [oA 8 (.fld 0 (.t 2)),oA 9 (.ld none (.t 8)),oA 10 (.mv (.t 0)),oA 11 (.idx 1 (.t 9) (.t 10)),oA 12 (.ld none (.t 11)),oA 13 (.mv (.t 1)),oA 14 (.call (.f 287) [aR 12,aR 13]),oA 7 (.mv (.t 14))] [0,2,7]) (.seq
  (.region (some [5,15,16,17,18,19,20,21,22,23]) [oA 15 (.mv (.t 7)),oA 16 (.fld 0 (.t 2)),oA 17 (.ld none (.t 16)),oA 18 (.mv (.t 7)),oA 19 (.idx 1 (.t 17) (.t 18)),oA 20 (.ld none (.t 19)),oA 21 (.mv (.t 0)),oA 22 (.idx 1 (.t 20) (.t 21)),oA 23 (.ld none (.t 22)),oA 5 (.mv (.t 15)),oA 6 (.mv (.t 23))] [5,6]) .ret)))

def c_impl_MirrorSolution:F where
 np:=1
 rs:=[.cell 2 (some 2),.t 3]
 body :=
  (.seq
  (.re [oA 1 (.box (.t 0)),oA 2 (.alloc [(.slice none 0 0),(.slice none 0 0)]),oA 3 (.mv (.ci 0))] [1,2]) (.seq (.seq
  (.re [oA 4 (.ld (some 2) (.t 1)),oA 5 (.call (.f 59) [aR 4]),oA 6 (.un .not (.t 5))] [1,2,6]) (.cond (.t 6) (.seq
  (.re [oA 7 (.build [(.slice none 0 0),(.slice none 0 0)] []),oN (.st (some 2) (.t 2) (.t 7)),oA 3 (.mv (.ci 1))] [2,3]) .ret) .skip)) (.seq
  (.region (some [8,9,10,11,12]) [oA 8 (.fld 1 (.t 1)),oA 9 (.ld none (.t 8)),oA 10 (.call (.f 267) [aR 9]),oA 11 (.fld 0 (.t 1)),oA 12 (.ld none (.t 11)),oA 13 (.call (.f 267) [aR 12]),oA 14 (.build [(.slice none 0 0),(.slice none 0 0)] [(0,1,(.t 10)),(1,1,(.t 13))]),oN (.st (some 2) (.t 2) (.t 14)),oA 3 (.mv (.ci 0))] [2,3]) .ret)))

def c_impl_solutionCycle:F where
 np:=1
 rs:=[.cell 2 (some 1)]
 body :=
  (.seq
  (.re [oA 1 (.box (.t 0)),oA 2 (.alloc [(.slice none 0 0)])] [1,2]) (.seq
  (.re [oA 3 (.alloc [(.slice none 0 0)])] [1,2,3]) (.seq (.seq
  (.re [oA 6 (.fld 0 (.t 1)),oA 7 (.ld none (.t 6)),oA 8 (.len (.t 7)),oA 9 (.mv (.ci 0))] [2,3,7,8,9]) (.block 0 (.loop (.seq
  (.re [oA 10 (.bin .lss (.t 9) (.t 8))] [2,3,7,8,9,10]) (.seq (.cond (.t 10) .skip (.exit 0)) (.seq (.block 1 (.seq
  (.re [oA 11 (.idx 1 (.t 7) (.t 9)),oA 12 (.ld none (.t 11)),oA 5 (.asg (.t 12))] [2,3,5,7,8,9])
  (.region (some [13,14,15,16,17]) [oA 13 (.fld 0 (.t 3)),oA 14 (.ld none (.t 13)),oA 15 (.mv (.t 5)),oA 16 (.call (.f 307) [aR 15]),oA 17 (.bsl1 16),oA 18 (.app true 1 (.t 14) (.t 17)),oA 19 (.fld 0 (.t 3)),oN (.st none (.t 19) (.t 18))] [2,3,7,8,9])))
  (.re [oA 20 (.bin .add (.t 9) (.ci 1)),oA 9 (.mv (.t 20))] [2,3,7,8,9]))))))) (.seq
  (.re [oA 21 (.ld (some 1) (.t 3)),oN (.st (some 1) (.t 2) (.t 21))] [2]) .ret))))

def c_spec_DualCycleSet:F where
 np:=1
 rs:=[.cell 2 (some 1),.t 3]
 body :=
  (.seq
  (.re [oA 1 (.box (.t 0)),oA 2 (.alloc [(.slice none 0 0)]),oA 3 (.mv (.ci 0))] [1,2]) (.seq (.seq
  (.re [oA 4 (.ld (some 1) (.t 1)),oA 5 (.call (.f 363) [aR 4]),oA 6 (.un .not (.t 5))] [1,2,6]) (.cond (.t 6) (.seq
  (.re [oA 7 (.build [(.slice none 0 0)] []),oN (.st (some 1) (.t 2) (.t 7)),oA 3 (.mv (.ci 1))] [2,3]) .ret) .skip)) (.seq
  (.re [oA 8 (.ld (some 1) (.t 1)),oA 9 (.call (.f 366) [aR 8]),oA 10 (.call (.f 365) [aR 9]),oA 11 (.call (.f 364) [aR 10]),oN (.st (some 1) (.t 2) (.t 11)),oA 3 (.mv (.ci 0))] [2,3]) .ret)))

def c_spec_l05Mirror:F where
 np:=1
 rs:=[.cell 2 (some 2)]
 body :=
  (.seq
  (.re [oA 1 (.box (.t 0)),oA 2 (.alloc [(.slice none 0 0),(.slice none 0 0)])] [1,2]) (.seq
  (.region (some [3,4,5,6,7]) [oA 3 (.fld 1 (.t 1)),oA 4 (.ld none (.t 3)),oA 5 (.call (.f 265) [aR 4]),oA 6 (.fld 0 (.t 1)),oA 7 (.ld none (.t 6)),oA 8 (.call (.f 265) [aR 7]),oA 9 (.build [(.slice none 0 0),(.slice none 0 0)] [(0,1,(.t 5)),(1,1,(.t 8))]),oN (.st (some 2) (.t 2) (.t 9))] [2]) .ret))

def c_impl_SolutionOfCycleSet:F where
 np:=1
 rs:=[.cell 2 (some 2),.t 3]
 body :=
  (.seq
  (.re [oA 1 (.box (.t 0)),oA 2 (.alloc [(.slice none 0 0),(.slice none 0 0)]),oA 3 (.mv (.ci 0))] [1,2]) (.seq (.seq
  (.re [oA 4 (.ld (some 1) (.t 1)),oA 5 (.call (.f 360) [aR 4]),oA 6 (.un .not (.t 5))] [1,2,6]) (.cond (.t 6) (.seq
  (.re [oA 7 (.build [(.slice none 0 0),(.slice none 0 0)] []),oN (.st (some 2) (.t 2) (.t 7)),oA 3 (.mv (.ci 1))] [2,3]) .ret) .skip)) (.seq
  (.re [oA 8 (.ld (some 1) (.t 1)),oA 9 (.call (.f 361) [aR 8]),oN (.st (some 2) (.t 2) (.t 9)),oA 3 (.mv (.ci 0))] [2,3]) .ret)))

def c_spec_DrawCycleIsomorphism:F where
 np:=1
 rs:=[.cell 2 (some 1),.cell 3 (some 1)]
 body :=
  (.seq
  (.re [oA 2 (.alloc [(.slice none 0 0)]),oA 3 (.alloc [(.slice none 0 0)])] [0,2,3]) (.seq
  (.re [oA 6 (.mv (.t 0)),oA 7 (.call (.f 269) [aR 6]),oA 4 (.asg (.t 7))] [2,3,4]) (.seq
  (.re [oA 8 (.mvs 4),oA 9 (.calls (.f 359) (.t 8) 4 [(.ci 6)]),oA 5 (.alloc [(.slice none 0 0)]),oN (.st (some 1) (.t 5) (.t 9))] [2,3,4,5]) (.seq (.seq
  (.re [oA 10 (.ld (some 1) (.t 5)),oA 11 (.call (.f 363) [aR 10]),oA 12 (.un .not (.t 11)),oA 13 (.mv (.t 12)),oI 14 13 false (.mvs 4),oI 15 13 false (.calls (.f 336) (.t 14) 4 [(.ci 4)]),oI 16 13 false (.bin .eql (.t 15) (.ci 0)),oA 17 (.pick (.t 13) (.c (.bool true)) (.t 16))] [2,3,4,5,17]) (.cond (.t 17) (.seq
  (.region (some [18,19,20]) [oA 18 (.ld (some 1) (.t 5)),oA 19 (.mvs 4),oA 20 (.calls (.f 359) (.t 19) 4 [(.ci 6)]),oN (.st (some 1) (.t 2) (.t 18)),oN (.st (some 1) (.t 3) (.t 20))] [2,3]) .ret) .skip)) (.seq
  (.region (some [21,22,23,24,25,26,27,28,29,30]) [oA 21 (.ld (some 1) (.t 5)),oA 22 (.fld 0 (.t 5)),oA 23 (.ld none (.t 22)),oA 24 (.mvs 4),oA 25 (.fld 0 (.t 5)),oA 26 (.ld none (.t 25)),oA 27 (.len (.t 26)),oA 28 (.calls (.f 368) (.t 24) 4 [(.t 27)]),oA 29 (.call (.f 367) [aR 23,aR 28]),oA 30 (.build [(.slice none 0 0)] [(0,1,(.t 29))]),oN (.stk 29 (some 1) (.t 2) (.t 21)),oN (.st (some 1) (.t 3) (.t 30))] [2,3]) .ret)))))

def c_impl_isomorphisms:F where
 np:=2
 rs:=[.t 4]
 body :=
  (.seq
  (.re [oA 2 (.box (.t 0)),oA 3 (.box (.t 1)),oA 4 (.asg (.c .nilFunc))] [2,3]) (.seq
  (.re [oA 5 (.fnc 419 [(.t 2),(.t 3)]),oA 4 (.asg (.t 5))] [4]) .ret))

def c_spec_CycleIsomorphism:F where
 np:=2
 rs:=[.t 4,.t 5]
 body :=
  (.seq
  (.re [oA 2 (.box (.t 0)),oA 3 (.box (.t 1)),oA 4 (.asg (.c (.slice none 0 0))),oA 5 (.mv (.ci 0))] [2,3]) (.seq (.seq
  (.re [oA 8 (.ld (some 1) (.t 2)),oA 9 (.call (.f 363) [aR 8]),oA 10 (.un .not (.t 9)),oA 11 (.mv (.t 10)),oI 12 11 false (.ld (some 1) (.t 3)),oI 13 11 false (.call (.f 363) [aR 12]),oI 14 11 false (.un .not (.t 13)),oA 15 (.pick (.t 11) (.c (.bool true)) (.t 14))] [2,3,15]) (.cond (.t 15) (.seq
  (.re [oA 4 (.asg (.c (.slice none 0 0))),oA 5 (.mv (.ci 1))] [4,5]) .ret) .skip)) (.seq
  (.region (some [6,17,18,19,22,23]) [oA 17 (.ld (some 1) (.t 2)),oA 18 (.call (.f 366) [aR 17]),oA 19 (.ld (some 1) (.t 3)),oA 20 (.call (.f 366) [aR 19]),oA 21 (.call (.f 370) [aR 18,aR 20]),oA 16 (.tk1 none 21),oA 22 (.ext (.t 16) 0),oA 23 (.exts 16 1),oA 6 (.asg (.t 22)),oA 7 (.mv (.t 23))] [6,7]) (.seq
  (.re [oA 24 (.mv (.t 6)),oA 25 (.mv (.t 7)),oA 4 (.asg (.t 24)),oA 5 (.mv (.t 25))] [4,5]) .ret))))

def c_spec_SolutionIsomorphism:F where
 np:=2
 rs:=[.t 4,.t 5]
 body :=
  (.seq
  (.re [oA 2 (.box (.t 0)),oA 3 (.box (.t 1)),oA 4 (.asg (.c (.slice none 0 0))),oA 5 (.mv (.ci 0))] [2,3]) (.seq (.seq
  (.re [oA 7 (.ld (some 2) (.t 2)),oA 8 (.call (.f 56) [aR 7]),oA 9 (.un .not (.t 8)),oA 10 (.mv (.t 9)),oI 11 10 false (.ld (some 2) (.t 3)),oI 12 10 false (.call (.f 56) [aR 11]),oI 13 10 false (.un .not (.t 12)),oA 14 (.pick (.t 10) (.c (.bool true)) (.t 13))] [2,3,14]) (.cond (.t 14) (.seq
  (.re [oA 4 (.asg (.c (.slice none 0 0))),oA 5 (.mv (.ci 1))] [4,5]) .ret) .skip)) (.seq (.seq
  (.re [oA 15 (.fld 0 (.t 2)),oA 16 (.ld none (.t 15)),oA 17 (.len (.t 16)),oA 18 (.fld 0 (.t 3)),oA 19 (.ld none (.t 18)),oA 20 (.len (.t 19)),oA 21 (.bin .neq (.t 17) (.t 20))] [2,3,21]) (.cond (.t 21) (.seq
  (.re [oA 4 (.asg (.c (.slice none 0 0))),oA 5 (.mv (.ci 4))] [4,5]) .ret) .skip)) (.seq
  (.re [oA 22 (.ld (some 2) (.t 2)),oA 23 (.ld (some 2) (.t 3)),oA 24 (.call (.f 421) [aR 22,aR 23,((.ci 1),.r)]),oA 6 (.asg (.t 24))] [6]) (.seq (.seq
  (.re [oA 25 (.mv (.t 6)),oA 26 (.len (.t 25)),oA 27 (.bin .eql (.t 26) (.ci 0))] [6,27]) (.cond (.t 27) (.seq
  (.re [oA 4 (.asg (.c (.slice none 0 0))),oA 5 (.mv (.ci 4))] [4,5]) .ret) .skip)) (.seq
  (.re [oA 28 (.mv (.t 6)),oA 29 (.idx 1 (.t 28) (.ci 0)),oA 30 (.ld none (.t 29)),oA 4 (.asg (.t 30)),oA 5 (.mv (.ci 0))] [4,5]) .ret))))))

def c_spec_l02Maps:F where
 np:=3
 rs:=[.t 6]
 body :=
  (.seq
  (.re [oA 3 (.box (.t 0)),oA 4 (.box (.t 1)),oA 6 (.asg (.c (.slice none 0 0)))] [2,3,4]) (.seq
  (.re [oA 7 (.fld 0 (.t 3)),oA 8 (.ld none (.t 7)),oA 9 (.fld 1 (.t 3)),oA 10 (.ld none (.t 9)),oA 11 (.bsl [(.t 8),(.t 10)]),oA 12 (.fld 0 (.t 4)),oA 13 (.ld none (.t 12)),oA 14 (.fld 1 (.t 4)),oA 15 (.ld none (.t 14)),oA 16 (.bsl [(.t 13),(.t 15)]),oA 17 (.mv (.t 2)),oA 18 (.call (.f 448) [aR 11,aR 16,((.c (.slice none 0 0)),.r),aR 17]),oA 6 (.asg (.t 18))] [6]) .ret))

def c_spec_l03Maps:F where
 np:=4
 rs:=[.t 8]
 body :=
  (.seq
  (.re [oA 8 (.asg (.c (.slice none 0 0)))] [0,1,2,3]) (.seq (.seq
  (.region (some [14,15,16,17,18,19,20,21]) [oA 14 (.mv (.t 0)),oA 15 (.idx 1 (.t 14) (.ci 0)),oA 16 (.ld none (.t 15)),oA 17 (.len (.t 16)),oA 18 (.mv (.t 1)),oA 19 (.idx 1 (.t 18) (.ci 0)),oA 20 (.ld none (.t 19)),oA 21 (.len (.t 20)),oA 22 (.bin .neq (.t 17) (.t 21))] [0,1,2,3,22]) (.cond (.t 22) (.seq
  (.re [oA 8 (.asg (.c (.slice none 0 0)))] [8]) .ret) .skip)) (.seq
  (.region (some [9,23,24,25,26,27,28,29,30,31,32]) [oA 23 (.mv (.t 0)),oA 24 (.idx 1 (.t 23) (.ci 0)),oA 25 (.ld none (.t 24)),oA 26 (.len (.t 25)),oA 27 (.mks (.int .i64 0) (.t 26)),oA 28 (.mv (.t 0)),oA 29 (.idx 1 (.t 28) (.ci 0)),oA 30 (.ld none (.t 29)),oA 31 (.len (.t 30)),oA 32 (.mks (.int .i64 0) (.t 31)),oA 9 (.tk1 none 27),oA 10 (.asg (.t 32))] [0,1,2,3,9,10]) (.seq (.seq
  (.re [oA 33 (.mv (.t 2)),oA 34 (.len (.t 33)),oA 35 (.bin .gtr (.t 34) (.ci 0))] [0,1,2,3,9,10,35]) (.cond (.t 35) (.seq (.seq
  (.re [oA 36 (.mv (.t 0)),oA 37 (.mv (.t 1)),oA 38 (.mv (.t 2)),oA 39 (.call (.f 462) [aR 36,aR 37,aR 38]),oA 40 (.un .not (.t 39))] [0,1,2,3,9,10,40]) (.cond (.t 40) (.seq
  (.re [oA 8 (.asg (.c (.slice none 0 0)))] [8]) .ret) .skip)) (.seq
  (.re [oA 41 (.mv (.t 9)),oA 42 (.idx 1 (.t 41) (.ci 0)),oN (.st none (.t 42) (.ci 60))] [0,1,2,3,9,10])
  (.re [oA 43 (.mv (.t 10)),oA 44 (.idx 1 (.t 43) (.ci 0)),oN (.st none (.t 44) (.ci 60))] [0,1,2,3,9,10]))) .skip)) (.seq
  (.re [oA 46 (.mv (.t 0)),oA 47 (.mv (.t 1)),oA 48 (.mv (.t 9)),oA 49 (.mv (.t 10)),oA 50 (.call (.f 463) [aR 46,aR 47,aR 48,aR 49]),oA 45 (.mv (.t 50)),oA 51 (.ext (.t 45) 0),oA 52 (.ext (.t 45) 1),oA 53 (.ext (.t 45) 2),oA 11 (.asg (.t 51)),oA 12 (.asg (.t 52)),oA 13 (.mv (.t 53))] [0,1,2,3,11,12,13]) (.seq (.seq
  (.re [oA 54 (.mv (.t 13)),oA 55 (.un .not (.t 54))] [0,1,2,3,11,12,55]) (.cond (.t 55) (.seq
  (.re [oA 8 (.asg (.c (.slice none 0 0)))] [8]) .ret) .skip)) (.seq
  (.re [oA 56 (.mv (.t 0)),oA 57 (.mv (.t 1)),oA 58 (.mv (.t 2)),oA 59 (.mv (.t 11)),oA 60 (.mv (.t 12)),oA 61 (.mv (.t 3)),oA 62 (.call (.f 464) [aR 56,aR 57,aR 58,aR 59,aR 60,aR 61,((.c (.slice none 0 0)),.r)]),oA 8 (.asg (.t 62))] [8]) .ret)))))))

def c_spec_l03Fits:F where
 np:=3
 rs:=[.t 6]
 body :=
  (.seq
  (.re [oA 6 (.mv (.c (.bool false)))] [0,1,2]) (.seq
  (.re [oA 12 (.mv (.t 2)),oA 13 (.len (.t 12)),oA 14 (.bin .sub (.t 13) (.ci 1)),oA 7 (.mv (.t 14))] [0,1,2,7]) (.seq (.seq
  (.re [oA 8 (.mv (.ci 0))] [0,1,2,7,8]) (.block 0 (.loop (.seq (.seq
  (.re [oA 15 (.mv (.t 8)),oA 16 (.mv (.t 0)),oA 17 (.len (.t 16)),oA 18 (.bin .lss (.t 15) (.t 17))] [0,1,2,7,8,18]) (.cond (.t 18) .skip (.exit 0))) (.seq (.block 1 (.seq
  (.re [oA 9 (.mv (.ci 0))] [0,1,2,7,8,9]) (.block 2 (.loop (.seq (.seq
  (.re [oA 21 (.mv (.t 9)),oA 22 (.mv (.t 7)),oA 23 (.bin .leq (.t 21) (.t 22))] [0,1,2,7,8,9,23]) (.cond (.t 23) .skip (.exit 2))) (.seq (.block 3 (.seq
  (.re [oA 10 (.mv (.ci 0))] [0,1,2,7,8,9,10]) (.block 4 (.loop (.seq (.seq
  (.re [oA 26 (.mv (.t 10)),oA 27 (.mv (.t 7)),oA 28 (.bin .leq (.t 26) (.t 27))] [0,1,2,7,8,9,10,28]) (.cond (.t 28) .skip (.exit 4))) (.seq (.block 5 (.seq
  (.re [oA 31 (.mv (.t 0)),oA 32 (.mv (.t 8)),oA 33 (.idx 1 (.t 31) (.t 32)),oA 34 (.ld none (.t 33)),oA 35 (.mv (.t 9)),oA 36 (.idx 1 (.t 34) (.t 35)),oA 37 (.ld none (.t 36)),oA 38 (.mv (.t 10)),oA 39 (.idx 1 (.t 37) (.t 38)),oA 40 (.ld none (.t 39)),oA 11 (.mv (.t 40))] [0,1,2,7,8,9,10,11]) (.seq (.seq
  (.re [oA 41 (.mv (.t 11)),oA 42 (.mv (.t 7)),oA 43 (.bin .gtr (.t 41) (.t 42)),oA 44 (.mv (.t 43)),oI 45 44 false (.mv (.t 9)),oI 46 44 false (.mv (.t 7)),oI 47 44 false (.bin .lss (.t 45) (.t 46)),oI 48 44 false (.mv (.t 47)),oI 49 48 true (.mv (.t 10)),oI 50 48 true (.mv (.t 7)),oI 51 48 true (.bin .lss (.t 49) (.t 50)),oI 52 44 false (.pick (.t 48) (.t 51) (.c (.bool false))),oI 53 44 false (.mv (.t 52)),oI 54 53 true (.mv (.t 11)),oI 55 53 true (.mv (.t 7)),oI 56 53 true (.bin .lss (.t 54) (.t 55)),oI 57 44 false (.pick (.t 53) (.t 56) (.c (.bool false))),oA 58 (.pick (.t 44) (.c (.bool true)) (.t 57))] [0,1,2,7,8,9,10,11,58]) (.cond (.t 58) (.exit 5) .skip)) (.seq
  (.region (some [59,60,61,62,63,64,65,66,67,68,69,70,71,72,73,74,75,76,77,78]) [oA 59 (.mv (.t 2)),oA 60 (.mv (.t 11)),oA 61 (.idx 1 (.t 59) (.t 60)),oA 62 (.ld none (.t 61)),oA 63 (.mv (.t 1)),oA 64 (.mv (.t 8)),oA 65 (.idx 1 (.t 63) (.t 64)),oA 66 (.ld none (.t 65)),oA 67 (.mv (.t 2)),oA 68 (.mv (.t 9)),oA 69 (.idx 1 (.t 67) (.t 68)),oA 70 (.ld none (.t 69)),oA 71 (.idx 1 (.t 66) (.t 70)),oA 72 (.ld none (.t 71)),oA 73 (.mv (.t 2)),oA 74 (.mv (.t 10)),oA 75 (.idx 1 (.t 73) (.t 74)),oA 76 (.ld none (.t 75)),oA 77 (.idx 1 (.t 72) (.t 76)),oA 78 (.ld none (.t 77)),oA 79 (.bin .neq (.t 62) (.t 78))] [0,1,2,7,8,9,10,79]) (.cond (.t 79) (.seq
  (.re [oA 6 (.mv (.c (.bool false)))] [6]) .ret) .skip)))))
  (.re [oA 29 (.mv (.t 10)),oA 30 (.bin .add (.t 29) (.ci 1)),oA 10 (.mv (.t 30))] [0,1,2,7,8,9,10])))))))
  (.re [oA 24 (.mv (.t 9)),oA 25 (.bin .add (.t 24) (.ci 1)),oA 9 (.mv (.t 25))] [0,1,2,7,8,9])))))))
  (.re [oA 19 (.mv (.t 8)),oA 20 (.bin .add (.t 19) (.ci 1)),oA 8 (.mv (.t 20))] [0,1,2,7,8])))))) (.seq
  (.re [oA 6 (.mv (.c (.bool true)))] [6]) .ret))))

def c_spec_l03Refine:F where
 np:=4
 rs:=[.t 8,.t 9,.t 10]
 body :=
  (.seq
  (.re [oA 8 (.asg (.c (.slice none 0 0))),oA 9 (.asg (.c (.slice none 0 0))),oA 10 (.mv (.c (.bool false)))] [0,1,2,3]) (.seq
  (.re [oA 25 (.mv (.t 2)),oA 26 (.len (.t 25)),oA 11 (.mv (.t 26))] [0,1,2,3,11]) (.seq
  (.re [oA 12 (.mv (.ci 0))] [0,1,2,3,11,12]) (.block 0 (.loop (.block 1 (.seq
  (.re [oA 27 (.bsl []),oA 13 (.asg (.t 27))] [0,1,2,3,11,12,13]) (.seq (.seq
  (.re [oA 14 (.mv (.ci 0))] [0,1,2,3,11,12,13,14]) (.block 2 (.loop (.seq (.seq
  (.re [oA 28 (.mv (.t 14)),oA 29 (.mv (.t 11)),oA 30 (.bin .lss (.t 28) (.t 29))] [0,1,2,3,11,12,13,14,30]) (.cond (.t 30) .skip (.exit 2))) (.seq (.block 3
  (.re [oA 33 (.mv (.t 13)),oA 34 (.mv (.t 0)),oA 35 (.mv (.t 2)),oA 36 (.mv (.t 14)),oA 37 (.call (.f 467) [aR 34,aR 35,aR 36]),oA 38 (.bsl [(.t 37)]),oA 39 (.app true 1 (.t 33) (.t 38)),oA 13 (.asg (.t 39))] [0,1,2,3,11,12,13,14]))
  (.re [oA 31 (.mv (.t 14)),oA 32 (.bin .add (.t 31) (.ci 1)),oA 14 (.mv (.t 32))] [0,1,2,3,11,12,13,14])))))) (.seq (.seq
  (.re [oA 15 (.mv (.ci 0))] [0,1,3,11,12,13,15]) (.block 4 (.loop (.seq (.seq
  (.re [oA 40 (.mv (.t 15)),oA 41 (.mv (.t 11)),oA 42 (.bin .lss (.t 40) (.t 41))] [0,1,3,11,12,13,15,42]) (.cond (.t 42) .skip (.exit 4))) (.seq (.block 5
  (.re [oA 45 (.mv (.t 13)),oA 46 (.mv (.t 1)),oA 47 (.mv (.t 3)),oA 48 (.mv (.t 15)),oA 49 (.call (.f 467) [aR 46,aR 47,aR 48]),oA 50 (.bsl [(.t 49)]),oA 51 (.app true 1 (.t 45) (.t 50)),oA 13 (.asg (.t 51))] [0,1,3,11,12,13,15]))
  (.re [oA 43 (.mv (.t 15)),oA 44 (.bin .add (.t 43) (.ci 1)),oA 15 (.mv (.t 44))] [0,1,3,11,12,13,15])))))) (.seq
  (.re [oA 52 (.bsl []),oA 16 (.asg (.t 52))] [0,1,11,12,13,16]) (.seq (.seq
  (.re [oN (.freeze 13),oA 17 (.mv (.ci 0))] [0,1,11,12,13,16,17]) (.block 6 (.loop (.seq (.seq
  (.re [oA 53 (.mv (.t 17)),oA 54 (.mv (.t 13)),oA 55 (.len (.t 54)),oA 56 (.bin .lss (.t 53) (.t 55))] [0,1,11,12,13,16,17,56]) (.cond (.t 56) .skip (.exit 6))) (.seq (.block 7 (.seq
  (.re [oA 18 (.mv (.ci 0))] [0,1,11,12,13,16,17,18]) (.seq (.block 8 (.loop (.seq (.seq
  (.region (some [59,60,61,64,65,66,67,68,69,70,71]) [oA 59 (.mv (.t 18)),oA 60 (.mv (.t 16)),oA 61 (.len (.t 60)),oA 62 (.bin .lss (.t 59) (.t 61)),oA 63 (.mv (.t 62)),oI 64 63 true (.mv (.t 16)),oI 65 63 true (.mv (.t 18)),oI 66 63 true (.idx 1 (.t 64) (.t 65)),oI 67 63 true (.ld none (.t 66)),oI 68 63 true (.mv (.t 13)),oI 69 63 true (.mv (.t 17)),oI 70 63 true (.idx 1 (.t 68) (.t 69)),oI 71 63 true (.ld none (.t 70)),oI 72 63 true (.call (.f 408) [aR 67,aR 71]),oA 73 (.pick (.t 63) (.t 72) (.c (.bool false)))] [0,1,11,12,13,16,17,18,73]) (.cond (.t 73) .skip (.exit 8))) (.block 9
  (.re [oA 74 (.mv (.t 18)),oA 75 (.bin .add (.t 74) (.ci 1)),oA 18 (.mv (.t 75))] [0,1,11,12,13,16,17,18]))))) (.seq (.seq
  (.region (some [76,77,78,81,82,83,84,85,86,87,88]) [oA 76 (.mv (.t 18)),oA 77 (.mv (.t 16)),oA 78 (.len (.t 77)),oA 79 (.bin .lss (.t 76) (.t 78)),oA 80 (.mv (.t 79)),oI 81 80 true (.mv (.t 16)),oI 82 80 true (.mv (.t 18)),oI 83 80 true (.idx 1 (.t 81) (.t 82)),oI 84 80 true (.ld none (.t 83)),oI 85 80 true (.mv (.t 13)),oI 86 80 true (.mv (.t 17)),oI 87 80 true (.idx 1 (.t 85) (.t 86)),oI 88 80 true (.ld none (.t 87)),oI 89 80 true (.call (.f 67) [aR 84,aR 88]),oA 90 (.pick (.t 80) (.t 89) (.c (.bool false)))] [0,1,11,12,13,16,17,18,90]) (.cond (.t 90) (.exit 7) .skip)) (.seq
  (.region (some [91,92,93,94,95,96,97,98]) [oA 91 (.mv (.t 13)),oA 92 (.mv (.t 17)),oA 93 (.idx 1 (.t 91) (.t 92)),oA 94 (.ld none (.t 93)),oA 95 (.bslv 1 [(.t 94)]),oA 96 (.mv (.t 16)),oA 97 (.mv (.t 18)),oA 98 (.sl 1 (.t 96) (some (.t 97)) none),oA 99 (.app false 1 (.t 95) (.t 98)),oA 19 (.asg (.t 99))] [0,1,11,12,13,16,17,18,19])
  (.re [oA 100 (.bsl []),oA 101 (.mv (.t 16)),oA 102 (.mv (.t 18)),oA 103 (.sl 1 (.t 101) none (some (.t 102))),oA 104 (.app false 1 (.t 100) (.t 103)),oA 105 (.mv (.t 19)),oA 106 (.app false 1 (.t 104) (.t 105)),oA 16 (.asg (.t 106))] [0,1,11,12,13,16,17]))))))
  (.re [oA 57 (.mv (.t 17)),oA 58 (.bin .add (.t 57) (.ci 1)),oA 17 (.mv (.t 58))] [0,1,11,12,13,16,17])))))) (.seq
  (.re [oA 107 (.mv (.t 16)),oA 108 (.len (.t 107)),oA 109 (.mks (.int .i64 0) (.t 108)),oA 110 (.bsl []),oA 20 (.asg (.t 109)),oA 21 (.asg (.t 110))] [0,1,11,12,13,16,20,21]) (.seq (.seq
  (.re [oA 22 (.mv (.ci 0))] [0,1,11,12,13,16,20,21,22]) (.block 10 (.loop (.seq (.seq
  (.re [oA 111 (.mv (.t 22)),oA 112 (.mv (.t 13)),oA 113 (.len (.t 112)),oA 114 (.bin .lss (.t 111) (.t 113))] [0,1,11,12,13,16,20,21,22,114]) (.cond (.t 114) .skip (.exit 10))) (.seq (.block 11 (.seq
  (.re [oA 23 (.mv (.ci 0))] [0,1,11,12,13,16,20,21,22,23]) (.seq (.block 12 (.loop (.seq (.seq
  (.region (some [117,118,119,120,121,122,123,124]) [oA 117 (.mv (.t 16)),oA 118 (.mv (.t 23)),oA 119 (.idx 1 (.t 117) (.t 118)),oA 120 (.ld none (.t 119)),oA 121 (.mv (.t 13)),oA 122 (.mv (.t 22)),oA 123 (.idx 1 (.t 121) (.t 122)),oA 124 (.ld none (.t 123)),oA 125 (.call (.f 67) [aR 120,aR 124]),oA 126 (.un .not (.t 125))] [0,1,11,12,13,16,20,21,22,23,126]) (.cond (.t 126) .skip (.exit 12))) (.block 13
  (.re [oA 127 (.mv (.t 23)),oA 128 (.bin .add (.t 127) (.ci 1)),oA 23 (.mv (.t 128))] [0,1,11,12,13,16,20,21,22,23]))))) (.seq
  (.re [oA 129 (.mv (.t 21)),oA 130 (.mv (.t 23)),oA 131 (.bsl [(.t 130)]),oA 132 (.app true 1 (.t 129) (.t 131)),oA 21 (.asg (.t 132))] [0,1,11,12,13,16,20,21,22,23]) (.seq
  (.re [oA 133 (.mv (.t 22)),oA 134 (.mv (.t 11)),oA 135 (.bin .lss (.t 133) (.t 134))] [0,1,11,12,13,16,20,21,22,23,135]) (.cond (.t 135)
  (.re [oA 136 (.mv (.t 20)),oA 137 (.mv (.t 23)),oA 138 (.idx 1 (.t 136) (.t 137)),oA 139 (.ld none (.t 138)),oA 140 (.bin .add (.t 139) (.ci 1)),oA 141 (.idx 1 (.t 136) (.t 137)),oN (.st none (.t 141) (.t 140))] [0,1,11,12,13,16,20,21,22])
  (.re [oA 142 (.mv (.t 20)),oA 143 (.mv (.t 23)),oA 144 (.idx 1 (.t 142) (.t 143)),oA 145 (.ld none (.t 144)),oA 146 (.bin .sub (.t 145) (.ci 1)),oA 147 (.idx 1 (.t 142) (.t 143)),oN (.st none (.t 147) (.t 146))] [0,1,11,12,13,16,20,21,22])))))))
  (.re [oA 115 (.mv (.t 22)),oA 116 (.bin .add (.t 115) (.ci 1)),oA 22 (.mv (.t 116))] [0,1,11,12,13,16,20,21,22])))))) (.seq (.seq
  (.re [oA 24 (.mv (.ci 0))] [0,1,11,12,16,20,21,24]) (.block 14 (.loop (.seq (.seq
  (.re [oA 148 (.mv (.t 24)),oA 149 (.mv (.t 20)),oA 150 (.len (.t 149)),oA 151 (.bin .lss (.t 148) (.t 150))] [0,1,11,12,16,20,21,24,151]) (.cond (.t 151) .skip (.exit 14))) (.seq (.block 15 (.seq
  (.re [oA 154 (.mv (.t 20)),oA 155 (.mv (.t 24)),oA 156 (.idx 1 (.t 154) (.t 155)),oA 157 (.ld none (.t 156)),oA 158 (.bin .neq (.t 157) (.ci 0))] [0,1,11,12,16,20,21,24,158]) (.cond (.t 158) (.seq
  (.re [oA 8 (.asg (.c (.slice none 0 0))),oA 9 (.asg (.c (.slice none 0 0))),oA 10 (.mv (.c (.bool false)))] [8,9,10]) .ret) .skip)))
  (.re [oA 152 (.mv (.t 24)),oA 153 (.bin .add (.t 152) (.ci 1)),oA 24 (.mv (.t 153))] [0,1,11,12,16,20,21,24])))))) (.seq
  (.re [oN (.freeze 21),oA 159 (.mv (.t 21)),oA 160 (.mv (.t 11)),oA 161 (.sl 1 (.t 159) none (some (.t 160))),oA 2 (.asg (.t 161))] [0,1,2,11,12,16,21]) (.seq
  (.re [oA 162 (.mv (.t 21)),oA 163 (.mv (.t 11)),oA 164 (.sl 1 (.t 162) (some (.t 163)) none),oA 3 (.asg (.t 164))] [0,1,2,3,11,12,16]) (.seq (.seq
  (.re [oA 165 (.mv (.t 16)),oA 166 (.len (.t 165)),oA 167 (.mv (.t 12)),oA 168 (.bin .eql (.t 166) (.t 167))] [0,1,2,3,11,16,168]) (.cond (.t 168) (.seq
  (.re [oA 169 (.mv (.t 2)),oA 170 (.mv (.t 3)),oA 8 (.asg (.t 169)),oA 9 (.asg (.t 170)),oA 10 (.mv (.c (.bool true)))] [8,9,10]) .ret) .skip))
  (.re [oA 171 (.mv (.t 16)),oA 172 (.len (.t 171)),oA 12 (.mv (.t 172))] [0,1,2,3,11,12]))))))))))))))))))

def c_spec_l03Mark:F where
 np:=3
 rs:=[.t 6]
 body :=
  (.seq
  (.re [oA 6 (.asg (.c (.slice none 0 0)))] [0,1,2]) (.seq
  (.region (some [7,22,23,24,25,26,27,28]) [oA 22 (.mv (.t 1)),oA 23 (.len (.t 22)),oA 24 (.mv (.t 1)),oA 25 (.mv (.t 2)),oA 26 (.idx 1 (.t 24) (.t 25)),oA 27 (.ld none (.t 26)),oA 28 (.bslv 1 [(.t 27)]),oA 7 (.mv (.t 23)),oA 8 (.asg (.t 28))] [0,1,2,7,8]) (.seq (.seq
  (.re [oA 9 (.mv (.ci 0))] [0,1,2,7,8,9]) (.block 0 (.loop (.seq (.seq
  (.re [oA 29 (.mv (.t 9)),oA 30 (.mv (.t 0)),oA 31 (.len (.t 30)),oA 32 (.bin .lss (.t 29) (.t 31))] [0,1,2,7,8,9,32]) (.cond (.t 32) .skip (.exit 0))) (.seq (.block 1 (.seq
  (.re [oA 35 (.bsl []),oA 10 (.asg (.t 35))] [0,1,2,7,8,9,10]) (.seq (.seq
  (.re [oA 11 (.mv (.ci 0))] [0,1,2,7,8,9,10,11]) (.block 2 (.loop (.seq (.seq
  (.re [oA 36 (.mv (.t 11)),oA 37 (.mv (.t 7)),oA 38 (.bin .lss (.t 36) (.t 37))] [0,1,2,7,8,9,10,11,38]) (.cond (.t 38) .skip (.exit 2))) (.seq (.block 3 (.seq
  (.region (some [12,41,42,43,44,45,46,47,48,49,50,51,52,53,54,55,56,57,58,59,60]) [oA 41 (.mv (.t 0)),oA 42 (.mv (.t 9)),oA 43 (.idx 1 (.t 41) (.t 42)),oA 44 (.ld none (.t 43)),oA 45 (.mv (.t 2)),oA 46 (.idx 1 (.t 44) (.t 45)),oA 47 (.ld none (.t 46)),oA 48 (.mv (.t 11)),oA 49 (.idx 1 (.t 47) (.t 48)),oA 50 (.ld none (.t 49)),oA 51 (.mv (.t 0)),oA 52 (.mv (.t 9)),oA 53 (.idx 1 (.t 51) (.t 52)),oA 54 (.ld none (.t 53)),oA 55 (.mv (.t 11)),oA 56 (.idx 1 (.t 54) (.t 55)),oA 57 (.ld none (.t 56)),oA 58 (.mv (.t 2)),oA 59 (.idx 1 (.t 57) (.t 58)),oA 60 (.ld none (.t 59)),oA 12 (.mv (.t 50)),oA 13 (.mv (.t 60))] [0,1,2,7,8,9,10,11,12,13]) (.seq
  (.re [oA 14 (.mv (.ci 0))] [0,1,2,7,8,9,10,11,12,13,14]) (.seq (.seq
  (.re [oA 61 (.mv (.t 12)),oA 62 (.mv (.t 11)),oA 63 (.bin .eql (.t 61) (.t 62))] [0,1,2,7,8,9,10,11,12,13,14,63]) (.cond (.t 63)
  (.re [oA 14 (.mv (.ci 1))] [0,1,2,7,8,9,10,11,12,13,14]) .skip)) (.seq (.seq
  (.re [oA 64 (.mv (.t 13)),oA 65 (.mv (.t 11)),oA 66 (.bin .eql (.t 64) (.t 65))] [0,1,2,7,8,9,10,11,12,13,14,66]) (.cond (.t 66)
  (.re [oA 67 (.mv (.t 14)),oA 68 (.bin .add (.t 67) (.ci 2)),oA 14 (.mv (.t 68))] [0,1,2,7,8,9,10,11,12,13,14]) .skip)) (.seq (.seq
  (.re [oA 69 (.mv (.t 12)),oA 70 (.mv (.t 2)),oA 71 (.bin .eql (.t 69) (.t 70))] [0,1,2,7,8,9,10,11,12,13,14,71]) (.cond (.t 71)
  (.re [oA 72 (.mv (.t 14)),oA 73 (.bin .add (.t 72) (.ci 4)),oA 14 (.mv (.t 73))] [0,1,2,7,8,9,10,11,12,13,14]) .skip)) (.seq (.seq
  (.re [oA 74 (.mv (.t 13)),oA 75 (.mv (.t 2)),oA 76 (.bin .eql (.t 74) (.t 75))] [0,1,2,7,8,9,10,11,12,13,14,76]) (.cond (.t 76)
  (.re [oA 77 (.mv (.t 14)),oA 78 (.bin .add (.t 77) (.ci 8)),oA 14 (.mv (.t 78))] [0,1,2,7,8,9,10,11,12,13,14]) .skip))
  (.region (some [79,80,81,82,83,84,85,86,87,88,89,90,91,92,93,94,95,96,97,98,99]) [oA 79 (.mv (.t 10)),oA 80 (.mv (.t 1)),oA 81 (.mv (.t 11)),oA 82 (.idx 1 (.t 80) (.t 81)),oA 83 (.ld none (.t 82)),oA 84 (.bin .mul (.t 83) (.ci 64)),oA 85 (.mv (.t 1)),oA 86 (.mv (.t 12)),oA 87 (.idx 1 (.t 85) (.t 86)),oA 88 (.ld none (.t 87)),oA 89 (.bin .add (.t 84) (.t 88)),oA 90 (.bin .mul (.t 89) (.ci 64)),oA 91 (.mv (.t 1)),oA 92 (.mv (.t 13)),oA 93 (.idx 1 (.t 91) (.t 92)),oA 94 (.ld none (.t 93)),oA 95 (.bin .add (.t 90) (.t 94)),oA 96 (.bin .mul (.t 95) (.ci 16)),oA 97 (.mv (.t 14)),oA 98 (.bin .add (.t 96) (.t 97)),oA 99 (.bslv 1 [(.t 98)]),oA 100 (.app true 1 (.t 79) (.t 99)),oA 10 (.asg (.t 100))] [0,1,2,7,8,9,10,11]))))))))
  (.re [oA 39 (.mv (.t 11)),oA 40 (.bin .add (.t 39) (.ci 1)),oA 11 (.mv (.t 40))] [0,1,2,7,8,9,10,11])))))) (.seq
  (.re [oA 101 (.mv (.t 7)),oA 102 (.mks (.int .i64 0) (.t 101)),oA 15 (.asg (.t 102))] [0,1,2,7,8,9,10,15]) (.seq (.seq
  (.re [oA 16 (.mv (.ci 0))] [0,1,2,7,8,9,10,15,16]) (.block 4 (.loop (.seq (.seq
  (.re [oA 103 (.mv (.t 16)),oA 104 (.mv (.t 7)),oA 105 (.bin .lss (.t 103) (.t 104))] [0,1,2,7,8,9,10,15,16,105]) (.cond (.t 105) .skip (.exit 4))) (.seq (.block 5 (.seq
  (.re [oA 17 (.mv (.ci 0))] [0,1,2,7,8,9,10,15,16,17]) (.block 6 (.loop (.seq (.seq
  (.re [oA 108 (.mv (.t 17)),oA 109 (.mv (.t 7)),oA 110 (.bin .lss (.t 108) (.t 109))] [0,1,2,7,8,9,10,15,16,17,110]) (.cond (.t 110) .skip (.exit 6))) (.seq (.block 7 (.seq
  (.re [oA 113 (.mv (.t 0)),oA 114 (.mv (.t 9)),oA 115 (.idx 1 (.t 113) (.t 114)),oA 116 (.ld none (.t 115)),oA 117 (.mv (.t 16)),oA 118 (.idx 1 (.t 116) (.t 117)),oA 119 (.ld none (.t 118)),oA 120 (.mv (.t 17)),oA 121 (.idx 1 (.t 119) (.t 120)),oA 122 (.ld none (.t 121)),oA 123 (.mv (.t 2)),oA 124 (.bin .eql (.t 122) (.t 123))] [0,1,2,7,8,9,10,15,16,17,124]) (.cond (.t 124)
  (.re [oA 125 (.mv (.t 15)),oA 126 (.mv (.t 16)),oA 127 (.idx 1 (.t 125) (.t 126)),oA 128 (.ld none (.t 127)),oA 129 (.bin .add (.t 128) (.ci 1)),oA 130 (.idx 1 (.t 125) (.t 126)),oN (.st none (.t 130) (.t 129))] [0,1,2,7,8,9,10,15,16,17]) .skip)))
  (.re [oA 111 (.mv (.t 17)),oA 112 (.bin .add (.t 111) (.ci 1)),oA 17 (.mv (.t 112))] [0,1,2,7,8,9,10,15,16,17])))))))
  (.re [oA 106 (.mv (.t 16)),oA 107 (.bin .add (.t 106) (.ci 1)),oA 16 (.mv (.t 107))] [0,1,2,7,8,9,10,15,16])))))) (.seq (.seq
  (.re [oA 18 (.mv (.ci 0))] [0,1,2,7,8,9,10,15,18]) (.block 8 (.loop (.seq (.seq
  (.re [oA 131 (.mv (.t 18)),oA 132 (.mv (.t 7)),oA 133 (.bin .lss (.t 131) (.t 132))] [0,1,2,7,8,9,10,15,18,133]) (.cond (.t 133) .skip (.exit 8))) (.seq (.block 9
  (.region (some [136,137,138,139,140,141,142,143,144,145,146,147,148]) [oA 136 (.mv (.t 10)),oA 137 (.mv (.t 1)),oA 138 (.mv (.t 18)),oA 139 (.idx 1 (.t 137) (.t 138)),oA 140 (.ld none (.t 139)),oA 141 (.bin .mul (.t 140) (.ci 64)),oA 142 (.bin .add (.ci 1099511627776) (.t 141)),oA 143 (.mv (.t 15)),oA 144 (.mv (.t 18)),oA 145 (.idx 1 (.t 143) (.t 144)),oA 146 (.ld none (.t 145)),oA 147 (.bin .add (.t 142) (.t 146)),oA 148 (.bslv 1 [(.t 147)]),oA 149 (.app true 1 (.t 136) (.t 148)),oA 10 (.asg (.t 149))] [0,1,2,7,8,9,10,15,18]))
  (.re [oA 134 (.mv (.t 18)),oA 135 (.bin .add (.t 134) (.ci 1)),oA 18 (.mv (.t 135))] [0,1,2,7,8,9,10,15,18])))))) (.seq (.seq
  (.re [oA 19 (.mv (.ci 1))] [0,1,2,7,8,9,10,19]) (.block 10 (.loop (.seq (.seq
  (.re [oA 150 (.mv (.t 19)),oA 151 (.mv (.t 10)),oA 152 (.len (.t 151)),oA 153 (.bin .lss (.t 150) (.t 152))] [0,1,2,7,8,9,10,19,153]) (.cond (.t 153) .skip (.exit 10))) (.seq (.block 11 (.seq
  (.re [oA 156 (.mv (.t 19)),oA 20 (.mv (.t 156))] [0,1,2,7,8,9,10,19,20]) (.block 12 (.loop (.seq (.seq
  (.region (some [160,161,162,163,164,165,166,167,168]) [oA 157 (.mv (.t 20)),oA 158 (.bin .gtr (.t 157) (.ci 0)),oA 159 (.mv (.t 158)),oI 160 159 true (.mv (.t 10)),oI 161 159 true (.mv (.t 20)),oI 162 159 true (.idx 1 (.t 160) (.t 161)),oI 163 159 true (.ld none (.t 162)),oI 164 159 true (.mv (.t 10)),oI 165 159 true (.mv (.t 20)),oI 166 159 true (.bin .sub (.t 165) (.ci 1)),oI 167 159 true (.idx 1 (.t 164) (.t 166)),oI 168 159 true (.ld none (.t 167)),oI 169 159 true (.bin .lss (.t 163) (.t 168)),oA 170 (.pick (.t 159) (.t 169) (.c (.bool false)))] [0,1,2,7,8,9,10,19,20,170]) (.cond (.t 170) .skip (.exit 12))) (.seq (.block 13 (.seq
  (.re [oA 173 (.mv (.t 10)),oA 174 (.mv (.t 20)),oA 175 (.idx 1 (.t 173) (.t 174)),oA 176 (.ld none (.t 175)),oA 21 (.mv (.t 176))] [0,1,2,7,8,9,10,19,20,21]) (.seq
  (.re [oA 177 (.mv (.t 10)),oA 178 (.mv (.t 20)),oA 179 (.mv (.t 10)),oA 180 (.mv (.t 20)),oA 181 (.bin .sub (.t 180) (.ci 1)),oA 182 (.idx 1 (.t 179) (.t 181)),oA 183 (.ld none (.t 182)),oA 184 (.idx 1 (.t 177) (.t 178)),oN (.st none (.t 184) (.t 183))] [0,1,2,7,8,9,10,19,20,21])
  (.re [oA 185 (.mv (.t 10)),oA 186 (.mv (.t 20)),oA 187 (.bin .sub (.t 186) (.ci 1)),oA 188 (.mv (.t 21)),oA 189 (.idx 1 (.t 185) (.t 187)),oN (.st none (.t 189) (.t 188))] [0,1,2,7,8,9,10,19,20]))))
  (.re [oA 171 (.mv (.t 20)),oA 172 (.bin .sub (.t 171) (.ci 1)),oA 20 (.mv (.t 172))] [0,1,2,7,8,9,10,19,20])))))))
  (.re [oA 154 (.mv (.t 19)),oA 155 (.bin .add (.t 154) (.ci 1)),oA 19 (.mv (.t 155))] [0,1,2,7,8,9,10,19]))))))
  (.re [oA 190 (.mv (.t 8)),oA 191 (.mv (.t 10)),oA 192 (.app false 1 (.t 190) (.t 191)),oA 8 (.asg (.t 192))] [0,1,2,7,8,9]))))))))
  (.re [oA 33 (.mv (.t 9)),oA 34 (.bin .add (.t 33) (.ci 1)),oA 9 (.mv (.t 34))] [0,1,2,7,8,9])))))) (.seq
  (.re [oA 193 (.mv (.t 8)),oA 6 (.asg (.t 193))] [6]) .ret))))

def c_spec_l03Seek:F where
 np:=7
 rs:=[.t 14]
 body :=
  (.seq
  (.re [oA 14 (.asg (.c (.slice none 0 0)))] [0,1,2,3,4,5,6]) (.seq
  (.re [oA 23 (.mv (.t 2)),oA 24 (.len (.t 23)),oA 15 (.mv (.t 24))] [0,1,2,3,4,5,6,15]) (.seq (.seq
  (.re [oA 25 (.mv (.t 15)),oA 26 (.mv (.t 3)),oA 27 (.len (.t 26)),oA 28 (.bin .eql (.t 25) (.t 27))] [0,1,2,3,4,5,6,15,28]) (.cond (.t 28) (.seq
  (.re [oA 29 (.mv (.t 6)),oA 30 (.mv (.t 2)),oA 31 (.call (.f 31) [aR 30]),oA 32 (.bsl [(.t 31)]),oA 33 (.app true 1 (.t 29) (.t 32)),oA 14 (.asg (.t 33))] [14]) .ret) .skip)) (.seq (.seq
  (.re [oA 16 (.mv (.ci 0))] [0,1,2,3,4,5,6,15,16]) (.block 0 (.loop (.seq (.seq
  (.re [oA 34 (.mv (.t 16)),oA 35 (.mv (.t 4)),oA 36 (.len (.t 35)),oA 37 (.bin .lss (.t 34) (.t 36)),oA 38 (.mv (.t 37)),oI 39 38 true (.mv (.t 6)),oI 40 38 true (.len (.t 39)),oI 41 38 true (.mv (.t 5)),oI 42 38 true (.bin .lss (.t 40) (.t 41)),oA 43 (.pick (.t 38) (.t 42) (.c (.bool false)))] [0,1,2,3,4,5,6,15,16,43]) (.cond (.t 43) .skip (.exit 0))) (.seq (.block 1 (.seq
  (.re [oA 46 (.mv (.t 2)),oA 47 (.call (.f 31) [aR 46]),oA 48 (.mv (.t 16)),oA 49 (.bsl [(.t 48)]),oA 50 (.app true 1 (.t 47) (.t 49)),oA 17 (.asg (.t 50))] [0,1,2,3,4,5,6,15,16,17]) (.seq (.seq
  (.region (some [51,52,55,56,57,58,59,60,61,62,66,67,68]) [oA 51 (.mv (.t 2)),oA 52 (.mv (.t 16)),oA 53 (.call (.f 62) [aR 51,aR 52]),oA 54 (.mv (.t 53)),oI 55 54 false (.mv (.t 3)),oI 56 54 false (.mv (.t 15)),oI 57 54 false (.idx 1 (.t 55) (.t 56)),oI 58 54 false (.ld none (.t 57)),oI 59 54 false (.mv (.t 4)),oI 60 54 false (.mv (.t 16)),oI 61 54 false (.idx 1 (.t 59) (.t 60)),oI 62 54 false (.ld none (.t 61)),oI 63 54 false (.bin .neq (.t 58) (.t 62)),oA 64 (.pick (.t 54) (.c (.bool true)) (.t 63)),oA 65 (.mv (.t 64)),oI 66 65 false (.mv (.t 0)),oI 67 65 false (.mv (.t 1)),oI 68 65 false (.mv (.t 17)),oI 69 65 false (.call (.f 462) [aR 66,aR 67,aR 68]),oI 70 65 false (.un .not (.t 69)),oA 71 (.pick (.t 65) (.c (.bool true)) (.t 70))] [0,1,2,3,4,5,6,15,16,17,71]) (.cond (.t 71) (.exit 1) .skip)) (.seq
  (.re [oA 72 (.mv (.t 3)),oA 73 (.call (.f 31) [aR 72]),oA 74 (.mv (.t 4)),oA 75 (.call (.f 31) [aR 74]),oA 18 (.asg (.t 73)),oA 19 (.asg (.t 75))] [0,1,2,3,4,5,6,15,16,17,18,19]) (.seq
  (.re [oA 76 (.mv (.t 18)),oA 77 (.mv (.t 15)),oA 78 (.idx 1 (.t 76) (.t 77)),oN (.st none (.t 78) (.ci 60))] [0,1,2,3,4,5,6,15,16,17,18,19]) (.seq
  (.re [oA 79 (.mv (.t 19)),oA 80 (.mv (.t 16)),oA 81 (.idx 1 (.t 79) (.t 80)),oN (.st none (.t 81) (.ci 60))] [0,1,2,3,4,5,6,15,16,17,18,19]) (.seq
  (.re [oA 83 (.mv (.t 0)),oA 84 (.mv (.t 1)),oA 85 (.mv (.t 18)),oA 86 (.mv (.t 19)),oA 87 (.call (.f 463) [aR 83,aR 84,aR 85,aR 86]),oA 82 (.mv (.t 87)),oA 88 (.ext (.t 82) 0),oA 89 (.ext (.t 82) 1),oA 90 (.ext (.t 82) 2),oA 20 (.asg (.t 88)),oA 21 (.asg (.t 89)),oA 22 (.mv (.t 90))] [0,1,2,3,4,5,6,15,16,17,20,21,22]) (.seq
  (.re [oA 91 (.mv (.t 22))] [0,1,2,3,4,5,6,15,16,17,20,21,91]) (.cond (.t 91)
  (.re [oA 92 (.mv (.t 0)),oA 93 (.mv (.t 1)),oA 94 (.mv (.t 17)),oA 95 (.mv (.t 20)),oA 96 (.mv (.t 21)),oA 97 (.mv (.t 5)),oA 98 (.mv (.t 6)),oA 99 (.call (.f 464) [aR 92,aR 93,aR 94,aR 95,aR 96,aR 97,aR 98]),oA 6 (.asg (.t 99))] [0,1,2,3,4,5,6,15,16]) .skip)))))))))
  (.re [oA 44 (.mv (.t 16)),oA 45 (.bin .add (.t 44) (.ci 1)),oA 16 (.mv (.t 45))] [0,1,2,3,4,5,6,15,16])))))) (.seq
  (.re [oA 100 (.mv (.t 6)),oA 14 (.asg (.t 100))] [14]) .ret)))))

def c_impl_RenameTable:F where
 np:=2
 rs:=[.t 4,.t 5]
 body :=
  (.seq
  (.re [oA 4 (.asg (.c (.slice none 0 0))),oA 5 (.mv (.ci 0))] [0,1]) (.seq (.seq
  (.re [oA 6 (.mv (.t 0)),oA 7 (.call (.f 50) [aR 6]),oA 8 (.un .not (.t 7)),oA 9 (.mv (.t 8)),oI 10 9 false (.mv (.t 1)),oI 11 9 false (.call (.f 346) [aR 10]),oI 12 9 false (.un .not (.t 11)),oA 13 (.pick (.t 9) (.c (.bool true)) (.t 12)),oA 14 (.mv (.t 13)),oI 15 14 false (.mv (.t 1)),oI 16 14 false (.len (.t 15)),oI 17 14 false (.mv (.t 0)),oI 18 14 false (.len (.t 17)),oI 19 14 false (.bin .neq (.t 16) (.t 18)),oA 20 (.pick (.t 14) (.c (.bool true)) (.t 19))] [0,1,20]) (.cond (.t 20) (.seq
  (.re [oA 4 (.asg (.c (.slice none 0 0))),oA 5 (.mv (.ci 1))] [4,5]) .ret) .skip)) (.seq
  (.re [oA 21 (.mv (.t 0)),oA 22 (.mv (.t 1)),oA 23 (.call (.f 306) [aR 21,aR 22]),oA 4 (.asg (.t 23)),oA 5 (.mv (.ci 0))] [4,5]) .ret)))

end Go.Mch
