/- Compact code of draws and laws. -/
import Derived.Test.YtkcgdmjdkbgmkaaGreatM1
namespace Go.Mch

def c_spec_l07Spoil:F where
 np:=2
 rs:=[.cell 4 (some 2)]
 fix:=[0,1]
 body :=
  (.seq
  (.re [oA 4 (.alloc [(.slice none 0 0),(.slice none 0 0)])] [0,1,4]) (.seq (.seq
  (.re [oA 5 (.mvs 0),oA 6 (.calls (.f 336) (.t 5) 0 [(.ci 3)]),oA 7 (.bin .eql (.t 6) (.ci 0))] [0,1,4,7]) (.cond (.t 7) (.seq
  (.re [oA 8 (.mvs 0),oA 9 (.mv (.t 1)),oA 10 (.calls (.f 378) (.t 8) 0 [(.t 9)]),oA 11 (.call (.f 366) [aR 10]),oN (.st (some 2) (.t 4) (.t 11))] [0,1,4]) .ret) .skip)) (.seq
  (.re [oA 12 (.mvs 0),oA 13 (.mv (.t 1)),oA 14 (.calls (.f 379) (.t 12) 0 [(.t 13)]),oN (.st (some 2) (.t 4) (.t 14))] [0,1,4]) .ret)))

def c_spec_l01Next:F where
 np:=2
 rs:=[.t 4]
 fix:=[0,1]
 body :=
  (.seq
  (.re [oA 4 (.mv (.ci 0))] [0,1]) (.seq (.seq
  (.re [oA 6 (.mv (.t 1)),oA 7 (.bin .lss (.t 6) (.ci 1))] [0,1,7]) (.cond (.t 7) (.seq
  (.re [oA 4 (.mv (.ci 0))] [0,1,4]) .ret) .skip)) (.seq
  (.re [oA 8 (.mv (.t 0)),oA 9 (.mv (.t 0)),oA 10 (.nilck (.t 9)),oA 11 (.fld 2 (.t 10)),oA 12 (.ld none (.t 11)),oA 13 (.bin .mul (.t 12) (.c (.int .u64 6364136223846793005))),oA 14 (.bin .add (.t 13) (.c (.int .u64 1442695040888963407))),oA 15 (.nilck (.t 8)),oA 16 (.fld 2 (.t 15)),oN (.st none (.t 16) (.t 14))] [0,1]) (.seq
  (.re [oA 17 (.mv (.t 0)),oA 18 (.nilck (.t 17)),oA 19 (.fld 2 (.t 18)),oA 20 (.ld none (.t 19)),oA 21 (.bin .shr (.t 20) (.c (.int .u64 33))),oA 22 (.bin .and (.t 21) (.c (.int .u64 16777215))),oA 23 (.conv .i64 (.t 22)),oA 5 (.mv (.t 23))] [0,1,5]) (.seq (.seq
  (.region (some [24,25,26,27,28,29,30,31,32]) [oA 24 (.mv (.t 0)),oA 25 (.nilck (.t 24)),oA 26 (.fld 1 (.t 25)),oA 27 (.ld none (.t 26)),oA 28 (.mv (.t 0)),oA 29 (.nilck (.t 28)),oA 30 (.fld 0 (.t 29)),oA 31 (.ld none (.t 30)),oA 32 (.len (.t 31)),oA 33 (.bin .lss (.t 27) (.t 32))] [0,1,5,33]) (.cond (.t 33) (.seq
  (.region (some [34,35,36,37,38,39,40,41,42,43,44,45]) [oA 34 (.mv (.t 5)),oA 35 (.mv (.t 0)),oA 36 (.nilck (.t 35)),oA 37 (.fld 0 (.t 36)),oA 38 (.ld none (.t 37)),oA 39 (.mv (.t 0)),oA 40 (.nilck (.t 39)),oA 41 (.fld 1 (.t 40)),oA 42 (.ld none (.t 41)),oA 43 (.idx 1 (.t 38) (.t 42)),oA 44 (.ld none (.t 43)),oA 45 (.conv .i64 (.t 44)),oA 46 (.bin .add (.t 34) (.t 45)),oA 5 (.mv (.t 46))] [0,1,5])
  (.re [oA 47 (.mv (.t 0)),oA 48 (.mv (.t 0)),oA 49 (.nilck (.t 48)),oA 50 (.fld 1 (.t 49)),oA 51 (.ld none (.t 50)),oA 52 (.bin .add (.t 51) (.ci 1)),oA 53 (.nilck (.t 47)),oA 54 (.fld 1 (.t 53)),oN (.st none (.t 54) (.t 52))] [0,1,5])) .skip)) (.seq
  (.re [oA 55 (.mv (.t 5)),oA 56 (.mv (.t 1)),oA 57 (.bin .rem (.t 55) (.t 56)),oA 4 (.mv (.t 57))] [0,1,4]) .ret))))))

def c_spec_l05Draw:F where
 np:=2
 rs:=[.cell 4 (some 1)]
 fix:=[0,1]
 body :=
  (.seq
  (.re [oA 4 (.alloc [(.slice none 0 0)])] [0,1,4]) (.seq
  (.re [oA 6 (.mvs 0),oA 7 (.mv (.t 1)),oA 8 (.calls (.f 427) (.t 6) 0 [(.t 7)]),oA 5 (.alloc [(.slice none 0 0)]),oN (.st (some 1) (.t 5) (.t 8))] [0,1,4,5]) (.seq (.seq
  (.re [oA 9 (.mvs 0),oA 10 (.calls (.f 336) (.t 9) 0 [(.ci 3)]),oA 11 (.bin .gtr (.t 10) (.ci 0))] [0,1,4,5,11]) (.cond (.t 11) (.seq
  (.region (some [12,13,14,15,16,17,18]) [oA 12 (.fld 0 (.t 5)),oA 13 (.ld none (.t 12)),oA 14 (.mvs 0),oA 15 (.fld 0 (.t 5)),oA 16 (.ld none (.t 15)),oA 17 (.len (.t 16)),oA 18 (.calls (.f 368) (.t 14) 0 [(.t 17)]),oA 19 (.call (.f 367) [aR 13,aR 18]),oA 20 (.build [(.slice none 0 0)] [(0,1,(.t 19))]),oN (.st (some 1) (.t 4) (.t 20))] [0,1,4]) .ret) .skip)) (.seq
  (.re [oA 21 (.ld (some 1) (.t 5)),oN (.st (some 1) (.t 4) (.t 21))] [0,1,4]) .ret))))

def c_spec_l05Any:F where
 np:=2
 rs:=[.cell 4 (some 1)]
 fix:=[0,1]
 body :=
  (.seq
  (.re [oA 4 (.alloc [(.slice none 0 0)])] [0,1,4]) (.seq
  (.re [oA 10 (.mvs 0),oA 11 (.mv (.t 1)),oA 12 (.calls (.f 336) (.t 10) 0 [(.t 11)]),oA 13 (.bin .add (.ci 1) (.t 12)),oA 5 (.mv (.t 13))] [0,1,4,5]) (.seq (.seq
  (.re [oA 14 (.mvs 0),oA 15 (.calls (.f 336) (.t 14) 0 [(.ci 3)]),oA 16 (.bin .eql (.t 15) (.ci 0))] [0,1,4,5,16]) (.cond (.t 16) (.seq
  (.re [oA 6 (.mv (.ci 0))] [0,1,4,5,6]) (.block 0 (.loop (.seq (.seq
  (.re [oA 17 (.mv (.t 6)),oA 18 (.bin .lss (.t 17) (.ci 30))] [0,1,4,5,6,18]) (.cond (.t 18) .skip (.exit 0))) (.seq (.block 1 (.seq
  (.re [oA 21 (.mv (.t 5)),oA 22 (.mvs 0),oA 23 (.mv (.t 5)),oA 24 (.calls (.f 336) (.t 22) 0 [(.t 23)]),oA 25 (.mvs 0),oA 26 (.mv (.t 5)),oA 27 (.calls (.f 336) (.t 25) 0 [(.t 26)]),oA 28 (.mvs 0),oA 29 (.mv (.t 5)),oA 30 (.calls (.f 336) (.t 28) 0 [(.t 29)]),oA 31 (.call (.f 424) [aR 21,aR 24,aR 27,aR 30]),oA 7 (.alloc [(.slice none 0 0)]),oN (.st (some 1) (.t 7) (.t 31))] [0,1,4,5,6,7]) (.seq
  (.re [oA 32 (.ld (some 1) (.t 7)),oA 33 (.call (.f 363) [aR 32])] [0,1,4,5,6,7,33]) (.cond (.t 33) (.seq
  (.re [oA 34 (.ld (some 1) (.t 7)),oN (.st (some 1) (.t 4) (.t 34))] [0,1,4]) .ret) .skip))))
  (.re [oA 19 (.mv (.t 6)),oA 20 (.bin .add (.t 19) (.ci 1)),oA 6 (.mv (.t 20))] [0,1,4,5,6])))))) .skip)) (.seq (.seq
  (.re [oA 8 (.mv (.ci 0))] [0,1,4,5,8]) (.block 2 (.loop (.seq (.seq
  (.re [oA 35 (.mv (.t 8)),oA 36 (.bin .lss (.t 35) (.ci 8))] [0,1,4,5,8,36]) (.cond (.t 36) .skip (.exit 2))) (.seq (.block 3 (.seq
  (.re [oA 39 (.mvs 0),oA 40 (.mv (.t 5)),oA 41 (.calls (.f 412) (.t 39) 0 [(.t 40)]),oA 9 (.alloc [(.slice none 0 0),(.slice none 0 0)]),oN (.st (some 2) (.t 9) (.t 41))] [0,1,4,5,8,9]) (.seq
  (.re [oA 42 (.ld (some 2) (.t 9)),oA 43 (.call (.f 350) [aR 42]),oA 44 (.mv (.t 43)),oI 45 44 true (.ld (some 2) (.t 9)),oI 46 44 true (.call (.f 351) [aR 45]),oA 47 (.pick (.t 44) (.t 46) (.c (.bool false)))] [0,1,4,5,8,9,47]) (.cond (.t 47) (.seq
  (.re [oA 48 (.ld (some 2) (.t 9)),oA 49 (.call (.f 364) [aR 48]),oN (.st (some 1) (.t 4) (.t 49))] [0,1,4]) .ret) .skip))))
  (.re [oA 37 (.mv (.t 8)),oA 38 (.bin .add (.t 37) (.ci 1)),oA 8 (.mv (.t 38))] [0,1,4,5,8])))))) (.seq
  (.re [oA 50 (.mv (.t 5)),oA 51 (.call (.f 449) [aR 50]),oA 52 (.call (.f 364) [aR 51]),oN (.st (some 1) (.t 4) (.t 52))] [0,1,4]) .ret)))))

def c_spec_l05Affine:F where
 np:=4
 rs:=[.cell 8 (some 1)]
 body :=
  (.seq
  (.re [oA 8 (.alloc [(.slice none 0 0)])] [0,1,2,3,8]) (.seq
  (.re [oA 13 (.build [(.slice none 0 0)] []),oA 9 (.alloc [(.slice none 0 0)]),oN (.st (some 1) (.t 9) (.t 13))] [0,1,2,3,8,9]) (.seq (.seq
  (.re [oA 10 (.mv (.ci 0))] [0,1,2,3,8,9,10]) (.block 0 (.loop (.seq (.seq
  (.re [oA 14 (.mv (.t 10)),oA 15 (.mv (.t 0)),oA 16 (.bin .lss (.t 14) (.t 15))] [0,1,2,3,8,9,10,16]) (.cond (.t 16) .skip (.exit 0))) (.seq (.block 1 (.seq
  (.re [oA 19 (.bsl []),oA 11 (.asg (.t 19))] [0,1,2,3,8,9,10,11]) (.seq (.seq
  (.re [oA 12 (.mv (.ci 0))] [0,1,2,3,8,9,10,11,12]) (.block 2 (.loop (.seq (.seq
  (.re [oA 20 (.mv (.t 12)),oA 21 (.mv (.t 0)),oA 22 (.bin .lss (.t 20) (.t 21))] [0,1,2,3,8,9,10,11,12,22]) (.cond (.t 22) .skip (.exit 2))) (.seq (.block 3
  (.re [oA 25 (.mv (.t 11)),oA 26 (.mv (.t 1)),oA 27 (.mv (.t 10)),oA 28 (.bin .mul (.t 26) (.t 27)),oA 29 (.mv (.t 2)),oA 30 (.mv (.t 12)),oA 31 (.bin .mul (.t 29) (.t 30)),oA 32 (.bin .add (.t 28) (.t 31)),oA 33 (.mv (.t 3)),oA 34 (.bin .add (.t 32) (.t 33)),oA 35 (.mv (.t 0)),oA 36 (.bin .rem (.t 34) (.t 35)),oA 37 (.bsl [(.t 36)]),oA 38 (.app true 1 (.t 25) (.t 37)),oA 11 (.asg (.t 38))] [0,1,2,3,8,9,10,11,12]))
  (.re [oA 23 (.mv (.t 12)),oA 24 (.bin .add (.t 23) (.ci 1)),oA 12 (.mv (.t 24))] [0,1,2,3,8,9,10,11,12]))))))
  (.re [oA 39 (.fld 0 (.t 9)),oA 40 (.ld none (.t 39)),oA 41 (.mv (.t 11)),oA 42 (.bsl [(.t 41)]),oA 43 (.app true 1 (.t 40) (.t 42)),oA 44 (.fld 0 (.t 9)),oN (.st none (.t 44) (.t 43))] [0,1,2,3,8,9,10]))))
  (.re [oA 17 (.mv (.t 10)),oA 18 (.bin .add (.t 17) (.ci 1)),oA 10 (.mv (.t 18))] [0,1,2,3,8,9,10])))))) (.seq
  (.re [oA 45 (.ld (some 1) (.t 9)),oN (.st (some 1) (.t 8) (.t 45))] [8]) .ret))))

def c_spec_l05Is:F where
 np:=1
 rs:=[.t 2]
 body :=
  (.seq
  (.re [oA 1 (.box (.t 0)),oA 2 (.mv (.c (.bool false)))] [1]) (.seq
  (.re [oA 3 (.fld 0 (.t 1)),oA 4 (.ld none (.t 3)),oA 5 (.call (.f 46) [aR 4]),oA 6 (.mv (.t 5)),oI 7 6 true (.fld 0 (.t 1)),oI 8 6 true (.ld none (.t 7)),oI 9 6 true (.call (.f 410) [aR 8]),oA 10 (.pick (.t 6) (.t 9) (.c (.bool false))),oA 11 (.mv (.t 10)),oI 12 11 true (.fld 0 (.t 1)),oI 13 11 true (.ld none (.t 12)),oI 14 11 true (.call (.f 417) [aR 13]),oI 15 11 true (.call (.f 47) [aR 14]),oA 16 (.pick (.t 11) (.t 15) (.c (.bool false))),oA 17 (.mv (.t 16)),oI 18 17 true (.fld 0 (.t 1)),oI 19 17 true (.ld none (.t 18)),oI 20 17 true (.call (.f 418) [aR 19]),oI 21 17 true (.len (.t 20)),oI 22 17 true (.bin .eql (.t 21) (.ci 0)),oA 23 (.pick (.t 17) (.t 22) (.c (.bool false))),oA 2 (.mv (.t 23))] [2]) .ret))

def c_spec_l05Squares:F where
 np:=1
 rs:=[.t 2]
 body :=
  (.seq
  (.re [oA 2 (.asg (.c (.slice none 0 0)))] [0]) (.seq
  (.re [oA 5 (.bsl []),oA 3 (.asg (.t 5))] [0,3]) (.seq (.seq
  (.re [oA 4 (.mv (.ci 0))] [0,3,4]) (.block 0 (.loop (.seq (.seq
  (.re [oA 6 (.mv (.t 4)),oA 7 (.mv (.t 0)),oA 8 (.len (.t 7)),oA 9 (.bin .lss (.t 6) (.t 8))] [0,3,4,9]) (.cond (.t 9) .skip (.exit 0))) (.seq (.block 1
  (.re [oA 12 (.mv (.t 3)),oA 13 (.mv (.t 0)),oA 14 (.mv (.t 4)),oA 15 (.idx 1 (.t 13) (.t 14)),oA 16 (.ld none (.t 15)),oA 17 (.mv (.t 4)),oA 18 (.idx 1 (.t 16) (.t 17)),oA 19 (.ld none (.t 18)),oA 20 (.bsl [(.t 19)]),oA 21 (.app true 1 (.t 12) (.t 20)),oA 3 (.asg (.t 21))] [0,3,4]))
  (.re [oA 10 (.mv (.t 4)),oA 11 (.bin .add (.t 10) (.ci 1)),oA 4 (.mv (.t 11))] [0,3,4])))))) (.seq
  (.re [oA 22 (.mv (.t 3)),oA 2 (.asg (.t 22))] [2]) .ret))))

def c_spec_l05Fault:F where
 np:=1
 rs:=[.t 2]
 body :=
  (.seq
  (.re [oA 2 (.asg (.c (.slice none 0 0)))] [0]) (.seq
  (.re [oA 7 (.mv (.t 0)),oA 8 (.len (.t 7)),oA 3 (.mv (.t 8))] [0,3]) (.seq (.seq
  (.re [oA 4 (.mv (.ci 0))] [0,3,4]) (.block 0 (.loop (.seq (.seq
  (.re [oA 9 (.mv (.t 4)),oA 10 (.mv (.t 3)),oA 11 (.bin .lss (.t 9) (.t 10))] [0,3,4,11]) (.cond (.t 11) .skip (.exit 0))) (.seq (.block 1 (.seq
  (.re [oA 5 (.mv (.ci 0))] [0,3,4,5]) (.block 2 (.loop (.seq (.seq
  (.re [oA 14 (.mv (.t 5)),oA 15 (.mv (.t 3)),oA 16 (.bin .lss (.t 14) (.t 15))] [0,3,4,5,16]) (.cond (.t 16) .skip (.exit 2))) (.seq (.block 3 (.seq
  (.re [oA 6 (.mv (.ci 0))] [0,3,4,5,6]) (.block 4 (.loop (.seq (.seq
  (.re [oA 19 (.mv (.t 6)),oA 20 (.mv (.t 3)),oA 21 (.bin .lss (.t 19) (.t 20))] [0,3,4,5,6,21]) (.cond (.t 21) .skip (.exit 4))) (.seq (.block 5 (.seq
  (.region (some [24,25,26,27,28,29,30,31,32,33,34,35,36,37,38,39,40,41,42,43,44,45,46,47,48,49,50,51,52,53,54,55,56,57,58,59,60,61]) [oA 24 (.mv (.t 0)),oA 25 (.mv (.t 0)),oA 26 (.mv (.t 4)),oA 27 (.idx 1 (.t 25) (.t 26)),oA 28 (.ld none (.t 27)),oA 29 (.mv (.t 5)),oA 30 (.idx 1 (.t 28) (.t 29)),oA 31 (.ld none (.t 30)),oA 32 (.idx 1 (.t 24) (.t 31)),oA 33 (.ld none (.t 32)),oA 34 (.mv (.t 0)),oA 35 (.mv (.t 4)),oA 36 (.idx 1 (.t 34) (.t 35)),oA 37 (.ld none (.t 36)),oA 38 (.mv (.t 6)),oA 39 (.idx 1 (.t 37) (.t 38)),oA 40 (.ld none (.t 39)),oA 41 (.idx 1 (.t 33) (.t 40)),oA 42 (.ld none (.t 41)),oA 43 (.mv (.t 0)),oA 44 (.mv (.t 0)),oA 45 (.mv (.t 5)),oA 46 (.idx 1 (.t 44) (.t 45)),oA 47 (.ld none (.t 46)),oA 48 (.mv (.t 4)),oA 49 (.idx 1 (.t 47) (.t 48)),oA 50 (.ld none (.t 49)),oA 51 (.idx 1 (.t 43) (.t 50)),oA 52 (.ld none (.t 51)),oA 53 (.mv (.t 0)),oA 54 (.mv (.t 5)),oA 55 (.idx 1 (.t 53) (.t 54)),oA 56 (.ld none (.t 55)),oA 57 (.mv (.t 6)),oA 58 (.idx 1 (.t 56) (.t 57)),oA 59 (.ld none (.t 58)),oA 60 (.idx 1 (.t 52) (.t 59)),oA 61 (.ld none (.t 60)),oA 62 (.bin .neq (.t 42) (.t 61))] [0,3,4,5,6,62]) (.cond (.t 62) (.seq
  (.re [oA 63 (.mv (.t 4)),oA 64 (.mv (.t 5)),oA 65 (.mv (.t 6)),oA 66 (.bsl [(.t 63),(.t 64),(.t 65)]),oA 2 (.asg (.t 66))] [2]) .ret) .skip)))
  (.re [oA 22 (.mv (.t 6)),oA 23 (.bin .add (.t 22) (.ci 1)),oA 6 (.mv (.t 23))] [0,3,4,5,6])))))))
  (.re [oA 17 (.mv (.t 5)),oA 18 (.bin .add (.t 17) (.ci 1)),oA 5 (.mv (.t 18))] [0,3,4,5])))))))
  (.re [oA 12 (.mv (.t 4)),oA 13 (.bin .add (.t 12) (.ci 1)),oA 4 (.mv (.t 13))] [0,3,4])))))) (.seq
  (.re [oA 67 (.bsl []),oA 2 (.asg (.t 67))] [2]) .ret))))

def c_spec_l02Draw:F where
 np:=2
 rs:=[.cell 4 (some 2)]
 fix:=[0,1]
 body :=
  (.seq
  (.re [oA 4 (.alloc [(.slice none 0 0),(.slice none 0 0)])] [0,1,4]) (.seq
  (.re [oA 6 (.mvs 0),oA 7 (.mv (.t 1)),oA 8 (.calls (.f 445) (.t 6) 0 [(.t 7)]),oA 5 (.alloc [(.slice none 0 0),(.slice none 0 0)]),oN (.st (some 2) (.t 5) (.t 8))] [0,1,4,5]) (.seq (.seq
  (.re [oA 9 (.mvs 0),oA 10 (.calls (.f 336) (.t 9) 0 [(.ci 4)]),oA 11 (.bin .gtr (.t 10) (.ci 0))] [0,1,4,5,11]) (.cond (.t 11) (.seq
  (.region (some [12,13,14,15,16,17]) [oA 12 (.ld (some 2) (.t 5)),oA 13 (.mvs 0),oA 14 (.fld 0 (.t 5)),oA 15 (.ld none (.t 14)),oA 16 (.len (.t 15)),oA 17 (.calls (.f 368) (.t 13) 0 [(.t 16)]),oA 18 (.call (.f 422) [aR 12,aR 17]),oN (.st (some 2) (.t 4) (.t 18))] [0,1,4]) .ret) .skip)) (.seq
  (.re [oA 19 (.ld (some 2) (.t 5)),oN (.st (some 2) (.t 4) (.t 19))] [0,1,4]) .ret))))

def c_spec_l02Any:F where
 np:=2
 rs:=[.cell 4 (some 2)]
 fix:=[0,1]
 body :=
  (.seq
  (.re [oA 4 (.alloc [(.slice none 0 0),(.slice none 0 0)])] [0,1,4]) (.seq
  (.re [oA 9 (.mvs 0),oA 10 (.mv (.t 1)),oA 11 (.calls (.f 336) (.t 9) 0 [(.t 10)]),oA 12 (.bin .add (.ci 1) (.t 11)),oA 5 (.mv (.t 12))] [0,1,4,5]) (.seq (.seq
  (.re [oA 13 (.mvs 0),oA 14 (.calls (.f 336) (.t 13) 0 [(.ci 8)])] [0,1,4,5,14]) (.block 0 (.seq
  (.re [oA 16 (.bin .eql (.t 14) (.ci 0)),oA 15 (.mv (.t 16))] [0,1,4,5,14,15]) (.cond (.t 15) (.seq
  (.re [oA 17 (.mv (.t 5)),oA 18 (.call (.f 449) [aR 17]),oN (.st (some 2) (.t 4) (.t 18))] [0,1,4]) .ret) (.seq
  (.re [oA 20 (.bin .eql (.t 14) (.ci 1)),oA 19 (.mv (.t 20))] [0,1,4,5,14,19]) (.cond (.t 19) (.seq
  (.re [oA 21 (.mv (.t 5)),oA 22 (.call (.f 423) [aR 21]),oN (.st (some 2) (.t 4) (.t 22))] [0,1,4]) .ret) (.seq
  (.re [oA 24 (.bin .eql (.t 14) (.ci 2)),oA 23 (.mv (.t 24))] [0,1,4,5,14,23]) (.cond (.t 23) (.seq
  (.re [oA 25 (.mv (.t 5)),oA 26 (.bin .geq (.t 25) (.ci 4)),oA 27 (.mv (.t 26)),oI 28 27 true (.mv (.t 5)),oI 29 27 true (.bin .rem (.t 28) (.ci 2)),oI 30 27 true (.bin .eql (.t 29) (.ci 0)),oA 31 (.pick (.t 27) (.t 30) (.c (.bool false)))] [0,1,4,5,31]) (.cond (.t 31) (.seq
  (.re [oA 32 (.mvs 0),oA 33 (.mv (.t 5)),oA 34 (.bin .quo (.t 33) (.ci 2)),oA 35 (.calls (.f 459) (.t 32) 0 [(.t 34)]),oA 36 (.mvs 0),oA 37 (.calls (.f 459) (.t 36) 0 [(.ci 2)]),oA 38 (.call (.f 458) [aR 35,aR 37]),oN (.st (some 2) (.t 4) (.t 38))] [0,1,4]) .ret) .skip)) (.seq
  (.re [oA 40 (.bin .eql (.t 14) (.ci 3)),oA 39 (.mv (.t 40))] [0,1,4,5,14,39]) (.cond (.t 39) (.seq
  (.re [oA 41 (.mv (.t 5)),oA 42 (.bin .geq (.t 41) (.ci 2))] [0,1,4,5,42]) (.cond (.t 42) (.seq
  (.re [oA 43 (.mvs 0),oA 44 (.mv (.t 5)),oA 45 (.bin .sub (.t 44) (.ci 1)),oA 46 (.calls (.f 336) (.t 43) 0 [(.t 45)]),oA 47 (.bin .add (.ci 1) (.t 46)),oA 6 (.mv (.t 47))] [0,1,4,5,6]) (.seq
  (.re [oA 48 (.mvs 0),oA 49 (.mv (.t 6)),oA 50 (.calls (.f 445) (.t 48) 0 [(.t 49)]),oA 51 (.mvs 0),oA 52 (.mv (.t 5)),oA 53 (.mv (.t 6)),oA 54 (.bin .sub (.t 52) (.t 53)),oA 55 (.calls (.f 459) (.t 51) 0 [(.t 54)]),oA 56 (.call (.f 460) [aR 50,aR 55]),oN (.st (some 2) (.t 4) (.t 56))] [0,1,4]) .ret)) .skip)) (.seq
  (.re [oA 58 (.bin .eql (.t 14) (.ci 4)),oA 57 (.mv (.t 58))] [0,1,4,5,14,57]) (.cond (.t 57) (.seq
  (.re [oA 59 (.mv (.t 1)),oA 60 (.bin .geq (.t 59) (.ci 4))] [0,1,4,5,60]) (.cond (.t 60) (.seq
  (.re [oA 61 (.bsl [(.ci 0),(.ci 1),(.ci 3),(.ci 2)]),oA 62 (.bsl [(.ci 0),(.ci 1),(.ci 3),(.ci 2)]),oA 63 (.bsl [(.ci 1),(.ci 0),(.ci 2),(.ci 3)]),oA 64 (.bsl [(.ci 1),(.ci 0),(.ci 2),(.ci 3)]),oA 65 (.bsl [(.t 61),(.t 62),(.t 63),(.t 64)]),oA 7 (.asg (.t 65))] [0,1,4,7]) (.seq
  (.re [oA 66 (.mv (.t 7)),oA 67 (.call (.f 461) [aR 66]),oN (.st (some 2) (.t 4) (.t 67))] [0,1,4]) .ret)) .skip)) (.seq
  (.re [oA 69 (.bin .eql (.t 14) (.ci 5)),oA 68 (.mv (.t 69))] [0,1,4,5,14,68]) (.cond (.t 68) (.seq
  (.re [oA 70 (.mv (.t 5)),oA 71 (.bin .geq (.t 70) (.ci 2))] [0,1,4,5,71]) (.cond (.t 71) (.seq
  (.re [oA 72 (.mv (.t 5)),oA 73 (.call (.f 423) [aR 72]),oA 74 (.call (.f 406) [aR 73]),oN (.st (some 2) (.t 4) (.t 74))] [0,1,4]) .ret) .skip)) (.seq
  (.re [oA 76 (.bin .eql (.t 14) (.ci 6)),oA 75 (.mv (.t 76))] [0,1,4,5,75]) (.cond (.t 75) (.seq
  (.re [oA 77 (.mv (.t 1)),oA 78 (.bin .geq (.t 77) (.ci 3))] [0,1,4,5,78]) (.cond (.t 78) (.seq
  (.re [oA 79 (.bsl [(.ci 0),(.ci 1),(.ci 2)]),oA 80 (.bsl [(.ci 0),(.ci 1),(.ci 2)]),oA 81 (.bsl [(.ci 1),(.ci 0),(.ci 2)]),oA 82 (.bsl [(.t 79),(.t 80),(.t 81)]),oA 8 (.asg (.t 82))] [0,1,4,8]) (.seq
  (.re [oA 83 (.mv (.t 8)),oA 84 (.call (.f 461) [aR 83]),oN (.st (some 2) (.t 4) (.t 84))] [0,1,4]) .ret)) .skip)) .skip)))))))))))))))) (.seq
  (.re [oA 85 (.mvs 0),oA 86 (.mv (.t 5)),oA 87 (.calls (.f 459) (.t 85) 0 [(.t 86)]),oN (.st (some 2) (.t 4) (.t 87))] [0,1,4]) .ret))))

def c_spec_l02Flip:F where
 np:=1
 rs:=[.cell 2 (some 2)]
 body :=
  (.seq
  (.re [oA 2 (.alloc [(.slice none 0 0),(.slice none 0 0)])] [0,2]) (.seq
  (.re [oA 4 (.mv (.t 0)),oA 5 (.call (.f 334) [aR 4]),oA 3 (.asg (.t 5))] [2,3]) (.seq
  (.re [oA 6 (.mv (.t 3)),oA 7 (.mv (.t 3)),oA 8 (.call (.f 425) [aR 6,aR 7]),oN (.st (some 2) (.t 2) (.t 8))] [2]) .ret)))

def c_spec_l02Twist:F where
 np:=2
 rs:=[.cell 4 (some 2)]
 body :=
  (.seq
  (.re [oA 4 (.alloc [(.slice none 0 0),(.slice none 0 0)])] [0,1,4]) (.seq
  (.re [oA 9 (.build [(.slice none 0 0),(.slice none 0 0)] []),oA 5 (.alloc [(.slice none 0 0),(.slice none 0 0)]),oN (.st (some 2) (.t 5) (.t 9))] [0,1,4,5]) (.seq (.seq
  (.re [oA 6 (.mv (.ci 0))] [0,1,4,5,6]) (.block 0 (.loop (.seq (.seq
  (.re [oA 10 (.mv (.t 6)),oA 11 (.mv (.t 0)),oA 12 (.len (.t 11)),oA 13 (.bin .lss (.t 10) (.t 12))] [0,1,4,5,6,13]) (.cond (.t 13) .skip (.exit 0))) (.seq (.block 1 (.seq
  (.re [oA 16 (.bsl []),oA 7 (.asg (.t 16))] [0,1,4,5,6,7]) (.seq (.seq
  (.re [oA 8 (.mv (.ci 0))] [0,1,4,5,6,7,8]) (.block 2 (.loop (.seq (.seq
  (.re [oA 17 (.mv (.t 8)),oA 18 (.mv (.t 0)),oA 19 (.len (.t 18)),oA 20 (.bin .lss (.t 17) (.t 19))] [0,1,4,5,6,7,8,20]) (.cond (.t 20) .skip (.exit 2))) (.seq (.block 3
  (.re [oA 23 (.mv (.t 7)),oA 24 (.mv (.t 1)),oA 25 (.mv (.t 6)),oA 26 (.idx 1 (.t 24) (.t 25)),oA 27 (.ld none (.t 26)),oA 28 (.bsl [(.t 27)]),oA 29 (.app true 1 (.t 23) (.t 28)),oA 7 (.asg (.t 29))] [0,1,4,5,6,7,8]))
  (.re [oA 21 (.mv (.t 8)),oA 22 (.bin .add (.t 21) (.ci 1)),oA 8 (.mv (.t 22))] [0,1,4,5,6,7,8])))))) (.seq
  (.region (some [30,31,32,33,34]) [oA 30 (.fld 0 (.t 5)),oA 31 (.ld none (.t 30)),oA 32 (.mv (.t 0)),oA 33 (.call (.f 31) [aR 32]),oA 34 (.bsl1 33),oA 35 (.app true 1 (.t 31) (.t 34)),oA 36 (.fld 0 (.t 5)),oN (.st none (.t 36) (.t 35))] [0,1,4,5,6,7])
  (.re [oA 37 (.fld 1 (.t 5)),oA 38 (.ld none (.t 37)),oA 39 (.mv (.t 7)),oA 40 (.bsl [(.t 39)]),oA 41 (.app true 1 (.t 38) (.t 40)),oA 42 (.fld 1 (.t 5)),oN (.st none (.t 42) (.t 41))] [0,1,4,5,6])))))
  (.re [oA 14 (.mv (.t 6)),oA 15 (.bin .add (.t 14) (.ci 1)),oA 6 (.mv (.t 15))] [0,1,4,5,6])))))) (.seq
  (.re [oA 43 (.ld (some 2) (.t 5)),oN (.st (some 2) (.t 4) (.t 43))] [4]) .ret))))

def c_spec_l02Polygon:F where
 np:=1
 rs:=[.cell 2 (some 2)]
 body :=
  (.seq
  (.re [oA 2 (.alloc [(.slice none 0 0),(.slice none 0 0)])] [0,2]) (.seq
  (.re [oA 8 (.build [(.slice none 0 0),(.slice none 0 0)] []),oA 3 (.alloc [(.slice none 0 0),(.slice none 0 0)]),oN (.st (some 2) (.t 3) (.t 8))] [0,2,3]) (.seq (.seq
  (.re [oA 4 (.mv (.ci 0))] [0,2,3,4]) (.block 0 (.loop (.seq (.seq
  (.re [oA 9 (.mv (.t 4)),oA 10 (.mv (.t 0)),oA 11 (.bin .lss (.t 9) (.t 10))] [0,2,3,4,11]) (.cond (.t 11) .skip (.exit 0))) (.seq (.block 1 (.seq
  (.re [oA 14 (.bsl []),oA 15 (.bsl []),oA 5 (.asg (.t 14)),oA 6 (.asg (.t 15))] [0,2,3,4,5,6]) (.seq (.seq
  (.re [oA 7 (.mv (.ci 0))] [0,2,3,4,5,6,7]) (.block 2 (.loop (.seq (.seq
  (.re [oA 16 (.mv (.t 7)),oA 17 (.mv (.t 0)),oA 18 (.bin .lss (.t 16) (.t 17))] [0,2,3,4,5,6,7,18]) (.cond (.t 18) .skip (.exit 2))) (.seq (.block 3 (.seq
  (.re [oA 21 (.mv (.t 5)),oA 22 (.mv (.t 4)),oA 23 (.bin .mul (.ci 2) (.t 22)),oA 24 (.mv (.t 7)),oA 25 (.bin .sub (.t 23) (.t 24)),oA 26 (.mv (.t 0)),oA 27 (.bin .add (.t 25) (.t 26)),oA 28 (.mv (.t 0)),oA 29 (.bin .rem (.t 27) (.t 28)),oA 30 (.bsl [(.t 29)]),oA 31 (.app true 1 (.t 21) (.t 30)),oA 5 (.asg (.t 31))] [0,2,3,4,5,6,7])
  (.re [oA 32 (.mv (.t 6)),oA 33 (.mv (.t 4)),oA 34 (.bsl [(.t 33)]),oA 35 (.app true 1 (.t 32) (.t 34)),oA 6 (.asg (.t 35))] [0,2,3,4,5,6,7])))
  (.re [oA 19 (.mv (.t 7)),oA 20 (.bin .add (.t 19) (.ci 1)),oA 7 (.mv (.t 20))] [0,2,3,4,5,6,7])))))) (.seq
  (.re [oA 36 (.fld 0 (.t 3)),oA 37 (.ld none (.t 36)),oA 38 (.mv (.t 5)),oA 39 (.bsl [(.t 38)]),oA 40 (.app true 1 (.t 37) (.t 39)),oA 41 (.fld 0 (.t 3)),oN (.st none (.t 41) (.t 40))] [0,2,3,4,6])
  (.re [oA 42 (.fld 1 (.t 3)),oA 43 (.ld none (.t 42)),oA 44 (.mv (.t 6)),oA 45 (.bsl [(.t 44)]),oA 46 (.app true 1 (.t 43) (.t 45)),oA 47 (.fld 1 (.t 3)),oN (.st none (.t 47) (.t 46))] [0,2,3,4])))))
  (.re [oA 12 (.mv (.t 4)),oA 13 (.bin .add (.t 12) (.ci 1)),oA 4 (.mv (.t 13))] [0,2,3,4])))))) (.seq
  (.re [oA 48 (.ld (some 2) (.t 3)),oN (.st (some 2) (.t 2) (.t 48))] [2]) .ret))))

def c_spec_l02Twisted:F where
 np:=2
 rs:=[.cell 4 (some 2)]
 fix:=[0,1]
 body :=
  (.seq
  (.re [oA 4 (.alloc [(.slice none 0 0),(.slice none 0 0)])] [0,1,4]) (.seq
  (.re [oA 8 (.mvs 0),oA 9 (.mv (.t 1)),oA 10 (.calls (.f 368) (.t 8) 0 [(.t 9)]),oA 5 (.asg (.t 10))] [0,1,4,5]) (.seq
  (.re [oA 11 (.mv (.t 1)),oA 12 (.call (.f 334) [aR 11]),oA 6 (.asg (.t 12))] [0,1,4,5,6]) (.seq (.seq
  (.re [oA 13 (.mvs 0),oA 14 (.calls (.f 336) (.t 13) 0 [(.ci 4)]),oA 7 (.mv (.t 14))] [0,1,4,5,6,7]) (.block 0 (.loop (.seq (.seq
  (.re [oA 15 (.mv (.t 7)),oA 16 (.bin .gtr (.t 15) (.ci 0))] [0,1,4,5,6,7,16]) (.cond (.t 16) .skip (.exit 0))) (.seq (.block 1
  (.re [oA 19 (.mv (.t 6)),oA 20 (.mv (.t 5)),oA 21 (.call (.f 279) [aR 19,aR 20]),oA 6 (.asg (.t 21))] [0,1,4,5,6,7]))
  (.re [oA 17 (.mv (.t 7)),oA 18 (.bin .sub (.t 17) (.ci 1)),oA 7 (.mv (.t 18))] [0,1,4,5,6,7])))))) (.seq (.seq
  (.re [oA 22 (.mvs 0),oA 23 (.calls (.f 336) (.t 22) 0 [(.ci 2)]),oA 24 (.bin .eql (.t 23) (.ci 0))] [0,1,4,5,6,24]) (.cond (.t 24) (.seq
  (.re [oA 25 (.mv (.t 5)),oA 26 (.mv (.t 6)),oA 27 (.call (.f 425) [aR 25,aR 26]),oN (.st (some 2) (.t 4) (.t 27))] [0,1,4]) .ret) .skip)) (.seq
  (.re [oA 28 (.mv (.t 6)),oA 29 (.mv (.t 5)),oA 30 (.call (.f 425) [aR 28,aR 29]),oN (.st (some 2) (.t 4) (.t 30))] [0,1,4]) .ret))))))

def c_spec_l01Draw:F where
 np:=2
 rs:=[.t 4]
 fix:=[0,1]
 body :=
  (.seq
  (.re [oA 4 (.asg (.c (.slice none 0 0)))] [0,1]) (.seq
  (.re [oA 9 (.mv (.t 1)),oA 10 (.call (.f 334) [aR 9]),oA 5 (.asg (.t 10))] [0,1,5]) (.seq (.seq
  (.re [oA 11 (.mv (.t 1)),oA 12 (.bin .sub (.t 11) (.ci 1)),oA 6 (.mv (.t 12))] [0,1,5,6]) (.block 0 (.loop (.seq (.seq
  (.re [oA 13 (.mv (.t 6)),oA 14 (.bin .gtr (.t 13) (.ci 0))] [0,1,5,6,14]) (.cond (.t 14) .skip (.exit 0))) (.seq (.block 1 (.seq
  (.re [oA 17 (.mvs 0),oA 18 (.mv (.t 6)),oA 19 (.bin .add (.t 18) (.ci 1)),oA 20 (.calls (.f 336) (.t 17) 0 [(.t 19)]),oA 7 (.mv (.t 20))] [0,1,5,6,7]) (.seq
  (.re [oA 21 (.mv (.t 5)),oA 22 (.mv (.t 6)),oA 23 (.idx 1 (.t 21) (.t 22)),oA 24 (.ld none (.t 23)),oA 8 (.mv (.t 24))] [0,1,5,6,7,8]) (.seq
  (.re [oA 25 (.mv (.t 5)),oA 26 (.mv (.t 6)),oA 27 (.mv (.t 5)),oA 28 (.mv (.t 7)),oA 29 (.idx 1 (.t 27) (.t 28)),oA 30 (.ld none (.t 29)),oA 31 (.idx 1 (.t 25) (.t 26)),oN (.st none (.t 31) (.t 30))] [0,1,5,6,7,8])
  (.re [oA 32 (.mv (.t 5)),oA 33 (.mv (.t 7)),oA 34 (.mv (.t 8)),oA 35 (.idx 1 (.t 32) (.t 33)),oN (.st none (.t 35) (.t 34))] [0,1,5,6])))))
  (.re [oA 15 (.mv (.t 6)),oA 16 (.bin .sub (.t 15) (.ci 1)),oA 6 (.mv (.t 16))] [0,1,5,6])))))) (.seq
  (.re [oA 36 (.mv (.t 5)),oA 4 (.asg (.t 36))] [0,1,4]) .ret))))

def c_spec_l02Product:F where
 np:=2
 rs:=[.cell 4 (some 2)]
 body :=
  (.seq
  (.re [oA 2 (.box (.t 0)),oA 3 (.box (.t 1)),oA 4 (.alloc [(.slice none 0 0),(.slice none 0 0)])] [2,3,4]) (.seq
  (.region (some [5,12,13,14,15,16,17]) [oA 12 (.fld 0 (.t 2)),oA 13 (.ld none (.t 12)),oA 14 (.len (.t 13)),oA 15 (.fld 0 (.t 3)),oA 16 (.ld none (.t 15)),oA 17 (.len (.t 16)),oA 5 (.mv (.t 14)),oA 6 (.mv (.t 17))] [2,3,4,5,6]) (.seq
  (.re [oA 18 (.build [(.slice none 0 0),(.slice none 0 0)] []),oA 7 (.alloc [(.slice none 0 0),(.slice none 0 0)]),oN (.st (some 2) (.t 7) (.t 18))] [2,3,4,5,6,7]) (.seq (.seq
  (.re [oA 8 (.mv (.ci 0))] [2,3,4,5,6,7,8]) (.block 0 (.loop (.seq (.seq
  (.re [oA 19 (.mv (.t 8)),oA 20 (.mv (.t 5)),oA 21 (.mv (.t 6)),oA 22 (.bin .mul (.t 20) (.t 21)),oA 23 (.bin .lss (.t 19) (.t 22))] [2,3,4,5,6,7,8,23]) (.cond (.t 23) .skip (.exit 0))) (.seq (.block 1 (.seq
  (.re [oA 26 (.bsl []),oA 27 (.bsl []),oA 9 (.asg (.t 26)),oA 10 (.asg (.t 27))] [2,3,4,5,6,7,8,9,10]) (.seq (.seq
  (.re [oA 11 (.mv (.ci 0))] [2,3,4,5,6,7,8,9,10,11]) (.block 2 (.loop (.seq (.seq
  (.re [oA 28 (.mv (.t 11)),oA 29 (.mv (.t 5)),oA 30 (.mv (.t 6)),oA 31 (.bin .mul (.t 29) (.t 30)),oA 32 (.bin .lss (.t 28) (.t 31))] [2,3,4,5,6,7,8,9,10,11,32]) (.cond (.t 32) .skip (.exit 2))) (.seq (.block 3 (.seq
  (.region (some [35,36,37,38,39,40,41,42,43,44,45,46,47,48,49,50,51,52,53,54,55,56,57,58,59,60,61,62,63]) [oA 35 (.mv (.t 9)),oA 36 (.fld 0 (.t 2)),oA 37 (.ld none (.t 36)),oA 38 (.mv (.t 8)),oA 39 (.mv (.t 6)),oA 40 (.bin .quo (.t 38) (.t 39)),oA 41 (.idx 1 (.t 37) (.t 40)),oA 42 (.ld none (.t 41)),oA 43 (.mv (.t 11)),oA 44 (.mv (.t 6)),oA 45 (.bin .quo (.t 43) (.t 44)),oA 46 (.idx 1 (.t 42) (.t 45)),oA 47 (.ld none (.t 46)),oA 48 (.mv (.t 6)),oA 49 (.bin .mul (.t 47) (.t 48)),oA 50 (.fld 0 (.t 3)),oA 51 (.ld none (.t 50)),oA 52 (.mv (.t 8)),oA 53 (.mv (.t 6)),oA 54 (.bin .rem (.t 52) (.t 53)),oA 55 (.idx 1 (.t 51) (.t 54)),oA 56 (.ld none (.t 55)),oA 57 (.mv (.t 11)),oA 58 (.mv (.t 6)),oA 59 (.bin .rem (.t 57) (.t 58)),oA 60 (.idx 1 (.t 56) (.t 59)),oA 61 (.ld none (.t 60)),oA 62 (.bin .add (.t 49) (.t 61)),oA 63 (.bslv 1 [(.t 62)]),oA 64 (.app true 1 (.t 35) (.t 63)),oA 9 (.asg (.t 64))] [2,3,4,5,6,7,8,9,10,11])
  (.region (some [65,66,67,68,69,70,71,72,73,74,75,76,77,78,79,80,81,82,83,84,85,86,87,88,89,90,91,92,93]) [oA 65 (.mv (.t 10)),oA 66 (.fld 1 (.t 2)),oA 67 (.ld none (.t 66)),oA 68 (.mv (.t 8)),oA 69 (.mv (.t 6)),oA 70 (.bin .quo (.t 68) (.t 69)),oA 71 (.idx 1 (.t 67) (.t 70)),oA 72 (.ld none (.t 71)),oA 73 (.mv (.t 11)),oA 74 (.mv (.t 6)),oA 75 (.bin .quo (.t 73) (.t 74)),oA 76 (.idx 1 (.t 72) (.t 75)),oA 77 (.ld none (.t 76)),oA 78 (.mv (.t 6)),oA 79 (.bin .mul (.t 77) (.t 78)),oA 80 (.fld 1 (.t 3)),oA 81 (.ld none (.t 80)),oA 82 (.mv (.t 8)),oA 83 (.mv (.t 6)),oA 84 (.bin .rem (.t 82) (.t 83)),oA 85 (.idx 1 (.t 81) (.t 84)),oA 86 (.ld none (.t 85)),oA 87 (.mv (.t 11)),oA 88 (.mv (.t 6)),oA 89 (.bin .rem (.t 87) (.t 88)),oA 90 (.idx 1 (.t 86) (.t 89)),oA 91 (.ld none (.t 90)),oA 92 (.bin .add (.t 79) (.t 91)),oA 93 (.bslv 1 [(.t 92)]),oA 94 (.app true 1 (.t 65) (.t 93)),oA 10 (.asg (.t 94))] [2,3,4,5,6,7,8,9,10,11])))
  (.re [oA 33 (.mv (.t 11)),oA 34 (.bin .add (.t 33) (.ci 1)),oA 11 (.mv (.t 34))] [2,3,4,5,6,7,8,9,10,11])))))) (.seq
  (.re [oA 95 (.fld 0 (.t 7)),oA 96 (.ld none (.t 95)),oA 97 (.mv (.t 9)),oA 98 (.bsl [(.t 97)]),oA 99 (.app true 1 (.t 96) (.t 98)),oA 100 (.fld 0 (.t 7)),oN (.st none (.t 100) (.t 99))] [2,3,4,5,6,7,8,10])
  (.re [oA 101 (.fld 1 (.t 7)),oA 102 (.ld none (.t 101)),oA 103 (.mv (.t 10)),oA 104 (.bsl [(.t 103)]),oA 105 (.app true 1 (.t 102) (.t 104)),oA 106 (.fld 1 (.t 7)),oN (.st none (.t 106) (.t 105))] [2,3,4,5,6,7,8])))))
  (.re [oA 24 (.mv (.t 8)),oA 25 (.bin .add (.t 24) (.ci 1)),oA 8 (.mv (.t 25))] [2,3,4,5,6,7,8])))))) (.seq
  (.re [oA 107 (.ld (some 2) (.t 7)),oN (.st (some 2) (.t 4) (.t 107))] [4]) .ret)))))

def c_spec_l02Union:F where
 np:=2
 rs:=[.cell 4 (some 2)]
 body :=
  (.seq
  (.re [oA 2 (.box (.t 0)),oA 3 (.box (.t 1)),oA 4 (.alloc [(.slice none 0 0),(.slice none 0 0)])] [2,3,4]) (.seq
  (.region (some [5,12,13,14,15,16,17]) [oA 12 (.fld 0 (.t 2)),oA 13 (.ld none (.t 12)),oA 14 (.len (.t 13)),oA 15 (.fld 0 (.t 3)),oA 16 (.ld none (.t 15)),oA 17 (.len (.t 16)),oA 5 (.mv (.t 14)),oA 6 (.mv (.t 17))] [2,3,4,5,6]) (.seq
  (.re [oA 18 (.build [(.slice none 0 0),(.slice none 0 0)] []),oA 7 (.alloc [(.slice none 0 0),(.slice none 0 0)]),oN (.st (some 2) (.t 7) (.t 18))] [2,3,4,5,6,7]) (.seq (.seq
  (.re [oA 8 (.mv (.ci 0))] [2,3,4,5,6,7,8]) (.block 0 (.loop (.seq (.seq
  (.re [oA 19 (.mv (.t 8)),oA 20 (.mv (.t 5)),oA 21 (.mv (.t 6)),oA 22 (.bin .add (.t 20) (.t 21)),oA 23 (.bin .lss (.t 19) (.t 22))] [2,3,4,5,6,7,8,23]) (.cond (.t 23) .skip (.exit 0))) (.seq (.block 1 (.seq
  (.re [oA 26 (.bsl []),oA 27 (.bsl []),oA 9 (.asg (.t 26)),oA 10 (.asg (.t 27))] [2,3,4,5,6,7,8,9,10]) (.seq (.seq
  (.re [oA 11 (.mv (.ci 0))] [2,3,4,5,6,7,8,9,10,11]) (.block 2 (.loop (.seq (.seq
  (.re [oA 28 (.mv (.t 11)),oA 29 (.mv (.t 5)),oA 30 (.mv (.t 6)),oA 31 (.bin .add (.t 29) (.t 30)),oA 32 (.bin .lss (.t 28) (.t 31))] [2,3,4,5,6,7,8,9,10,11,32]) (.cond (.t 32) .skip (.exit 2))) (.seq (.block 3 (.block 4 (.seq
  (.re [oA 44 (.mv (.t 8)),oA 45 (.mv (.t 5)),oA 46 (.bin .lss (.t 44) (.t 45)),oA 47 (.mv (.t 46)),oI 48 47 true (.mv (.t 11)),oI 49 47 true (.mv (.t 5)),oI 50 47 true (.bin .lss (.t 48) (.t 49)),oA 51 (.pick (.t 47) (.t 50) (.c (.bool false))),oA 43 (.mv (.t 51))] [2,3,4,5,6,7,8,9,10,11,43]) (.cond (.t 43) (.seq
  (.re [oA 52 (.mv (.t 9)),oA 53 (.fld 0 (.t 2)),oA 54 (.ld none (.t 53)),oA 55 (.mv (.t 8)),oA 56 (.idx 1 (.t 54) (.t 55)),oA 57 (.ld none (.t 56)),oA 58 (.mv (.t 11)),oA 59 (.idx 1 (.t 57) (.t 58)),oA 60 (.ld none (.t 59)),oA 61 (.bsl [(.t 60)]),oA 62 (.app true 1 (.t 52) (.t 61)),oA 9 (.asg (.t 62))] [2,3,4,5,6,7,8,9,10,11])
  (.re [oA 63 (.mv (.t 10)),oA 64 (.fld 1 (.t 2)),oA 65 (.ld none (.t 64)),oA 66 (.mv (.t 8)),oA 67 (.idx 1 (.t 65) (.t 66)),oA 68 (.ld none (.t 67)),oA 69 (.mv (.t 11)),oA 70 (.idx 1 (.t 68) (.t 69)),oA 71 (.ld none (.t 70)),oA 72 (.bsl [(.t 71)]),oA 73 (.app true 1 (.t 63) (.t 72)),oA 10 (.asg (.t 73))] [2,3,4,5,6,7,8,9,10,11])) (.seq
  (.re [oA 75 (.mv (.t 8)),oA 76 (.mv (.t 5)),oA 77 (.bin .geq (.t 75) (.t 76)),oA 78 (.mv (.t 77)),oI 79 78 true (.mv (.t 11)),oI 80 78 true (.mv (.t 5)),oI 81 78 true (.bin .geq (.t 79) (.t 80)),oA 82 (.pick (.t 78) (.t 81) (.c (.bool false))),oA 74 (.mv (.t 82))] [2,3,4,5,6,7,8,9,10,11,74]) (.cond (.t 74) (.seq
  (.re [oA 83 (.mv (.t 9)),oA 84 (.fld 0 (.t 3)),oA 85 (.ld none (.t 84)),oA 86 (.mv (.t 8)),oA 87 (.mv (.t 5)),oA 88 (.bin .sub (.t 86) (.t 87)),oA 89 (.idx 1 (.t 85) (.t 88)),oA 90 (.ld none (.t 89)),oA 91 (.mv (.t 11)),oA 92 (.mv (.t 5)),oA 93 (.bin .sub (.t 91) (.t 92)),oA 94 (.idx 1 (.t 90) (.t 93)),oA 95 (.ld none (.t 94)),oA 96 (.mv (.t 5)),oA 97 (.bin .add (.t 95) (.t 96)),oA 98 (.bsl [(.t 97)]),oA 99 (.app true 1 (.t 83) (.t 98)),oA 9 (.asg (.t 99))] [2,3,4,5,6,7,8,9,10,11])
  (.re [oA 100 (.mv (.t 10)),oA 101 (.fld 1 (.t 3)),oA 102 (.ld none (.t 101)),oA 103 (.mv (.t 8)),oA 104 (.mv (.t 5)),oA 105 (.bin .sub (.t 103) (.t 104)),oA 106 (.idx 1 (.t 102) (.t 105)),oA 107 (.ld none (.t 106)),oA 108 (.mv (.t 11)),oA 109 (.mv (.t 5)),oA 110 (.bin .sub (.t 108) (.t 109)),oA 111 (.idx 1 (.t 107) (.t 110)),oA 112 (.ld none (.t 111)),oA 113 (.mv (.t 5)),oA 114 (.bin .add (.t 112) (.t 113)),oA 115 (.bsl [(.t 114)]),oA 116 (.app true 1 (.t 100) (.t 115)),oA 10 (.asg (.t 116))] [2,3,4,5,6,7,8,9,10,11])) (.seq
  (.re [oA 35 (.mv (.t 9)),oA 36 (.mv (.t 11)),oA 37 (.bsl [(.t 36)]),oA 38 (.app true 1 (.t 35) (.t 37)),oA 9 (.asg (.t 38))] [2,3,4,5,6,7,8,9,10,11])
  (.re [oA 39 (.mv (.t 10)),oA 40 (.mv (.t 8)),oA 41 (.bsl [(.t 40)]),oA 42 (.app true 1 (.t 39) (.t 41)),oA 10 (.asg (.t 42))] [2,3,4,5,6,7,8,9,10,11]))))))))
  (.re [oA 33 (.mv (.t 11)),oA 34 (.bin .add (.t 33) (.ci 1)),oA 11 (.mv (.t 34))] [2,3,4,5,6,7,8,9,10,11])))))) (.seq
  (.re [oA 117 (.fld 0 (.t 7)),oA 118 (.ld none (.t 117)),oA 119 (.mv (.t 9)),oA 120 (.bsl [(.t 119)]),oA 121 (.app true 1 (.t 118) (.t 120)),oA 122 (.fld 0 (.t 7)),oN (.st none (.t 122) (.t 121))] [2,3,4,5,6,7,8,10])
  (.re [oA 123 (.fld 1 (.t 7)),oA 124 (.ld none (.t 123)),oA 125 (.mv (.t 10)),oA 126 (.bsl [(.t 125)]),oA 127 (.app true 1 (.t 124) (.t 126)),oA 128 (.fld 1 (.t 7)),oN (.st none (.t 128) (.t 127))] [2,3,4,5,6,7,8])))))
  (.re [oA 24 (.mv (.t 8)),oA 25 (.bin .add (.t 24) (.ci 1)),oA 8 (.mv (.t 25))] [2,3,4,5,6,7,8])))))) (.seq
  (.re [oA 129 (.ld (some 2) (.t 7)),oN (.st (some 2) (.t 4) (.t 129))] [4]) .ret)))))

def c_spec_l02Involutive:F where
 np:=1
 rs:=[.cell 2 (some 2)]
 body :=
  (.seq
  (.re [oA 2 (.alloc [(.slice none 0 0),(.slice none 0 0)])] [0,2]) (.seq
  (.re [oA 7 (.mv (.t 0)),oA 8 (.call (.f 280) [aR 7]),oA 9 (.build [(.slice none 0 0),(.slice none 0 0)] [(0,1,(.t 8))]),oA 3 (.alloc [(.slice none 0 0),(.slice none 0 0)]),oN (.st (some 2) (.t 3) (.t 9))] [0,2,3]) (.seq (.seq
  (.re [oA 4 (.mv (.ci 0))] [0,2,3,4]) (.block 0 (.loop (.seq (.seq
  (.re [oA 10 (.mv (.t 4)),oA 11 (.mv (.t 0)),oA 12 (.len (.t 11)),oA 13 (.bin .lss (.t 10) (.t 12))] [0,2,3,4,13]) (.cond (.t 13) .skip (.exit 0))) (.seq (.block 1 (.seq
  (.re [oA 16 (.bsl []),oA 5 (.asg (.t 16))] [0,2,3,4,5]) (.seq (.seq
  (.re [oA 6 (.mv (.ci 0))] [0,2,3,4,5,6]) (.block 2 (.loop (.seq (.seq
  (.re [oA 17 (.mv (.t 6)),oA 18 (.mv (.t 0)),oA 19 (.len (.t 18)),oA 20 (.bin .lss (.t 17) (.t 19))] [0,2,3,4,5,6,20]) (.cond (.t 20) .skip (.exit 2))) (.seq (.block 3
  (.re [oA 23 (.mv (.t 5)),oA 24 (.mv (.t 0)),oA 25 (.mv (.t 0)),oA 26 (.mv (.t 4)),oA 27 (.idx 1 (.t 25) (.t 26)),oA 28 (.ld none (.t 27)),oA 29 (.mv (.t 6)),oA 30 (.idx 1 (.t 28) (.t 29)),oA 31 (.ld none (.t 30)),oA 32 (.idx 1 (.t 24) (.t 31)),oA 33 (.ld none (.t 32)),oA 34 (.mv (.t 4)),oA 35 (.call (.f 69) [aR 33,aR 34]),oA 36 (.bsl [(.t 35)]),oA 37 (.app true 1 (.t 23) (.t 36)),oA 5 (.asg (.t 37))] [0,2,3,4,5,6]))
  (.re [oA 21 (.mv (.t 6)),oA 22 (.bin .add (.t 21) (.ci 1)),oA 6 (.mv (.t 22))] [0,2,3,4,5,6]))))))
  (.re [oA 38 (.fld 1 (.t 3)),oA 39 (.ld none (.t 38)),oA 40 (.mv (.t 5)),oA 41 (.bsl [(.t 40)]),oA 42 (.app true 1 (.t 39) (.t 41)),oA 43 (.fld 1 (.t 3)),oN (.st none (.t 43) (.t 42))] [0,2,3,4]))))
  (.re [oA 14 (.mv (.t 4)),oA 15 (.bin .add (.t 14) (.ci 1)),oA 4 (.mv (.t 15))] [0,2,3,4])))))) (.seq
  (.re [oA 44 (.ld (some 2) (.t 3)),oN (.st (some 2) (.t 2) (.t 44))] [2]) .ret))))

def c_spec_l02Rename:F where
 np:=2
 rs:=[.cell 4 (some 2)]
 body :=
  (.seq
  (.re [oA 2 (.box (.t 0)),oA 4 (.alloc [(.slice none 0 0),(.slice none 0 0)])] [1,2,4]) (.seq
  (.region (some [5,6,7,8,9,10,11]) [oA 5 (.fld 0 (.t 2)),oA 6 (.ld none (.t 5)),oA 7 (.mv (.t 1)),oA 8 (.call (.f 367) [aR 6,aR 7]),oA 9 (.fld 1 (.t 2)),oA 10 (.ld none (.t 9)),oA 11 (.mv (.t 1)),oA 12 (.call (.f 367) [aR 10,aR 11]),oA 13 (.build [(.slice none 0 0),(.slice none 0 0)] [(0,1,(.t 8)),(1,1,(.t 12))]),oN (.st (some 2) (.t 4) (.t 13))] [4]) .ret))

def c_spec_l01Rename:F where
 np:=2
 rs:=[.t 4]
 body :=
  (.seq
  (.re [oA 4 (.asg (.c (.slice none 0 0)))] [0,1]) (.seq
  (.re [oA 10 (.bsl []),oA 5 (.asg (.t 10))] [0,1,5]) (.seq (.seq
  (.re [oA 6 (.mv (.ci 0))] [0,1,5,6]) (.block 0 (.loop (.seq (.seq
  (.re [oA 11 (.mv (.t 6)),oA 12 (.mv (.t 0)),oA 13 (.len (.t 12)),oA 14 (.bin .lss (.t 11) (.t 13))] [0,1,5,6,14]) (.cond (.t 14) .skip (.exit 0))) (.seq (.block 1
  (.re [oA 17 (.mv (.t 5)),oA 18 (.mv (.t 0)),oA 19 (.len (.t 18)),oA 20 (.mks (.int .i64 0) (.t 19)),oA 21 (.bsl [(.t 20)]),oA 22 (.app true 1 (.t 17) (.t 21)),oA 5 (.asg (.t 22))] [0,1,5,6]))
  (.re [oA 15 (.mv (.t 6)),oA 16 (.bin .add (.t 15) (.ci 1)),oA 6 (.mv (.t 16))] [0,1,5,6])))))) (.seq (.seq
  (.re [oA 7 (.mv (.ci 0))] [0,1,5,7]) (.block 2 (.loop (.seq (.seq
  (.re [oA 23 (.mv (.t 7)),oA 24 (.mv (.t 0)),oA 25 (.len (.t 24)),oA 26 (.bin .lss (.t 23) (.t 25))] [0,1,5,7,26]) (.cond (.t 26) .skip (.exit 2))) (.seq (.block 3 (.seq
  (.re [oA 29 (.mv (.t 5)),oA 30 (.mv (.t 1)),oA 31 (.mv (.t 7)),oA 32 (.idx 1 (.t 30) (.t 31)),oA 33 (.ld none (.t 32)),oA 34 (.idx 1 (.t 29) (.t 33)),oA 35 (.ld none (.t 34)),oA 8 (.mv (.t 35))] [0,1,5,7,8]) (.seq
  (.re [oA 9 (.mv (.ci 0))] [0,1,5,7,8,9]) (.block 4 (.loop (.seq (.seq
  (.re [oA 36 (.mv (.t 9)),oA 37 (.mv (.t 0)),oA 38 (.len (.t 37)),oA 39 (.bin .lss (.t 36) (.t 38))] [0,1,5,7,8,9,39]) (.cond (.t 39) .skip (.exit 4))) (.seq (.block 5
  (.region (some [42,43,44,45,46,47,48,49,50,51,52,53,54,55,56]) [oA 42 (.mv (.t 8)),oA 43 (.mv (.t 1)),oA 44 (.mv (.t 9)),oA 45 (.idx 1 (.t 43) (.t 44)),oA 46 (.ld none (.t 45)),oA 47 (.mv (.t 1)),oA 48 (.mv (.t 0)),oA 49 (.mv (.t 7)),oA 50 (.idx 1 (.t 48) (.t 49)),oA 51 (.ld none (.t 50)),oA 52 (.mv (.t 9)),oA 53 (.idx 1 (.t 51) (.t 52)),oA 54 (.ld none (.t 53)),oA 55 (.idx 1 (.t 47) (.t 54)),oA 56 (.ld none (.t 55)),oA 57 (.idx 1 (.t 42) (.t 46)),oN (.st none (.t 57) (.t 56))] [0,1,5,7,8,9]))
  (.re [oA 40 (.mv (.t 9)),oA 41 (.bin .add (.t 40) (.ci 1)),oA 9 (.mv (.t 41))] [0,1,5,7,8,9]))))))))
  (.re [oA 27 (.mv (.t 7)),oA 28 (.bin .add (.t 27) (.ci 1)),oA 7 (.mv (.t 28))] [0,1,5,7])))))) (.seq
  (.re [oA 58 (.mv (.t 5)),oA 4 (.asg (.t 58))] [4]) .ret)))))

def c_spec_l05Cycle:F where
 np:=1
 rs:=[.cell 2 (some 1)]
 body :=
  (.seq
  (.re [oA 1 (.box (.t 0)),oA 2 (.alloc [(.slice none 0 0)])] [1,2]) (.seq
  (.re [oA 5 (.build [(.slice none 0 0)] []),oA 3 (.alloc [(.slice none 0 0)]),oN (.st (some 1) (.t 3) (.t 5))] [1,2,3]) (.seq (.seq
  (.re [oA 4 (.mv (.ci 0))] [1,2,3,4]) (.block 0 (.loop (.seq (.seq
  (.re [oA 6 (.mv (.t 4)),oA 7 (.fld 0 (.t 1)),oA 8 (.ld none (.t 7)),oA 9 (.len (.t 8)),oA 10 (.bin .lss (.t 6) (.t 9))] [1,2,3,4,10]) (.cond (.t 10) .skip (.exit 0))) (.seq (.block 1
  (.region (some [13,14,15,16,17,18,19,20,21]) [oA 13 (.fld 0 (.t 3)),oA 14 (.ld none (.t 13)),oA 15 (.fld 0 (.t 1)),oA 16 (.ld none (.t 15)),oA 17 (.mv (.t 4)),oA 18 (.idx 1 (.t 16) (.t 17)),oA 19 (.ld none (.t 18)),oA 20 (.call (.f 304) [aR 19]),oA 21 (.bsl1 20),oA 22 (.app true 1 (.t 14) (.t 21)),oA 23 (.fld 0 (.t 3)),oN (.st none (.t 23) (.t 22))] [1,2,3,4]))
  (.re [oA 11 (.mv (.t 4)),oA 12 (.bin .add (.t 11) (.ci 1)),oA 4 (.mv (.t 12))] [1,2,3,4])))))) (.seq
  (.re [oA 24 (.ld (some 1) (.t 3)),oN (.st (some 1) (.t 2) (.t 24))] [2]) .ret))))

def c_spec_l05Solution:F where
 np:=1
 rs:=[.cell 2 (some 2)]
 body :=
  (.seq
  (.re [oA 1 (.box (.t 0)),oA 2 (.alloc [(.slice none 0 0),(.slice none 0 0)])] [1,2]) (.seq
  (.re [oA 10 (.fld 0 (.t 1)),oA 11 (.ld none (.t 10)),oA 12 (.len (.t 11)),oA 3 (.mv (.t 12))] [1,2,3]) (.seq
  (.re [oA 13 (.mv (.t 3)),oA 14 (.call (.f 398) [aR 13]),oA 4 (.alloc [(.slice none 0 0),(.slice none 0 0)]),oN (.st (some 2) (.t 4) (.t 14))] [1,2,3,4]) (.seq (.seq
  (.re [oA 5 (.mv (.ci 0))] [1,2,3,4,5]) (.block 0 (.loop (.seq (.seq
  (.re [oA 15 (.mv (.t 5)),oA 16 (.mv (.t 3)),oA 17 (.bin .lss (.t 15) (.t 16))] [1,2,3,4,5,17]) (.cond (.t 17) .skip (.exit 0))) (.seq (.block 1 (.seq
  (.region (some [6,20,21,22,23,24,25,26,27,28,29]) [oA 20 (.fld 0 (.t 4)),oA 21 (.ld none (.t 20)),oA 22 (.mv (.t 5)),oA 23 (.idx 1 (.t 21) (.t 22)),oA 24 (.ld none (.t 23)),oA 25 (.fld 1 (.t 4)),oA 26 (.ld none (.t 25)),oA 27 (.mv (.t 5)),oA 28 (.idx 1 (.t 26) (.t 27)),oA 29 (.ld none (.t 28)),oA 6 (.mv (.t 24)),oA 7 (.mv (.t 29))] [1,2,3,4,5,6,7]) (.seq
  (.re [oA 8 (.mv (.ci 0))] [1,2,3,4,5,6,7,8]) (.block 2 (.loop (.seq (.seq
  (.re [oA 30 (.mv (.t 8)),oA 31 (.mv (.t 3)),oA 32 (.bin .lss (.t 30) (.t 31))] [1,2,3,4,5,6,7,8,32]) (.cond (.t 32) .skip (.exit 2))) (.seq (.block 3 (.seq
  (.re [oA 35 (.fld 0 (.t 1)),oA 36 (.ld none (.t 35)),oA 37 (.mv (.t 5)),oA 38 (.idx 1 (.t 36) (.t 37)),oA 39 (.ld none (.t 38)),oA 40 (.mv (.t 8)),oA 41 (.call (.f 69) [aR 39,aR 40]),oA 9 (.mv (.t 41))] [1,2,3,4,5,6,7,8,9]) (.seq
  (.re [oA 42 (.mv (.t 6)),oA 43 (.mv (.t 8)),oA 44 (.mv (.t 9)),oA 45 (.idx 1 (.t 42) (.t 43)),oN (.st none (.t 45) (.t 44))] [1,2,3,4,5,6,7,8,9])
  (.re [oA 46 (.mv (.t 7)),oA 47 (.mv (.t 8)),oA 48 (.fld 0 (.t 1)),oA 49 (.ld none (.t 48)),oA 50 (.mv (.t 9)),oA 51 (.idx 1 (.t 49) (.t 50)),oA 52 (.ld none (.t 51)),oA 53 (.mv (.t 5)),oA 54 (.idx 1 (.t 52) (.t 53)),oA 55 (.ld none (.t 54)),oA 56 (.idx 1 (.t 46) (.t 47)),oN (.st none (.t 56) (.t 55))] [1,2,3,4,5,6,7,8]))))
  (.re [oA 33 (.mv (.t 8)),oA 34 (.bin .add (.t 33) (.ci 1)),oA 8 (.mv (.t 34))] [1,2,3,4,5,6,7,8]))))))))
  (.re [oA 18 (.mv (.t 5)),oA 19 (.bin .add (.t 18) (.ci 1)),oA 5 (.mv (.t 19))] [1,2,3,4,5])))))) (.seq
  (.re [oA 57 (.ld (some 2) (.t 4)),oN (.st (some 2) (.t 2) (.t 57))] [2]) .ret)))))

def c_spec_l02Spoil:F where
 np:=2
 rs:=[.cell 4 (some 2)]
 fix:=[0,1]
 body :=
  (.seq
  (.re [oA 4 (.alloc [(.slice none 0 0),(.slice none 0 0)])] [0,1,4]) (.seq
  (.re [oA 8 (.mvs 0),oA 9 (.mv (.t 1)),oA 10 (.calls (.f 412) (.t 8) 0 [(.t 9)]),oA 5 (.alloc [(.slice none 0 0),(.slice none 0 0)]),oN (.st (some 2) (.t 5) (.t 10))] [0,1,4,5]) (.seq
  (.re [oA 11 (.fld 0 (.t 5)),oA 12 (.ld none (.t 11)),oA 13 (.len (.t 12)),oA 6 (.mv (.t 13))] [0,1,4,5,6]) (.seq (.seq
  (.re [oA 14 (.mvs 0),oA 15 (.calls (.f 336) (.t 14) 0 [(.ci 24)])] [0,1,4,5,6,15]) (.block 0 (.seq
  (.re [oA 17 (.bin .eql (.t 15) (.ci 0)),oA 16 (.mv (.t 17))] [0,1,4,5,6,15,16]) (.cond (.t 16)
  (.region (some [18,19,20,21,22,23,24,25]) [oA 18 (.fld 0 (.t 5)),oA 19 (.ld none (.t 18)),oA 20 (.mvs 0),oA 21 (.mv (.t 6)),oA 22 (.calls (.f 336) (.t 20) 0 [(.t 21)]),oA 23 (.mvs 0),oA 24 (.mv (.t 6)),oA 25 (.calls (.f 368) (.t 23) 0 [(.t 24)]),oA 26 (.idx 1 (.t 19) (.t 22)),oN (.st none (.t 26) (.t 25))] [0,1,4,5]) (.seq
  (.re [oA 28 (.bin .eql (.t 15) (.ci 1)),oA 27 (.mv (.t 28))] [0,1,4,5,6,15,27]) (.cond (.t 27) (.seq
  (.region (some [29,30,31,32,33]) [oA 29 (.fld 1 (.t 5)),oA 30 (.ld none (.t 29)),oA 31 (.mvs 0),oA 32 (.mv (.t 6)),oA 33 (.calls (.f 336) (.t 31) 0 [(.t 32)]),oA 34 (.idx 1 (.t 30) (.t 33)),oA 35 (.ld none (.t 34)),oA 7 (.mv (.t 35))] [0,1,4,5,6,7])
  (.re [oA 36 (.mv (.t 7)),oA 37 (.mvs 0),oA 38 (.mv (.t 6)),oA 39 (.calls (.f 336) (.t 37) 0 [(.t 38)]),oA 40 (.mvs 0),oA 41 (.mv (.t 6)),oA 42 (.calls (.f 336) (.t 40) 0 [(.t 41)]),oA 43 (.idx 1 (.t 36) (.t 39)),oN (.st none (.t 43) (.t 42))] [0,1,4,5])) (.seq
  (.re [oA 45 (.bin .eql (.t 15) (.ci 2)),oA 44 (.mv (.t 45))] [0,1,4,5,6,15,44]) (.cond (.t 44)
  (.re [oA 46 (.mvs 0),oA 47 (.mv (.t 6)),oA 48 (.calls (.f 428) (.t 46) 0 [(.t 47)]),oA 49 (.mvs 0),oA 50 (.mv (.t 6)),oA 51 (.calls (.f 428) (.t 49) 0 [(.t 50)]),oA 52 (.build [(.slice none 0 0),(.slice none 0 0)] [(0,1,(.t 48)),(1,1,(.t 51))]),oN (.st (some 2) (.t 5) (.t 52))] [0,1,4,5]) (.seq
  (.re [oA 54 (.bin .eql (.t 15) (.ci 3)),oA 53 (.mv (.t 54))] [0,1,4,5,6,15,53]) (.cond (.t 53)
  (.re [oA 55 (.mvs 0),oA 56 (.mv (.t 6)),oA 57 (.calls (.f 413) (.t 55) 0 [(.t 56)]),oA 58 (.fld 1 (.t 5)),oN (.st none (.t 58) (.t 57))] [0,1,4,5]) (.seq
  (.re [oA 60 (.bin .eql (.t 15) (.ci 4)),oA 59 (.mv (.t 60))] [0,1,4,5,6,59]) (.cond (.t 59)
  (.re [oA 61 (.mvs 0),oA 62 (.mv (.t 6)),oA 63 (.calls (.f 413) (.t 61) 0 [(.t 62)]),oA 64 (.fld 0 (.t 5)),oN (.st none (.t 64) (.t 63))] [0,1,4,5]) .skip)))))))))))) (.seq
  (.re [oA 65 (.ld (some 2) (.t 5)),oN (.st (some 2) (.t 4) (.t 65))] [0,1,4]) .ret)))))

def c_spec_l01Tables:F where
 np:=2
 rs:=[.t 4]
 fix:=[0,1]
 body :=
  (.seq
  (.re [oA 4 (.asg (.c (.slice none 0 0)))] [0,1]) (.seq
  (.re [oA 12 (.bsl []),oA 13 (.mvs 0),oA 14 (.calls (.f 336) (.t 13) 0 [(.ci 3)]),oA 5 (.asg (.t 12)),oA 6 (.mv (.t 14))] [0,1,5,6]) (.seq
  (.re [oA 15 (.mvs 0),oA 16 (.mv (.t 1)),oA 17 (.calls (.f 368) (.t 15) 0 [(.t 16)]),oA 7 (.asg (.t 17))] [0,1,5,6,7]) (.seq (.seq
  (.re [oA 8 (.mv (.ci 0))] [0,1,5,6,7,8]) (.block 0 (.loop (.seq (.seq
  (.re [oA 18 (.mv (.t 8)),oA 19 (.mv (.t 1)),oA 20 (.bin .lss (.t 18) (.t 19))] [0,1,5,6,7,8,20]) (.cond (.t 20) .skip (.exit 0))) (.seq (.block 1 (.seq
  (.re [oA 23 (.mvs 0),oA 24 (.mv (.t 1)),oA 25 (.calls (.f 368) (.t 23) 0 [(.t 24)]),oA 9 (.asg (.t 25))] [0,1,5,6,7,8,9]) (.seq (.seq
  (.re [oA 26 (.mv (.t 6))] [0,1,5,6,7,8,9,26]) (.block 2 (.seq
  (.re [oA 28 (.bin .eql (.t 26) (.ci 0)),oA 27 (.mv (.t 28))] [0,1,5,6,7,8,9,26,27]) (.cond (.t 27) (.seq
  (.re [oA 10 (.mv (.ci 0))] [0,1,5,6,7,8,9,10]) (.block 3 (.loop (.seq (.seq
  (.re [oA 29 (.mv (.t 10)),oA 30 (.mv (.t 1)),oA 31 (.bin .lss (.t 29) (.t 30))] [0,1,5,6,7,8,9,10,31]) (.cond (.t 31) .skip (.exit 3))) (.seq (.block 4
  (.re [oA 34 (.mv (.t 9)),oA 35 (.mv (.t 10)),oA 36 (.mvs 0),oA 37 (.mv (.t 1)),oA 38 (.calls (.f 336) (.t 36) 0 [(.t 37)]),oA 39 (.idx 1 (.t 34) (.t 35)),oN (.st none (.t 39) (.t 38))] [0,1,5,6,7,8,9,10]))
  (.re [oA 32 (.mv (.t 10)),oA 33 (.bin .add (.t 32) (.ci 1)),oA 10 (.mv (.t 33))] [0,1,5,6,7,8,9,10])))))) (.seq
  (.re [oA 41 (.bin .eql (.t 26) (.ci 1)),oA 40 (.mv (.t 41))] [0,1,5,6,7,8,9,40]) (.cond (.t 40) (.seq
  (.re [oA 11 (.mv (.ci 0))] [0,1,5,6,7,8,9,11]) (.block 5 (.loop (.seq (.seq
  (.re [oA 42 (.mv (.t 11)),oA 43 (.mv (.t 1)),oA 44 (.bin .lss (.t 42) (.t 43))] [0,1,5,6,7,8,9,11,44]) (.cond (.t 44) .skip (.exit 5))) (.seq (.block 6
  (.re [oA 47 (.mv (.t 9)),oA 48 (.mv (.t 11)),oA 49 (.mv (.t 7)),oA 50 (.mv (.t 8)),oA 51 (.mv (.t 11)),oA 52 (.bin .add (.t 50) (.t 51)),oA 53 (.mv (.t 1)),oA 54 (.bin .rem (.t 52) (.t 53)),oA 55 (.idx 1 (.t 49) (.t 54)),oA 56 (.ld none (.t 55)),oA 57 (.idx 1 (.t 47) (.t 48)),oN (.st none (.t 57) (.t 56))] [0,1,5,6,7,8,9,11]))
  (.re [oA 45 (.mv (.t 11)),oA 46 (.bin .add (.t 45) (.ci 1)),oA 11 (.mv (.t 46))] [0,1,5,6,7,8,9,11])))))) .skip))))))
  (.re [oA 58 (.mv (.t 5)),oA 59 (.mv (.t 9)),oA 60 (.bsl [(.t 59)]),oA 61 (.app true 1 (.t 58) (.t 60)),oA 5 (.asg (.t 61))] [0,1,5,6,7,8]))))
  (.re [oA 21 (.mv (.t 8)),oA 22 (.bin .add (.t 21) (.ci 1)),oA 8 (.mv (.t 22))] [0,1,5,6,7,8])))))) (.seq
  (.re [oA 62 (.mv (.t 5)),oA 4 (.asg (.t 62))] [0,1,4]) .ret)))))

def c_spec_l01Bad:F where
 np:=2
 rs:=[.t 4]
 fix:=[0,1]
 body :=
  (.seq
  (.re [oA 4 (.asg (.c (.slice none 0 0)))] [0,1]) (.seq
  (.re [oA 6 (.mvs 0),oA 7 (.mv (.t 1)),oA 8 (.calls (.f 428) (.t 6) 0 [(.t 7)]),oA 5 (.asg (.t 8))] [0,1,5]) (.seq (.seq
  (.re [oA 9 (.mvs 0),oA 10 (.calls (.f 336) (.t 9) 0 [(.ci 30)])] [0,1,5,10]) (.block 0 (.seq
  (.re [oA 12 (.bin .eql (.t 10) (.ci 0)),oA 11 (.mv (.t 12))] [0,1,5,10,11]) (.cond (.t 11)
  (.re [oA 13 (.mv (.t 5)),oA 14 (.mv (.t 1)),oA 15 (.call (.f 334) [aR 14]),oA 16 (.bsl [(.t 15)]),oA 17 (.app true 1 (.t 13) (.t 16)),oA 5 (.asg (.t 17))] [0,1,5]) (.seq
  (.re [oA 19 (.bin .eql (.t 10) (.ci 1)),oA 18 (.mv (.t 19))] [0,1,5,10,18]) (.cond (.t 18)
  (.re [oA 20 (.mv (.t 5)),oA 21 (.mv (.t 5)),oA 22 (.idx 1 (.t 21) (.ci 0)),oA 23 (.ld none (.t 22)),oA 24 (.bsl [(.ci 0)]),oA 25 (.app true 1 (.t 23) (.t 24)),oA 26 (.idx 1 (.t 20) (.ci 0)),oN (.st none (.t 26) (.t 25))] [0,1,5]) (.seq
  (.re [oA 28 (.bin .eql (.t 10) (.ci 2)),oA 27 (.mv (.t 28))] [0,1,5,10,27]) (.cond (.t 27)
  (.region (some [29,30,31,32,33,34,35]) [oA 29 (.mv (.t 5)),oA 30 (.idx 1 (.t 29) (.ci 0)),oA 31 (.ld none (.t 30)),oA 32 (.mvs 0),oA 33 (.mv (.t 1)),oA 34 (.bslw 1 [(.c (.int .i64 (-1))),(.t 33),(.ci 1099511627776)]),oA 35 (.calls (.f 292) (.t 32) 0 [(.t 34)]),oA 36 (.idx 1 (.t 31) (.ci 0)),oN (.st none (.t 36) (.t 35))] [0,1,5]) (.seq
  (.re [oA 38 (.bin .eql (.t 10) (.ci 3)),oA 37 (.mv (.t 38))] [0,1,5,10,37]) (.cond (.t 37)
  (.re [oA 39 (.bsl []),oA 5 (.asg (.t 39))] [0,1,5]) (.seq
  (.re [oA 41 (.bin .eql (.t 10) (.ci 4)),oA 40 (.mv (.t 41))] [0,1,5,40]) (.cond (.t 40)
  (.re [oA 42 (.mvs 0),oA 43 (.calls (.f 428) (.t 42) 0 [(.ci 13)]),oA 5 (.asg (.t 43))] [0,1,5]) .skip)))))))))))) (.seq
  (.re [oA 44 (.mv (.t 5)),oA 4 (.asg (.t 44))] [0,1,4]) .ret))))

def c_spec_l01Pick:F where
 np:=2
 rs:=[.t 4]
 fix:=[0,1]
 body :=
  (.seq
  (.re [oA 4 (.mv (.ci 0))] [0,1]) (.seq
  (.re [oA 5 (.mv (.t 1)),oA 6 (.mvs 0),oA 7 (.mv (.t 1)),oA 8 (.len (.t 7)),oA 9 (.calls (.f 336) (.t 6) 0 [(.t 8)]),oA 10 (.idx 1 (.t 5) (.t 9)),oA 11 (.ld none (.t 10)),oA 4 (.mv (.t 11))] [0,1,4]) .ret))

def c_spec_l01From:F where
 np:=1
 rs:=[.t 2]
 body :=
  (.seq
  (.re [oA 2 (.asg (.c (.pointer none)))] [0]) (.seq
  (.re [oA 5 (.mv (.t 0)),oA 6 (.mv (.t 0)),oA 7 (.len (.t 6)),oA 8 (.conv .u64 (.t 7)),oA 9 (.bin .add (.c (.int .u64 6553)) (.t 8)),oA 10 (.build [(.slice none 0 0),(.int .i64 0),(.int .u64 0)] [(0,1,(.t 5)),(2,1,(.t 9))]),oA 11 (.box (.t 10)),oA 3 (.asg (.t 11))] [0,3]) (.seq (.seq
  (.re [oA 4 (.mv (.ci 0))] [0,3,4]) (.block 0 (.loop (.seq (.seq
  (.re [oA 12 (.mv (.t 4)),oA 13 (.mv (.t 0)),oA 14 (.len (.t 13)),oA 15 (.bin .lss (.t 12) (.t 14)),oA 16 (.mv (.t 15)),oI 17 16 true (.mv (.t 4)),oI 18 16 true (.bin .lss (.t 17) (.ci 4096)),oA 19 (.pick (.t 16) (.t 18) (.c (.bool false)))] [0,3,4,19]) (.cond (.t 19) .skip (.exit 0))) (.seq (.block 1
  (.region (some [22,23,24,25,26,27,28,29,30,31,32,33,34]) [oA 22 (.mv (.t 3)),oA 23 (.mv (.t 3)),oA 24 (.nilck (.t 23)),oA 25 (.fld 2 (.t 24)),oA 26 (.ld none (.t 25)),oA 27 (.bin .mul (.t 26) (.c (.int .u64 1099511628211))),oA 28 (.mv (.t 0)),oA 29 (.mv (.t 4)),oA 30 (.idx 1 (.t 28) (.t 29)),oA 31 (.ld none (.t 30)),oA 32 (.conv .u64 (.t 31)),oA 33 (.bin .add (.t 27) (.t 32)),oA 34 (.bin .add (.t 33) (.c (.int .u64 11))),oA 35 (.nilck (.t 22)),oA 36 (.fld 2 (.t 35)),oN (.st none (.t 36) (.t 34))] [0,3,4]))
  (.re [oA 20 (.mv (.t 4)),oA 21 (.bin .add (.t 20) (.ci 1)),oA 4 (.mv (.t 21))] [0,3,4])))))) (.seq
  (.re [oA 37 (.mv (.t 3)),oA 2 (.asg (.t 37))] [2]) .ret))))

def c_laws_big:F where
 np:=1
 rs:=[.t 2]
 body :=
  (.seq
  (.re [oA 2 (.mv (.c (.bool false)))] [0]) (.seq
  (.re [oA 3 (.mv (.t 0)),oA 4 (.len (.t 3)),oA 5 (.bin .gtr (.t 4) (.ci 4096)),oA 2 (.mv (.t 5))] [2]) .ret))

def c_laws_likeRows5:F where
 np:=2
 rs:=[.t 4]
 body :=
  (.seq
  (.re [oA 4 (.mv (.c (.bool false)))] [0,1]) (.seq (.seq
  (.re [oA 6 (.mv (.t 0)),oA 7 (.len (.t 6)),oA 8 (.mv (.t 1)),oA 9 (.len (.t 8)),oA 10 (.bin .neq (.t 7) (.t 9))] [0,1,10]) (.cond (.t 10) (.seq
  (.re [oA 4 (.mv (.c (.bool false)))] [4]) .ret) .skip)) (.seq (.seq
  (.re [oA 5 (.mv (.ci 0))] [0,1,5]) (.block 0 (.loop (.seq (.seq
  (.re [oA 11 (.mv (.t 5)),oA 12 (.mv (.t 0)),oA 13 (.len (.t 12)),oA 14 (.bin .lss (.t 11) (.t 13))] [0,1,5,14]) (.cond (.t 14) .skip (.exit 0))) (.seq (.block 1 (.seq
  (.region (some [17,18,19,20,21,22,23,24]) [oA 17 (.mv (.t 0)),oA 18 (.mv (.t 5)),oA 19 (.idx 1 (.t 17) (.t 18)),oA 20 (.ld none (.t 19)),oA 21 (.mv (.t 1)),oA 22 (.mv (.t 5)),oA 23 (.idx 1 (.t 21) (.t 22)),oA 24 (.ld none (.t 23)),oA 25 (.call (.f 141) [aR 20,aR 24]),oA 26 (.un .not (.t 25))] [0,1,5,26]) (.cond (.t 26) (.seq
  (.re [oA 4 (.mv (.c (.bool false)))] [4]) .ret) .skip)))
  (.re [oA 15 (.mv (.t 5)),oA 16 (.bin .add (.t 15) (.ci 1)),oA 5 (.mv (.t 16))] [0,1,5])))))) (.seq
  (.re [oA 4 (.mv (.c (.bool true)))] [4]) .ret))))

def c_laws_likeInts:F where
 np:=2
 rs:=[.t 4]
 body :=
  (.seq
  (.re [oA 4 (.mv (.c (.bool false)))] [0,1]) (.seq (.seq
  (.re [oA 6 (.mv (.t 0)),oA 7 (.len (.t 6)),oA 8 (.mv (.t 1)),oA 9 (.len (.t 8)),oA 10 (.bin .neq (.t 7) (.t 9))] [0,1,10]) (.cond (.t 10) (.seq
  (.re [oA 4 (.mv (.c (.bool false)))] [4]) .ret) .skip)) (.seq (.seq
  (.re [oA 5 (.mv (.ci 0))] [0,1,5]) (.block 0 (.loop (.seq (.seq
  (.re [oA 11 (.mv (.t 5)),oA 12 (.mv (.t 0)),oA 13 (.len (.t 12)),oA 14 (.bin .lss (.t 11) (.t 13))] [0,1,5,14]) (.cond (.t 14) .skip (.exit 0))) (.seq (.block 1 (.seq
  (.region (some [17,18,19,20,21,22,23,24]) [oA 17 (.mv (.t 0)),oA 18 (.mv (.t 5)),oA 19 (.idx 1 (.t 17) (.t 18)),oA 20 (.ld none (.t 19)),oA 21 (.mv (.t 1)),oA 22 (.mv (.t 5)),oA 23 (.idx 1 (.t 21) (.t 22)),oA 24 (.ld none (.t 23)),oA 25 (.bin .neq (.t 20) (.t 24))] [0,1,5,25]) (.cond (.t 25) (.seq
  (.re [oA 4 (.mv (.c (.bool false)))] [4]) .ret) .skip)))
  (.re [oA 15 (.mv (.t 5)),oA 16 (.bin .add (.t 15) (.ci 1)),oA 5 (.mv (.t 16))] [0,1,5])))))) (.seq
  (.re [oA 4 (.mv (.c (.bool true)))] [4]) .ret))))

def c_laws_hasRow5:F where
 np:=2
 rs:=[.t 4]
 body :=
  (.seq
  (.re [oA 4 (.mv (.c (.bool false)))] [0,1]) (.seq (.seq
  (.re [oA 5 (.mv (.ci 0))] [0,1,5]) (.block 0 (.loop (.seq (.seq
  (.re [oA 6 (.mv (.t 5)),oA 7 (.mv (.t 0)),oA 8 (.len (.t 7)),oA 9 (.bin .lss (.t 6) (.t 8))] [0,1,5,9]) (.cond (.t 9) .skip (.exit 0))) (.seq (.block 1 (.seq
  (.re [oA 12 (.mv (.t 0)),oA 13 (.mv (.t 5)),oA 14 (.idx 1 (.t 12) (.t 13)),oA 15 (.ld none (.t 14)),oA 16 (.mv (.t 1)),oA 17 (.call (.f 141) [aR 15,aR 16])] [0,1,5,17]) (.cond (.t 17) (.seq
  (.re [oA 4 (.mv (.c (.bool true)))] [4]) .ret) .skip)))
  (.re [oA 10 (.mv (.t 5)),oA 11 (.bin .add (.t 10) (.ci 1)),oA 5 (.mv (.t 11))] [0,1,5])))))) (.seq
  (.re [oA 4 (.mv (.c (.bool false)))] [4]) .ret)))

def c_laws_roll:F where
 np:=2
 rs:=[.t 4]
 body :=
  (.seq
  (.re [oA 4 (.asg (.c (.pointer none)))] [0,1]) (.seq
  (.re [oA 7 (.mv (.t 0)),oA 8 (.mv (.t 1)),oA 9 (.bin .mul (.t 8) (.c (.int .u64 5507))),oA 10 (.mv (.t 0)),oA 11 (.len (.t 10)),oA 12 (.conv .u64 (.t 11)),oA 13 (.bin .add (.t 9) (.t 12)),oA 14 (.build [(.slice none 0 0),(.int .i64 0),(.int .u64 0)] [(0,1,(.t 7)),(2,1,(.t 13))]),oA 15 (.box (.t 14)),oA 5 (.asg (.t 15))] [0,5]) (.seq (.seq
  (.re [oA 6 (.mv (.ci 0))] [0,5,6]) (.block 0 (.loop (.seq (.seq
  (.re [oA 16 (.mv (.t 6)),oA 17 (.mv (.t 0)),oA 18 (.len (.t 17)),oA 19 (.bin .lss (.t 16) (.t 18))] [0,5,6,19]) (.cond (.t 19) .skip (.exit 0))) (.seq (.block 1
  (.region (some [22,23,24,25,26,27,28,29,30,31,32,33,34]) [oA 22 (.mv (.t 5)),oA 23 (.mv (.t 5)),oA 24 (.nilck (.t 23)),oA 25 (.fld 2 (.t 24)),oA 26 (.ld none (.t 25)),oA 27 (.bin .mul (.t 26) (.c (.int .u64 1099511628211))),oA 28 (.mv (.t 0)),oA 29 (.mv (.t 6)),oA 30 (.idx 1 (.t 28) (.t 29)),oA 31 (.ld none (.t 30)),oA 32 (.conv .u64 (.t 31)),oA 33 (.bin .add (.t 27) (.t 32)),oA 34 (.bin .add (.t 33) (.c (.int .u64 5))),oA 35 (.nilck (.t 22)),oA 36 (.fld 2 (.t 35)),oN (.st none (.t 36) (.t 34))] [0,5,6]))
  (.re [oA 20 (.mv (.t 6)),oA 21 (.bin .add (.t 20) (.ci 1)),oA 6 (.mv (.t 21))] [0,5,6])))))) (.seq
  (.re [oA 37 (.mv (.t 5)),oA 4 (.asg (.t 37))] [4]) .ret))))

def c_laws_FnClasses:F where
 np:=1
 rs:=[.t 2]
 body :=
  (.seq
  (.re [oA 2 (.mv (.c (.bool false)))] [0]) (.seq (.seq
  (.re [oA 29 (.mv (.t 0)),oA 30 (.call (.f 128) [aR 29])] [0,30]) (.cond (.t 30) (.seq
  (.re [oA 2 (.mv (.c (.bool true)))] [2]) .ret) .skip)) (.seq
  (.re [oA 32 (.mv (.t 0)),oA 33 (.call (.f 257) [aR 32]),oA 31 (.mv (.t 33)),oA 34 (.ext (.t 31) 0),oA 35 (.ext (.t 31) 1),oA 3 (.alloc [(.slice none 0 0),(.slice none 0 0)]),oN (.st (some 2) (.t 3) (.t 34)),oA 4 (.asg (.t 35))] [0,3,4]) (.seq
  (.re [oA 37 (.ld (some 2) (.t 3)),oA 38 (.mv (.t 4)),oA 39 (.call (.f 158) [aR 37,aR 38]),oN (.freeze 39),oA 36 (.mv (.t 39)),oA 40 (.ext (.t 36) 0),oA 41 (.ext (.t 36) 1),oA 5 (.asg (.t 40)),oA 6 (.mv (.t 41))] [0,3,4,5,6]) (.seq
  (.re [oA 43 (.ld (some 2) (.t 3)),oA 44 (.mv (.t 4)),oA 45 (.call (.f 215) [aR 43,aR 44]),oA 42 (.mv (.t 45)),oA 46 (.ext (.t 42) 0),oA 47 (.ext (.t 42) 1),oA 7 (.asg (.t 46)),oA 8 (.mv (.t 47))] [0,3,4,5,6,7,8]) (.seq (.seq
  (.re [oA 48 (.mv (.t 6)),oA 49 (.mv (.t 8)),oA 50 (.bin .neq (.t 48) (.t 49)),oA 51 (.mv (.t 50)),oI 52 51 false (.mv (.t 5)),oI 53 51 false (.mv (.t 7)),oI 54 51 false (.call (.f 137) [aR 52,aR 53]),oI 55 51 false (.un .not (.t 54)),oA 56 (.pick (.t 51) (.c (.bool true)) (.t 55))] [0,3,4,5,6,56]) (.cond (.t 56) (.seq
  (.re [oA 2 (.mv (.c (.bool false)))] [2]) .ret) .skip)) (.seq (.seq
  (.re [oA 57 (.mv (.t 6)),oA 58 (.bin .neq (.t 57) (.ci 0))] [0,3,4,5,58]) (.cond (.t 58) (.seq
  (.re [oA 2 (.mv (.c (.bool true)))] [2]) .ret) .skip)) (.seq
  (.re [oA 59 (.mv (.t 0)),oA 60 (.call (.f 139) [aR 59,((.c (.int .u64 817)),.r)]),oA 9 (.asg (.t 60))] [3,4,5,9]) (.seq
  (.re [oA 61 (.mv (.t 5)),oA 62 (.mvs 9),oA 63 (.mv (.t 5)),oA 64 (.len (.t 63)),oA 65 (.calls (.f 140) (.t 62) 9 [(.t 64)]),oA 66 (.idx 1 (.t 61) (.t 65)),oA 67 (.ld none (.t 66)),oA 10 (.asg (.t 67))] [3,4,5,9,10]) (.seq (.seq
  (.re [oA 11 (.mv (.ci 0))] [3,4,5,9,10,11]) (.block 0 (.loop (.seq (.seq
  (.re [oA 68 (.mv (.t 11)),oA 69 (.bin .add (.t 68) (.ci 1)),oA 70 (.mv (.t 10)),oA 71 (.len (.t 70)),oA 72 (.bin .lss (.t 69) (.t 71))] [3,4,5,9,10,11,72]) (.cond (.t 72) .skip (.exit 0))) (.seq (.block 1 (.seq
  (.region (some [12,13,76,77,78,79,80,81,82,83,84,85,87,88,89]) [oA 76 (.ld (some 2) (.t 3)),oA 77 (.mv (.t 10)),oA 78 (.mv (.t 11)),oA 79 (.idx 1 (.t 77) (.t 78)),oA 80 (.ld none (.t 79)),oA 81 (.mv (.t 10)),oA 82 (.mv (.t 11)),oA 83 (.bin .add (.t 82) (.ci 1)),oA 84 (.idx 1 (.t 81) (.t 83)),oA 85 (.ld none (.t 84)),oA 86 (.call (.f 258) [aR 76,aR 80,aR 85]),oA 75 (.mv (.t 86)),oA 87 (.ext (.t 75) 0),oA 88 (.ext (.t 75) 1),oA 89 (.ext (.t 75) 2),oA 12 (.mv (.t 87)),oA 13 (.mv (.t 88)),oA 14 (.mv (.t 89))] [3,4,5,9,10,11,12,13,14]) (.seq
  (.re [oA 90 (.bsl []),oA 91 (.mv (.t 10)),oA 92 (.app false 1 (.t 90) (.t 91)),oA 15 (.asg (.t 92))] [3,4,5,9,10,11,12,13,14,15]) (.seq
  (.re [oA 93 (.mv (.t 15)),oA 94 (.mv (.t 11)),oA 95 (.mv (.t 12)),oA 96 (.idx 1 (.t 93) (.t 94)),oN (.st none (.t 96) (.t 95))] [3,4,5,9,10,11,13,14,15]) (.seq
  (.re [oA 97 (.mv (.t 15)),oA 98 (.mv (.t 11)),oA 99 (.bin .add (.t 98) (.ci 1)),oA 100 (.mv (.t 13)),oA 101 (.idx 1 (.t 97) (.t 99)),oN (.st none (.t 101) (.t 100))] [3,4,5,9,10,11,14,15]) (.seq
  (.re [oA 102 (.mv (.t 14)),oA 103 (.bin .neq (.t 102) (.ci 0)),oA 104 (.mv (.t 103)),oI 105 104 false (.mv (.t 5)),oI 106 104 false (.mv (.t 15)),oI 107 104 false (.call (.f 138) [aR 105,aR 106]),oI 108 104 false (.un .not (.t 107)),oA 109 (.pick (.t 104) (.c (.bool true)) (.t 108))] [3,4,5,9,10,11,109]) (.cond (.t 109) (.seq
  (.re [oA 2 (.mv (.c (.bool false)))] [2]) .ret) .skip)))))))
  (.re [oA 73 (.mv (.t 11)),oA 74 (.bin .add (.t 73) (.ci 1)),oA 11 (.mv (.t 74))] [3,4,5,9,10,11])))))) (.seq
  (.re [oA 111 (.ld (some 2) (.t 3)),oA 112 (.mv (.t 10)),oA 113 (.call (.f 221) [aR 111,aR 112]),oA 110 (.mv (.t 113)),oA 114 (.ext (.t 110) 0),oA 115 (.ext (.t 110) 1),oA 16 (.asg (.t 114)),oA 17 (.mv (.t 115))] [3,4,5,9,10,16,17]) (.seq
  (.re [oA 117 (.ld (some 2) (.t 3)),oA 118 (.mv (.t 4)),oA 119 (.mv (.t 10)),oA 120 (.call (.f 214) [aR 117,aR 118,aR 119]),oA 116 (.mv (.t 120)),oA 121 (.ext (.t 116) 0),oA 122 (.ext (.t 116) 1),oA 18 (.mv (.t 121)),oA 19 (.mv (.t 122))] [3,4,5,9,10,16,17,18,19]) (.seq (.seq
  (.re [oA 123 (.mv (.t 17)),oA 124 (.bin .neq (.t 123) (.ci 0)),oA 125 (.mv (.t 124)),oI 126 125 false (.mv (.t 19)),oI 127 125 false (.bin .neq (.t 126) (.ci 0)),oA 128 (.pick (.t 125) (.c (.bool true)) (.t 127)),oA 129 (.mv (.t 128)),oI 130 129 false (.mv (.t 18)),oI 131 129 false (.un .not (.t 130)),oA 132 (.pick (.t 129) (.c (.bool true)) (.t 131)),oA 133 (.mv (.t 132)),oI 134 133 false (.mv (.t 16)),oI 135 133 false (.mv (.t 5)),oI 136 133 false (.idx 1 (.t 135) (.ci 0)),oI 137 133 false (.ld none (.t 136)),oI 138 133 false (.call (.f 141) [aR 134,aR 137]),oI 139 133 false (.un .not (.t 138)),oA 140 (.pick (.t 133) (.c (.bool true)) (.t 139))] [3,4,5,9,10,140]) (.cond (.t 140) (.seq
  (.re [oA 2 (.mv (.c (.bool false)))] [2]) .ret) .skip)) (.seq
  (.re [oA 141 (.fld 0 (.t 3)),oA 142 (.ld none (.t 141)),oA 143 (.len (.t 142)),oA 20 (.mv (.t 143))] [3,4,5,9,10,20]) (.seq
  (.re [oA 144 (.mvs 9),oA 145 (.mv (.t 20)),oA 146 (.calls (.f 140) (.t 144) 9 [(.t 145)]),oA 21 (.mv (.t 146))] [3,4,5,9,10,20,21]) (.seq
  (.re [oA 148 (.ld (some 2) (.t 3)),oA 149 (.mv (.t 4)),oA 150 (.mv (.t 21)),oA 151 (.call (.f 17) [aR 148,aR 149,aR 150]),oA 147 (.mv (.t 151)),oA 152 (.ext (.t 147) 0),oA 153 (.ext (.t 147) 1),oA 22 (.mv (.t 152)),oA 23 (.mv (.t 153))] [3,4,5,9,10,20,21,22,23]) (.seq
  (.re [oA 155 (.ld (some 2) (.t 3)),oA 156 (.mv (.t 10)),oA 157 (.mv (.t 21)),oA 158 (.call (.f 17) [aR 155,aR 156,aR 157]),oA 154 (.mv (.t 158)),oA 159 (.ext (.t 154) 0),oA 160 (.ext (.t 154) 1),oA 24 (.mv (.t 159)),oA 25 (.mv (.t 160))] [3,4,5,9,20,22,23,24,25]) (.seq (.seq
  (.re [oA 161 (.mv (.t 23)),oA 162 (.bin .neq (.t 161) (.ci 0)),oA 163 (.mv (.t 162)),oI 164 163 false (.mv (.t 25)),oI 165 163 false (.bin .neq (.t 164) (.ci 0)),oA 166 (.pick (.t 163) (.c (.bool true)) (.t 165)),oA 167 (.mv (.t 166)),oI 168 167 false (.mv (.t 22)),oI 169 167 false (.mv (.t 24)),oI 170 167 false (.bin .neq (.t 168) (.t 169)),oA 171 (.pick (.t 167) (.c (.bool true)) (.t 170))] [3,4,5,9,20,171]) (.cond (.t 171) (.seq
  (.re [oA 2 (.mv (.c (.bool false)))] [2]) .ret) .skip)) (.seq
  (.re [oA 172 (.mvs 9),oA 173 (.mv (.t 4)),oA 174 (.len (.t 173)),oA 175 (.mv (.t 20)),oA 176 (.calls (.f 259) (.t 172) 9 [(.t 174),(.t 175)]),oA 26 (.asg (.t 176))] [3,4,5,26]) (.seq
  (.re [oA 178 (.ld (some 2) (.t 3)),oA 179 (.mv (.t 4)),oA 180 (.mv (.t 26)),oA 181 (.call (.f 214) [aR 178,aR 179,aR 180]),oA 177 (.mv (.t 181)),oA 182 (.ext (.t 177) 0),oA 183 (.ext (.t 177) 1),oA 27 (.mv (.t 182)),oA 28 (.mv (.t 183))] [5,26,27,28]) (.seq
  (.re [oA 184 (.mv (.t 28)),oA 185 (.bin .eql (.t 184) (.ci 0)),oA 186 (.mv (.t 185)),oI 187 186 true (.mv (.t 27)),oI 188 186 true (.mv (.t 5)),oI 189 186 true (.mv (.t 26)),oI 190 186 true (.call (.f 138) [aR 188,aR 189]),oI 191 186 true (.beq false (.t 187) (.t 190)),oA 192 (.pick (.t 186) (.t 191) (.c (.bool false))),oA 2 (.mv (.t 192))] [2]) .ret)))))))))))))))))))))

def c_spec_DrawClassOfWord:F where
 np:=1
 rs:=[.cell 2 (some 2),.t 3]
 body :=
  (.seq
  (.re [oA 2 (.alloc [(.slice none 0 0),(.slice none 0 0)]),oA 3 (.asg (.c (.slice none 0 0)))] [0,2]) (.seq
  (.re [oA 6 (.mv (.t 0)),oA 7 (.call (.f 269) [aR 6]),oA 4 (.asg (.t 7))] [2,4]) (.seq
  (.re [oA 8 (.mvs 4),oA 9 (.calls (.f 268) (.t 8) 4 [(.ci 6)]),oA 5 (.alloc [(.slice none 0 0),(.slice none 0 0)]),oN (.st (some 2) (.t 5) (.t 9))] [2,4,5]) (.seq
  (.region (some [10,11,12,13,14,15,16,17]) [oA 10 (.ld (some 2) (.t 5)),oA 11 (.mvs 4),oA 12 (.ld (some 2) (.t 5)),oA 13 (.call (.f 374) [aR 12]),oA 14 (.mvs 4),oA 15 (.bslw 1 [(.ci 4),(.ci 4),(.ci 5),(.ci 6)]),oA 16 (.calls (.f 292) (.t 14) 4 [(.t 15)]),oA 17 (.calls (.f 373) (.t 11) 4 [(.t 13),(.t 16)]),oN (.st (some 2) (.t 2) (.t 10)),oA 3 (.asg (.t 17))] [2,3]) .ret))))

def c_spec_l09Size:F where
 np:=1
 rs:=[.t 2]
 body :=
  (.seq
  (.re [oA 1 (.box (.t 0)),oA 2 (.mv (.ci 0))] [1]) (.seq (.seq
  (.re [oA 3 (.fld 0 (.t 1)),oA 4 (.ld none (.t 3)),oA 5 (.len (.t 4)),oA 6 (.bin .eql (.t 5) (.ci 0))] [1,6]) (.cond (.t 6) (.seq
  (.re [oA 2 (.mv (.ci 1))] [2]) .ret) .skip)) (.seq
  (.re [oA 7 (.fld 0 (.t 1)),oA 8 (.ld none (.t 7)),oA 9 (.len (.t 8)),oA 2 (.mv (.t 9))] [2]) .ret)))

def c_spec_l09DrawWord:F where
 np:=3
 rs:=[.t 6]
 fix:=[0,1,2]
 body :=
  (.seq
  (.re [oA 6 (.asg (.c (.slice none 0 0)))] [0,1,2]) (.seq
  (.re [oA 9 (.bsl []),oA 7 (.asg (.t 9))] [0,1,2,7]) (.seq (.seq
  (.re [oA 10 (.mvs 0),oA 11 (.mv (.t 2)),oA 12 (.bin .add (.t 11) (.ci 1)),oA 13 (.calls (.f 336) (.t 10) 0 [(.t 12)]),oA 8 (.mv (.t 13))] [0,1,2,7,8]) (.block 0 (.loop (.seq (.seq
  (.re [oA 14 (.mv (.t 8)),oA 15 (.bin .gtr (.t 14) (.ci 0))] [0,1,2,7,8,15]) (.cond (.t 15) .skip (.exit 0))) (.seq (.block 1
  (.re [oA 18 (.mv (.t 7)),oA 19 (.mvs 0),oA 20 (.mv (.t 1)),oA 21 (.calls (.f 336) (.t 19) 0 [(.t 20)]),oA 22 (.bsl [(.t 21)]),oA 23 (.app true 1 (.t 18) (.t 22)),oA 7 (.asg (.t 23))] [0,1,2,7,8]))
  (.re [oA 16 (.mv (.t 8)),oA 17 (.bin .sub (.t 16) (.ci 1)),oA 8 (.mv (.t 17))] [0,1,2,7,8])))))) (.seq (.seq
  (.re [oA 24 (.mvs 0),oA 25 (.calls (.f 336) (.t 24) 0 [(.ci 24)])] [0,1,2,7,25]) (.block 2 (.seq
  (.re [oA 27 (.bin .eql (.t 25) (.ci 0)),oA 26 (.mv (.t 27))] [0,1,2,7,25,26]) (.cond (.t 26)
  (.re [oA 28 (.mv (.t 7)),oA 29 (.mvs 0),oA 30 (.mv (.t 1)),oA 31 (.bslw 1 [(.c (.int .i64 (-1))),(.t 30)]),oA 32 (.calls (.f 292) (.t 29) 0 [(.t 31)]),oA 33 (.bsl [(.t 32)]),oA 34 (.app true 1 (.t 28) (.t 33)),oA 7 (.asg (.t 34))] [0,1,2,7]) (.seq
  (.re [oA 36 (.bin .eql (.t 25) (.ci 1)),oA 35 (.mv (.t 36))] [0,1,2,7,35]) (.cond (.t 35) (.block 3 (.loop (.seq (.seq
  (.re [oA 37 (.mv (.t 7)),oA 38 (.len (.t 37)),oA 39 (.bin .leq (.t 38) (.ci 8))] [0,1,2,7,39]) (.cond (.t 39) .skip (.exit 3))) (.block 4
  (.re [oA 40 (.mv (.t 7)),oA 41 (.bsl [(.ci 0)]),oA 42 (.app true 1 (.t 40) (.t 41)),oA 7 (.asg (.t 42))] [0,1,2,7]))))) .skip)))))) (.seq
  (.re [oA 43 (.mv (.t 7)),oA 6 (.asg (.t 43))] [0,1,2,6]) .ret)))))

def c_impl_ApplyPair:F where
 np:=3
 rs:=[.t 6,.t 7,.t 8]
 body :=
  (.seq
  (.re [oA 3 (.box (.t 0)),oA 6 (.mv (.ci 0)),oA 7 (.mv (.ci 0)),oA 8 (.mv (.ci 0))] [1,2,3]) (.seq (.seq
  (.re [oA 9 (.ld (some 2) (.t 3)),oA 10 (.call (.f 59) [aR 9]),oA 11 (.un .not (.t 10))] [1,2,3,11]) (.cond (.t 11) (.seq
  (.re [oA 6 (.mv (.ci 0)),oA 7 (.mv (.ci 0)),oA 8 (.mv (.ci 1))] [6,7,8]) .ret) .skip)) (.seq (.seq
  (.re [oA 12 (.fld 0 (.t 3)),oA 13 (.ld none (.t 12)),oA 14 (.len (.t 13)),oA 15 (.mv (.t 1)),oA 16 (.mv (.t 2)),oA 17 (.bsl [(.t 15),(.t 16)]),oA 18 (.call (.f 39) [aR 14,aR 17]),oA 19 (.un .not (.t 18))] [1,2,3,19]) (.cond (.t 19) (.seq
  (.re [oA 6 (.mv (.ci 0)),oA 7 (.mv (.ci 0)),oA 8 (.mv (.ci 2))] [6,7,8]) .ret) .skip)) (.seq
  (.region (some [6,20,21,22,23,24,25,26,27,28,29,30,31,32,33,34,35]) [oA 20 (.fld 0 (.t 3)),oA 21 (.ld none (.t 20)),oA 22 (.mv (.t 1)),oA 23 (.idx 1 (.t 21) (.t 22)),oA 24 (.ld none (.t 23)),oA 25 (.mv (.t 2)),oA 26 (.idx 1 (.t 24) (.t 25)),oA 27 (.ld none (.t 26)),oA 28 (.fld 1 (.t 3)),oA 29 (.ld none (.t 28)),oA 30 (.mv (.t 1)),oA 31 (.idx 1 (.t 29) (.t 30)),oA 32 (.ld none (.t 31)),oA 33 (.mv (.t 2)),oA 34 (.idx 1 (.t 32) (.t 33)),oA 35 (.ld none (.t 34)),oA 6 (.mv (.t 27)),oA 7 (.mv (.t 35)),oA 8 (.mv (.ci 0))] [6,7,8]) .ret))))

def c_laws_list5:F where
 np:=3
 rs:=[.t 6]
 fix:=[0,2]
 body :=
  (.seq
  (.re [oA 6 (.asg (.c (.slice none 0 0)))] [0,1,2]) (.seq
  (.re [oA 8 (.bsl []),oA 7 (.asg (.t 8))] [0,1,2,7]) (.seq (.block 0 (.loop (.seq (.seq
  (.re [oA 9 (.mv (.t 1)),oA 10 (.bin .gtr (.t 9) (.ci 0))] [0,1,2,7,10]) (.cond (.t 10) .skip (.exit 0))) (.seq (.block 1
  (.re [oA 13 (.mv (.t 7)),oA 14 (.mvs 0),oA 15 (.mv (.t 2)),oA 16 (.calls (.f 140) (.t 14) 0 [(.t 15)]),oA 17 (.bsl [(.t 16)]),oA 18 (.app true 1 (.t 13) (.t 17)),oA 7 (.asg (.t 18))] [0,1,2,7]))
  (.re [oA 11 (.mv (.t 1)),oA 12 (.bin .sub (.t 11) (.ci 1)),oA 1 (.mv (.t 12))] [0,1,2,7]))))) (.seq
  (.re [oA 19 (.mv (.t 7)),oA 6 (.asg (.t 19))] [0,1,2,6]) .ret))))

end Go.Mch
