/- Compact code of draws and laws. -/
import Derived.Test.YtkcgdmjdkbgmkaaGreatM1
namespace Go.Mch

def c_spec_l07Spoil:F where
 np:=2
 rs:=[.cell 4 (some 2)]
 fix:=[0,1]
 body :=
  (.seq
  (.re [oA 4 (.alloc [(.slice none 0 0),(.slice none 0 0)])] [0,1,4]) (.seq (.seq
  (.re [oA 5 (.mvs 0),oA 6 (.calls (.f 336) (.t 5) 0 [(.ci 3)]),oA 7 (.bin .eql (.t 6) (.ci 0))] [0,1,4,7]) (.cond (.t 7) (.seq
  (.re [oA 8 (.mvs 0),oA 9 (.mv (.t 1)),oA 10 (.calls (.f 378) (.t 8) 0 [(.t 9)]),oA 11 (.call (.f 366) [aR 10]),oN (.st (some 2) (.t 4) (.t 11))] [0,1,4]) .ret) .skip)) (.seq
  (.re [oA 12 (.mvs 0),oA 13 (.mv (.t 1)),oA 14 (.calls (.f 379) (.t 12) 0 [(.t 13)]),oN (.st (some 2) (.t 4) (.t 14))] [0,1,4]) .ret)))

def c_spec_l01Next:F where
 np:=2
 rs:=[.t 4]
 fix:=[0,1]
 body :=
  (.seq
  (.re [oA 4 (.mv (.ci 0))] [0,1]) (.seq (.seq
  (.re [oA 6 (.mv (.t 1)),oA 7 (.bin .lss (.t 6) (.ci 1))] [0,1,7]) (.cond (.t 7) (.seq
  (.re [oA 4 (.mv (.ci 0))] [0,1,4]) .ret) .skip)) (.seq
  (.re [oA 8 (.mv (.t 0)),oA 9 (.mv (.t 0)),oA 10 (.nilck (.t 9)),oA 11 (.fld 2 (.t 10)),oA 12 (.ld none (.t 11)),oA 13 (.bin .mul (.t 12) (.c (.int .u64 6364136223846793005))),oA 14 (.bin .add (.t 13) (.c (.int .u64 1442695040888963407))),oA 15 (.nilck (.t 8)),oA 16 (.fld 2 (.t 15)),oN (.st none (.t 16) (.t 14))] [0,1]) (.seq
  (.re [oA 17 (.mv (.t 0)),oA 18 (.nilck (.t 17)),oA 19 (.fld 2 (.t 18)),oA 20 (.ld none (.t 19)),oA 21 (.bin .shr (.t 20) (.c (.int .u64 33))),oA 22 (.bin .and (.t 21) (.c (.int .u64 16777215))),oA 23 (.conv .i64 (.t 22)),oA 5 (.mv (.t 23))] [0,1,5]) (.seq (.seq
  (.region (some [24,25,26,27,28,29,30,31,32]) [oA 24 (.mv (.t 0)),oA 25 (.nilck (.t 24)),oA 26 (.fld 1 (.t 25)),oA 27 (.ld none (.t 26)),oA 28 (.mv (.t 0)),oA 29 (.nilck (.t 28)),oA 30 (.fld 0 (.t 29)),oA 31 (.ld none (.t 30)),oA 32 (.len (.t 31)),oA 33 (.bin .lss (.t 27) (.t 32))] [0,1,5,33]) (.cond (.t 33) (.seq
  (.region (some [34,35,36,37,38,39,40,41,42,43,44,45]) [oA 34 (.mv (.t 5)),oA 35 (.mv (.t 0)),oA 36 (.nilck (.t 35)),oA 37 (.fld 0 (.t 36)),oA 38 (.ld none (.t 37)),oA 39 (.mv (.t 0)),oA 40 (.nilck (.t 39)),oA 41 (.fld 1 (.t 40)),oA 42 (.ld none (.t 41)),oA 43 (.idx 1 (.t 38) (.t 42)),oA 44 (.ld none (.t 43)),oA 45 (.conv .i64 (.t 44)),oA 46 (.bin .add (.t 34) (.t 45)),oA 5 (.mv (.t 46))] [0,1,5])
  (.re [oA 47 (.mv (.t 0)),oA 48 (.mv (.t 0)),oA 49 (.nilck (.t 48)),oA 50 (.fld 1 (.t 49)),oA 51 (.ld none (.t 50)),oA 52 (.bin .add (.t 51) (.ci 1)),oA 53 (.nilck (.t 47)),oA 54 (.fld 1 (.t 53)),oN (.st none (.t 54) (.t 52))] [0,1,5])) .skip)) (.seq
  (.re [oA 55 (.mv (.t 5)),oA 56 (.mv (.t 1)),oA 57 (.bin .rem (.t 55) (.t 56)),oA 4 (.mv (.t 57))] [0,1,4]) .ret))))))

def c_spec_l05Draw:F where
 np:=2
 rs:=[.cell 4 (some 1)]
 fix:=[0,1]
 body :=
  (.seq
  (.re [oA 4 (.alloc [(.slice none 0 0)])] [0,1,4]) (.seq
  (.re [oA 6 (.mvs 0),oA 7 (.mv (.t 1)),oA 8 (.calls (.f 427) (.t 6) 0 [(.t 7)]),oA 5 (.alloc [(.slice none 0 0)]),oN (.st (some 1) (.t 5) (.t 8))] [0,1,4,5]) (.seq (.seq
  (.re [oA 9 (.mvs 0),oA 10 (.calls (.f 336) (.t 9) 0 [(.ci 3)]),oA 11 (.bin .gtr (.t 10) (.ci 0))] [0,1,4,5,11]) (.cond (.t 11) (.seq
  (.region (some [12,13,14,15,16,17,18]) [oA 12 (.fld 0 (.t 5)),oA 13 (.ld none (.t 12)),oA 14 (.mvs 0),oA 15 (.fld 0 (.t 5)),oA 16 (.ld none (.t 15)),oA 17 (.len (.t 16)),oA 18 (.calls (.f 368) (.t 14) 0 [(.t 17)]),oA 19 (.call (.f 367) [aR 13,aR 18]),oA 20 (.build [(.slice none 0 0)] [(0,1,(.t 19))]),oN (.st (some 1) (.t 4) (.t 20))] [0,1,4]) .ret) .skip)) (.seq
  (.re [oA 21 (.ld (some 1) (.t 5)),oN (.st (some 1) (.t 4) (.t 21))] [0,1,4]) .ret))))

def c_spec_l05Any:F where
 np:=2
 rs:=[.cell 4 (some 1)]
 fix:=[0,1]
 body :=
  (.seq
  (.re [oA 4 (.alloc [(.slice none 0 0)])] [0,1,4]) (.seq
  (.re [oA 10 (.mvs 0),oA 11 (.mv (.t 1)),oA 12 (.calls (.f 336) (.t 10) 0 [(.t 11)]),oA 13 (.bin .add (.ci 1) (.t 12)),oA 5 (.mv (.t 13))] [0,1,4,5]) (.seq (.seq
  (.re [oA 14 (.mvs 0),oA 15 (.calls (.f 336) (.t 14) 0 [(.ci 3)]),oA 16 (.bin .eql (.t 15) (.ci 0))] [0,1,4,5,16]) (.cond (.t 16) (.seq
  (.re [oA 6 (.mv (.ci 0))] [0,1,4,5,6]) (.block 0 (.loop (.seq (.seq
  (.re [oA 17 (.mv (.t 6)),oA 18 (.bin .lss (.t 17) (.ci 30))] [0,1,4,5,6,18]) (.cond (.t 18) .skip (.exit 0))) (.seq (.block 1 (.seq
  (.re [oA 21 (.mv (.t 5)),oA 22 (.mvs 0),oA 23 (.mv (.t 5)),oA 24 (.calls (.f 336) (.t 22) 0 [(.t 23)]),oA 25 (.mvs 0),oA 26 (.mv (.t 5)),oA 27 (.calls (.f 336) (.t 25) 0 [(.t 26)]),oA 28 (.mvs 0),oA 29 (.mv (.t 5)),oA 30 (.calls (.f 336) (.t 28) 0 [(.t 29)]),oA 31 (.call (.f 424) [aR 21,aR 24,aR 27,aR 30]),oA 7 (.alloc [(.slice none 0 0)]),oN (.st (some 1) (.t 7) (.t 31))] [0,1,4,5,6,7]) (.seq
  (.re [oA 32 (.ld (some 1) (.t 7)),oA 33 (.call (.f 363) [aR 32])] [0,1,4,5,6,7,33]) (.cond (.t 33) (.seq
  (.re [oA 34 (.ld (some 1) (.t 7)),oN (.st (some 1) (.t 4) (.t 34))] [0,1,4]) .ret) .skip))))
  (.re [oA 19 (.mv (.t 6)),oA 20 (.bin .add (.t 19) (.ci 1)),oA 6 (.mv (.t 20))] [0,1,4,5,6])))))) .skip)) (.seq (.seq
  (.re [oA 8 (.mv (.ci 0))] [0,1,4,5,8]) (.block 2 (.loop (.seq (.seq
  (.re [oA 35 (.mv (.t 8)),oA 36 (.bin .lss (.t 35) (.ci 8))] [0,1,4,5,8,36]) (.cond (.t 36) .skip (.exit 2))) (.seq (.block 3 (.seq
  (.re [oA 39 (.mvs 0),oA 40 (.mv (.t 5)),oA 41 (.calls (.f 412) (.t 39) 0 [(.t 40)]),oA 9 (.alloc [(.slice none 0 0),(.slice none 0 0)]),oN (.st (some 2) (.t 9) (.t 41))] [0,1,4,5,8,9]) (.seq
  (.re [oA 42 (.ld (some 2) (.t 9)),oA 43 (.call (.f 350) [aR 42]),oA 44 (.mv (.t 43)),oI 45 44 true (.ld (some 2) (.t 9)),oI 46 44 true (.call (.f 351) [aR 45]),oA 47 (.pick (.t 44) (.t 46) (.c (.bool false)))] [0,1,4,5,8,9,47]) (.cond (.t 47) (.seq
  (.re [oA 48 (.ld (some 2) (.t 9)),oA 49 (.call (.f 364) [aR 48]),oN (.st (some 1) (.t 4) (.t 49))] [0,1,4]) .ret) .skip))))
  (.re [oA 37 (.mv (.t 8)),oA 38 (.bin .add (.t 37) (.ci 1)),oA 8 (.mv (.t 38))] [0,1,4,5,8])))))) (.seq
  (.re [oA 50 (.mv (.t 5)),oA 51 (.call (.f 449) [aR 50]),oA 52 (.call (.f 364) [aR 51]),oN (.st (some 1) (.t 4) (.t 52))] [0,1,4]) .ret)))))

def c_spec_l05Affine:F where
 np:=4
 rs:=[.cell 8 (some 1)]
 body :=
  (.seq
  (.re [oA 8 (.alloc [(.slice none 0 0)])] [0,1,2,3,8]) (.seq
  (.re [oA 13 (.build [(.slice none 0 0)] []),oA 9 (.alloc [(.slice none 0 0)]),oN (.st (some 1) (.t 9) (.t 13))] [0,1,2,3,8,9]) (.seq (.seq
  (.re [oA 10 (.mv (.ci 0))] [0,1,2,3,8,9,10]) (.block 0 (.loop (.seq (.seq
  (.re [oA 14 (.mv (.t 10)),oA 15 (.mv (.t 0)),oA 16 (.bin .lss (.t 14) (.t 15))] [0,1,2,3,8,9,10,16]) (.cond (.t 16) .skip (.exit 0))) (.seq (.block 1 (.seq
  (.re [oA 19 (.bsl []),oA 11 (.asg (.t 19))] [0,1,2,3,8,9,10,11]) (.seq (.seq
  (.re [oA 12 (.mv (.ci 0))] [0,1,2,3,8,9,10,11,12]) (.block 2 (.loop (.seq (.seq
  (.re [oA 20 (.mv (.t 12)),oA 21 (.mv (.t 0)),oA 22 (.bin .lss (.t 20) (.t 21))] [0,1,2,3,8,9,10,11,12,22]) (.cond (.t 22) .skip (.exit 2))) (.seq (.block 3
  (.re [oA 25 (.mv (.t 11)),oA 26 (.mv (.t 1)),oA 27 (.mv (.t 10)),oA 28 (.bin .mul (.t 26) (.t 27)),oA 29 (.mv (.t 2)),oA 30 (.mv (.t 12)),oA 31 (.bin .mul (.t 29) (.t 30)),oA 32 (.bin .add (.t 28) (.t 31)),oA 33 (.mv (.t 3)),oA 34 (.bin .add (.t 32) (.t 33)),oA 35 (.mv (.t 0)),oA 36 (.bin .rem (.t 34) (.t 35)),oA 37 (.bsl [(.t 36)]),oA 38 (.app true 1 (.t 25) (.t 37)),oA 11 (.asg (.t 38))] [0,1,2,3,8,9,10,11,12]))
  (.re [oA 23 (.mv (.t 12)),oA 24 (.bin .add (.t 23) (.ci 1)),oA 12 (.mv (.t 24))] [0,1,2,3,8,9,10,11,12]))))))
  (.re [oA 39 (.fld 0 (.t 9)),oA 40 (.ld none (.t 39)),oA 41 (.mv (.t 11)),oA 42 (.bsl [(.t 41)]),oA 43 (.app true 1 (.t 40) (.t 42)),oA 44 (.fld 0 (.t 9)),oN (.st none (.t 44) (.t 43))] [0,1,2,3,8,9,10]))))
  (.re [oA 17 (.mv (.t 10)),oA 18 (.bin .add (.t 17) (.ci 1)),oA 10 (.mv (.t 18))] [0,1,2,3,8,9,10])))))) (.seq
  (.re [oA 45 (.ld (some 1) (.t 9)),oN (.st (some 1) (.t 8) (.t 45))] [8]) .ret))))

def c_spec_l05Is:F where
 np:=1
 rs:=[.t 2]
 body :=
  (.seq
  (.re [oA 1 (.box (.t 0)),oA 2 (.mv (.c (.bool false)))] [1]) (.seq
  (.re [oA 3 (.fld 0 (.t 1)),oA 4 (.ld none (.t 3)),oA 5 (.call (.f 46) [aR 4]),oA 6 (.mv (.t 5)),oI 7 6 true (.fld 0 (.t 1)),oI 8 6 true (.ld none (.t 7)),oI 9 6 true (.call (.f 410) [aR 8]),oA 10 (.pick (.t 6) (.t 9) (.c (.bool false))),oA 11 (.mv (.t 10)),oI 12 11 true (.fld 0 (.t 1)),oI 13 11 true (.ld none (.t 12)),oI 14 11 true (.call (.f 417) [aR 13]),oI 15 11 true (.call (.f 47) [aR 14]),oA 16 (.pick (.t 11) (.t 15) (.c (.bool false))),oA 17 (.mv (.t 16)),oI 18 17 true (.fld 0 (.t 1)),oI 19 17 true (.ld none (.t 18)),oI 20 17 true (.call (.f 418) [aR 19]),oI 21 17 true (.len (.t 20)),oI 22 17 true (.bin .eql (.t 21) (.ci 0)),oA 23 (.pick (.t 17) (.t 22) (.c (.bool false))),oA 2 (.mv (.t 23))] [2]) .ret))

def c_spec_l05Squares:F where
 np:=1
 rs:=[.t 2]
 body :=
  (.seq
  (.re [oA 2 (.asg (.c (.slice none 0 0)))] [0]) (.seq
  (.re [oA 5 (.bsl []),oA 3 (.asg (.t 5))] [0,3]) (.seq (.seq
  (.re [oA 4 (.mv (.ci 0))] [0,3,4]) (.block 0 (.loop (.seq (.seq
  (.re [oA 6 (.mv (.t 4)),oA 7 (.mv (.t 0)),oA 8 (.len (.t 7)),oA 9 (.bin .lss (.t 6) (.t 8))] [0,3,4,9]) (.cond (.t 9) .skip (.exit 0))) (.seq (.block 1
  (.re [oA 12 (.mv (.t 3)),oA 13 (.mv (.t 0)),oA 14 (.mv (.t 4)),oA 15 (.idx 1 (.t 13) (.t 14)),oA 16 (.ld none (.t 15)),oA 17 (.mv (.t 4)),oA 18 (.idx 1 (.t 16) (.t 17)),oA 19 (.ld none (.t 18)),oA 20 (.bsl [(.t 19)]),oA 21 (.app true 1 (.t 12) (.t 20)),oA 3 (.asg (.t 21))] [0,3,4]))
  (.re [oA 10 (.mv (.t 4)),oA 11 (.bin .add (.t 10) (.ci 1)),oA 4 (.mv (.t 11))] [0,3,4])))))) (.seq
  (.re [oA 22 (.mv (.t 3)),oA 2 (.asg (.t 22))] [2]) .ret))))

def c_spec_l05Fault:F where
 np:=1
 rs:=[.t 2]
 body :=
  (.seq
  (.re [oA 2 (.asg (.c (.slice none 0 0)))] [0]) (.seq
  (.re [oA 7 (.mv (.t 0)),oA 8 (.len (.t 7)),oA 3 (.mv (.t 8))] [0,3]) (.seq (.seq
  (.re [oA 4 (.mv (.ci 0))] [0,3,4]) (.block 0 (.loop (.seq (.seq
  (.re [oA 9 (.mv (.t 4)),oA 10 (.mv (.t 3)),oA 11 (.bin .lss (.t 9) (.t 10))] [0,3,4,11]) (.cond (.t 11) .skip (.exit 0))) (.seq (.block 1 (.seq
  (.re [oA 5 (.mv (.ci 0))] [0,3,4,5]) (.block 2 (.loop (.seq (.seq
  (.re [oA 14 (.mv (.t 5)),oA 15 (.mv (.t 3)),oA 16 (.bin .lss (.t 14) (.t 15))] [0,3,4,5,16]) (.cond (.t 16) .skip (.exit 2))) (.seq (.block 3 (.seq
  (.re [oA 6 (.mv (.ci 0))] [0,3,4,5,6]) (.block 4 (.loop (.seq (.seq
  (.re [oA 19 (.mv (.t 6)),oA 20 (.mv (.t 3)),oA 21 (.bin .lss (.t 19) (.t 20))] [0,3,4,5,6,21]) (.cond (.t 21) .skip (.exit 4))) (.seq (.block 5 (.seq
  (.region (some [24,25,26,27,28,29,30,31,32,33,34,35,36,37,38,39,40,41,42,43,44,45,46,47,48,49,50,51,52,53,54,55,56,57,58,59,60,61]) [oA 24 (.mv (.t 0)),oA 25 (.mv (.t 0)),oA 26 (.mv (.t 4)),oA 27 (.idx 1 (.t 25) (.t 26)),oA 28 (.ld none (.t 27)),oA 29 (.mv (.t 5)),oA 30 (.idx 1 (.t 28) (.t 29)),oA 31 (.ld none (.t 30)),oA 32 (.idx 1 (.t 24) (.t 31)),oA 33 (.ld none (.t 32)),oA 34 (.mv (.t 0)),oA 35 (.mv (.t 4)),oA 36 (.idx 1 (.t 34) (.t 35)),oA 37 (.ld none (.t 36)),oA 38 (.mv (.t 6)),oA 39 (.idx 1 (.t 37) (.t 38)),oA 40 (.ld none (.t 39)),oA 41 (.idx 1 (.t 33) (.t 40)),oA 42 (.ld none (.t 41)),oA 43 (.mv (.t 0)),oA 44 (.mv (.t 0)),oA 45 (.mv (.t 5)),oA 46 (.idx 1 (.t 44) (.t 45)),oA 47 (.ld none (.t 46)),oA 48 (.mv (.t 4)),oA 49 (.idx 1 (.t 47) (.t 48)),oA 50 (.ld none (.t 49)),oA 51 (.idx 1 (.t 43) (.t 50)),oA 52 (.ld none (.t 51)),oA 53 (.mv (.t 0)),oA 54 (.mv (.t 5)),oA 55 (.idx 1 (.t 53) (.t 54)),oA 56 (.ld none (.t 55)),oA 57 (.mv (.t 6)),oA 58 (.idx 1 (.t 56) (.t 57)),oA 59 (.ld none (.t 58)),oA 60 (.idx 1 (.t 52) (.t 59)),oA 61 (.ld none (.t 60)),oA 62 (.bin .neq (.t 42) (.t 61))] [0,3,4,5,6,62]) (.cond (.t 62) (.seq
  (.re [oA 63 (.mv (.t 4)),oA 64 (.mv (.t 5)),oA 65 (.mv (.t 6)),oA 66 (.bsl [(.t 63),(.t 64),(.t 65)]),oA 2 (.asg (.t 66))] [2]) .ret) .skip)))
  (.re [oA 22 (.mv (.t 6)),oA 23 (.bin .add (.t 22) (.ci 1)),oA 6 (.mv (.t 23))] [0,3,4,5,6])))))))
  (.re [oA 17 (.mv (.t 5)),oA 18 (.bin .add (.t 17) (.ci 1)),oA 5 (.mv (.t 18))] [0,3,4,5])))))))
  (.re [oA 12 (.mv (.t 4)),oA 13 (.bin .add (.t 12) (.ci 1)),oA 4 (.mv (.t 13))] [0,3,4])))))) (.seq
  (.re [oA 67 (.bsl []),oA 2 (.asg (.t 67))] [2]) .ret))))

def c_spec_l02Draw:F where
 np:=2
 rs:=[.cell 4 (some 2)]
 fix:=[0,1]
 body :=
  (.seq
  (.re [oA 4 (.alloc [(.slice none 0 0),(.slice none 0 0)])] [0,1,4]) (.seq
  (.re [oA 6 (.mvs 0),oA 7 (.mv (.t 1)),oA 8 (.calls (.f 445) (.t 6) 0 [(.t 7)]),oA 5 (.alloc [(.slice none 0 0),(.slice none 0 0)]),oN (.st (some 2) (.t 5) (.t 8))] [0,1,4,5]) (.seq (.seq
  (.re [oA 9 (.mvs 0),oA 10 (.calls (.f 336) (.t 9) 0 [(.ci 4)]),oA 11 (.bin .gtr (.t 10) (.ci 0))] [0,1,4,5,11]) (.cond (.t 11) (.seq
  (.region (some [12,13,14,15,16,17]) [oA 12 (.ld (some 2) (.t 5)),oA 13 (.mvs 0),oA 14 (.fld 0 (.t 5)),oA 15 (.ld none (.t 14)),oA 16 (.len (.t 15)),oA 17 (.calls (.f 368) (.t 13) 0 [(.t 16)]),oA 18 (.call (.f 422) [aR 12,aR 17]),oN (.st (some 2) (.t 4) (.t 18))] [0,1,4]) .ret) .skip)) (.seq
  (.re [oA 19 (.ld (some 2) (.t 5)),oN (.st (some 2) (.t 4) (.t 19))] [0,1,4]) .ret))))

def c_spec_l02Any:F where
 np:=2
 rs:=[.cell 4 (some 2)]
 fix:=[0,1]
 body :=
  (.seq
  (.re [oA 4 (.alloc [(.slice none 0 0),(.slice none 0 0)])] [0,1,4]) (.seq
  (.re [oA 9 (.mvs 0),oA 10 (.mv (.t 1)),oA 11 (.calls (.f 336) (.t 9) 0 [(.t 10)]),oA 12 (.bin .add (.ci 1) (.t 11)),oA 5 (.mv (.t 12))] [0,1,4,5]) (.seq (.seq
  (.re [oA 13 (.mvs 0),oA 14 (.calls (.f 336) (.t 13) 0 [(.ci 8)])] [0,1,4,5,14]) (.block 0 (.seq
  (.re [oA 16 (.bin .eql (.t 14) (.ci 0)),oA 15 (.mv (.t 16))] [0,1,4,5,14,15]) (.cond (.t 15) (.seq
  (.re [oA 17 (.mv (.t 5)),oA 18 (.call (.f 449) [aR 17]),oN (.st (some 2) (.t 4) (.t 18))] [0,1,4]) .ret) (.seq
  (.re [oA 20 (.bin .eql (.t 14) (.ci 1)),oA 19 (.mv (.t 20))] [0,1,4,5,14,19]) (.cond (.t 19) (.seq
  (.re [oA 21 (.mv (.t 5)),oA 22 (.call (.f 423) [aR 21]),oN (.st (some 2) (.t 4) (.t 22))] [0,1,4]) .ret) (.seq
  (.re [oA 24 (.bin .eql (.t 14) (.ci 2)),oA 23 (.mv (.t 24))] [0,1,4,5,14,23]) (.cond (.t 23) (.seq
  (.re [oA 25 (.mv (.t 5)),oA 26 (.bin .geq (.t 25) (.ci 4)),oA 27 (.mv (.t 26)),oI 28 27 true (.mv (.t 5)),oI 29 27 true (.bin .rem (.t 28) (.ci 2)),oI 30 27 true (.bin .eql (.t 29) (.ci 0)),oA 31 (.pick (.t 27) (.t 30) (.c (.bool false)))] [0,1,4,5,31]) (.cond (.t 31) (.seq
  (.re [oA 32 (.mvs 0),oA 33 (.mv (.t 5)),oA 34 (.bin .quo (.t 33) (.ci 2)),oA 35 (.calls (.f 459) (.t 32) 0 [(.t 34)]),oA 36 (.mvs 0),oA 37 (.calls (.f 459) (.t 36) 0 [(.ci 2)]),oA 38 (.call (.f 458) [aR 35,aR 37]),oN (.st (some 2) (.t 4) (.t 38))] [0,1,4]) .ret) .skip)) (.seq
  (.re [oA 40 (.bin .eql (.t 14) (.ci 3)),oA 39 (.mv (.t 40))] [0,1,4,5,14,39]) (.cond (.t 39) (.seq
  (.re [oA 41 (.mv (.t 5)),oA 42 (.bin .geq (.t 41) (.ci 2))] [0,1,4,5,42]) (.cond (.t 42) (.seq
  (.re [oA 43 (.mvs 0),oA 44 (.mv (.t 5)),oA 45 (.bin .sub (.t 44) (.ci 1)),oA 46 (.calls (.f 336) (.t 43) 0 [(.t 45)]),oA 47 (.bin .add (.ci 1) (.t 46)),oA 6 (.mv (.t 47))] [0,1,4,5,6]) (.seq
  (.re [oA 48 (.mvs 0),oA 49 (.mv (.t 6)),oA 50 (.calls (.f 445) (.t 48) 0 [(.t 49)]),oA 51 (.mvs 0),oA 52 (.mv (.t 5)),oA 53 (.mv (.t 6)),oA 54 (.bin .sub (.t 52) (.t 53)),oA 55 (.calls (.f 459) (.t 51) 0 [(.t 54)]),oA 56 (.call (.f 460) [aR 50,aR 55]),oN (.st (some 2) (.t 4) (.t 56))] [0,1,4]) .ret)) .skip)) (.seq
  (.re [oA 58 (.bin .eql (.t 14) (.ci 4)),oA 57 (.mv (.t 58))] [0,1,4,5,14,57]) (.cond (.t 57) (.seq
  (.re [oA 59 (.mv (.t 1)),oA 60 (.bin .geq (.t 59) (.ci 4))] [0,1,4,5,60]) (.cond (.t 60) (.seq
  (.re [oA 61 (.bsl [(.ci 0),(.ci 1),(.ci 3),(.ci 2)]),oA 62 (.bsl [(.ci 0),(.ci 1),(.ci 3),(.ci 2)]),oA 63 (.bsl [(.ci 1),(.ci 0),(.ci 2),(.ci 3)]),oA 64 (.bsl [(.ci 1),(.ci 0),(.ci 2),(.ci 3)]),oA 65 (.bsl [(.t 61),(.t 62),(.t 63),(.t 64)]),oA 7 (.asg (.t 65))] [0,1,4,7]) (.seq
  (.re [oA 66 (.mv (.t 7)),oA 67 (.call (.f 461) [aR 66]),oN (.st (some 2) (.t 4) (.t 67))] [0,1,4]) .ret)) .skip)) (.seq
  (.re [oA 69 (.bin .eql (.t 14) (.ci 5)),oA 68 (.mv (.t 69))] [0,1,4,5,14,68]) (.cond (.t 68) (.seq
  (.re [oA 70 (.mv (.t 5)),oA 71 (.bin .geq (.t 70) (.ci 2))] [0,1,4,5,71]) (.cond (.t 71) (.seq
  (.re [oA 72 (.mv (.t 5)),oA 73 (.call (.f 423) [aR 72]),oA 74 (.call (.f 406) [aR 73]),oN (.st (some 2) (.t 4) (.t 74))] [0,1,4]) .ret) .skip)) (.seq
  (.re [oA 76 (.bin .eql (.t 14) (.ci 6)),oA 75 (.mv (.t 76))] [0,1,4,5,75]) (.cond (.t 75) (.seq
  (.re [oA 77 (.mv (.t 1)),oA 78 (.bin .geq (.t 77) (.ci 3))] [0,1,4,5,78]) (.cond (.t 78) (.seq
  (.re [oA 79 (.bsl [(.ci 0),(.ci 1),(.ci 2)]),oA 80 (.bsl [(.ci 0),(.ci 1),(.ci 2)]),oA 81 (.bsl [(.ci 1),(.ci 0),(.ci 2)]),oA 82 (.bsl [(.t 79),(.t 80),(.t 81)]),oA 8 (.asg (.t 82))] [0,1,4,8]) (.seq
  (.re [oA 83 (.mv (.t 8)),oA 84 (.call (.f 461) [aR 83]),oN (.st (some 2) (.t 4) (.t 84))] [0,1,4]) .ret)) .skip)) .skip)))))))))))))))) (.seq
  (.re [oA 85 (.mvs 0),oA 86 (.mv (.t 5)),oA 87 (.calls (.f 459) (.t 85) 0 [(.t 86)]),oN (.st (some 2) (.t 4) (.t 87))] [0,1,4]) .ret))))

def c_spec_l02Flip:F where
 np:=1
 rs:=[.cell 2 (some 2)]
 body :=
  (.seq
  (.re [oA 2 (.alloc [(.slice none 0 0),(.slice none 0 0)])] [0,2]) (.seq
  (.re [oA 4 (.mv (.t 0)),oA 5 (.call (.f 334) [aR 4]),oA 3 (.asg (.t 5))] [2,3]) (.seq
  (.re [oA 6 (.mv (.t 3)),oA 7 (.mv (.t 3)),oA 8 (.call (.f 425) [aR 6,aR 7]),oN (.st (some 2) (.t 2) (.t 8))] [2]) .ret)))

def c_spec_l02Twist:F where
 np:=2
 rs:=[.cell 4 (some 2)]
 body :=
  (.seq
  (.re [oA 4 (.alloc [(.slice none 0 0),(.slice none 0 0)])] [0,1,4]) (.seq
  (.re [oA 9 (.build [(.slice none 0 0),(.slice none 0 0)] []),oA 5 (.alloc [(.slice none 0 0),(.slice none 0 0)]),oN (.st (some 2) (.t 5) (.t 9))] [0,1,4,5]) (.seq (.seq
  (.re [oA 6 (.mv (.ci 0))] [0,1,4,5,6]) (.block 0 (.loop (.seq (.seq
  (.re [oA 10 (.mv (.t 6)),oA 11 (.mv (.t 0)),oA 12 (.len (.t 11)),oA 13 (.bin .lss (.t 10) (.t 12))] [0,1,4,5,6,13]) (.cond (.t 13) .skip (.exit 0))) (.seq (.block 1 (.seq
  (.re [oA 16 (.bsl []),oA 7 (.asg (.t 16))] [0,1,4,5,6,7]) (.seq (.seq
  (.re [oA 8 (.mv (.ci 0))] [0,1,4,5,6,7,8]) (.block 2 (.loop (.seq (.seq
  (.re [oA 17 (.mv (.t 8)),oA 18 (.mv (.t 0)),oA 19 (.len (.t 18)),oA 20 (.bin .lss (.t 17) (.t 19))] [0,1,4,5,6,7,8,20]) (.cond (.t 20) .skip (.exit 2))) (.seq (.block 3
  (.re [oA 23 (.mv (.t 7)),oA 24 (.mv (.t 1)),oA 25 (.mv (.t 6)),oA 26 (.idx 1 (.t 24) (.t 25)),oA 27 (.ld none (.t 26)),oA 28 (.bsl [(.t 27)]),oA 29 (.app true 1 (.t 23) (.t 28)),oA 7 (.asg (.t 29))] [0,1,4,5,6,7,8]))
  (.re [oA 21 (.mv (.t 8)),oA 22 (.bin .add (.t 21) (.ci 1)),oA 8 (.mv (.t 22))] [0,1,4,5,6,7,8])))))) (.seq
  (.region (some [30,31,32,33,34]) [oA 30 (.fld 0 (.t 5)),oA 31 (.ld none (.t 30)),oA 32 (.mv (.t 0)),oA 33 (.call (.f 31) [aR 32]),oA 34 (.bsl1 33),oA 35 (.app true 1 (.t 31) (.t 34)),oA 36 (.fld 0 (.t 5)),oN (.st none (.t 36) (.t 35))] [0,1,4,5,6,7])
  (.re [oA 37 (.fld 1 (.t 5)),oA 38 (.ld none (.t 37)),oA 39 (.mv (.t 7)),oA 40 (.bsl [(.t 39)]),oA 41 (.app true 1 (.t 38) (.t 40)),oA 42 (.fld 1 (.t 5)),oN (.st none (.t 42) (.t 41))] [0,1,4,5,6])))))
  (.re [oA 14 (.mv (.t 6)),oA 15 (.bin .add (.t 14) (.ci 1)),oA 6 (.mv (.t 15))] [0,1,4,5,6])))))) (.seq
  (.re [oA 43 (.ld (some 2) (.t 5)),oN (.st (some 2) (.t 4) (.t 43))] [4]) .ret))))

def c_spec_l02Polygon:F where
 np:=1
 rs:=[.cell 2 (some 2)]
 body :=
  (.seq
  (.re [oA 2 (.alloc [(.slice none 0 0),(.slice none 0 0)])] [0,2]) (.seq
  (.re [oA 8 (.build [(.slice none 0 0),(.slice none 0 0)] []),oA 3 (.alloc [(.slice none 0 0),(.slice none 0 0)]),oN (.st (some 2) (.t 3) (.t 8))] [0,2,3]) (.seq (.seq
  (.re [oA 4 (.mv (.ci 0))] [0,2,3,4]) (.block 0 (.loop (.seq (.seq
  (.re [oA 9 (.mv (.t 4)),oA 10 (.mv (.t 0)),oA 11 (.bin .lss (.t 9) (.t 10))] [0,2,3,4,11]) (.cond (.t 11) .skip (.exit 0))) (.seq (.block 1 (.seq
  (.re [oA 14 (.bsl []),oA 15 (.bsl []),oA 5 (.asg (.t 14)),oA 6 (.asg (.t 15))] [0,2,3,4,5,6]) (.seq (.seq
  (.re [oA 7 (.mv (.ci 0))] [0,2,3,4,5,6,7]) (.block 2 (.loop (.seq (.seq
  (.re [oA 16 (.mv (.t 7)),oA 17 (.mv (.t 0)),oA 18 (.bin .lss (.t 16) (.t 17))] [0,2,3,4,5,6,7,18]) (.cond (.t 18) .skip (.exit 2))) (.seq (.block 3 (.seq
  (.re [oA 21 (.mv (.t 5)),oA 22 (.mv (.t 4)),oA 23 (.bin .mul (.ci 2) (.t 22)),oA 24 (.mv (.t 7)),oA 25 (.bin .sub (.t 23) (.t 24)),oA 26 (.mv (.t 0)),oA 27 (.bin .add (.t 25) (.t 26)),oA 28 (.mv (.t 0)),oA 29 (.bin .rem (.t 27) (.t 28)),oA 30 (.bsl [(.t 29)]),oA 31 (.app true 1 (.t 21) (.t 30)),oA 5 (.asg (.t 31))] [0,2,3,4,5,6,7])
  (.re [oA 32 (.mv (.t 6)),oA 33 (.mv (.t 4)),oA 34 (.bsl [(.t 33)]),oA 35 (.app true 1 (.t 32) (.t 34)),oA 6 (.asg (.t 35))] [0,2,3,4,5,6,7])))
  (.re [oA 19 (.mv (.t 7)),oA 20 (.bin .add (.t 19) (.ci 1)),oA 7 (.mv (.t 20))] [0,2,3,4,5,6,7])))))) (.seq
  (.re [oA 36 (.fld 0 (.t 3)),oA 37 (.ld none (.t 36)),oA 38 (.mv (.t 5)),oA 39 (.bsl [(.t 38)]),oA 40 (.app true 1 (.t 37) (.t 39)),oA 41 (.fld 0 (.t 3)),oN (.st none (.t 41) (.t 40))] [0,2,3,4,6])
  (.re [oA 42 (.fld 1 (.t 3)),oA 43 (.ld none (.t 42)),oA 44 (.mv (.t 6)),oA 45 (.bsl [(.t 44)]),oA 46 (.app true 1 (.t 43) (.t 45)),oA 47 (.fld 1 (.t 3)),oN (.st none (.t 47) (.t 46))] [0,2,3,4])))))
  (.re [oA 12 (.mv (.t 4)),oA 13 (.bin .add (.t 12) (.ci 1)),oA 4 (.mv (.t 13))] [0,2,3,4])))))) (.seq
  (.re [oA 48 (.ld (some 2) (.t 3)),oN (.st (some 2) (.t 2) (.t 48))] [2]) .ret))))

def c_spec_l02Twisted:F where
 np:=2
 rs:=[.cell 4 (some 2)]
 fix:=[0,1]
 body :=
  (.seq
  (.re [oA 4 (.alloc [(.slice none 0 0),(.slice none 0 0)])] [0,1,4]) (.seq
  (.re [oA 8 (.mvs 0),oA 9 (.mv (.t 1)),oA 10 (.calls (.f 368) (.t 8) 0 [(.t 9)]),oA 5 (.asg (.t 10))] [0,1,4,5]) (.seq
  (.re [oA 11 (.mv (.t 1)),oA 12 (.call (.f 334) [aR 11]),oA 6 (.asg (.t 12))] [0,1,4,5,6]) (.seq (.seq
  (.re [oA 13 (.mvs 0),oA 14 (.calls (.f 336) (.t 13) 0 [(.ci 4)]),oA 7 (.mv (.t 14))] [0,1,4,5,6,7]) (.block 0 (.loop (.seq (.seq
  (.re [oA 15 (.mv (.t 7)),oA 16 (.bin .gtr (.t 15) (.ci 0))] [0,1,4,5,6,7,16]) (.cond (.t 16) .skip (.exit 0))) (.seq (.block 1
  (.re [oA 19 (.mv (.t 6)),oA 20 (.mv (.t 5)),oA 21 (.call (.f 279) [aR 19,aR 20]),oA 6 (.asg (.t 21))] [0,1,4,5,6,7]))
  (.re [oA 17 (.mv (.t 7)),oA 18 (.bin .sub (.t 17) (.ci 1)),oA 7 (.mv (.t 18))] [0,1,4,5,6,7])))))) (.seq (.seq
  (.re [oA 22 (.mvs 0),oA 23 (.calls (.f 336) (.t 22) 0 [(.ci 2)]),oA 24 (.bin .eql (.t 23) (.ci 0))] [0,1,4,5,6,24]) (.cond (.t 24) (.seq
  (.re [oA 25 (.mv (.t 5)),oA 26 (.mv (.t 6)),oA 27 (.call (.f 425) [aR 25,aR 26]),oN (.st (some 2) (.t 4) (.t 27))] [0,1,4]) .ret) .skip)) (.seq
  (.re [oA 28 (.mv (.t 6)),oA 29 (.mv (.t 5)),oA 30 (.call (.f 425) [aR 28,aR 29]),oN (.st (some 2) (.t 4) (.t 30))] [0,1,4]) .ret))))))

def c_spec_l01Draw:F where
 np:=2
 rs:=[.t 4]
 fix:=[0,1]
 body :=
  (.seq
  (.re [oA 4 (.asg (.c (.slice none 0 0)))] [0,1]) (.seq
  (.re [oA 9 (.mv (.t 1)),oA 10 (.call (.f 334) [aR 9]),oA 5 (.asg (.t 10))] [0,1,5]) (.seq (.seq
  (.re [oA 11 (.mv (.t 1)),oA 12 (.bin .sub (.t 11) (.ci 1)),oA 6 (.mv (.t 12))] [0,1,5,6]) (.block 0 (.loop (.seq (.seq
  (.re [oA 13 (.mv (.t 6)),oA 14 (.bin .gtr (.t 13) (.ci 0))] [0,1,5,6,14]) (.cond (.t 14) .skip (.exit 0))) (.seq (.block 1 (.seq
  (.re [oA 17 (.mvs 0),oA 18 (.mv (.t 6)),oA 19 (.bin .add (.t 18) (.ci 1)),oA 20 (.calls (.f 336) (.t 17) 0 [(.t 19)]),oA 7 (.mv (.t 20))] [0,1,5,6,7]) (.seq
  (.re [oA 21 (.mv (.t 5)),oA 22 (.mv (.t 6)),oA 23 (.idx 1 (.t 21) (.t 22)),oA 24 (.ld none (.t 23)),oA 8 (.mv (.t 24))] [0,1,5,6,7,8]) (.seq
  (.re [oA 25 (.mv (.t 5)),oA 26 (.mv (.t 6)),oA 27 (.mv (.t 5)),oA 28 (.mv (.t 7)),oA 29 (.idx 1 (.t 27) (.t 28)),oA 30 (.ld none (.t 29)),oA 31 (.idx 1 (.t 25) (.t 26)),oN (.st none (.t 31) (.t 30))] [0,1,5,6,7,8])
  (.re [oA 32 (.mv (.t 5)),oA 33 (.mv (.t 7)),oA 34 (.mv (.t 8)),oA 35 (.idx 1 (.t 32) (.t 33)),oN (.st none (.t 35) (.t 34))] [0,1,5,6])))))
  (.re [oA 15 (.mv (.t 6)),oA 16 (.bin .sub (.t 15) (.ci 1)),oA 6 (.mv (.t 16))] [0,1,5,6])))))) (.seq
  (.re [oA 36 (.mv (.t 5)),oA 4 (.asg (.t 36))] [0,1,4]) .ret))))

def c_spec_l02Product:F where
 np:=2
 rs:=[.cell 4 (some 2)]
 body :=
  (.seq
  (.re [oA 2 (.box (.t 0)),oA 3 (.box (.t 1)),oA 4 (.alloc [(.slice none 0 0),(.slice none 0 0)])] [2,3,4]) (.seq
  (.region (some [5,12,13,14,15,16,17]) [oA 12 (.fld 0 (.t 2)),oA 13 (.ld none (.t 12)),oA 14 (.len (.t 13)),oA 15 (.fld 0 (.t 3)),oA 16 (.ld none (.t 15)),oA 17 (.len (.t 16)),oA 5 (.mv (.t 14)),oA 6 (.mv (.t 17))] [2,3,4,5,6]) (.seq
  (.re [oA 18 (.build [(.slice none 0 0),(.slice none 0 0)] []),oA 7 (.alloc [(.slice none 0 0),(.slice none 0 0)]),oN (.st (some 2) (.t 7) (.t 18))] [2,3,4,5,6,7]) (.seq (.seq
  (.re [oA 8 (.mv (.ci 0))] [2,3,4,5,6,7,8]) (.block 0 (.loop (.seq (.seq
  (.re [oA 19 (.mv (.t 8)),oA 20 (.mv (.t 5)),oA 21 (.mv (.t 6)),oA 22 (.bin .mul (.t 20) (.t 21)),oA 23 (.bin .lss (.t 19) (.t 22))] [2,3,4,5,6,7,8,23]) (.cond (.t 23) .skip (.exit 0))) (.seq (.block 1 (.seq
  (.re [oA 26 (.bsl []),oA 27 (.bsl []),oA 9 (.asg (.t 26)),oA 10 (.asg (.t 27))] [2,3,4,5,6,7,8,9,10]) (.seq (.seq
  (.re [oA 11 (.mv (.ci 0))] [2,3,4,5,6,7,8,9,10,11]) (.block 2 (.loop (.seq (.seq
  (.re [oA 28 (.mv (.t 11)),oA 29 (.mv (.t 5)),oA 30 (.mv (.t 6)),oA 31 (.bin .mul (.t 29) (.t 30)),oA 32 (.bin .lss (.t 28) (.t 31))] [2,3,4,5,6,7,8,9,10,11,32]) (.cond (.t 32) .skip (.exit 2))) (.seq (.block 3 (.seq
  (.region (some [35,36,37,38,39,40,41,42,43,44,45,46,47,48,49,50,51,52,53,54,55,56,57,58,59,60,61,62,63]) [oA 35 (.mv (.t 9)),oA 36 (.fld 0 (.t 2)),oA 37 (.ld none (.t 36)),oA 38 (.mv (.t 8)),oA 39 (.mv (.t 6)),oA 40 (.bin .quo (.t 38) (.t 39)),oA 41 (.idx 1 (.t 37) (.t 40)),oA 42 (.ld none (.t 41)),oA 43 (.mv (.t 11)),oA 44 (.mv (.t 6)),oA 45 (.bin .quo (.t 43) (.t 44)),oA 46 (.idx 1 (.t 42) (.t 45)),oA 47 (.ld none (.t 46)),oA 48 (.mv (.t 6)),oA 49 (.bin .mul (.t 47) (.t 48)),oA 50 (.fld 0 (.t 3)),oA 51 (.ld none (.t 50)),oA 52 (.mv (.t 8)),oA 53 (.mv (.t 6)),oA 54 (.bin .rem (.t 52) (.t 53)),oA 55 (.idx 1 (.t 51) (.t 54)),oA 56 (.ld none (.t 55)),oA 57 (.mv (.t 11)),oA 58 (.mv (.t 6)),oA 59 (.bin .rem (.t 57) (.t 58)),oA 60 (.idx 1 (.t 56) (.t 59)),oA 61 (.ld none (.t 60)),oA 62 (.bin .add (.t 49) (.t 61)),oA 63 (.bslv 1 [(.t 62)]),oA 64 (.app true 1 (.t 35) (.t 63)),oA 9 (.asg (.t 64))] [2,3,4,5,6,7,8,9,10,11])
  (.region (some [65,66,67,68,69,70,71,72,73,74,75,76,77,78,79,80,81,82,83,84,85,86,87,88,89,90,91,92,93]) [oA 65 (.mv (.t 10)),oA 66 (.fld 1 (.t 2)),oA 67 (.ld none (.t 66)),oA 68 (.mv (.t 8)),oA 69 (.mv (.t 6)),oA 70 (.bin .quo (.t 68) (.t 69)),oA 71 (.idx 1 (.t 67) (.t 70)),oA 72 (.ld none (.t 71)),oA 73 (.mv (.t 11)),oA 74 (.mv (.t 6)),oA 75 (.bin .quo (.t 73) (.t 74)),oA 76 (.idx 1 (.t 72) (.t 75)),oA 77 (.ld none (.t 76)),oA 78 (.mv (.t 6)),oA 79 (.bin .mul (.t 77) (.t 78)),oA 80 (.fld 1 (.t 3)),oA 81 (.ld none (.t 80)),oA 82 (.mv (.t 8)),oA 83 (.mv (.t 6)),oA 84 (.bin .rem (.t 82) (.t 83)),oA 85 (.idx 1 (.t 81) (.t 84)),oA 86 (.ld none (.t 85)),oA 87 (.mv (.t 11)),oA 88 (.mv (.t 6)),oA 89 (.bin .rem (.t 87) (.t 88)),oA 90 (.idx 1 (.t 86) (.t 89)),oA 91 (.ld none (.t 90)),oA 92 (.bin .add (.t 79) (.t 91)),oA 93 (.bslv 1 [(.t 92)]),oA 94 (.app true 1 (.t 65) (.t 93)),oA 10 (.asg (.t 94))] [2,3,4,5,6,7,8,9,10,11])))
  (.re [oA 33 (.mv (.t 11)),oA 34 (.bin .add (.t 33) (.ci 1)),oA 11 (.mv (.t 34))] [2,3,4,5,6,7,8,9,10,11])))))) (.seq
  (.re [oA 95 (.fld 0 (.t 7)),oA 96 (.ld none (.t 95)),oA 97 (.mv (.t 9)),oA 98 (.bsl [(.t 97)]),oA 99 (.app true 1 (.t 96) (.t 98)),oA 100 (.fld 0 (.t 7)),oN (.st none (.t 100) (.t 99))] [2,3,4,5,6,7,8,10])
  (.re [oA 101 (.fld 1 (.t 7)),oA 102 (.ld none (.t 101)),oA 103 (.mv (.t 10)),oA 104 (.bsl [(.t 103)]),oA 105 (.app true 1 (.t 102) (.t 104)),oA 106 (.fld 1 (.t 7)),oN (.st none (.t 106) (.t 105))] [2,3,4,5,6,7,8])))))
  (.re [oA 24 (.mv (.t 8)),oA 25 (.bin .add (.t 24) (.ci 1)),oA 8 (.mv (.t 25))] [2,3,4,5,6,7,8])))))) (.seq
  (.re [oA 107 (.ld (some 2) (.t 7)),oN (.st (some 2) (.t 4) (.t 107))] [4]) .ret)))))

def c_spec_l02Union:F where
 np:=2
 rs:=[.cell 4 (some 2)]
 body :=
  (.seq
  (.re [oA 2 (.box (.t 0)),oA 3 (.box (.t 1)),oA 4 (.alloc [(.slice none 0 0),(.slice none 0 0)])] [2,3,4]) (.seq
  (.region (some [5,12,13,14,15,16,17]) [oA 12 (.fld 0 (.t 2)),oA 13 (.ld none (.t 12)),oA 14 (.len (.t 13)),oA 15 (.fld 0 (.t 3)),oA 16 (.ld none (.t 15)),oA 17 (.len (.t 16)),oA 5 (.mv (.t 14)),oA 6 (.mv (.t 17))] [2,3,4,5,6]) (.seq
  (.re [oA 18 (.build [(.slice none 0 0),(.slice none 0 0)] []),oA 7 (.alloc [(.slice none 0 0),(.slice none 0 0)]),oN (.st (some 2) (.t 7) (.t 18))] [2,3,4,5,6,7]) (.seq (.seq
  (.re [oA 8 (.mv (.ci 0))] [2,3,4,5,6,7,8]) (.block 0 (.loop (.seq (.seq
  (.re [oA 19 (.mv (.t 8)),oA 20 (.mv (.t 5)),oA 21 (.mv (.t 6)),oA 22 (.bin .add (.t 20) (.t 21)),oA 23 (.bin .lss (.t 19) (.t 22))] [2,3,4,5,6,7,8,23]) (.cond (.t 23) .skip (.exit 0))) (.seq (.block 1 (.seq
  (.re [oA 26 (.bsl []),oA 27 (.bsl []),oA 9 (.asg (.t 26)),oA 10 (.asg (.t 27))] [2,3,4,5,6,7,8,9,10]) (.seq (.seq
  (.re [oA 11 (.mv (.ci 0))] [2,3,4,5,6,7,8,9,10,11]) (.block 2 (.loop (.seq (.seq
  (.re [oA 28 (.mv (.t 11)),oA 29 (.mv (.t 5)),oA 30 (.mv (.t 6)),oA 31 (.bin .add (.t 29) (.t 30)),oA 32 (.bin .lss (.t 28) (.t 31))] [2,3,4,5,6,7,8,9,10,11,32]) (.cond (.t 32) .skip (.exit 2))) (.seq (.block 3 (.block 4 (.seq
  (.re [oA 44 (.mv (.t 8)),oA 45 (.mv (.t 5)),oA 46 (.bin .lss (.t 44) (.t 45)),oA 47 (.mv (.t 46)),oI 48 47 true (.mv (.t 11)),oI 49 47 true (.mv (.t 5)),oI 50 47 true (.bin .lss (.t 48) (.t 49)),oA 51 (.pick (.t 47) (.t 50) (.c (.bool false))),oA 43 (.mv (.t 51))] [2,3,4,5,6,7,8,9,10,11,43]) (.cond (.t 43) (.seq
  (.re [oA 52 (.mv (.t 9)),oA 53 (.fld 0 (.t 2)),oA 54 (.ld none (.t 53)),oA 55 (.mv (.t 8)),oA 56 (.idx 1 (.t 54) (.t 55)),oA 57 (.ld none (.t 56)),oA 58 (.mv (.t 11)),oA 59 (.idx 1 (.t 57) (.t 58)),oA 60 (.ld none (.t 59)),oA 61 (.bsl [(.t 60)]),oA 62 (.app true 1 (.t 52) (.t 61)),oA 9 (.asg (.t 62))] [2,3,4,5,6,7,8,9,10,11])
  (.re [oA 63 (.mv (.t 10)),oA 64 (.fld 1 (.t 2)),oA 65 (.ld none (.t 64)),oA 66 (.mv (.t 8)),oA 67 (.idx 1 (.t 65) (.t 66)),oA 68 (.ld none (.t 67)),oA 69 (.mv (.t 11)),oA 70 (.idx 1 (.t 68) (.t 69)),oA 71 (.ld none (.t 70)),oA 72 (.bsl [(.t 71)]),oA 73 (.app true 1 (.t 63) (.t 72)),oA 10 (.asg (.t 73))] [2,3,4,5,6,7,8,9,10,11])) (.seq
  (.re [oA 75 (.mv (.t 8)),oA 76 (.mv (.t 5)),oA 77 (.bin .geq (.t 75) (.t 76)),oA 78 (.mv (.t 77)),oI 79 78 true (.mv (.t 11)),oI 80 78 true (.mv (.t 5)),oI 81 78 true (.bin .geq (.t 79) (.t 80)),oA 82 (.pick (.t 78) (.t 81) (.c (.bool false))),oA 74 (.mv (.t 82))] [2,3,4,5,6,7,8,9,10,11,74]) (.cond (.t 74) (.seq
  (.re [oA 83 (.mv (.t 9)),oA 84 (.fld 0 (.t 3)),oA 85 (.ld none (.t 84)),oA 86 (.mv (.t 8)),oA 87 (.mv (.t 5)),oA 88 (.bin .sub (.t 86) (.t 87)),oA 89 (.idx 1 (.t 85) (.t 88)),oA 90 (.ld none (.t 89)),oA 91 (.mv (.t 11)),oA 92 (.mv (.t 5)),oA 93 (.bin .sub (.t 91) (.t 92)),oA 94 (.idx 1 (.t 90) (.t 93)),oA 95 (.ld none (.t 94)),oA 96 (.mv (.t 5)),oA 97 (.bin .add (.t 95) (.t 96)),oA 98 (.bsl [(.t 97)]),oA 99 (.app true 1 (.t 83) (.t 98)),oA 9 (.asg (.t 99))] [2,3,4,5,6,7,8,9,10,11])
  (.re [oA 100 (.mv (.t 10)),oA 101 (.fld 1 (.t 3)),oA 102 (.ld none (.t 101)),oA 103 (.mv (.t 8)),oA 104 (.mv (.t 5)),oA 105 (.bin .sub (.t 103) (.t 104)),oA 106 (.idx 1 (.t 102) (.t 105)),oA 107 (.ld none (.t 106)),oA 108 (.mv (.t 11)),oA 109 (.mv (.t 5)),oA 110 (.bin .sub (.t 108) (.t 109)),oA 111 (.idx 1 (.t 107) (.t 110)),oA 112 (.ld none (.t 111)),oA 113 (.mv (.t 5)),oA 114 (.bin .add (.t 112) (.t 113)),oA 115 (.bsl [(.t 114)]),oA 116 (.app true 1 (.t 100) (.t 115)),oA 10 (.asg (.t 116))] [2,3,4,5,6,7,8,9,10,11])) (.seq
  (.re [oA 35 (.mv (.t 9)),oA 36 (.mv (.t 11)),oA 37 (.bsl [(.t 36)]),oA 38 (.app true 1 (.t 35) (.t 37)),oA 9 (.asg (.t 38))] [2,3,4,5,6,7,8,9,10,11])
  (.re [oA 39 (.mv (.t 10)),oA 40 (.mv (.t 8)),oA 41 (.bsl [(.t 40)]),oA 42 (.app true 1 (.t 39) (.t 41)),oA 10 (.asg (.t 42))] [2,3,4,5,6,7,8,9,10,11]))))))))
  (.re [oA 33 (.mv (.t 11)),oA 34 (.bin .add (.t 33) (.ci 1)),oA 11 (.mv (.t 34))] [2,3,4,5,6,7,8,9,10,11])))))) (.seq
  (.re [oA 117 (.fld 0 (.t 7)),oA 118 (.ld none (.t 117)),oA 119 (.mv (.t 9)),oA 120 (.bsl [(.t 119)]),oA 121 (.app true 1 (.t 118) (.t 120)),oA 122 (.fld 0 (.t 7)),oN (.st none (.t 122) (.t 121))] [2,3,4,5,6,7,8,10])
  (.re [oA 123 (.fld 1 (.t 7)),oA 124 (.ld none (.t 123)),oA 125 (.mv (.t 10)),oA 126 (.bsl [(.t 125)]),oA 127 (.app true 1 (.t 124) (.t 126)),oA 128 (.fld 1 (.t 7)),oN (.st none (.t 128) (.t 127))] [2,3,4,5,6,7,8])))))
  (.re [oA 24 (.mv (.t 8)),oA 25 (.bin .add (.t 24) (.ci 1)),oA 8 (.mv (.t 25))] [2,3,4,5,6,7,8])))))) (.seq
  (.re [oA 129 (.ld (some 2) (.t 7)),oN (.st (some 2) (.t 4) (.t 129))] [4]) .ret)))))

def c_spec_l02Involutive:F where
 np:=1
 rs:=[.cell 2 (some 2)]
 body :=
  (.seq
  (.re [oA 2 (.alloc [(.slice none 0 0),(.slice none 0 0)])] [0,2]) (.seq
  (.re [oA 7 (.mv (.t 0)),oA 8 (.call (.f 280) [aR 7]),oA 9 (.build [(.slice none 0 0),(.slice none 0 0)] [(0,1,(.t 8))]),oA 3 (.alloc [(.slice none 0 0),(.slice none 0 0)]),oN (.st (some 2) (.t 3) (.t 9))] [0,2,3]) (.seq (.seq
  (.re [oA 4 (.mv (.ci 0))] [0,2,3,4]) (.block 0 (.loop (.seq (.seq
  (.re [oA 10 (.mv (.t 4)),oA 11 (.mv (.t 0)),oA 12 (.len (.t 11)),oA 13 (.bin .lss (.t 10) (.t 12))] [0,2,3,4,13]) (.cond (.t 13) .skip (.exit 0))) (.seq (.block 1 (.seq
  (.re [oA 16 (.bsl []),oA 5 (.asg (.t 16))] [0,2,3,4,5]) (.seq (.seq
  (.re [oA 6 (.mv (.ci 0))] [0,2,3,4,5,6]) (.block 2 (.loop (.seq (.seq
  (.re [oA 17 (.mv (.t 6)),oA 18 (.mv (.t 0)),oA 19 (.len (.t 18)),oA 20 (.bin .lss (.t 17) (.t 19))] [0,2,3,4,5,6,20]) (.cond (.t 20) .skip (.exit 2))) (.seq (.block 3
  (.re [oA 23 (.mv (.t 5)),oA 24 (.mv (.t 0)),oA 25 (.mv (.t 0)),oA 26 (.mv (.t 4)),oA 27 (.idx 1 (.t 25) (.t 26)),oA 28 (.ld none (.t 27)),oA 29 (.mv (.t 6)),oA 30 (.idx 1 (.t 28) (.t 29)),oA 31 (.ld none (.t 30)),oA 32 (.idx 1 (.t 24) (.t 31)),oA 33 (.ld none (.t 32)),oA 34 (.mv (.t 4)),oA 35 (.call (.f 69) [aR 33,aR 34]),oA 36 (.bsl [(.t 35)]),oA 37 (.app true 1 (.t 23) (.t 36)),oA 5 (.asg (.t 37))] [0,2,3,4,5,6]))
  (.re [oA 21 (.mv (.t 6)),oA 22 (.bin .add (.t 21) (.ci 1)),oA 6 (.mv (.t 22))] [0,2,3,4,5,6]))))))
  (.re [oA 38 (.fld 1 (.t 3)),oA 39 (.ld none (.t 38)),oA 40 (.mv (.t 5)),oA 41 (.bsl [(.t 40)]),oA 42 (.app true 1 (.t 39) (.t 41)),oA 43 (.fld 1 (.t 3)),oN (.st none (.t 43) (.t 42))] [0,2,3,4]))))
  (.re [oA 14 (.mv (.t 4)),oA 15 (.bin .add (.t 14) (.ci 1)),oA 4 (.mv (.t 15))] [0,2,3,4])))))) (.seq
  (.re [oA 44 (.ld (some 2) (.t 3)),oN (.st (some 2) (.t 2) (.t 44))] [2]) .ret))))

def c_spec_l02Rename:F where
 np:=2
 rs:=[.cell 4 (some 2)]
 body :=
  (.seq
  (.re [oA 2 (.box (.t 0)),oA 4 (.alloc [(.slice none 0 0),(.slice none 0 0)])] [1,2,4]) (.seq
  (.region (some [5,6,7,8,9,10,11]) [oA 5 (.fld 0 (.t 2)),oA 6 (.ld none (.t 5)),oA 7 (.mv (.t 1)),oA 8 (.call (.f 367) [aR 6,aR 7]),oA 9 (.fld 1 (.t 2)),oA 10 (.ld none (.t 9)),oA 11 (.mv (.t 1)),oA 12 (.call (.f 367) [aR 10,aR 11]),oA 13 (.build [(.slice none 0 0),(.slice none 0 0)] [(0,1,(.t 8)),(1,1,(.t 12))]),oN (.st (some 2) (.t 4) (.t 13))] [4]) .ret))

def c_spec_l01Rename:F where
 np:=2
 rs:=[.t 4]
 body :=
  (.seq
  (.re [oA 4 (.asg (.c (.slice none 0 0)))] [0,1]) (.seq
  (.re [oA 10 (.bsl []),oA 5 (.asg (.t 10))] [0,1,5]) (.seq (.seq
  (.re [oA 6 (.mv (.ci 0))] [0,1,5,6]) (.block 0 (.loop (.seq (.seq
  (.re [oA 11 (.mv (.t 6)),oA 12 (.mv (.t 0)),oA 13 (.len (.t 12)),oA 14 (.bin .lss (.t 11) (.t 13))] [0,1,5,6,14]) (.cond (.t 14) .skip (.exit 0))) (.seq (.block 1
  (.re [oA 17 (.mv (.t 5)),oA 18 (.mv (.t 0)),oA 19 (.len (.t 18)),oA 20 (.mks (.int .i64 0) (.t 19)),oA 21 (.bsl [(.t 20)]),oA 22 (.app true 1 (.t 17) (.t 21)),oA 5 (.asg (.t 22))] [0,1,5,6]))
  (.re [oA 15 (.mv (.t 6)),oA 16 (.bin .add (.t 15) (.ci 1)),oA 6 (.mv (.t 16))] [0,1,5,6])))))) (.seq (.seq
  (.re [oA 7 (.mv (.ci 0))] [0,1,5,7]) (.block 2 (.loop (.seq (.seq
  (.re [oA 23 (.mv (.t 7)),oA 24 (.mv (.t 0)),oA 25 (.len (.t 24)),oA 26 (.bin .lss (.t 23) (.t 25))] [0,1,5,7,26]) (.cond (.t 26) .skip (.exit 2))) (.seq (.block 3 (.seq
  (.re [oA 29 (.mv (.t 5)),oA 30 (.mv (.t 1)),oA 31 (.mv (.t 7)),oA 32 (.idx 1 (.t 30) (.t 31)),oA 33 (.ld none (.t 32)),oA 34 (.idx 1 (.t 29) (.t 33)),oA 35 (.ld none (.t 34)),oA 8 (.mv (.t 35))] [0,1,5,7,8]) (.seq
  (.re [oA 9 (.mv (.ci 0))] [0,1,5,7,8,9]) (.block 4 (.loop (.seq (.seq
  (.re [oA 36 (.mv (.t 9)),oA 37 (.mv (.t 0)),oA 38 (.len (.t 37)),oA 39 (.bin .lss (.t 36) (.t 38))] [0,1,5,7,8,9,39]) (.cond (.t 39) .skip (.exit 4))) (.seq (.block 5
  (.region (some [42,43,44,45,46,47,48,49,50,51,52,53,54,55,56]) [oA 42 (.mv (.t 8)),oA 43 (.mv (.t 1)),oA 44 (.mv (.t 9)),oA 45 (.idx 1 (.t 43) (.t 44)),oA 46 (.ld none (.t 45)),oA 47 (.mv (.t 1)),oA 48 (.mv (.t 0)),oA 49 (.mv (.t 7)),oA 50 (.idx 1 (.t 48) (.t 49)),oA 51 (.ld none (.t 50)),oA 52 (.mv (.t 9)),oA 53 (.idx 1 (.t 51) (.t 52)),oA 54 (.ld none (.t 53)),oA 55 (.idx 1 (.t 47) (.t 54)),oA 56 (.ld none (.t 55)),oA 57 (.idx 1 (.t 42) (.t 46)),oN (.st none (.t 57) (.t 56))] [0,1,5,7,8,9]))
  (.re [oA 40 (.mv (.t 9)),oA 41 (.bin .add (.t 40) (.ci 1)),oA 9 (.mv (.t 41))] [0,1,5,7,8,9]))))))))
  (.re [oA 27 (.mv (.t 7)),oA 28 (.bin .add (.t 27) (.ci 1)),oA 7 (.mv (.t 28))] [0,1,5,7])))))) (.seq
  (.re [oA 58 (.mv (.t 5)),oA 4 (.asg (.t 58))] [4]) .ret)))))

def c_spec_l05Cycle:F where
 np:=1
 rs:=[.cell 2 (some 1)]
 body :=
  (.seq
  (.re [oA 1 (.box (.t 0)),oA 2 (.alloc [(.slice none 0 0)])] [1,2]) (.seq
  (.re [oA 5 (.build [(.slice none 0 0)] []),oA 3 (.alloc [(.slice none 0 0)]),oN (.st (some 1) (.t 3) (.t 5))] [1,2,3]) (.seq (.seq
  (.re [oA 4 (.mv (.ci 0))] [1,2,3,4]) (.block 0 (.loop (.seq (.seq
  (.re [oA 6 (.mv (.t 4)),oA 7 (.fld 0 (.t 1)),oA 8 (.ld none (.t 7)),oA 9 (.len (.t 8)),oA 10 (.bin .lss (.t 6) (.t 9))] [1,2,3,4,10]) (.cond (.t 10) .skip (.exit 0))) (.seq (.block 1
  (.region (some [13,14,15,16,17,18,19,20,21]) [oA 13 (.fld 0 (.t 3)),oA 14 (.ld none (.t 13)),oA 15 (.fld 0 (.t 1)),oA 16 (.ld none (.t 15)),oA 17 (.mv (.t 4)),oA 18 (.idx 1 (.t 16) (.t 17)),oA 19 (.ld none (.t 18)),oA 20 (.call (.f 304) [aR 19]),oA 21 (.bsl1 20),oA 22 (.app true 1 (.t 14) (.t 21)),oA 23 (.fld 0 (.t 3)),oN (.st none (.t 23) (.t 22))] [1,2,3,4]))
  (.re [oA 11 (.mv (.t 4)),oA 12 (.bin .add (.t 11) (.ci 1)),oA 4 (.mv (.t 12))] [1,2,3,4])))))) (.seq
  (.re [oA 24 (.ld (some 1) (.t 3)),oN (.st (some 1) (.t 2) (.t 24))] [2]) .ret))))

def c_spec_l05Solution:F where
 np:=1
 rs:=[.cell 2 (some 2)]
 body :=
  (.seq
  (.re [oA 1 (.box (.t 0)),oA 2 (.alloc [(.slice none 0 0),(.slice none 0 0)])] [1,2]) (.seq
  (.re [oA 10 (.fld 0 (.t 1)),oA 11 (.ld none (.t 10)),oA 12 (.len (.t 11)),oA 3 (.mv (.t 12))] [1,2,3]) (.seq
  (.re [oA 13 (.mv (.t 3)),oA 14 (.call (.f 398) [aR 13]),oA 4 (.alloc [(.slice none 0 0),(.slice none 0 0)]),oN (.st (some 2) (.t 4) (.t 14))] [1,2,3,4]) (.seq (.seq
  (.re [oA 5 (.mv (.ci 0))] [1,2,3,4,5]) (.block 0 (.loop (.seq (.seq
  (.re [oA 15 (.mv (.t 5)),oA 16 (.mv (.t 3)),oA 17 (.bin .lss (.t 15) (.t 16))] [1,2,3,4,5,17]) (.cond (.t 17) .skip (.exit 0))) (.seq (.block 1 (.seq
  (.region (some [6,20,21,22,23,24,25,26,27,28,29]) [oA 20 (.fld 0 (.t 4)),oA 21 (.ld none (.t 20)),oA 22 (.mv (.t 5)),oA 23 (.idx 1 (.t 21) (.t 22)),oA 24 (.ld none (.t 23)),oA 25 (.fld 1 (.t 4)),oA 26 (.ld none (.t 25)),oA 27 (.mv (.t 5)),oA 28 (.idx 1 (.t 26) (.t 27)),oA 29 (.ld none (.t 28)),oA 6 (.mv (.t 24)),oA 7 (.mv (.t 29))] [1,2,3,4,5,6,7]) (.seq
  (.re [oA 8 (.mv (.ci 0))] [1,2,3,4,5,6,7,8]) (.block 2 (.loop (.seq (.seq
  (.re [oA 30 (.mv (.t 8)),oA 31 (.mv (.t 3)),oA 32 (.bin .lss (.t 30) (.t 31))] [1,2,3,4,5,6,7,8,32]) (.cond (.t 32) .skip (.exit 2))) (.seq (.block 3 (.seq
  (.re [oA 35 (.fld 0 (.t 1)),oA 36 (.ld none (.t 35)),oA 37 (.mv (.t 5)),oA 38 (.idx 1 (.t 36) (.t 37)),oA 39 (.ld none (.t 38)),oA 40 (.mv (.t 8)),oA 41 (.call (.f 69) [aR 39,aR 40]),oA 9 (.mv (.t 41))] [1,2,3,4,5,6,7,8,9]) (.seq
  (.re [oA 42 (.mv (.t 6)),oA 43 (.mv (.t 8)),oA 44 (.mv (.t 9)),oA 45 (.idx 1 (.t 42) (.t 43)),oN (.st none (.t 45) (.t 44))] [1,2,3,4,5,6,7,8,9])
  (.re [oA 46 (.mv (.t 7)),oA 47 (.mv (.t 8)),oA 48 (.fld 0 (.t 1)),oA 49 (.ld none (.t 48)),oA 50 (.mv (.t 9)),oA 51 (.idx 1 (.t 49) (.t 50)),oA 52 (.ld none (.t 51)),oA 53 (.mv (.t 5)),oA 54 (.idx 1 (.t 52) (.t 53)),oA 55 (.ld none (.t 54)),oA 56 (.idx 1 (.t 46) (.t 47)),oN (.st none (.t 56) (.t 55))] [1,2,3,4,5,6,7,8]))))
  (.re [oA 33 (.mv (.t 8)),oA 34 (.bin .add (.t 33) (.ci 1)),oA 8 (.mv (.t 34))] [1,2,3,4,5,6,7,8]))))))))
  (.re [oA 18 (.mv (.t 5)),oA 19 (.bin .add (.t 18) (.ci 1)),oA 5 (.mv (.t 19))] [1,2,3,4,5])))))) (.seq
  (.re [oA 57 (.ld (some 2) (.t 4)),oN (.st (some 2) (.t 2) (.t 57))] [2]) .ret)))))

def c_spec_l02Spoil:F where
 np:=2
 rs:=[.cell 4 (some 2)]
 fix:=[0,1]
 body :=
  (.seq
  (.re [oA 4 (.alloc [(.slice none 0 0),(.slice none 0 0)])] [0,1,4]) (.seq
  (.re [oA 8 (.mvs 0),oA 9 (.mv (.t 1)),oA 10 (.calls (.f 412) (.t 8) 0 [(.t 9)]),oA 5 (.alloc [(.slice none 0 0),(.slice none 0 0)]),oN (.st (some 2) (.t 5) (.t 10))] [0,1,4,5]) (.seq
  (.re [oA 11 (.fld 0 (.t 5)),oA 12 (.ld none (.t 11)),oA 13 (.len (.t 12)),oA 6 (.mv (.t 13))] [0,1,4,5,6]) (.seq (.seq
  (.re [oA 14 (.mvs 0),oA 15 (.calls (.f 336) (.t 14) 0 [(.ci 24)])] [0,1,4,5,6,15]) (.block 0 (.seq
  (.re [oA 17 (.bin .eql (.t 15) (.ci 0)),oA 16 (.mv (.t 17))] [0,1,4,5,6,15,16]) (.cond (.t 16)
  (.region (some [18,19,20,21,22,23,24,25]) [oA 18 (.fld 0 (.t 5)),oA 19 (.ld none (.t 18)),oA 20 (.mvs 0),oA 21 (.mv (.t 6)),oA 22 (.calls (.f 336) (.t 20) 0 [(.t 21)]),oA 23 (.mvs 0),oA 24 (.mv (.t 6)),oA 25 (.calls (.f 368) (.t 23) 0 [(.t 24)]),oA 26 (.idx 1 (.t 19) (.t 22)),oN (.st none (.t 26) (.t 25))] [0,1,4,5]) (.seq
  (.re [oA 28 (.bin .eql (.t 15) (.ci 1)),oA 27 (.mv (.t 28))] [0,1,4,5,6,15,27]) (.cond (.t 27) (.seq
  (.region (some [29,30,31,32,33]) [oA 29 (.fld 1 (.t 5)),oA 30 (.ld none (.t 29)),oA 31 (.mvs 0),oA 32 (.mv (.t 6)),oA 33 (.calls (.f 336) (.t 31) 0 [(.t 32)]),oA 34 (.idx 1 (.t 30) (.t 33)),oA 35 (.ld none (.t 34)),oA 7 (.mv (.t 35))] [0,1,4,5,6,7])
  (.re [oA 36 (.mv (.t 7)),oA 37 (.mvs 0),oA 38 (.mv (.t 6)),oA 39 (.calls (.f 336) (.t 37) 0 [(.t 38)]),oA 40 (.mvs 0),oA 41 (.mv (.t 6)),oA 42 (.calls (.f 336) (.t 40) 0 [(.t 41)]),oA 43 (.idx 1 (.t 36) (.t 39)),oN (.st none (.t 43) (.t 42))] [0,1,4,5])) (.seq
  (.re [oA 45 (.bin .eql (.t 15) (.ci 2)),oA 44 (.mv (.t 45))] [0,1,4,5,6,15,44]) (.cond (.t 44)
  (.re [oA 46 (.mvs 0),oA 47 (.mv (.t 6)),oA 48 (.calls (.f 428) (.t 46) 0 [(.t 47)]),oA 49 (.mvs 0),oA 50 (.mv (.t 6)),oA 51 (.calls (.f 428) (.t 49) 0 [(.t 50)]),oA 52 (.build [(.slice none 0 0),(.slice none 0 0)] [(0,1,(.t 48)),(1,1,(.t 51))]),oN (.st (some 2) (.t 5) (.t 52))] [0,1,4,5]) (.seq
  (.re [oA 54 (.bin .eql (.t 15) (.ci 3)),oA 53 (.mv (.t 54))] [0,1,4,5,6,15,53]) (.cond (.t 53)
  (.re [oA 55 (.mvs 0),oA 56 (.mv (.t 6)),oA 57 (.calls (.f 413) (.t 55) 0 [(.t 56)]),oA 58 (.fld 1 (.t 5)),oN (.st none (.t 58) (.t 57))] [0,1,4,5]) (.seq
  (.re [oA 60 (.bin .eql (.t 15) (.ci 4)),oA 59 (.mv (.t 60))] [0,1,4,5,6,59]) (.cond (.t 59)
  (.re [oA 61 (.mvs 0),oA 62 (.mv (.t 6)),oA 63 (.calls (.f 413) (.t 61) 0 [(.t 62)]),oA 64 (.fld 0 (.t 5)),oN (.st none (.t 64) (.t 63))] [0,1,4,5]) .skip)))))))))))) (.seq
  (.re [oA 65 (.ld (some 2) (.t 5)),oN (.st (some 2) (.t 4) (.t 65))] [0,1,4]) .ret)))))

def c_spec_l01Tables:F where
 np:=2
 rs:=[.t 4]
 fix:=[0,1]
 body :=
  (.seq
  (.re [oA 4 (.asg (.c (.slice none 0 0)))] [0,1]) (.seq
  (.re [oA 12 (.bsl []),oA 13 (.mvs 0),oA 14 (.calls (.f 336) (.t 13) 0 [(.ci 3)]),oA 5 (.asg (.t 12)),oA 6 (.mv (.t 14))] [0,1,5,6]) (.seq
  (.re [oA 15 (.mvs 0),oA 16 (.mv (.t 1)),oA 17 (.calls (.f 368) (.t 15) 0 [(.t 16)]),oA 7 (.asg (.t 17))] [0,1,5,6,7]) (.seq (.seq
  (.re [oA 8 (.mv (.ci 0))] [0,1,5,6,7,8]) (.block 0 (.loop (.seq (.seq
  (.re [oA 18 (.mv (.t 8)),oA 19 (.mv (.t 1)),oA 20 (.bin .lss (.t 18) (.t 19))] [0,1,5,6,7,8,20]) (.cond (.t 20) .skip (.exit 0))) (.seq (.block 1 (.seq
  (.re [oA 23 (.mvs 0),oA 24 (.mv (.t 1)),oA 25 (.calls (.f 368) (.t 23) 0 [(.t 24)]),oA 9 (.asg (.t 25))] [0,1,5,6,7,8,9]) (.seq (.seq
  (.re [oA 26 (.mv (.t 6))] [0,1,5,6,7,8,9,26]) (.block 2 (.seq
  (.re [oA 28 (.bin .eql (.t 26) (.ci 0)),oA 27 (.mv (.t 28))] [0,1,5,6,7,8,9,26,27]) (.cond (.t 27) (.seq
  (.re [oA 10 (.mv (.ci 0))] [0,1,5,6,7,8,9,10]) (.block 3 (.loop (.seq (.seq
  (.re [oA 29 (.mv (.t 10)),oA 30 (.mv (.t 1)),oA 31 (.bin .lss (.t 29) (.t 30))] [0,1,5,6,7,8,9,10,31]) (.cond (.t 31) .skip (.exit 3))) (.seq (.block 4
  (.re [oA 34 (.mv (.t 9)),oA 35 (.mv (.t 10)),oA 36 (.mvs 0),oA 37 (.mv (.t 1)),oA 38 (.calls (.f 336) (.t 36) 0 [(.t 37)]),oA 39 (.idx 1 (.t 34) (.t 35)),oN (.st none (.t 39) (.t 38))] [0,1,5,6,7,8,9,10]))
  (.re [oA 32 (.mv (.t 10)),oA 33 (.bin .add (.t 32) (.ci 1)),oA 10 (.mv (.t 33))] [0,1,5,6,7,8,9,10])))))) (.seq
  (.re [oA 41 (.bin .eql (.t 26) (.ci 1)),oA 40 (.mv (.t 41))] [0,1,5,6,7,8,9,40]) (.cond (.t 40) (.seq
  (.re [oA 11 (.mv (.ci 0))] [0,1,5,6,7,8,9,11]) (.block 5 (.loop (.seq (.seq
  (.re [oA 42 (.mv (.t 11)),oA 43 (.mv (.t 1)),oA 44 (.bin .lss (.t 42) (.t 43))] [0,1,5,6,7,8,9,11,44]) (.cond (.t 44) .skip (.exit 5))) (.seq (.block 6
  (.re [oA 47 (.mv (.t 9)),oA 48 (.mv (.t 11)),oA 49 (.mv (.t 7)),oA 50 (.mv (.t 8)),oA 51 (.mv (.t 11)),oA 52 (.bin .add (.t 50) (.t 51)),oA 53 (.mv (.t 1)),oA 54 (.bin .rem (.t 52) (.t 53)),oA 55 (.idx 1 (.t 49) (.t 54)),oA 56 (.ld none (.t 55)),oA 57 (.idx 1 (.t 47) (.t 48)),oN (.st none (.t 57) (.t 56))] [0,1,5,6,7,8,9,11]))
  (.re [oA 45 (.mv (.t 11)),oA 46 (.bin .add (.t 45) (.ci 1)),oA 11 (.mv (.t 46))] [0,1,5,6,7,8,9,11])))))) .skip))))))
  (.re [oA 58 (.mv (.t 5)),oA 59 (.mv (.t 9)),oA 60 (.bsl [(.t 59)]),oA 61 (.app true 1 (.t 58) (.t 60)),oA 5 (.asg (.t 61))] [0,1,5,6,7,8]))))
  (.re [oA 21 (.mv (.t 8)),oA 22 (.bin .add (.t 21) (.ci 1)),oA 8 (.mv (.t 22))] [0,1,5,6,7,8])))))) (.seq
  (.re [oA 62 (.mv (.t 5)),oA 4 (.asg (.t 62))] [0,1,4]) .ret)))))

def c_spec_l01Bad:F where
 np:=2
 rs:=[.t 4]
 fix:=[0,1]
 body :=
  (.seq
  (.re [oA 4 (.asg (.c (.slice none 0 0)))] [0,1]) (.seq
  (.re [oA 6 (.mvs 0),oA 7 (.mv (.t 1)),oA 8 (.calls (.f 428) (.t 6) 0 [(.t 7)]),oA 5 (.asg (.t 8))] [0,1,5]) (.seq (.seq
  (.re [oA 9 (.mvs 0),oA 10 (.calls (.f 336) (.t 9) 0 [(.ci 30)])] [0,1,5,10]) (.block 0 (.seq
  (.re [oA 12 (.bin .eql (.t 10) (.ci 0)),oA 11 (.mv (.t 12))] [0,1,5,10,11]) (.cond (.t 11)
  (.re [oA 13 (.mv (.t 5)),oA 14 (.mv (.t 1)),oA 15 (.call (.f 334) [aR 14]),oA 16 (.bsl [(.t 15)]),oA 17 (.app true 1 (.t 13) (.t 16)),oA 5 (.asg (.t 17))] [0,1,5]) (.seq
  (.re [oA 19 (.bin .eql (.t 10) (.ci 1)),oA 18 (.mv (.t 19))] [0,1,5,10,18]) (.cond (.t 18)
  (.re [oA 20 (.mv (.t 5)),oA 21 (.mv (.t 5)),oA 22 (.idx 1 (.t 21) (.ci 0)),oA 23 (.ld none (.t 22)),oA 24 (.bsl [(.ci 0)]),oA 25 (.app true 1 (.t 23) (.t 24)),oA 26 (.idx 1 (.t 20) (.ci 0)),oN (.st none (.t 26) (.t 25))] [0,1,5]) (.seq
  (.re [oA 28 (.bin .eql (.t 10) (.ci 2)),oA 27 (.mv (.t 28))] [0,1,5,10,27]) (.cond (.t 27)
  (.region (some [29,30,31,32,33,34,35]) [oA 29 (.mv (.t 5)),oA 30 (.idx 1 (.t 29) (.ci 0)),oA 31 (.ld none (.t 30)),oA 32 (.mvs 0),oA 33 (.mv (.t 1)),oA 34 (.bslw 1 [(.c (.int .i64 (-1))),(.t 33),(.ci 1099511627776)]),oA 35 (.calls (.f 292) (.t 32) 0 [(.t 34)]),oA 36 (.idx 1 (.t 31) (.ci 0)),oN (.st none (.t 36) (.t 35))] [0,1,5]) (.seq
  (.re [oA 38 (.bin .eql (.t 10) (.ci 3)),oA 37 (.mv (.t 38))] [0,1,5,10,37]) (.cond (.t 37)
  (.re [oA 39 (.bsl []),oA 5 (.asg (.t 39))] [0,1,5]) (.seq
  (.re [oA 41 (.bin .eql (.t 10) (.ci 4)),oA 40 (.mv (.t 41))] [0,1,5,40]) (.cond (.t 40)
  (.re [oA 42 (.mvs 0),oA 43 (.calls (.f 428) (.t 42) 0 [(.ci 13)]),oA 5 (.asg (.t 43))] [0,1,5]) .skip)))))))))))) (.seq
  (.re [oA 44 (.mv (.t 5)),oA 4 (.asg (.t 44))] [0,1,4]) .ret))))

def c_spec_l01Pick:F where
 np:=2
 rs:=[.t 4]
 fix:=[0,1]
 body :=
  (.seq
  (.re [oA 4 (.mv (.ci 0))] [0,1]) (.seq
  (.re [oA 5 (.mv (.t 1)),oA 6 (.mvs 0),oA 7 (.mv (.t 1)),oA 8 (.len (.t 7)),oA 9 (.calls (.f 336) (.t 6) 0 [(.t 8)]),oA 10 (.idx 1 (.t 5) (.t 9)),oA 11 (.ld none (.t 10)),oA 4 (.mv (.t 11))] [0,1,4]) .ret))

def c_spec_l01From:F where
 np:=1
 rs:=[.t 2]
 body :=
  (.seq
  (.re [oA 2 (.asg (.c (.pointer none)))] [0]) (.seq
  (.re [oA 5 (.mv (.t 0)),oA 6 (.mv (.t 0)),oA 7 (.len (.t 6)),oA 8 (.conv .u64 (.t 7)),oA 9 (.bin .add (.c (.int .u64 6553)) (.t 8)),oA 10 (.build [(.slice none 0 0),(.int .i64 0),(.int .u64 0)] [(0,1,(.t 5)),(2,1,(.t 9))]),oA 11 (.box (.t 10)),oA 3 (.asg (.t 11))] [0,3]) (.seq (.seq
  (.re [oA 4 (.mv (.ci 0))] [0,3,4]) (.block 0 (.loop (.seq (.seq
  (.re [oA 12 (.mv (.t 4)),oA 13 (.mv (.t 0)),oA 14 (.len (.t 13)),oA 15 (.bin .lss (.t 12) (.t 14)),oA 16 (.mv (.t 15)),oI 17 16 true (.mv (.t 4)),oI 18 16 true (.bin .lss (.t 17) (.ci 4096)),oA 19 (.pick (.t 16) (.t 18) (.c (.bool false)))] [0,3,4,19]) (.cond (.t 19) .skip (.exit 0))) (.seq (.block 1
  (.region (some [22,23,24,25,26,27,28,29,30,31,32,33,34]) [oA 22 (.mv (.t 3)),oA 23 (.mv (.t 3)),oA 24 (.nilck (.t 23)),oA 25 (.fld 2 (.t 24)),oA 26 (.ld none (.t 25)),oA 27 (.bin .mul (.t 26) (.c (.int .u64 1099511628211))),oA 28 (.mv (.t 0)),oA 29 (.mv (.t 4)),oA 30 (.idx 1 (.t 28) (.t 29)),oA 31 (.ld none (.t 30)),oA 32 (.conv .u64 (.t 31)),oA 33 (.bin .add (.t 27) (.t 32)),oA 34 (.bin .add (.t 33) (.c (.int .u64 11))),oA 35 (.nilck (.t 22)),oA 36 (.fld 2 (.t 35)),oN (.st none (.t 36) (.t 34))] [0,3,4]))
  (.re [oA 20 (.mv (.t 4)),oA 21 (.bin .add (.t 20) (.ci 1)),oA 4 (.mv (.t 21))] [0,3,4])))))) (.seq
  (.re [oA 37 (.mv (.t 3)),oA 2 (.asg (.t 37))] [2]) .ret))))

def c_laws_FnSolutionGroups:F where
 np:=1
 rs:=[.t 2]
 body :=
  (.seq
  (.re [oA 2 (.mv (.c (.bool false)))] [0]) (.seq (.seq
  (.re [oA 29 (.mv (.t 0)),oA 30 (.call (.f 128) [aR 29])] [0,30]) (.cond (.t 30) (.seq
  (.re [oA 2 (.mv (.c (.bool true)))] [2]) .ret) .skip)) (.seq
  (.re [oA 31 (.mv (.t 0)),oA 32 (.call (.f 129) [aR 31]),oA 3 (.alloc [(.slice none 0 0),(.slice none 0 0)]),oN (.st (some 2) (.t 3) (.t 32))] [0,3]) (.seq
  (.re [oA 34 (.ld (some 2) (.t 3)),oA 35 (.call (.f 130) [aR 34]),oA 33 (.mv (.t 35)),oA 36 (.ext (.t 33) 0),oA 37 (.ext (.t 33) 1),oA 4 (.mv (.t 36)),oA 5 (.mv (.t 37))] [0,3,4,5]) (.seq
  (.re [oA 39 (.ld (some 2) (.t 3)),oA 40 (.call (.f 131) [aR 39]),oA 38 (.mv (.t 40)),oA 41 (.ext (.t 38) 0),oA 42 (.ext (.t 38) 1),oA 6 (.mv (.t 41)),oA 7 (.mv (.t 42))] [0,3,4,5,6,7]) (.seq (.seq
  (.re [oA 43 (.mv (.t 5)),oA 44 (.mv (.t 7)),oA 45 (.bin .neq (.t 43) (.t 44)),oA 46 (.mv (.t 45)),oI 47 46 false (.mv (.t 4)),oI 48 46 false (.mv (.t 6)),oI 49 46 false (.bin .neq (.t 47) (.t 48)),oA 50 (.pick (.t 46) (.c (.bool true)) (.t 49))] [0,3,4,5,50]) (.cond (.t 50) (.seq
  (.re [oA 2 (.mv (.c (.bool false)))] [2]) .ret) .skip)) (.seq (.seq
  (.re [oA 51 (.mv (.t 5)),oA 52 (.bin .neq (.t 51) (.ci 0))] [0,3,4,52]) (.cond (.t 52) (.seq
  (.re [oA 2 (.mv (.c (.bool true)))] [2]) .ret) .skip)) (.seq
  (.re [oA 54 (.ld (some 2) (.t 3)),oA 55 (.call (.f 132) [aR 54]),oN (.freeze 55),oA 53 (.mv (.t 55)),oA 56 (.ext (.t 53) 0),oA 57 (.ext (.t 53) 1),oA 8 (.asg (.t 56)),oA 9 (.mv (.t 57))] [0,3,4,8,9]) (.seq
  (.re [oA 59 (.ld (some 2) (.t 3)),oA 60 (.call (.f 133) [aR 59]),oA 58 (.mv (.t 60)),oA 61 (.ext (.t 58) 0),oA 62 (.ext (.t 58) 1),oA 10 (.mv (.t 61)),oA 11 (.mv (.t 62))] [0,3,4,8,9,10,11]) (.seq
  (.re [oA 64 (.ld (some 2) (.t 3)),oA 65 (.call (.f 134) [aR 64]),oA 63 (.mv (.t 65)),oA 66 (.ext (.t 63) 0),oA 67 (.ext (.t 63) 1),oA 12 (.mv (.t 66)),oA 13 (.mv (.t 67))] [0,3,4,8,9,10,11,12,13]) (.seq
  (.re [oA 69 (.ld (some 2) (.t 3)),oA 70 (.call (.f 135) [aR 69]),oA 68 (.mv (.t 70)),oA 71 (.ext (.t 68) 0),oA 72 (.ext (.t 68) 1),oA 14 (.asg (.t 71)),oA 15 (.mv (.t 72))] [0,3,4,8,9,10,11,12,13,14,15]) (.seq
  (.re [oA 74 (.ld (some 2) (.t 3)),oA 75 (.call (.f 127) [aR 74]),oA 73 (.mv (.t 75)),oA 76 (.ext (.t 73) 0),oA 77 (.ext (.t 73) 1),oA 16 (.asg (.t 76)),oA 17 (.mv (.t 77))] [0,3,4,8,9,10,11,12,13,14,15,16,17]) (.seq
  (.re [oA 79 (.ld (some 2) (.t 3)),oA 80 (.call (.f 136) [aR 79]),oA 78 (.mv (.t 80)),oA 81 (.ext (.t 78) 0),oA 82 (.ext (.t 78) 1),oA 18 (.mv (.t 81)),oA 19 (.mv (.t 82))] [0,3,4,8,9,10,11,12,13,14,15,16,17,18,19]) (.seq (.seq
  (.re [oA 83 (.mv (.t 9)),oA 84 (.bin .neq (.t 83) (.ci 0)),oA 85 (.mv (.t 84)),oI 86 85 false (.mv (.t 11)),oI 87 85 false (.bin .neq (.t 86) (.ci 0)),oA 88 (.pick (.t 85) (.c (.bool true)) (.t 87)),oA 89 (.mv (.t 88)),oI 90 89 false (.mv (.t 13)),oI 91 89 false (.bin .neq (.t 90) (.ci 0)),oA 92 (.pick (.t 89) (.c (.bool true)) (.t 91)),oA 93 (.mv (.t 92)),oI 94 93 false (.mv (.t 15)),oI 95 93 false (.bin .neq (.t 94) (.ci 0)),oA 96 (.pick (.t 93) (.c (.bool true)) (.t 95)),oA 97 (.mv (.t 96)),oI 98 97 false (.mv (.t 17)),oI 99 97 false (.bin .neq (.t 98) (.ci 0)),oA 100 (.pick (.t 97) (.c (.bool true)) (.t 99)),oA 101 (.mv (.t 100)),oI 102 101 false (.mv (.t 19)),oI 103 101 false (.bin .neq (.t 102) (.ci 0)),oA 104 (.pick (.t 101) (.c (.bool true)) (.t 103)),oA 105 (.mv (.t 104)),oI 106 105 false (.mv (.t 10)),oI 107 105 false (.mv (.t 8)),oI 108 105 false (.len (.t 107)),oI 109 105 false (.bin .neq (.t 106) (.t 108)),oA 110 (.pick (.t 105) (.c (.bool true)) (.t 109)),oA 111 (.mv (.t 110)),oI 112 111 false (.mv (.t 10)),oI 113 111 false (.bin .lss (.t 112) (.ci 1)),oA 114 (.pick (.t 111) (.c (.bool true)) (.t 113)),oA 115 (.mv (.t 114)),oI 116 115 false (.mv (.t 12)),oI 117 115 false (.bin .lss (.t 116) (.ci 1)),oA 118 (.pick (.t 115) (.c (.bool true)) (.t 117)),oA 119 (.mv (.t 118)),oI 120 119 false (.mv (.t 4)),oI 121 119 false (.mv (.t 10)),oI 122 119 false (.bin .rem (.t 120) (.t 121)),oI 123 119 false (.bin .neq (.t 122) (.ci 0)),oA 124 (.pick (.t 119) (.c (.bool true)) (.t 123)),oA 125 (.mv (.t 124)),oI 126 125 false (.mv (.t 4)),oI 127 125 false (.mv (.t 12)),oI 128 125 false (.bin .rem (.t 126) (.t 127)),oI 129 125 false (.bin .neq (.t 128) (.ci 0)),oA 130 (.pick (.t 125) (.c (.bool true)) (.t 129)),oA 131 (.mv (.t 130)),oI 132 131 false (.mv (.t 14)),oI 133 131 false (.fld 0 (.t 3)),oI 134 131 false (.ld none (.t 133)),oI 135 131 false (.call (.f 137) [aR 132,aR 134]),oI 136 131 false (.un .not (.t 135)),oA 137 (.pick (.t 131) (.c (.bool true)) (.t 136)),oA 138 (.mv (.t 137)),oI 139 138 false (.mv (.t 16)),oI 140 138 false (.len (.t 139)),oI 141 138 false (.fld 0 (.t 3)),oI 142 138 false (.ld none (.t 141)),oI 143 138 false (.len (.t 142)),oI 144 138 false (.bin .neq (.t 140) (.t 143)),oA 145 (.pick (.t 138) (.c (.bool true)) (.t 144))] [0,3,8,10,14,16,18,145]) (.cond (.t 145) (.seq
  (.re [oA 2 (.mv (.c (.bool false)))] [2]) .ret) .skip)) (.seq (.seq
  (.re [oA 20 (.mv (.ci 0))] [0,3,8,10,14,16,18,20]) (.block 0 (.loop (.seq (.seq
  (.re [oA 146 (.mv (.t 20)),oA 147 (.mv (.t 14)),oA 148 (.len (.t 147)),oA 149 (.bin .lss (.t 146) (.t 148))] [0,3,8,10,14,16,18,20,149]) (.cond (.t 149) .skip (.exit 0))) (.seq (.block 1 (.seq (.seq
  (.re [oA 152 (.mv (.t 8)),oA 153 (.mv (.t 14)),oA 154 (.mv (.t 20)),oA 155 (.idx 1 (.t 153) (.t 154)),oA 156 (.ld none (.t 155)),oA 157 (.call (.f 138) [aR 152,aR 156]),oA 158 (.un .not (.t 157)),oA 159 (.mv (.t 158)),oI 160 159 false (.mv (.t 16)),oI 161 159 false (.mv (.t 20)),oI 162 159 false (.idx 1 (.t 160) (.t 161)),oI 163 159 false (.ld none (.t 162)),oI 164 159 false (.len (.t 163)),oI 165 159 false (.mv (.t 16)),oI 166 159 false (.len (.t 165)),oI 167 159 false (.bin .neq (.t 164) (.t 166)),oA 168 (.pick (.t 159) (.c (.bool true)) (.t 167))] [0,3,8,10,14,16,18,20,168]) (.cond (.t 168) (.seq
  (.re [oA 2 (.mv (.c (.bool false)))] [2]) .ret) .skip)) (.seq
  (.re [oA 21 (.mv (.ci 0))] [0,3,8,10,14,16,18,20,21]) (.block 2 (.loop (.seq (.seq
  (.re [oA 169 (.mv (.t 21)),oA 170 (.mv (.t 16)),oA 171 (.len (.t 170)),oA 172 (.bin .lss (.t 169) (.t 171))] [0,3,8,10,14,16,18,20,21,172]) (.cond (.t 172) .skip (.exit 2))) (.seq (.block 3 (.seq
  (.region (some [175,176,177,178,179,180,181,182,183,184,185,186,187,188,189]) [oA 175 (.mv (.t 16)),oA 176 (.mv (.t 20)),oA 177 (.idx 1 (.t 175) (.t 176)),oA 178 (.ld none (.t 177)),oA 179 (.mv (.t 21)),oA 180 (.idx 1 (.t 178) (.t 179)),oA 181 (.ld none (.t 180)),oA 182 (.fld 1 (.t 3)),oA 183 (.ld none (.t 182)),oA 184 (.mv (.t 21)),oA 185 (.idx 1 (.t 183) (.t 184)),oA 186 (.ld none (.t 185)),oA 187 (.mv (.t 20)),oA 188 (.idx 1 (.t 186) (.t 187)),oA 189 (.ld none (.t 188)),oA 190 (.bin .neq (.t 181) (.t 189))] [0,3,8,10,14,16,18,20,21,190]) (.cond (.t 190) (.seq
  (.re [oA 2 (.mv (.c (.bool false)))] [2]) .ret) .skip)))
  (.re [oA 173 (.mv (.t 21)),oA 174 (.bin .add (.t 173) (.ci 1)),oA 21 (.mv (.t 174))] [0,3,8,10,14,16,18,20,21]))))))))
  (.re [oA 150 (.mv (.t 20)),oA 151 (.bin .add (.t 150) (.ci 1)),oA 20 (.mv (.t 151))] [0,3,8,10,14,16,18,20])))))) (.seq
  (.re [oA 191 (.mv (.t 0)),oA 192 (.call (.f 139) [aR 191,((.c (.int .u64 816)),.r)]),oA 22 (.asg (.t 192))] [8,10,14,18,22]) (.seq (.seq
  (.re [oA 23 (.mv (.ci 0))] [8,10,14,18,22,23]) (.block 4 (.loop (.seq (.seq
  (.re [oA 193 (.mv (.t 23)),oA 194 (.bin .lss (.t 193) (.ci 4))] [8,10,14,18,22,23,194]) (.cond (.t 194) .skip (.exit 4))) (.seq (.block 5 (.seq
  (.region (some [24,197,198,199,200,201,202,203,204,205,206,207,208]) [oA 197 (.mv (.t 8)),oA 198 (.mvs 22),oA 199 (.mv (.t 10)),oA 200 (.calls (.f 140) (.t 198) 22 [(.t 199)]),oA 201 (.idx 1 (.t 197) (.t 200)),oA 202 (.ld none (.t 201)),oA 203 (.mv (.t 8)),oA 204 (.mvs 22),oA 205 (.mv (.t 10)),oA 206 (.calls (.f 140) (.t 204) 22 [(.t 205)]),oA 207 (.idx 1 (.t 203) (.t 206)),oA 208 (.ld none (.t 207)),oA 24 (.mv (.t 202)),oA 25 (.mv (.t 208))] [8,10,14,18,22,23,24,25]) (.seq
  (.re [oA 209 (.mv (.t 18)),oA 210 (.mv (.t 209)),oI 211 210 true (.mv (.t 24)),oI 212 210 true (.mv (.t 25)),oI 213 210 true (.call (.f 142) [aR 211,aR 212]),oI 214 210 true (.mv (.t 25)),oI 215 210 true (.mv (.t 24)),oI 216 210 true (.call (.f 142) [aR 214,aR 215]),oI 217 210 true (.call (.f 141) [aR 213,aR 216]),oI 218 210 true (.un .not (.t 217)),oA 219 (.pick (.t 210) (.t 218) (.c (.bool false)))] [8,10,14,18,22,23,219]) (.cond (.t 219) (.seq
  (.re [oA 2 (.mv (.c (.bool false)))] [2]) .ret) .skip))))
  (.re [oA 195 (.mv (.t 23)),oA 196 (.bin .add (.t 195) (.ci 1)),oA 23 (.mv (.t 196))] [8,10,14,18,22,23])))))) (.seq
  (.re [oA 26 (.mv (.c (.bool true)))] [14,18,26]) (.seq (.seq
  (.re [oA 27 (.mv (.ci 0))] [14,18,26,27]) (.block 6 (.loop (.seq (.seq
  (.re [oA 220 (.mv (.t 27)),oA 221 (.mv (.t 14)),oA 222 (.len (.t 221)),oA 223 (.bin .lss (.t 220) (.t 222))] [14,18,26,27,223]) (.cond (.t 223) .skip (.exit 6))) (.seq (.block 7 (.seq
  (.re [oA 28 (.mv (.ci 0))] [14,18,26,27,28]) (.block 8 (.loop (.seq (.seq
  (.re [oA 226 (.mv (.t 28)),oA 227 (.mv (.t 27)),oA 228 (.bin .lss (.t 226) (.t 227))] [14,18,26,27,28,228]) (.cond (.t 228) .skip (.exit 8))) (.seq (.block 9
  (.region (some [233,234,235,236,237,238,239,240,241,242,243,244,245,246,247,248,249]) [oA 231 (.mv (.t 26)),oA 232 (.mv (.t 231)),oI 233 232 true (.mv (.t 14)),oI 234 232 true (.mv (.t 27)),oI 235 232 true (.idx 1 (.t 233) (.t 234)),oI 236 232 true (.ld none (.t 235)),oI 237 232 true (.mv (.t 14)),oI 238 232 true (.mv (.t 28)),oI 239 232 true (.idx 1 (.t 237) (.t 238)),oI 240 232 true (.ld none (.t 239)),oI 241 232 true (.call (.f 142) [aR 236,aR 240]),oI 242 232 true (.mv (.t 14)),oI 243 232 true (.mv (.t 28)),oI 244 232 true (.idx 1 (.t 242) (.t 243)),oI 245 232 true (.ld none (.t 244)),oI 246 232 true (.mv (.t 14)),oI 247 232 true (.mv (.t 27)),oI 248 232 true (.idx 1 (.t 246) (.t 247)),oI 249 232 true (.ld none (.t 248)),oI 250 232 true (.call (.f 142) [aR 245,aR 249]),oI 251 232 true (.call (.f 141) [aR 241,aR 250]),oA 252 (.pick (.t 232) (.t 251) (.c (.bool false))),oA 26 (.mv (.t 252))] [14,18,26,27,28]))
  (.re [oA 229 (.mv (.t 28)),oA 230 (.bin .add (.t 229) (.ci 1)),oA 28 (.mv (.t 230))] [14,18,26,27,28])))))))
  (.re [oA 224 (.mv (.t 27)),oA 225 (.bin .add (.t 224) (.ci 1)),oA 27 (.mv (.t 225))] [14,18,26,27])))))) (.seq
  (.re [oA 253 (.mv (.t 26)),oA 254 (.mv (.t 18)),oA 255 (.beq false (.t 253) (.t 254)),oA 2 (.mv (.t 255))] [2]) .ret))))))))))))))))))))

def c_laws_big:F where
 np:=1
 rs:=[.t 2]
 body :=
  (.seq
  (.re [oA 2 (.mv (.c (.bool false)))] [0]) (.seq
  (.re [oA 3 (.mv (.t 0)),oA 4 (.len (.t 3)),oA 5 (.bin .gtr (.t 4) (.ci 4096)),oA 2 (.mv (.t 5))] [2]) .ret))

def c_spec_DrawWholeGroupOrder:F where
 np:=1
 rs:=[.cell 2 (some 2)]
 body :=
  (.seq
  (.re [oA 2 (.alloc [(.slice none 0 0),(.slice none 0 0)])] [0,2]) (.seq
  (.re [oA 3 (.mv (.t 0)),oA 4 (.call (.f 269) [aR 3]),oA 5 (.callm (.f 268) [((.t 4),true),((.ci 8),false)] []),oN (.st (some 2) (.t 2) (.t 5))] [2]) .ret))

def c_laws_likeRows5:F where
 np:=2
 rs:=[.t 4]
 body :=
  (.seq
  (.re [oA 4 (.mv (.c (.bool false)))] [0,1]) (.seq (.seq
  (.re [oA 6 (.mv (.t 0)),oA 7 (.len (.t 6)),oA 8 (.mv (.t 1)),oA 9 (.len (.t 8)),oA 10 (.bin .neq (.t 7) (.t 9))] [0,1,10]) (.cond (.t 10) (.seq
  (.re [oA 4 (.mv (.c (.bool false)))] [4]) .ret) .skip)) (.seq (.seq
  (.re [oA 5 (.mv (.ci 0))] [0,1,5]) (.block 0 (.loop (.seq (.seq
  (.re [oA 11 (.mv (.t 5)),oA 12 (.mv (.t 0)),oA 13 (.len (.t 12)),oA 14 (.bin .lss (.t 11) (.t 13))] [0,1,5,14]) (.cond (.t 14) .skip (.exit 0))) (.seq (.block 1 (.seq
  (.region (some [17,18,19,20,21,22,23,24]) [oA 17 (.mv (.t 0)),oA 18 (.mv (.t 5)),oA 19 (.idx 1 (.t 17) (.t 18)),oA 20 (.ld none (.t 19)),oA 21 (.mv (.t 1)),oA 22 (.mv (.t 5)),oA 23 (.idx 1 (.t 21) (.t 22)),oA 24 (.ld none (.t 23)),oA 25 (.call (.f 141) [aR 20,aR 24]),oA 26 (.un .not (.t 25))] [0,1,5,26]) (.cond (.t 26) (.seq
  (.re [oA 4 (.mv (.c (.bool false)))] [4]) .ret) .skip)))
  (.re [oA 15 (.mv (.t 5)),oA 16 (.bin .add (.t 15) (.ci 1)),oA 5 (.mv (.t 16))] [0,1,5])))))) (.seq
  (.re [oA 4 (.mv (.c (.bool true)))] [4]) .ret))))

def c_laws_likeInts:F where
 np:=2
 rs:=[.t 4]
 body :=
  (.seq
  (.re [oA 4 (.mv (.c (.bool false)))] [0,1]) (.seq (.seq
  (.re [oA 6 (.mv (.t 0)),oA 7 (.len (.t 6)),oA 8 (.mv (.t 1)),oA 9 (.len (.t 8)),oA 10 (.bin .neq (.t 7) (.t 9))] [0,1,10]) (.cond (.t 10) (.seq
  (.re [oA 4 (.mv (.c (.bool false)))] [4]) .ret) .skip)) (.seq (.seq
  (.re [oA 5 (.mv (.ci 0))] [0,1,5]) (.block 0 (.loop (.seq (.seq
  (.re [oA 11 (.mv (.t 5)),oA 12 (.mv (.t 0)),oA 13 (.len (.t 12)),oA 14 (.bin .lss (.t 11) (.t 13))] [0,1,5,14]) (.cond (.t 14) .skip (.exit 0))) (.seq (.block 1 (.seq
  (.region (some [17,18,19,20,21,22,23,24]) [oA 17 (.mv (.t 0)),oA 18 (.mv (.t 5)),oA 19 (.idx 1 (.t 17) (.t 18)),oA 20 (.ld none (.t 19)),oA 21 (.mv (.t 1)),oA 22 (.mv (.t 5)),oA 23 (.idx 1 (.t 21) (.t 22)),oA 24 (.ld none (.t 23)),oA 25 (.bin .neq (.t 20) (.t 24))] [0,1,5,25]) (.cond (.t 25) (.seq
  (.re [oA 4 (.mv (.c (.bool false)))] [4]) .ret) .skip)))
  (.re [oA 15 (.mv (.t 5)),oA 16 (.bin .add (.t 15) (.ci 1)),oA 5 (.mv (.t 16))] [0,1,5])))))) (.seq
  (.re [oA 4 (.mv (.c (.bool true)))] [4]) .ret))))

def c_laws_hasRow5:F where
 np:=2
 rs:=[.t 4]
 body :=
  (.seq
  (.re [oA 4 (.mv (.c (.bool false)))] [0,1]) (.seq (.seq
  (.re [oA 5 (.mv (.ci 0))] [0,1,5]) (.block 0 (.loop (.seq (.seq
  (.re [oA 6 (.mv (.t 5)),oA 7 (.mv (.t 0)),oA 8 (.len (.t 7)),oA 9 (.bin .lss (.t 6) (.t 8))] [0,1,5,9]) (.cond (.t 9) .skip (.exit 0))) (.seq (.block 1 (.seq
  (.re [oA 12 (.mv (.t 0)),oA 13 (.mv (.t 5)),oA 14 (.idx 1 (.t 12) (.t 13)),oA 15 (.ld none (.t 14)),oA 16 (.mv (.t 1)),oA 17 (.call (.f 141) [aR 15,aR 16])] [0,1,5,17]) (.cond (.t 17) (.seq
  (.re [oA 4 (.mv (.c (.bool true)))] [4]) .ret) .skip)))
  (.re [oA 10 (.mv (.t 5)),oA 11 (.bin .add (.t 10) (.ci 1)),oA 5 (.mv (.t 11))] [0,1,5])))))) (.seq
  (.re [oA 4 (.mv (.c (.bool false)))] [4]) .ret)))

def c_laws_roll:F where
 np:=2
 rs:=[.t 4]
 body :=
  (.seq
  (.re [oA 4 (.asg (.c (.pointer none)))] [0,1]) (.seq
  (.re [oA 7 (.mv (.t 0)),oA 8 (.mv (.t 1)),oA 9 (.bin .mul (.t 8) (.c (.int .u64 5507))),oA 10 (.mv (.t 0)),oA 11 (.len (.t 10)),oA 12 (.conv .u64 (.t 11)),oA 13 (.bin .add (.t 9) (.t 12)),oA 14 (.build [(.slice none 0 0),(.int .i64 0),(.int .u64 0)] [(0,1,(.t 7)),(2,1,(.t 13))]),oA 15 (.box (.t 14)),oA 5 (.asg (.t 15))] [0,5]) (.seq (.seq
  (.re [oA 6 (.mv (.ci 0))] [0,5,6]) (.block 0 (.loop (.seq (.seq
  (.re [oA 16 (.mv (.t 6)),oA 17 (.mv (.t 0)),oA 18 (.len (.t 17)),oA 19 (.bin .lss (.t 16) (.t 18))] [0,5,6,19]) (.cond (.t 19) .skip (.exit 0))) (.seq (.block 1
  (.region (some [22,23,24,25,26,27,28,29,30,31,32,33,34]) [oA 22 (.mv (.t 5)),oA 23 (.mv (.t 5)),oA 24 (.nilck (.t 23)),oA 25 (.fld 2 (.t 24)),oA 26 (.ld none (.t 25)),oA 27 (.bin .mul (.t 26) (.c (.int .u64 1099511628211))),oA 28 (.mv (.t 0)),oA 29 (.mv (.t 6)),oA 30 (.idx 1 (.t 28) (.t 29)),oA 31 (.ld none (.t 30)),oA 32 (.conv .u64 (.t 31)),oA 33 (.bin .add (.t 27) (.t 32)),oA 34 (.bin .add (.t 33) (.c (.int .u64 5))),oA 35 (.nilck (.t 22)),oA 36 (.fld 2 (.t 35)),oN (.st none (.t 36) (.t 34))] [0,5,6]))
  (.re [oA 20 (.mv (.t 6)),oA 21 (.bin .add (.t 20) (.ci 1)),oA 6 (.mv (.t 21))] [0,5,6])))))) (.seq
  (.re [oA 37 (.mv (.t 5)),oA 4 (.asg (.t 37))] [4]) .ret))))

def c_laws_then5:F where
 np:=2
 rs:=[.t 4]
 body :=
  (.seq
  (.re [oA 4 (.asg (.c (.slice none 0 0)))] [0,1]) (.seq
  (.re [oA 8 (.mv (.t 0)),oA 9 (.mv (.t 1)),oA 10 (.call (.f 278) [aR 8,aR 9]),oA 7 (.mv (.t 10)),oA 11 (.ext (.t 7) 0),oA 12 (.ext (.t 7) 1),oA 5 (.asg (.t 11)),oA 6 (.mv (.t 12))] [5,6]) (.seq (.seq
  (.re [oA 13 (.mv (.t 6)),oA 14 (.bin .neq (.t 13) (.ci 0))] [5,14]) (.cond (.t 14) (.seq
  (.re [oA 4 (.asg (.c (.slice none 0 0)))] [4]) .ret) .skip)) (.seq
  (.re [oA 15 (.mv (.t 5)),oA 4 (.asg (.t 15))] [4]) .ret))))

def c_impl_ThenPermutation:F where
 np:=2
 rs:=[.t 4,.t 5]
 body :=
  (.seq
  (.re [oA 4 (.asg (.c (.slice none 0 0))),oA 5 (.mv (.ci 0))] [0,1]) (.seq (.seq
  (.re [oA 6 (.mv (.t 0)),oA 7 (.call (.f 346) [aR 6]),oA 8 (.un .not (.t 7)),oA 9 (.mv (.t 8)),oI 10 9 false (.mv (.t 1)),oI 11 9 false (.call (.f 346) [aR 10]),oI 12 9 false (.un .not (.t 11)),oA 13 (.pick (.t 9) (.c (.bool true)) (.t 12)),oA 14 (.mv (.t 13)),oI 15 14 false (.mv (.t 0)),oI 16 14 false (.len (.t 15)),oI 17 14 false (.mv (.t 1)),oI 18 14 false (.len (.t 17)),oI 19 14 false (.bin .neq (.t 16) (.t 18)),oA 20 (.pick (.t 14) (.c (.bool true)) (.t 19))] [0,1,20]) (.cond (.t 20) (.seq
  (.re [oA 4 (.asg (.c (.slice none 0 0))),oA 5 (.mv (.ci 1))] [4,5]) .ret) .skip)) (.seq
  (.re [oA 21 (.mv (.t 0)),oA 22 (.mv (.t 1)),oA 23 (.call (.f 277) [aR 21,aR 22]),oA 4 (.asg (.t 23)),oA 5 (.mv (.ci 0))] [4,5]) .ret)))

def c_impl_IsPermutation:F where
 np:=1
 rs:=[.t 2]
 body :=
  (.seq
  (.re [oA 2 (.mv (.c (.bool false)))] [0]) (.seq
  (.re [oA 3 (.mv (.t 0)),oA 4 (.len (.t 3)),oA 5 (.call (.f 35) [aR 4,((.ci 1),.r),((.ci 12),.r)]),oA 6 (.mv (.t 5)),oI 7 6 true (.mv (.t 0)),oI 8 6 true (.call (.f 66) [aR 7]),oA 9 (.pick (.t 6) (.t 8) (.c (.bool false))),oA 2 (.mv (.t 9))] [2]) .ret))

end Go.Mch
