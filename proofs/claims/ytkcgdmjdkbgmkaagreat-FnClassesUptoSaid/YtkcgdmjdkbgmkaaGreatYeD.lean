/- Compact code of the functions of words that the exact laws reach further. -/
import Derived.Test.YtkcgdmjdkbgmkaaGreatM1
namespace Go.Mch

def c_spec_l09Class:F where
 np:=3
 rs:=[.t 6,.t 7]
 body :=
  (.seq
  (.re [oA 3 (.box (.t 0)),oA 6 (.asg (.c (.slice none 0 0))),oA 7 (.mv (.c (.bool false)))] [1,2,3]) (.seq
  (.re [oA 17 (.ld (some 2) (.t 3)),oA 18 (.call (.f 406) [aR 17]),oA 8 (.alloc [(.slice none 0 0),(.slice none 0 0)]),oN (.st (some 2) (.t 8) (.t 18))] [1,2,3,8]) (.seq
  (.re [oA 19 (.mv (.t 1)),oA 20 (.call (.f 31) [aR 19]),oN (.freeze 20),oA 21 (.bsl [(.t 20)]),oA 22 (.mv (.t 1)),oA 23 (.call (.f 31) [aR 22]),oN (.freeze 23),oA 24 (.bsl [(.t 23)]),oA 9 (.asg (.t 21)),oA 10 (.asg (.t 24))] [1,2,3,8,9,10]) (.seq (.seq
  (.re [oA 11 (.mv (.ci 0))] [1,2,3,8,9,10,11]) (.block 0 (.loop (.seq (.seq
  (.re [oA 25 (.mv (.t 11)),oA 26 (.mv (.t 9)),oA 27 (.len (.t 26)),oA 28 (.bin .lss (.t 25) (.t 27))] [1,2,3,8,9,10,11,28]) (.cond (.t 28) .skip (.exit 0))) (.seq (.block 1 (.seq (.seq
  (.re [oA 12 (.mv (.ci 0))] [1,2,3,8,9,10,11,12]) (.block 2 (.loop (.seq (.seq
  (.re [oA 31 (.mv (.t 12)),oA 32 (.bin .add (.t 31) (.ci 1)),oA 33 (.mv (.t 1)),oA 34 (.len (.t 33)),oA 35 (.bin .lss (.t 32) (.t 34))] [1,2,3,8,9,10,11,12,35]) (.cond (.t 35) .skip (.exit 2))) (.seq (.block 3 (.seq
  (.region (some [38,39,40,41,42,43,44,45,46,47,48,49,50]) [oA 38 (.ld (some 2) (.t 3)),oA 39 (.mv (.t 9)),oA 40 (.mv (.t 11)),oA 41 (.idx 1 (.t 39) (.t 40)),oA 42 (.ld none (.t 41)),oA 43 (.mv (.t 12)),oA 44 (.call (.f 68) [aR 38,aR 42,aR 43]),oA 45 (.ld (some 2) (.t 8)),oA 46 (.mv (.t 9)),oA 47 (.mv (.t 11)),oA 48 (.idx 1 (.t 46) (.t 47)),oA 49 (.ld none (.t 48)),oA 50 (.mv (.t 12)),oA 51 (.call (.f 68) [aR 45,aR 49,aR 50]),oA 52 (.bsl [(.t 44),(.t 51)]),oA 13 (.asg (.t 52))] [1,2,3,8,9,10,11,12,13]) (.seq
  (.re [oN (.freeze 13),oA 14 (.mv (.ci 0))] [1,2,3,8,9,10,11,12,13,14]) (.block 4 (.loop (.seq (.seq
  (.re [oA 53 (.mv (.t 14)),oA 54 (.mv (.t 13)),oA 55 (.len (.t 54)),oA 56 (.bin .lss (.t 53) (.t 55))] [1,2,3,8,9,10,11,12,13,14,56]) (.cond (.t 56) .skip (.exit 4))) (.seq (.block 5 (.seq
  (.re [oA 60 (.mv (.t 10)),oA 61 (.mv (.t 13)),oA 62 (.mv (.t 14)),oA 63 (.idx 1 (.t 61) (.t 62)),oA 64 (.ld none (.t 63)),oA 65 (.callm (.f 349) [((.t 60),false),((.t 64),false)] []),oA 59 (.mv (.t 65)),oA 66 (.ext (.t 59) 0),oA 67 (.ext (.t 59) 1),oA 15 (.asg (.t 66)),oA 16 (.mv (.t 67))] [1,2,3,8,9,11,12,13,14,15,16]) (.seq
  (.re [oA 68 (.mv (.t 15)),oA 10 (.asg (.t 68))] [1,2,3,8,9,10,11,12,13,14,16]) (.seq
  (.re [oA 69 (.mv (.t 16))] [1,2,3,8,9,10,11,12,13,14,69]) (.cond (.t 69)
  (.re [oA 70 (.mv (.t 9)),oA 71 (.mv (.t 13)),oA 72 (.mv (.t 14)),oA 73 (.idx 1 (.t 71) (.t 72)),oA 74 (.ld none (.t 73)),oA 75 (.bsl [(.t 74)]),oA 76 (.app true 1 (.t 70) (.t 75)),oA 9 (.asg (.t 76))] [1,2,3,8,9,10,11,12,13,14]) .skip)))))
  (.re [oA 57 (.mv (.t 14)),oA 58 (.bin .add (.t 57) (.ci 1)),oA 14 (.mv (.t 58))] [1,2,3,8,9,10,11,12,13,14]))))))))
  (.re [oA 36 (.mv (.t 12)),oA 37 (.bin .add (.t 36) (.ci 1)),oA 12 (.mv (.t 37))] [1,2,3,8,9,10,11,12])))))) (.seq
  (.re [oA 77 (.mv (.t 9)),oA 78 (.len (.t 77)),oA 79 (.mv (.t 2)),oA 80 (.bin .gtr (.t 78) (.t 79))] [1,2,3,8,9,10,11,80]) (.cond (.t 80) (.seq
  (.re [oA 6 (.asg (.c (.slice none 0 0))),oA 7 (.mv (.c (.bool false)))] [6,7]) .ret) .skip))))
  (.re [oA 29 (.mv (.t 11)),oA 30 (.bin .add (.t 29) (.ci 1)),oA 11 (.mv (.t 30))] [1,2,3,8,9,10,11])))))) (.seq
  (.re [oA 81 (.mv (.t 10)),oA 82 (.call (.f 280) [aR 81]),oA 6 (.asg (.t 82)),oA 7 (.mv (.c (.bool true)))] [6,7]) .ret)))))

def c_spec_l02Inverse:F where
 np:=1
 rs:=[.cell 2 (some 2)]
 body :=
  (.seq
  (.re [oA 1 (.box (.t 0)),oA 2 (.alloc [(.slice none 0 0),(.slice none 0 0)])] [1,2]) (.seq
  (.re [oA 9 (.fld 0 (.t 1)),oA 10 (.ld none (.t 9)),oA 11 (.len (.t 10)),oA 3 (.mv (.t 11))] [1,2,3]) (.seq
  (.re [oA 12 (.mv (.t 3)),oA 13 (.call (.f 398) [aR 12]),oA 4 (.alloc [(.slice none 0 0),(.slice none 0 0)]),oN (.st (some 2) (.t 4) (.t 13))] [1,2,3,4]) (.seq (.seq
  (.re [oA 5 (.mv (.ci 0))] [1,2,3,4,5]) (.block 0 (.loop (.seq (.seq
  (.re [oA 14 (.mv (.t 5)),oA 15 (.mv (.t 3)),oA 16 (.bin .lss (.t 14) (.t 15))] [1,2,3,4,5,16]) (.cond (.t 16) .skip (.exit 0))) (.seq (.block 1 (.seq
  (.re [oA 6 (.mv (.ci 0))] [1,2,3,4,5,6]) (.block 2 (.loop (.seq (.seq
  (.re [oA 19 (.mv (.t 6)),oA 20 (.mv (.t 3)),oA 21 (.bin .lss (.t 19) (.t 20))] [1,2,3,4,5,6,21]) (.cond (.t 21) .skip (.exit 2))) (.seq (.block 3 (.seq
  (.region (some [7,24,25,26,27,28,29,30,31,32,33,34,35,36,37,38,39,40,41,42,43,44,45,46,47]) [oA 24 (.fld 0 (.t 4)),oA 25 (.ld none (.t 24)),oA 26 (.fld 0 (.t 1)),oA 27 (.ld none (.t 26)),oA 28 (.mv (.t 5)),oA 29 (.idx 1 (.t 27) (.t 28)),oA 30 (.ld none (.t 29)),oA 31 (.mv (.t 6)),oA 32 (.idx 1 (.t 30) (.t 31)),oA 33 (.ld none (.t 32)),oA 34 (.idx 1 (.t 25) (.t 33)),oA 35 (.ld none (.t 34)),oA 36 (.fld 1 (.t 4)),oA 37 (.ld none (.t 36)),oA 38 (.fld 0 (.t 1)),oA 39 (.ld none (.t 38)),oA 40 (.mv (.t 5)),oA 41 (.idx 1 (.t 39) (.t 40)),oA 42 (.ld none (.t 41)),oA 43 (.mv (.t 6)),oA 44 (.idx 1 (.t 42) (.t 43)),oA 45 (.ld none (.t 44)),oA 46 (.idx 1 (.t 37) (.t 45)),oA 47 (.ld none (.t 46)),oA 7 (.mv (.t 35)),oA 8 (.mv (.t 47))] [1,2,3,4,5,6,7,8]) (.seq
  (.re [oA 48 (.mv (.t 7)),oA 49 (.fld 1 (.t 1)),oA 50 (.ld none (.t 49)),oA 51 (.mv (.t 5)),oA 52 (.idx 1 (.t 50) (.t 51)),oA 53 (.ld none (.t 52)),oA 54 (.mv (.t 6)),oA 55 (.idx 1 (.t 53) (.t 54)),oA 56 (.ld none (.t 55)),oA 57 (.mv (.t 5)),oA 58 (.idx 1 (.t 48) (.t 56)),oN (.st none (.t 58) (.t 57))] [1,2,3,4,5,6,8])
  (.re [oA 59 (.mv (.t 8)),oA 60 (.fld 1 (.t 1)),oA 61 (.ld none (.t 60)),oA 62 (.mv (.t 5)),oA 63 (.idx 1 (.t 61) (.t 62)),oA 64 (.ld none (.t 63)),oA 65 (.mv (.t 6)),oA 66 (.idx 1 (.t 64) (.t 65)),oA 67 (.ld none (.t 66)),oA 68 (.mv (.t 6)),oA 69 (.idx 1 (.t 59) (.t 67)),oN (.st none (.t 69) (.t 68))] [1,2,3,4,5,6]))))
  (.re [oA 22 (.mv (.t 6)),oA 23 (.bin .add (.t 22) (.ci 1)),oA 6 (.mv (.t 23))] [1,2,3,4,5,6])))))))
  (.re [oA 17 (.mv (.t 5)),oA 18 (.bin .add (.t 17) (.ci 1)),oA 5 (.mv (.t 18))] [1,2,3,4,5])))))) (.seq
  (.re [oA 70 (.ld (some 2) (.t 4)),oN (.st (some 2) (.t 2) (.t 70))] [2]) .ret)))))

def c_impl_AreEqualWords:F where
 np:=3
 rs:=[.t 6,.t 7]
 body :=
  (.seq
  (.re [oA 3 (.box (.t 0)),oA 6 (.mv (.c (.bool false))),oA 7 (.mv (.ci 0))] [1,2,3]) (.seq (.seq
  (.re [oA 11 (.ld (some 2) (.t 3)),oA 12 (.mv (.t 1)),oA 13 (.mv (.t 2)),oA 14 (.bsl [(.t 12),(.t 13)]),oA 15 (.call (.f 38) [aR 11,aR 14]),oA 8 (.mv (.t 15))] [1,2,3,8]) (.seq
  (.re [oA 16 (.mv (.t 8)),oA 17 (.bin .neq (.t 16) (.ci 0))] [1,2,3,8,17]) (.cond (.t 17) (.seq
  (.re [oA 18 (.mv (.t 8)),oA 6 (.mv (.c (.bool false))),oA 7 (.mv (.t 18))] [6,7]) .ret) .skip))) (.seq
  (.re [oA 20 (.ld (some 2) (.t 3)),oA 21 (.mv (.t 1)),oA 22 (.call (.f 297) [aR 20,aR 21]),oA 19 (.mv (.t 22)),oA 23 (.ext (.t 19) 0),oA 24 (.ext (.t 19) 1),oA 9 (.asg (.t 23)),oA 10 (.mv (.t 24))] [2,9,10]) (.seq (.seq
  (.re [oA 25 (.mv (.t 10)),oA 26 (.bin .neq (.t 25) (.ci 0))] [2,9,10,26]) (.cond (.t 26) (.seq
  (.re [oA 27 (.mv (.t 10)),oA 6 (.mv (.c (.bool false))),oA 7 (.mv (.t 27))] [6,7]) .ret) .skip)) (.seq
  (.re [oA 28 (.mv (.t 9)),oA 29 (.mv (.t 2)),oA 30 (.call (.f 341) [aR 28,aR 29]),oA 31 (.bin .geq (.t 30) (.ci 0)),oA 6 (.mv (.t 31)),oA 7 (.mv (.ci 0))] [6,7]) .ret)))))

def c_impl_limitedClass:F where
 np:=2
 rs:=[.t 4,.t 5]
 body :=
  (.seq
  (.re [oA 2 (.box (.t 0)),oA 4 (.asg (.c (.slice none 0 0))),oA 5 (.mv (.ci 0))] [1,2]) (.seq
  (.re [oA 9 (.ld (some 2) (.t 2)),oA 10 (.mv (.t 1)),oA 11 (.call (.f 352) [aR 9,aR 10,((.ci 1000),.r)]),oA 8 (.mv (.t 11)),oA 12 (.ext (.t 8) 0),oA 13 (.ext (.t 8) 1),oA 6 (.asg (.t 12)),oA 7 (.mv (.t 13))] [6,7]) (.seq (.seq
  (.re [oA 14 (.mv (.t 7)),oA 15 (.un .not (.t 14))] [6,15]) (.cond (.t 15) (.seq
  (.re [oA 4 (.asg (.c (.slice none 0 0))),oA 5 (.mv (.ci 3))] [4,5]) .ret) .skip)) (.seq
  (.re [oA 16 (.mv (.t 6)),oA 4 (.asg (.t 16)),oA 5 (.mv (.ci 0))] [4,5]) .ret))))

def c_impl_wordClass:F where
 np:=3
 rs:=[.t 6,.t 7]
 body :=
  (.seq
  (.re [oA 3 (.box (.t 0)),oA 6 (.asg (.c (.slice none 0 0))),oA 7 (.mv (.c (.bool false)))] [1,2,3]) (.seq
  (.re [oA 19 (.ld (some 2) (.t 3)),oA 20 (.call (.f 411) [aR 19]),oN (.freeze 20),oA 18 (.mv (.t 20)),oA 21 (.ext (.t 18) 0),oA 22 (.ext (.t 18) 1),oA 8 (.alloc [(.slice none 0 0),(.slice none 0 0)]),oN (.st (some 2) (.t 8) (.t 21)),oA 9 (.mv (.t 22))] [1,2,3,8]) (.seq
  (.re [oA 23 (.mv (.t 1)),oA 24 (.call (.f 36) [aR 23]),oA 25 (.bsl [(.t 24)]),oA 10 (.asg (.t 25))] [1,2,3,8,10]) (.seq
  (.re [oA 26 .mkset,oA 27 (.mv (.t 1)),oA 28 (.call (.f 312) [aR 27]),oN (.upd (.t 26) (.t 28)),oA 29 (.mv (.t 26)),oA 11 (.asg (.t 29))] [1,2,3,8,10,11]) (.seq (.seq
  (.re [oA 12 (.mv (.ci 0))] [1,2,3,8,10,11,12]) (.block 0 (.loop (.seq (.seq
  (.re [oA 30 (.mv (.t 12)),oA 31 (.mv (.t 10)),oA 32 (.len (.t 31)),oA 33 (.bin .lss (.t 30) (.t 32))] [1,2,3,8,10,11,12,33]) (.cond (.t 33) .skip (.exit 0))) (.seq (.block 1 (.seq
  (.re [oA 36 (.mv (.t 1)),oA 37 (.len (.t 36)),oA 38 (.bin .sub (.t 37) (.ci 1)),oA 39 (.mv (.ci 0))] [1,2,3,8,10,11,12,38,39]) (.block 2 (.loop (.seq
  (.re [oA 40 (.bin .lss (.t 39) (.t 38))] [1,2,3,8,10,11,12,38,39,40]) (.seq (.cond (.t 40) .skip (.exit 2)) (.seq (.block 3 (.seq
  (.re [oA 41 (.mv (.t 39)),oA 13 (.mv (.t 41))] [1,2,3,8,10,11,12,13,38,39]) (.seq
  (.re [oA 42 (.ld (some 2) (.t 3)),oA 43 (.ld (some 2) (.t 8)),oA 44 (.build [(.slice none 0 0),(.slice none 0 0),(.slice none 0 0),(.slice none 0 0)] [(0,2,(.t 42)),(2,2,(.t 43))]),oA 45 (.mv (.ci 0))] [1,2,3,8,10,11,12,13,38,39,44,45]) (.block 4 (.loop (.seq
  (.re [oA 46 (.bin .lss (.t 45) (.ci 2))] [1,2,3,8,10,11,12,13,38,39,44,45,46]) (.seq (.cond (.t 46) .skip (.exit 4)) (.seq (.block 5 (.seq
  (.re [oA 47 (.arr 2 2 (.t 44) (.t 45)),oA 15 (.alloc [(.slice none 0 0),(.slice none 0 0)]),oN (.st (some 2) (.t 15) (.t 47))] [1,2,3,8,10,11,12,13,15,38,39,44,45]) (.seq
  (.region (some [48,49,50,51,52,53]) [oA 48 (.ld (some 2) (.t 15)),oA 49 (.mv (.t 10)),oA 50 (.mv (.t 12)),oA 51 (.idx 1 (.t 49) (.t 50)),oA 52 (.ld none (.t 51)),oA 53 (.mv (.t 13)),oA 54 (.call (.f 44) [aR 48,aR 52,aR 53]),oA 16 (.asg (.t 54))] [1,2,3,8,10,11,12,13,16,38,39,44,45]) (.seq
  (.re [oA 55 (.mv (.t 16)),oA 56 (.call (.f 312) [aR 55]),oA 17 (.mv (.t 56))] [1,2,3,8,10,11,12,13,16,17,38,39,44,45]) (.seq (.seq
  (.re [oA 57 (.mv (.t 11)),oA 58 (.mv (.t 17)),oA 59 (.look (.t 57) (.t 58))] [1,2,3,8,10,11,12,13,16,17,38,39,44,45,59]) (.cond (.t 59) (.exit 5) .skip)) (.seq (.seq
  (.re [oA 60 (.mv (.t 10)),oA 61 (.len (.t 60)),oA 62 (.mv (.t 2)),oA 63 (.bin .eql (.t 61) (.t 62))] [1,2,3,8,10,11,12,13,16,17,38,39,44,45,63]) (.cond (.t 63) (.seq
  (.re [oA 6 (.asg (.c (.slice none 0 0))),oA 7 (.mv (.c (.bool false)))] [6,7]) .ret) .skip)) (.seq
  (.re [oA 64 (.mv (.t 11)),oA 65 (.mv (.t 17)),oN (.upd (.t 64) (.t 65))] [1,2,3,8,10,11,12,13,16,38,39,44,45])
  (.re [oA 66 (.mv (.t 10)),oA 67 (.mv (.t 16)),oA 68 (.bsl [(.t 67)]),oA 69 (.app true 1 (.t 66) (.t 68)),oA 10 (.asg (.t 69))] [1,2,3,8,10,11,12,13,38,39,44,45]))))))))
  (.re [oA 70 (.bin .add (.t 45) (.ci 1)),oA 45 (.mv (.t 70))] [1,2,3,8,10,11,12,13,38,39,44,45])))))))))
  (.re [oA 71 (.bin .add (.t 39) (.ci 1)),oA 39 (.mv (.t 71))] [1,2,3,8,10,11,12,38,39]))))))))
  (.re [oA 34 (.mv (.t 12)),oA 35 (.bin .add (.t 34) (.ci 1)),oA 12 (.mv (.t 35))] [1,2,3,8,10,11,12])))))) (.seq
  (.re [oA 72 (.mv (.t 10)),oA 73 (.callm (.f 313) [((.t 72),true),((.f 314),false)] [])] [10]) (.seq
  (.re [oA 74 (.mv (.t 10)),oA 6 (.asg (.t 74)),oA 7 (.mv (.c (.bool true)))] [6,7]) .ret)))))))

def c_impl_InverseSolution:F where
 np:=1
 rs:=[.cell 2 (some 2),.t 3]
 body :=
  (.seq
  (.re [oA 1 (.box (.t 0)),oA 2 (.alloc [(.slice none 0 0),(.slice none 0 0)]),oA 3 (.mv (.ci 0))] [1,2]) (.seq (.seq
  (.re [oA 10 (.ld (some 2) (.t 1)),oA 11 (.call (.f 42) [aR 10]),oA 12 (.un .not (.t 11))] [1,2,12]) (.cond (.t 12) (.seq
  (.re [oA 13 (.build [(.slice none 0 0),(.slice none 0 0)] []),oN (.st (some 2) (.t 2) (.t 13)),oA 3 (.mv (.ci 1))] [2,3]) .ret) .skip)) (.seq
  (.region (some [4,14,15,16,17,18,19,20]) [oA 14 (.fld 0 (.t 1)),oA 15 (.ld none (.t 14)),oA 16 (.call (.f 275) [aR 15]),oA 17 (.fld 1 (.t 1)),oA 18 (.ld none (.t 17)),oA 19 (.call (.f 275) [aR 18]),oA 20 (.build [(.slice none 0 0),(.slice none 0 0)] [(0,1,(.t 16)),(1,1,(.t 19))]),oA 4 (.alloc [(.slice none 0 0),(.slice none 0 0)]),oN (.st (some 2) (.t 4) (.t 20))] [1,2,4]) (.seq (.seq
  (.re [oA 21 (.fld 0 (.t 1)),oA 22 (.ld none (.t 21)),oA 23 (.len (.t 22)),oA 24 (.mv (.ci 0))] [1,2,4,22,23,24]) (.block 0 (.loop (.seq
  (.re [oA 25 (.bin .lss (.t 24) (.t 23))] [1,2,4,22,23,24,25]) (.seq (.cond (.t 25) .skip (.exit 0)) (.seq (.block 1 (.seq
  (.re [oA 26 (.mv (.t 24)),oA 27 (.idx 1 (.t 22) (.t 24)),oA 28 (.ld none (.t 27)),oA 5 (.mv (.t 26)),oA 6 (.asg (.t 28))] [1,2,4,5,6,22,23,24]) (.seq
  (.re [oA 29 (.mv (.t 6)),oA 30 (.len (.t 29)),oA 31 (.mv (.ci 0))] [1,2,4,5,22,23,24,29,30,31]) (.block 2 (.loop (.seq
  (.re [oA 32 (.bin .lss (.t 31) (.t 30))] [1,2,4,5,22,23,24,29,30,31,32]) (.seq (.cond (.t 32) .skip (.exit 2)) (.seq (.block 3 (.seq
  (.re [oA 33 (.mv (.t 31)),oA 34 (.idx 1 (.t 29) (.t 31)),oA 35 (.ld none (.t 34)),oA 7 (.mv (.t 33)),oA 8 (.mv (.t 35))] [1,2,4,5,7,8,22,23,24,29,30,31]) (.seq
  (.re [oA 36 (.fld 1 (.t 1)),oA 37 (.ld none (.t 36)),oA 38 (.mv (.t 5)),oA 39 (.idx 1 (.t 37) (.t 38)),oA 40 (.ld none (.t 39)),oA 41 (.mv (.t 7)),oA 42 (.idx 1 (.t 40) (.t 41)),oA 43 (.ld none (.t 42)),oA 9 (.mv (.t 43))] [1,2,4,5,7,8,9,22,23,24,29,30,31])
  (.region (some [44,45,46,47,48,49,50,51,52,53,54,55,56,57,58]) [oA 44 (.fld 0 (.t 4)),oA 45 (.ld none (.t 44)),oA 46 (.mv (.t 8)),oA 47 (.idx 1 (.t 45) (.t 46)),oA 48 (.ld none (.t 47)),oA 49 (.mv (.t 9)),oA 50 (.fld 1 (.t 4)),oA 51 (.ld none (.t 50)),oA 52 (.mv (.t 8)),oA 53 (.idx 1 (.t 51) (.t 52)),oA 54 (.ld none (.t 53)),oA 55 (.mvw (.t 9)),oA 56 (.mv (.t 5)),oA 57 (.mvw (.t 7)),oA 58 (.idx 1 (.t 48) (.t 49)),oN (.sts (.t 58) (.t 56)),oA 59 (.idx 1 (.t 54) (.t 55)),oN (.st none (.t 59) (.t 57))] [1,2,4,5,22,23,24,29,30,31]))))
  (.re [oA 60 (.bin .add (.t 31) (.ci 1)),oA 31 (.mv (.t 60))] [1,2,4,5,22,23,24,29,30,31])))))))))
  (.re [oA 61 (.bin .add (.t 24) (.ci 1)),oA 24 (.mv (.t 61))] [1,2,4,22,23,24]))))))) (.seq
  (.re [oA 62 (.ld (some 2) (.t 4)),oN (.st (some 2) (.t 2) (.t 62)),oA 3 (.mv (.ci 0))] [2,3]) .ret)))))

def c_impl_listIndex:F where
 np:=2
 rs:=[.t 4]
 body :=
  (.seq
  (.re [oA 3 (.box (.t 1)),oA 4 (.mv (.ci 0))] [0,3]) (.seq
  (.re [oA 5 (.mv (.t 0)),oA 6 (.fnc 407 [(.t 3)]),oA 7 (.call (.f 70) [aR 5,aR 6]),oA 4 (.mv (.t 7))] [4]) .ret))

def c_impl_listIndex_1:F where
 np:=2
 rs:=[.t 3]
 body :=
  (.seq
  (.re [oA 3 (.mv (.c (.bool false)))] [0,1]) (.seq
  (.re [oA 4 (.mv (.t 0)),oA 5 (.ld none (.t 1)),oA 6 (.call (.f 276) [aR 4,aR 5]),oA 3 (.mv (.t 6))] [3]) .ret))

def c_spec_ClassOfWord:F where
 np:=2
 rs:=[.t 4,.t 5]
 body :=
  (.seq
  (.re [oA 2 (.box (.t 0)),oA 4 (.asg (.c (.slice none 0 0))),oA 5 (.mv (.ci 0))] [1,2]) (.seq
  (.re [oA 9 (.ld (some 2) (.t 2)),oA 10 (.mv (.t 1)),oA 11 (.mv (.t 1)),oA 12 (.call (.f 37) [aR 9,aR 10,aR 11]),oA 6 (.mv (.t 12))] [1,2,6]) (.seq (.seq
  (.re [oA 13 (.mv (.t 6)),oA 14 (.bin .neq (.t 13) (.ci 0))] [1,2,6,14]) (.cond (.t 14) (.seq
  (.re [oA 15 (.mv (.t 6)),oA 4 (.asg (.c (.slice none 0 0))),oA 5 (.mv (.t 15))] [4,5]) .ret) .skip)) (.seq
  (.re [oA 17 (.ld (some 2) (.t 2)),oA 18 (.mv (.t 1)),oA 19 (.call (.f 339) [aR 17,aR 18,((.ci 1000),.r)]),oA 16 (.mv (.t 19)),oA 20 (.ext (.t 16) 0),oA 21 (.ext (.t 16) 1),oA 7 (.asg (.t 20)),oA 8 (.mv (.t 21))] [7,8]) (.seq (.seq
  (.re [oA 22 (.mv (.t 8)),oA 23 (.un .not (.t 22))] [7,23]) (.cond (.t 23) (.seq
  (.re [oA 4 (.asg (.c (.slice none 0 0))),oA 5 (.mv (.ci 3))] [4,5]) .ret) .skip)) (.seq
  (.re [oA 24 (.mv (.t 7)),oA 4 (.asg (.t 24)),oA 5 (.mv (.ci 0))] [4,5]) .ret))))))

def c_impl_ClassOfWord:F where
 np:=2
 rs:=[.t 4,.t 5]
 body :=
  (.seq
  (.re [oA 2 (.box (.t 0)),oA 4 (.asg (.c (.slice none 0 0))),oA 5 (.mv (.ci 0))] [1,2]) (.seq (.seq
  (.re [oA 7 (.ld (some 2) (.t 2)),oA 8 (.mv (.t 1)),oA 9 (.bsl [(.t 8)]),oA 10 (.call (.f 38) [aR 7,aR 9]),oA 6 (.mv (.t 10))] [1,2,6]) (.seq
  (.re [oA 11 (.mv (.t 6)),oA 12 (.bin .neq (.t 11) (.ci 0))] [1,2,6,12]) (.cond (.t 12) (.seq
  (.re [oA 13 (.mv (.t 6)),oA 4 (.asg (.c (.slice none 0 0))),oA 5 (.mv (.t 13))] [4,5]) .ret) .skip))) (.seq
  (.re [oA 14 (.ld (some 2) (.t 2)),oA 15 (.mv (.t 1)),oA 16 (.call (.f 297) [aR 14,aR 15]),oA 17 (.ext (.t 16) 0),oA 18 (.ext (.t 16) 1),oA 4 (.asg (.t 17)),oA 5 (.mv (.t 18))] [4,5]) .ret)))

def c_impl_NormalWord:F where
 np:=2
 rs:=[.t 4,.t 5]
 body :=
  (.seq
  (.re [oA 2 (.box (.t 0)),oA 4 (.asg (.c (.slice none 0 0))),oA 5 (.mv (.ci 0))] [1,2]) (.seq (.seq
  (.re [oA 7 (.ld (some 2) (.t 2)),oA 8 (.mv (.t 1)),oA 9 (.bsl [(.t 8)]),oA 10 (.call (.f 38) [aR 7,aR 9]),oA 6 (.mv (.t 10))] [1,2,6]) (.seq
  (.re [oA 11 (.mv (.t 6)),oA 12 (.bin .neq (.t 11) (.ci 0))] [1,2,6,12]) (.cond (.t 12) (.seq
  (.re [oA 13 (.mv (.t 6)),oA 4 (.asg (.c (.slice none 0 0))),oA 5 (.mv (.t 13))] [4,5]) .ret) .skip))) (.seq
  (.re [oA 14 (.ld (some 2) (.t 2)),oA 15 (.mv (.t 1)),oA 16 (.call (.f 342) [aR 14,aR 15]),oA 17 (.ext (.t 16) 0),oA 18 (.ext (.t 16) 1),oA 4 (.asg (.t 17)),oA 5 (.mv (.t 18))] [4,5]) .ret)))

def c_impl_normalWord:F where
 np:=2
 rs:=[.t 4,.t 5]
 body :=
  (.seq
  (.re [oA 2 (.box (.t 0)),oA 4 (.asg (.c (.slice none 0 0))),oA 5 (.mv (.ci 0))] [1,2]) (.seq
  (.re [oA 9 (.ld (some 2) (.t 2)),oA 10 (.mv (.t 1)),oA 11 (.call (.f 297) [aR 9,aR 10]),oA 8 (.mv (.t 11)),oA 12 (.ext (.t 8) 0),oA 13 (.ext (.t 8) 1),oA 6 (.asg (.t 12)),oA 7 (.mv (.t 13))] [6,7]) (.seq (.seq
  (.re [oA 14 (.mv (.t 7)),oA 15 (.bin .neq (.t 14) (.ci 0))] [6,7,15]) (.cond (.t 15) (.seq
  (.re [oA 16 (.mv (.t 7)),oA 4 (.asg (.c (.slice none 0 0))),oA 5 (.mv (.t 16))] [4,5]) .ret) .skip)) (.seq
  (.re [oA 17 (.mv (.t 6)),oA 18 (.idx 1 (.t 17) (.ci 0)),oA 19 (.ld none (.t 18)),oA 4 (.asg (.t 19)),oA 5 (.mv (.ci 0))] [4,5]) .ret))))

def c_spec_l02Twice:F where
 np:=1
 rs:=[.t 2]
 body :=
  (.seq
  (.re [oA 1 (.box (.t 0)),oA 2 (.mv (.c (.bool false)))] [1]) (.seq (.seq
  (.re [oA 3 (.mv (.ci 0))] [1,3]) (.block 0 (.loop (.seq (.seq
  (.re [oA 7 (.mv (.t 3)),oA 8 (.fld 0 (.t 1)),oA 9 (.ld none (.t 8)),oA 10 (.len (.t 9)),oA 11 (.bin .lss (.t 7) (.t 10))] [1,3,11]) (.cond (.t 11) .skip (.exit 0))) (.seq (.block 1 (.seq
  (.re [oA 4 (.mv (.ci 0))] [1,3,4]) (.block 2 (.loop (.seq (.seq
  (.re [oA 14 (.mv (.t 4)),oA 15 (.fld 0 (.t 1)),oA 16 (.ld none (.t 15)),oA 17 (.len (.t 16)),oA 18 (.bin .lss (.t 14) (.t 17))] [1,3,4,18]) (.cond (.t 18) .skip (.exit 2))) (.seq (.block 3 (.seq
  (.region (some [5,21,22,23,24,25,26,27,28,29,30,31,32,33,34,35,36]) [oA 21 (.fld 0 (.t 1)),oA 22 (.ld none (.t 21)),oA 23 (.mv (.t 3)),oA 24 (.idx 1 (.t 22) (.t 23)),oA 25 (.ld none (.t 24)),oA 26 (.mv (.t 4)),oA 27 (.idx 1 (.t 25) (.t 26)),oA 28 (.ld none (.t 27)),oA 29 (.fld 1 (.t 1)),oA 30 (.ld none (.t 29)),oA 31 (.mv (.t 3)),oA 32 (.idx 1 (.t 30) (.t 31)),oA 33 (.ld none (.t 32)),oA 34 (.mv (.t 4)),oA 35 (.idx 1 (.t 33) (.t 34)),oA 36 (.ld none (.t 35)),oA 5 (.mv (.t 28)),oA 6 (.mv (.t 36))] [1,3,4,5,6]) (.seq
  (.re [oA 37 (.fld 0 (.t 1)),oA 38 (.ld none (.t 37)),oA 39 (.mv (.t 5)),oA 40 (.idx 1 (.t 38) (.t 39)),oA 41 (.ld none (.t 40)),oA 42 (.mv (.t 6)),oA 43 (.idx 1 (.t 41) (.t 42)),oA 44 (.ld none (.t 43)),oA 45 (.mv (.t 3)),oA 46 (.bin .neq (.t 44) (.t 45)),oA 47 (.mv (.t 46)),oI 48 47 false (.fld 1 (.t 1)),oI 49 47 false (.ld none (.t 48)),oI 50 47 false (.mv (.t 5)),oI 51 47 false (.idx 1 (.t 49) (.t 50)),oI 52 47 false (.ld none (.t 51)),oI 53 47 false (.mv (.t 6)),oI 54 47 false (.idx 1 (.t 52) (.t 53)),oI 55 47 false (.ld none (.t 54)),oI 56 47 false (.mv (.t 4)),oI 57 47 false (.bin .neq (.t 55) (.t 56)),oA 58 (.pick (.t 47) (.c (.bool true)) (.t 57))] [1,3,4,58]) (.cond (.t 58) (.seq
  (.re [oA 2 (.mv (.c (.bool false)))] [2]) .ret) .skip))))
  (.re [oA 19 (.mv (.t 4)),oA 20 (.bin .add (.t 19) (.ci 1)),oA 4 (.mv (.t 20))] [1,3,4])))))))
  (.re [oA 12 (.mv (.t 3)),oA 13 (.bin .add (.t 12) (.ci 1)),oA 3 (.mv (.t 13))] [1,3])))))) (.seq
  (.re [oA 2 (.mv (.c (.bool true)))] [2]) .ret)))

end Go.Mch
