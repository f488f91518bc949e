/- Compact code of the functions of words that the exact laws reach further. -/
import Derived.Test.YtkcgdmjdkbgmkaaGreatM1
namespace Go.Mch

def c_spec_l09Class:F where
 np:=3
 rs:=[.t 6,.t 7]
 body :=
  (.seq
  (.re [oA 3 (.box (.t 0)),oA 6 (.asg (.c (.slice none 0 0))),oA 7 (.mv (.c (.bool false)))] [1,2,3]) (.seq
  (.re [oA 17 (.ld (some 2) (.t 3)),oA 18 (.call (.f 406) [aR 17]),oA 8 (.alloc [(.slice none 0 0),(.slice none 0 0)]),oN (.st (some 2) (.t 8) (.t 18))] [1,2,3,8]) (.seq
  (.re [oA 19 (.mv (.t 1)),oA 20 (.call (.f 31) [aR 19]),oN (.freeze 20),oA 21 (.bsl [(.t 20)]),oA 22 (.mv (.t 1)),oA 23 (.call (.f 31) [aR 22]),oN (.freeze 23),oA 24 (.bsl [(.t 23)]),oA 9 (.asg (.t 21)),oA 10 (.asg (.t 24))] [1,2,3,8,9,10]) (.seq (.seq
  (.re [oA 11 (.mv (.ci 0))] [1,2,3,8,9,10,11]) (.block 0 (.loop (.seq (.seq
  (.re [oA 25 (.mv (.t 11)),oA 26 (.mv (.t 9)),oA 27 (.len (.t 26)),oA 28 (.bin .lss (.t 25) (.t 27))] [1,2,3,8,9,10,11,28]) (.cond (.t 28) .skip (.exit 0))) (.seq (.block 1 (.seq (.seq
  (.re [oA 12 (.mv (.ci 0))] [1,2,3,8,9,10,11,12]) (.block 2 (.loop (.seq (.seq
  (.re [oA 31 (.mv (.t 12)),oA 32 (.bin .add (.t 31) (.ci 1)),oA 33 (.mv (.t 1)),oA 34 (.len (.t 33)),oA 35 (.bin .lss (.t 32) (.t 34))] [1,2,3,8,9,10,11,12,35]) (.cond (.t 35) .skip (.exit 2))) (.seq (.block 3 (.seq
  (.region (some [38,39,40,41,42,43,44,45,46,47,48,49,50]) [oA 38 (.ld (some 2) (.t 3)),oA 39 (.mv (.t 9)),oA 40 (.mv (.t 11)),oA 41 (.idx 1 (.t 39) (.t 40)),oA 42 (.ld none (.t 41)),oA 43 (.mv (.t 12)),oA 44 (.call (.f 68) [aR 38,aR 42,aR 43]),oA 45 (.ld (some 2) (.t 8)),oA 46 (.mv (.t 9)),oA 47 (.mv (.t 11)),oA 48 (.idx 1 (.t 46) (.t 47)),oA 49 (.ld none (.t 48)),oA 50 (.mv (.t 12)),oA 51 (.call (.f 68) [aR 45,aR 49,aR 50]),oA 52 (.bsl [(.t 44),(.t 51)]),oA 13 (.asg (.t 52))] [1,2,3,8,9,10,11,12,13]) (.seq
  (.re [oN (.freeze 13),oA 14 (.mv (.ci 0))] [1,2,3,8,9,10,11,12,13,14]) (.block 4 (.loop (.seq (.seq
  (.re [oA 53 (.mv (.t 14)),oA 54 (.mv (.t 13)),oA 55 (.len (.t 54)),oA 56 (.bin .lss (.t 53) (.t 55))] [1,2,3,8,9,10,11,12,13,14,56]) (.cond (.t 56) .skip (.exit 4))) (.seq (.block 5 (.seq
  (.re [oA 60 (.mv (.t 10)),oA 61 (.mv (.t 13)),oA 62 (.mv (.t 14)),oA 63 (.idx 1 (.t 61) (.t 62)),oA 64 (.ld none (.t 63)),oA 65 (.callm (.f 349) [((.t 60),false),((.t 64),false)] []),oA 59 (.mv (.t 65)),oA 66 (.ext (.t 59) 0),oA 67 (.ext (.t 59) 1),oA 15 (.asg (.t 66)),oA 16 (.mv (.t 67))] [1,2,3,8,9,11,12,13,14,15,16]) (.seq
  (.re [oA 68 (.mv (.t 15)),oA 10 (.asg (.t 68))] [1,2,3,8,9,10,11,12,13,14,16]) (.seq
  (.re [oA 69 (.mv (.t 16))] [1,2,3,8,9,10,11,12,13,14,69]) (.cond (.t 69)
  (.re [oA 70 (.mv (.t 9)),oA 71 (.mv (.t 13)),oA 72 (.mv (.t 14)),oA 73 (.idx 1 (.t 71) (.t 72)),oA 74 (.ld none (.t 73)),oA 75 (.bsl [(.t 74)]),oA 76 (.app true 1 (.t 70) (.t 75)),oA 9 (.asg (.t 76))] [1,2,3,8,9,10,11,12,13,14]) .skip)))))
  (.re [oA 57 (.mv (.t 14)),oA 58 (.bin .add (.t 57) (.ci 1)),oA 14 (.mv (.t 58))] [1,2,3,8,9,10,11,12,13,14]))))))))
  (.re [oA 36 (.mv (.t 12)),oA 37 (.bin .add (.t 36) (.ci 1)),oA 12 (.mv (.t 37))] [1,2,3,8,9,10,11,12])))))) (.seq
  (.re [oA 77 (.mv (.t 9)),oA 78 (.len (.t 77)),oA 79 (.mv (.t 2)),oA 80 (.bin .gtr (.t 78) (.t 79))] [1,2,3,8,9,10,11,80]) (.cond (.t 80) (.seq
  (.re [oA 6 (.asg (.c (.slice none 0 0))),oA 7 (.mv (.c (.bool false)))] [6,7]) .ret) .skip))))
  (.re [oA 29 (.mv (.t 11)),oA 30 (.bin .add (.t 29) (.ci 1)),oA 11 (.mv (.t 30))] [1,2,3,8,9,10,11])))))) (.seq
  (.re [oA 81 (.mv (.t 10)),oA 82 (.call (.f 280) [aR 81]),oA 6 (.asg (.t 82)),oA 7 (.mv (.c (.bool true)))] [6,7]) .ret)))))

def j1k:F where
 np:=1
 rs:=[.cell 2 (some 2)]
 body :=
  (.seq
  (.re [oA 1 (.box (.t 0)),oA 2 (.alloc [(.slice none 0 0),(.slice none 0 0)])] [1,2]) (.seq
  (.re [oA 9 (.fld 0 (.t 1)),oA 10 (.ld none (.t 9)),oA 11 (.len (.t 10)),oA 3 (.mv (.t 11))] [1,2,3]) (.seq
  (.re [oA 12 (.mv (.t 3)),oA 13 (.call (.f 398) [aR 12]),oA 4 (.alloc [(.slice none 0 0),(.slice none 0 0)]),oN (.st (some 2) (.t 4) (.t 13))] [1,2,3,4]) (.seq (.seq
  (.re [oA 5 (.mv (.ci 0))] [1,2,3,4,5]) (.block 0 (.loop (.seq (.seq
  (.re [oA 14 (.mv (.t 5)),oA 15 (.mv (.t 3)),oA 16 (.bin .lss (.t 14) (.t 15))] [1,2,3,4,5,16]) (.cond (.t 16) .skip (.exit 0))) (.seq (.block 1 (.seq
  (.re [oA 6 (.mv (.ci 0))] [1,2,3,4,5,6]) (.block 2 (.loop (.seq (.seq
  (.re [oA 19 (.mv (.t 6)),oA 20 (.mv (.t 3)),oA 21 (.bin .lss (.t 19) (.t 20))] [1,2,3,4,5,6,21]) (.cond (.t 21) .skip (.exit 2))) (.seq (.block 3 (.seq
  (.region (some [7,24,25,26,27,28,29,30,31,32,33,34,35,36,37,38,39,40,41,42,43,44,45,46,47]) [oA 24 (.fld 0 (.t 4)),oA 25 (.ld none (.t 24)),oA 26 (.fld 0 (.t 1)),oA 27 (.ld none (.t 26)),oA 28 (.mv (.t 5)),oA 29 (.idx 1 (.t 27) (.t 28)),oA 30 (.ld none (.t 29)),oA 31 (.mv (.t 6)),oA 32 (.idx 1 (.t 30) (.t 31)),oA 33 (.ld none (.t 32)),oA 34 (.idx 1 (.t 25) (.t 33)),oA 35 (.ld none (.t 34)),oA 36 (.fld 1 (.t 4)),oA 37 (.ld none (.t 36)),oA 38 (.fld 0 (.t 1)),oA 39 (.ld none (.t 38)),oA 40 (.mv (.t 5)),oA 41 (.idx 1 (.t 39) (.t 40)),oA 42 (.ld none (.t 41)),oA 43 (.mv (.t 6)),oA 44 (.idx 1 (.t 42) (.t 43)),oA 45 (.ld none (.t 44)),oA 46 (.idx 1 (.t 37) (.t 45)),oA 47 (.ld none (.t 46)),oA 7 (.mv (.t 35)),oA 8 (.mv (.t 47))] [1,2,3,4,5,6,7,8]) (.seq
  (.re [oA 48 (.mv (.t 7)),oA 49 (.fld 1 (.t 1)),oA 50 (.ld none (.t 49)),oA 51 (.mv (.t 5)),oA 52 (.idx 1 (.t 50) (.t 51)),oA 53 (.ld none (.t 52)),oA 54 (.mv (.t 6)),oA 55 (.idx 1 (.t 53) (.t 54)),oA 56 (.ld none (.t 55)),oA 57 (.mv (.t 5)),oA 58 (.idx 1 (.t 48) (.t 56)),oN (.st none (.t 58) (.t 57))] [1,2,3,4,5,6,8])
  (.re [oA 59 (.mv (.t 8)),oA 60 (.fld 1 (.t 1)),oA 61 (.ld none (.t 60)),oA 62 (.mv (.t 5)),oA 63 (.idx 1 (.t 61) (.t 62)),oA 64 (.ld none (.t 63)),oA 65 (.mv (.t 6)),oA 66 (.idx 1 (.t 64) (.t 65)),oA 67 (.ld none (.t 66)),oA 68 (.mv (.t 6)),oA 69 (.idx 1 (.t 59) (.t 67)),oN (.st none (.t 69) (.t 68))] [1,2,3,4,5,6]))))
  (.re [oA 22 (.mv (.t 6)),oA 23 (.bin .add (.t 22) (.ci 1)),oA 6 (.mv (.t 23))] [1,2,3,4,5,6])))))))
  (.re [oA 17 (.mv (.t 5)),oA 18 (.bin .add (.t 17) (.ci 1)),oA 5 (.mv (.t 18))] [1,2,3,4,5])))))) (.seq
  (.re [oA 70 (.ld (some 2) (.t 4)),oN (.st (some 2) (.t 2) (.t 70))] [2]) .ret)))))

def c_impl_limitedClass:F where
 np:=2
 rs:=[.t 4,.t 5]
 body :=
  (.seq
  (.re [oA 2 (.box (.t 0)),oA 4 (.asg (.c (.slice none 0 0))),oA 5 (.mv (.ci 0))] [1,2]) (.seq
  (.re [oA 9 (.ld (some 2) (.t 2)),oA 10 (.mv (.t 1)),oA 11 (.call (.f 352) [aR 9,aR 10,((.ci 1000),.r)]),oA 8 (.mv (.t 11)),oA 12 (.ext (.t 8) 0),oA 13 (.ext (.t 8) 1),oA 6 (.asg (.t 12)),oA 7 (.mv (.t 13))] [6,7]) (.seq (.seq
  (.re [oA 14 (.mv (.t 7)),oA 15 (.un .not (.t 14))] [6,15]) (.cond (.t 15) (.seq
  (.re [oA 4 (.asg (.c (.slice none 0 0))),oA 5 (.mv (.ci 3))] [4,5]) .ret) .skip)) (.seq
  (.re [oA 16 (.mv (.t 6)),oA 4 (.asg (.t 16)),oA 5 (.mv (.ci 0))] [4,5]) .ret))))

def c_impl_wordClass:F where
 np:=3
 rs:=[.t 6,.t 7]
 body :=
  (.seq
  (.re [oA 3 (.box (.t 0)),oA 6 (.asg (.c (.slice none 0 0))),oA 7 (.mv (.c (.bool false)))] [1,2,3]) (.seq
  (.re [oA 19 (.ld (some 2) (.t 3)),oA 20 (.call (.f 411) [aR 19]),oN (.freeze 20),oA 18 (.mv (.t 20)),oA 21 (.ext (.t 18) 0),oA 22 (.ext (.t 18) 1),oA 8 (.alloc [(.slice none 0 0),(.slice none 0 0)]),oN (.st (some 2) (.t 8) (.t 21)),oA 9 (.mv (.t 22))] [1,2,3,8]) (.seq
  (.re [oA 23 (.mv (.t 1)),oA 24 (.call (.f 36) [aR 23]),oA 25 (.bsl [(.t 24)]),oA 10 (.asg (.t 25))] [1,2,3,8,10]) (.seq
  (.re [oA 26 .mkset,oA 27 (.mv (.t 1)),oA 28 (.call (.f 312) [aR 27]),oN (.upd (.t 26) (.t 28)),oA 29 (.mv (.t 26)),oA 11 (.asg (.t 29))] [1,2,3,8,10,11]) (.seq (.seq
  (.re [oA 12 (.mv (.ci 0))] [1,2,3,8,10,11,12]) (.block 0 (.loop (.seq (.seq
  (.re [oA 30 (.mv (.t 12)),oA 31 (.mv (.t 10)),oA 32 (.len (.t 31)),oA 33 (.bin .lss (.t 30) (.t 32))] [1,2,3,8,10,11,12,33]) (.cond (.t 33) .skip (.exit 0))) (.seq (.block 1 (.seq
  (.re [oA 36 (.mv (.t 1)),oA 37 (.len (.t 36)),oA 38 (.bin .sub (.t 37) (.ci 1)),oA 39 (.mv (.ci 0))] [1,2,3,8,10,11,12,38,39]) (.block 2 (.loop (.seq
  (.re [oA 40 (.bin .lss (.t 39) (.t 38))] [1,2,3,8,10,11,12,38,39,40]) (.seq (.cond (.t 40) .skip (.exit 2)) (.seq (.block 3 (.seq
  (.re [oA 41 (.mv (.t 39)),oA 13 (.mv (.t 41))] [1,2,3,8,10,11,12,13,38,39]) (.seq
  (.re [oA 42 (.ld (some 2) (.t 3)),oA 43 (.ld (some 2) (.t 8)),oA 44 (.build [(.slice none 0 0),(.slice none 0 0),(.slice none 0 0),(.slice none 0 0)] [(0,2,(.t 42)),(2,2,(.t 43))]),oA 45 (.mv (.ci 0))] [1,2,3,8,10,11,12,13,38,39,44,45]) (.block 4 (.loop (.seq
  (.re [oA 46 (.bin .lss (.t 45) (.ci 2))] [1,2,3,8,10,11,12,13,38,39,44,45,46]) (.seq (.cond (.t 46) .skip (.exit 4)) (.seq (.block 5 (.seq
  (.re [oA 47 (.arr 2 2 (.t 44) (.t 45)),oA 15 (.alloc [(.slice none 0 0),(.slice none 0 0)]),oN (.st (some 2) (.t 15) (.t 47))] [1,2,3,8,10,11,12,13,15,38,39,44,45]) (.seq
  (.region (some [48,49,50,51,52,53]) [oA 48 (.ld (some 2) (.t 15)),oA 49 (.mv (.t 10)),oA 50 (.mv (.t 12)),oA 51 (.idx 1 (.t 49) (.t 50)),oA 52 (.ld none (.t 51)),oA 53 (.mv (.t 13)),oA 54 (.call (.f 44) [aR 48,aR 52,aR 53]),oA 16 (.asg (.t 54))] [1,2,3,8,10,11,12,13,16,38,39,44,45]) (.seq
  (.re [oA 55 (.mv (.t 16)),oA 56 (.call (.f 312) [aR 55]),oA 17 (.mv (.t 56))] [1,2,3,8,10,11,12,13,16,17,38,39,44,45]) (.seq (.seq
  (.re [oA 57 (.mv (.t 11)),oA 58 (.mv (.t 17)),oA 59 (.look (.t 57) (.t 58))] [1,2,3,8,10,11,12,13,16,17,38,39,44,45,59]) (.cond (.t 59) (.exit 5) .skip)) (.seq (.seq
  (.re [oA 60 (.mv (.t 10)),oA 61 (.len (.t 60)),oA 62 (.mv (.t 2)),oA 63 (.bin .eql (.t 61) (.t 62))] [1,2,3,8,10,11,12,13,16,17,38,39,44,45,63]) (.cond (.t 63) (.seq
  (.re [oA 6 (.asg (.c (.slice none 0 0))),oA 7 (.mv (.c (.bool false)))] [6,7]) .ret) .skip)) (.seq
  (.re [oA 64 (.mv (.t 11)),oA 65 (.mv (.t 17)),oN (.upd (.t 64) (.t 65))] [1,2,3,8,10,11,12,13,16,38,39,44,45])
  (.re [oA 66 (.mv (.t 10)),oA 67 (.mv (.t 16)),oA 68 (.bsl [(.t 67)]),oA 69 (.app true 1 (.t 66) (.t 68)),oA 10 (.asg (.t 69))] [1,2,3,8,10,11,12,13,38,39,44,45]))))))))
  (.re [oA 70 (.bin .add (.t 45) (.ci 1)),oA 45 (.mv (.t 70))] [1,2,3,8,10,11,12,13,38,39,44,45])))))))))
  (.re [oA 71 (.bin .add (.t 39) (.ci 1)),oA 39 (.mv (.t 71))] [1,2,3,8,10,11,12,38,39]))))))))
  (.re [oA 34 (.mv (.t 12)),oA 35 (.bin .add (.t 34) (.ci 1)),oA 12 (.mv (.t 35))] [1,2,3,8,10,11,12])))))) (.seq
  (.re [oA 72 (.mv (.t 10)),oA 73 (.callm (.f 313) [((.t 72),true),((.f 314),false)] [])] [10]) (.seq
  (.re [oA 74 (.mv (.t 10)),oA 6 (.asg (.t 74)),oA 7 (.mv (.c (.bool true)))] [6,7]) .ret)))))))

def c_impl_InverseSolution:F where
 np:=1
 rs:=[.cell 2 (some 2),.t 3]
 body :=
  (.seq
  (.re [oA 1 (.box (.t 0)),oA 2 (.alloc [(.slice none 0 0),(.slice none 0 0)]),oA 3 (.mv (.ci 0))] [1,2]) (.seq (.seq
  (.re [oA 10 (.ld (some 2) (.t 1)),oA 11 (.call (.f 42) [aR 10]),oA 12 (.un .not (.t 11))] [1,2,12]) (.cond (.t 12) (.seq
  (.re [oA 13 (.build [(.slice none 0 0),(.slice none 0 0)] []),oN (.st (some 2) (.t 2) (.t 13)),oA 3 (.mv (.ci 1))] [2,3]) .ret) .skip)) (.seq
  (.region (some [4,14,15,16,17,18,19,20]) [oA 14 (.fld 0 (.t 1)),oA 15 (.ld none (.t 14)),oA 16 (.call (.f 275) [aR 15]),oA 17 (.fld 1 (.t 1)),oA 18 (.ld none (.t 17)),oA 19 (.call (.f 275) [aR 18]),oA 20 (.build [(.slice none 0 0),(.slice none 0 0)] [(0,1,(.t 16)),(1,1,(.t 19))]),oA 4 (.alloc [(.slice none 0 0),(.slice none 0 0)]),oN (.st (some 2) (.t 4) (.t 20))] [1,2,4]) (.seq (.seq
  (.re [oA 21 (.fld 0 (.t 1)),oA 22 (.ld none (.t 21)),oA 23 (.len (.t 22)),oA 24 (.mv (.ci 0))] [1,2,4,22,23,24]) (.block 0 (.loop (.seq
  (.re [oA 25 (.bin .lss (.t 24) (.t 23))] [1,2,4,22,23,24,25]) (.seq (.cond (.t 25) .skip (.exit 0)) (.seq (.block 1 (.seq
  (.re [oA 26 (.mv (.t 24)),oA 27 (.idx 1 (.t 22) (.t 24)),oA 28 (.ld none (.t 27)),oA 5 (.mv (.t 26)),oA 6 (.asg (.t 28))] [1,2,4,5,6,22,23,24]) (.seq
  (.re [oA 29 (.mv (.t 6)),oA 30 (.len (.t 29)),oA 31 (.mv (.ci 0))] [1,2,4,5,22,23,24,29,30,31]) (.block 2 (.loop (.seq
  (.re [oA 32 (.bin .lss (.t 31) (.t 30))] [1,2,4,5,22,23,24,29,30,31,32]) (.seq (.cond (.t 32) .skip (.exit 2)) (.seq (.block 3 (.seq
  (.re [oA 33 (.mv (.t 31)),oA 34 (.idx 1 (.t 29) (.t 31)),oA 35 (.ld none (.t 34)),oA 7 (.mv (.t 33)),oA 8 (.mv (.t 35))] [1,2,4,5,7,8,22,23,24,29,30,31]) (.seq
  (.re [oA 36 (.fld 1 (.t 1)),oA 37 (.ld none (.t 36)),oA 38 (.mv (.t 5)),oA 39 (.idx 1 (.t 37) (.t 38)),oA 40 (.ld none (.t 39)),oA 41 (.mv (.t 7)),oA 42 (.idx 1 (.t 40) (.t 41)),oA 43 (.ld none (.t 42)),oA 9 (.mv (.t 43))] [1,2,4,5,7,8,9,22,23,24,29,30,31])
  (.region (some [44,45,46,47,48,49,50,51,52,53,54,55,56,57,58]) [oA 44 (.fld 0 (.t 4)),oA 45 (.ld none (.t 44)),oA 46 (.mv (.t 8)),oA 47 (.idx 1 (.t 45) (.t 46)),oA 48 (.ld none (.t 47)),oA 49 (.mv (.t 9)),oA 50 (.fld 1 (.t 4)),oA 51 (.ld none (.t 50)),oA 52 (.mv (.t 8)),oA 53 (.idx 1 (.t 51) (.t 52)),oA 54 (.ld none (.t 53)),oA 55 (.mvw (.t 9)),oA 56 (.mv (.t 5)),oA 57 (.mvw (.t 7)),oA 58 (.idx 1 (.t 48) (.t 49)),oN (.sts (.t 58) (.t 56)),oA 59 (.idx 1 (.t 54) (.t 55)),oN (.st none (.t 59) (.t 57))] [1,2,4,5,22,23,24,29,30,31]))))
  (.re [oA 60 (.bin .add (.t 31) (.ci 1)),oA 31 (.mv (.t 60))] [1,2,4,5,22,23,24,29,30,31])))))))))
  (.re [oA 61 (.bin .add (.t 24) (.ci 1)),oA 24 (.mv (.t 61))] [1,2,4,22,23,24]))))))) (.seq
  (.re [oA 62 (.ld (some 2) (.t 4)),oN (.st (some 2) (.t 2) (.t 62)),oA 3 (.mv (.ci 0))] [2,3]) .ret)))))

def c_impl_ClassOfWord:F where
 np:=2
 rs:=[.t 4,.t 5]
 body :=
  (.seq
  (.re [oA 2 (.box (.t 0)),oA 4 (.asg (.c (.slice none 0 0))),oA 5 (.mv (.ci 0))] [1,2]) (.seq (.seq
  (.re [oA 7 (.ld (some 2) (.t 2)),oA 8 (.mv (.t 1)),oA 9 (.bsl [(.t 8)]),oA 10 (.call (.f 38) [aR 7,aR 9]),oA 6 (.mv (.t 10))] [1,2,6]) (.seq
  (.re [oA 11 (.mv (.t 6)),oA 12 (.bin .neq (.t 11) (.ci 0))] [1,2,6,12]) (.cond (.t 12) (.seq
  (.re [oA 13 (.mv (.t 6)),oA 4 (.asg (.c (.slice none 0 0))),oA 5 (.mv (.t 13))] [4,5]) .ret) .skip))) (.seq
  (.re [oA 14 (.ld (some 2) (.t 2)),oA 15 (.mv (.t 1)),oA 16 (.call (.f 297) [aR 14,aR 15]),oA 17 (.ext (.t 16) 0),oA 18 (.ext (.t 16) 1),oA 4 (.asg (.t 17)),oA 5 (.mv (.t 18))] [4,5]) .ret)))

def c_spec_l09Many:F where
 np:=2
 rs:=[.t 4]
 body :=
  (.seq
  (.re [oA 2 (.box (.t 0)),oA 4 (.mv (.ci 0))] [1,2]) (.seq (.seq
  (.re [oA 7 (.ld (some 2) (.t 2)),oA 8 (.call (.f 41) [aR 7]),oA 9 (.un .not (.t 8))] [1,2,9]) (.cond (.t 9) (.seq
  (.re [oA 4 (.mv (.ci 1))] [4]) .ret) .skip)) (.seq (.seq
  (.re [oA 10 (.mv (.t 1)),oA 11 (.call (.f 30) [aR 10,((.ci 0),.r),((.ci 8),.r)]),oA 12 (.un .not (.t 11))] [1,2,12]) (.cond (.t 12) (.seq
  (.re [oA 4 (.mv (.ci 2))] [4]) .ret) .skip)) (.seq
  (.re [oA 5 (.mv (.ci 1))] [1,2,5]) (.seq (.seq
  (.re [oA 6 (.mv (.ci 0))] [1,2,5,6]) (.block 0 (.loop (.seq (.seq
  (.re [oA 13 (.mv (.t 6)),oA 14 (.mv (.t 1)),oA 15 (.bin .lss (.t 13) (.t 14))] [1,2,5,6,15]) (.cond (.t 15) .skip (.exit 0))) (.seq (.block 1
  (.re [oA 18 (.mv (.t 5)),oA 19 (.fld 0 (.t 2)),oA 20 (.ld none (.t 19)),oA 21 (.len (.t 20)),oA 22 (.bin .mul (.t 18) (.t 21)),oA 5 (.mv (.t 22))] [1,2,5,6]))
  (.re [oA 16 (.mv (.t 6)),oA 17 (.bin .add (.t 16) (.ci 1)),oA 6 (.mv (.t 17))] [1,2,5,6])))))) (.seq (.seq
  (.re [oA 23 (.mv (.t 5)),oA 24 (.bin .gtr (.t 23) (.ci 5000))] [24]) (.cond (.t 24) (.seq
  (.re [oA 4 (.mv (.ci 3))] [4]) .ret) .skip)) (.seq
  (.re [oA 4 (.mv (.ci 0))] [4]) .ret)))))))

def c_spec_l09Normals:F where
 np:=2
 rs:=[.t 4]
 body :=
  (.seq
  (.re [oA 2 (.box (.t 0)),oA 4 (.asg (.c (.slice none 0 0)))] [1,2]) (.seq
  (.re [oA 19 (.fld 0 (.t 2)),oA 20 (.ld none (.t 19)),oA 21 (.len (.t 20)),oA 5 (.mv (.t 21))] [1,2,5]) (.seq
  (.re [oA 6 (.mv (.ci 1))] [1,2,5,6]) (.seq (.seq
  (.re [oA 7 (.mv (.ci 0))] [1,2,5,6,7]) (.block 0 (.loop (.seq (.seq
  (.re [oA 22 (.mv (.t 7)),oA 23 (.mv (.t 1)),oA 24 (.bin .lss (.t 22) (.t 23))] [1,2,5,6,7,24]) (.cond (.t 24) .skip (.exit 0))) (.seq (.block 1
  (.re [oA 27 (.mv (.t 6)),oA 28 (.mv (.t 5)),oA 29 (.bin .mul (.t 27) (.t 28)),oA 6 (.mv (.t 29))] [1,2,5,6,7]))
  (.re [oA 25 (.mv (.t 7)),oA 26 (.bin .add (.t 25) (.ci 1)),oA 7 (.mv (.t 26))] [1,2,5,6,7])))))) (.seq
  (.re [oA 30 (.mv (.t 6)),oA 31 (.mks (.bool false) (.t 30)),oA 32 (.bsl []),oA 8 (.asg (.t 31)),oA 9 (.asg (.t 32))] [1,2,5,6,8,9]) (.seq (.seq
  (.re [oA 10 (.mv (.ci 0))] [1,2,5,6,8,9,10]) (.block 2 (.loop (.seq (.seq
  (.re [oA 33 (.mv (.t 10)),oA 34 (.mv (.t 6)),oA 35 (.bin .lss (.t 33) (.t 34))] [1,2,5,6,8,9,10,35]) (.cond (.t 35) .skip (.exit 2))) (.seq (.block 3 (.seq (.seq
  (.re [oA 38 (.mv (.t 8)),oA 39 (.mv (.t 10)),oA 40 (.idx 1 (.t 38) (.t 39)),oA 41 (.ld none (.t 40))] [1,2,5,6,8,9,10,41]) (.cond (.t 41) (.exit 3) .skip)) (.seq
  (.re [oA 42 (.mv (.t 1)),oA 43 (.mks (.int .i64 0) (.t 42)),oA 44 (.mv (.t 10)),oA 11 (.asg (.t 43)),oA 12 (.mv (.t 44))] [1,2,5,6,8,9,10,11,12]) (.seq (.seq
  (.re [oA 45 (.mv (.t 1)),oA 46 (.bin .sub (.t 45) (.ci 1)),oA 13 (.mv (.t 46))] [1,2,5,6,8,9,10,11,12,13]) (.block 4 (.loop (.seq (.seq
  (.re [oA 47 (.mv (.t 13)),oA 48 (.bin .geq (.t 47) (.ci 0))] [1,2,5,6,8,9,10,11,12,13,48]) (.cond (.t 48) .skip (.exit 4))) (.seq (.block 5 (.seq
  (.re [oA 51 (.mv (.t 11)),oA 52 (.mv (.t 13)),oA 53 (.mv (.t 12)),oA 54 (.mv (.t 5)),oA 55 (.bin .rem (.t 53) (.t 54)),oA 56 (.idx 1 (.t 51) (.t 52)),oN (.st none (.t 56) (.t 55))] [1,2,5,6,8,9,10,11,12,13])
  (.re [oA 57 (.mv (.t 12)),oA 58 (.mv (.t 5)),oA 59 (.bin .quo (.t 57) (.t 58)),oA 12 (.mv (.t 59))] [1,2,5,6,8,9,10,11,12,13])))
  (.re [oA 49 (.mv (.t 13)),oA 50 (.bin .sub (.t 49) (.ci 1)),oA 13 (.mv (.t 50))] [1,2,5,6,8,9,10,11,12,13])))))) (.seq
  (.re [oA 60 (.mv (.t 9)),oN (.freeze 11),oA 61 (.mv (.t 11)),oA 62 (.bsl [(.t 61)]),oA 63 (.app true 1 (.t 60) (.t 62)),oA 9 (.asg (.t 63))] [1,2,5,6,8,9,10,11]) (.seq
  (.re [oA 65 (.ld (some 2) (.t 2)),oA 66 (.mv (.t 11)),oA 67 (.call (.f 339) [aR 65,aR 66,((.ci 5000),.r)]),oA 64 (.mv (.t 67)),oA 68 (.ext (.t 64) 0),oA 69 (.ext (.t 64) 1),oA 14 (.asg (.t 68)),oA 15 (.mv (.t 69))] [1,2,5,6,8,9,10,14]) (.seq
  (.re [oA 16 (.mv (.ci 0))] [1,2,5,6,8,9,10,14,16]) (.block 6 (.loop (.seq (.seq
  (.re [oA 70 (.mv (.t 16)),oA 71 (.mv (.t 14)),oA 72 (.len (.t 71)),oA 73 (.bin .lss (.t 70) (.t 72))] [1,2,5,6,8,9,10,14,16,73]) (.cond (.t 73) .skip (.exit 6))) (.seq (.block 7 (.seq
  (.re [oA 17 (.mv (.ci 0))] [1,2,5,6,8,9,10,14,16,17]) (.seq (.seq
  (.re [oA 18 (.mv (.ci 0))] [1,2,5,6,8,9,10,14,16,17,18]) (.block 8 (.loop (.seq (.seq
  (.re [oA 76 (.mv (.t 18)),oA 77 (.mv (.t 14)),oA 78 (.mv (.t 16)),oA 79 (.idx 1 (.t 77) (.t 78)),oA 80 (.ld none (.t 79)),oA 81 (.len (.t 80)),oA 82 (.bin .lss (.t 76) (.t 81))] [1,2,5,6,8,9,10,14,16,17,18,82]) (.cond (.t 82) .skip (.exit 8))) (.seq (.block 9
  (.re [oA 85 (.mv (.t 17)),oA 86 (.mv (.t 5)),oA 87 (.bin .mul (.t 85) (.t 86)),oA 88 (.mv (.t 14)),oA 89 (.mv (.t 16)),oA 90 (.idx 1 (.t 88) (.t 89)),oA 91 (.ld none (.t 90)),oA 92 (.mv (.t 18)),oA 93 (.idx 1 (.t 91) (.t 92)),oA 94 (.ld none (.t 93)),oA 95 (.bin .add (.t 87) (.t 94)),oA 17 (.mv (.t 95))] [1,2,5,6,8,9,10,14,16,17,18]))
  (.re [oA 83 (.mv (.t 18)),oA 84 (.bin .add (.t 83) (.ci 1)),oA 18 (.mv (.t 84))] [1,2,5,6,8,9,10,14,16,17,18]))))))
  (.re [oA 96 (.mv (.t 8)),oA 97 (.mv (.t 17)),oA 98 (.idx 1 (.t 96) (.t 97)),oN (.st none (.t 98) (.c (.bool true)))] [1,2,5,6,8,9,10,14,16]))))
  (.re [oA 74 (.mv (.t 16)),oA 75 (.bin .add (.t 74) (.ci 1)),oA 16 (.mv (.t 75))] [1,2,5,6,8,9,10,14,16]))))))))))))
  (.re [oA 36 (.mv (.t 10)),oA 37 (.bin .add (.t 36) (.ci 1)),oA 10 (.mv (.t 37))] [1,2,5,6,8,9,10])))))) (.seq
  (.re [oA 99 (.mv (.t 9)),oA 4 (.asg (.t 99))] [4]) .ret)))))))

def c_impl_CountClasses:F where
 np:=2
 rs:=[.t 4,.t 5]
 body :=
  (.seq
  (.re [oA 2 (.box (.t 0)),oA 4 (.mv (.ci 0)),oA 5 (.mv (.ci 0))] [1,2]) (.seq
  (.re [oA 9 (.ld (some 2) (.t 2)),oA 10 (.mv (.t 1)),oA 11 (.call (.f 155) [aR 9,aR 10]),oA 8 (.mv (.t 11)),oA 12 (.ext (.t 8) 0),oA 13 (.ext (.t 8) 1),oA 6 (.asg (.t 12)),oA 7 (.mv (.t 13))] [6,7]) (.seq
  (.re [oA 14 (.mv (.t 6)),oA 15 (.len (.t 14)),oA 16 (.mv (.t 7)),oA 4 (.mv (.t 15)),oA 5 (.mv (.t 16))] [4,5]) .ret)))

def c_impl_NormalWords:F where
 np:=2
 rs:=[.t 4,.t 5]
 body :=
  (.seq
  (.re [oA 2 (.box (.t 0)),oA 4 (.asg (.c (.slice none 0 0))),oA 5 (.mv (.ci 0))] [1,2]) (.seq (.seq
  (.re [oA 7 (.ld (some 2) (.t 2)),oA 8 (.call (.f 42) [aR 7]),oA 9 (.un .not (.t 8))] [1,2,9]) (.cond (.t 9) (.seq
  (.re [oA 4 (.asg (.c (.slice none 0 0))),oA 5 (.mv (.ci 1))] [4,5]) .ret) .skip)) (.seq (.seq
  (.re [oA 10 (.mv (.t 1)),oA 11 (.call (.f 35) [aR 10,((.ci 0),.r),((.ci 8),.r)]),oA 12 (.un .not (.t 11))] [1,2,12]) (.cond (.t 12) (.seq
  (.re [oA 4 (.asg (.c (.slice none 0 0))),oA 5 (.mv (.ci 2))] [4,5]) .ret) .skip)) (.seq
  (.re [oA 6 (.mv (.ci 1))] [1,2,6]) (.seq (.seq
  (.re [oA 13 (.mv (.t 1)),oA 14 (.mv (.ci 0))] [1,2,6,13,14]) (.block 0 (.loop (.seq
  (.re [oA 15 (.bin .lss (.t 14) (.t 13))] [1,2,6,13,14,15]) (.seq (.cond (.t 15) .skip (.exit 0)) (.seq (.block 1 (.seq
  (.re [oA 16 (.mv (.t 6)),oA 17 (.fld 0 (.t 2)),oA 18 (.ld none (.t 17)),oA 19 (.len (.t 18)),oA 20 (.bin .mul (.t 16) (.t 19)),oA 6 (.mv (.t 20))] [1,2,6,13,14]) (.seq
  (.re [oA 21 (.mv (.t 6)),oA 22 (.bin .gtr (.t 21) (.ci 5000))] [1,2,6,13,14,22]) (.cond (.t 22) (.seq
  (.re [oA 4 (.asg (.c (.slice none 0 0))),oA 5 (.mv (.ci 3))] [4,5]) .ret) .skip))))
  (.re [oA 23 (.bin .add (.t 14) (.ci 1)),oA 14 (.mv (.t 23))] [1,2,6,13,14]))))))) (.seq
  (.re [oA 24 (.ld (some 2) (.t 2)),oA 25 (.mv (.t 1)),oA 26 (.mv (.t 6)),oA 27 (.call (.f 294) [aR 24,aR 25,aR 26]),oA 4 (.asg (.t 27)),oA 5 (.mv (.ci 0))] [4,5]) .ret))))))

def c_impl_normalWords:F where
 np:=3
 rs:=[.t 6]
 body :=
  (.seq
  (.re [oA 3 (.box (.t 0)),oA 6 (.asg (.c (.slice none 0 0)))] [1,2,3]) (.seq
  (.re [oA 16 (.fld 0 (.t 3)),oA 17 (.ld none (.t 16)),oA 18 (.len (.t 17)),oA 7 (.mv (.t 18))] [1,2,3,7]) (.seq
  (.re [oA 19 (.mv (.t 2)),oA 20 (.mks (.bool false) (.t 19)),oA 8 (.asg (.t 20))] [1,3,7,8]) (.seq
  (.re [oA 9 (.asg (.c (.slice none 0 0)))] [1,3,7,8,9]) (.seq (.seq
  (.re [oA 21 (.mv (.t 8)),oA 22 (.len (.t 21)),oA 23 (.mv (.ci 0))] [1,3,7,8,9,22,23]) (.block 0 (.loop (.seq
  (.re [oA 24 (.bin .lss (.t 23) (.t 22))] [1,3,7,8,9,22,23,24]) (.seq (.cond (.t 24) .skip (.exit 0)) (.seq (.block 1 (.seq
  (.re [oA 25 (.mv (.t 23)),oA 10 (.mv (.t 25))] [1,3,7,8,9,10,22,23]) (.seq (.seq
  (.re [oA 26 (.mv (.t 8)),oA 27 (.mv (.t 10)),oA 28 (.idx 1 (.t 26) (.t 27)),oA 29 (.ld none (.t 28))] [1,3,7,8,9,10,22,23,29]) (.cond (.t 29) (.exit 1) .skip)) (.seq
  (.re [oA 30 (.mv (.t 7)),oA 31 (.mv (.t 1)),oA 32 (.mv (.t 10)),oA 33 (.call (.f 262) [aR 30,aR 31,aR 32]),oA 11 (.asg (.t 33))] [1,3,7,8,9,11,22,23]) (.seq
  (.re [oA 34 (.mv (.t 9)),oA 35 (.mv (.t 11)),oA 36 (.bslk (.t 35) 11),oA 37 (.appk (.t 34) (.t 36) 11),oA 9 (.mv (.t 37))] [1,3,7,8,9,11,22,23,37]) (.seq
  (.re [oA 39 (.ld (some 2) (.t 3)),oA 40 (.mv (.t 11)),oA 41 (.call (.f 352) [aR 39,aR 40,((.ci 5000),.r)]),oN (.freeze 41),oA 38 (.mv (.t 41)),oA 42 (.ext (.t 38) 0),oA 43 (.ext (.t 38) 1),oA 12 (.asg (.t 42)),oA 13 (.mv (.t 43))] [1,3,7,8,9,12,22,23,37]) (.seq
  (.re [oN (.settle 9),oA 44 (.mv (.t 12)),oA 45 (.len (.t 44)),oA 46 (.mv (.ci 0))] [1,3,7,8,9,22,23,44,45,46]) (.block 2 (.loop (.seq
  (.re [oA 47 (.bin .lss (.t 46) (.t 45))] [1,3,7,8,9,22,23,44,45,46,47]) (.seq (.cond (.t 47) .skip (.exit 2)) (.seq (.block 3 (.seq
  (.re [oA 48 (.idx 1 (.t 44) (.t 46)),oA 49 (.ld none (.t 48)),oA 15 (.asg (.t 49))] [1,3,7,8,9,15,22,23,44,45,46])
  (.re [oA 50 (.mv (.t 8)),oA 51 (.mv (.t 7)),oA 52 (.mv (.t 15)),oA 53 (.call (.f 263) [aR 51,aR 52]),oA 54 (.idx 1 (.t 50) (.t 53)),oN (.st none (.t 54) (.c (.bool true)))] [1,3,7,8,9,22,23,44,45,46])))
  (.re [oA 55 (.bin .add (.t 46) (.ci 1)),oA 46 (.mv (.t 55))] [1,3,7,8,9,22,23,44,45,46])))))))))))))
  (.re [oA 56 (.bin .add (.t 23) (.ci 1)),oA 23 (.mv (.t 56))] [1,3,7,8,9,22,23]))))))) (.seq
  (.re [oA 57 (.mv (.t 9)),oA 6 (.asg (.t 57))] [6]) .ret))))))

def c_spec_NormalWords:F where
 np:=2
 rs:=[.t 4,.t 5]
 body :=
  (.seq
  (.re [oA 2 (.box (.t 0)),oA 4 (.asg (.c (.slice none 0 0))),oA 5 (.mv (.ci 0))] [1,2]) (.seq
  (.re [oA 7 (.ld (some 2) (.t 2)),oA 8 (.mv (.t 1)),oA 9 (.call (.f 295) [aR 7,aR 8]),oA 6 (.mv (.t 9))] [1,2,6]) (.seq (.seq
  (.re [oA 10 (.mv (.t 6)),oA 11 (.bin .neq (.t 10) (.ci 0))] [1,2,6,11]) (.cond (.t 11) (.seq
  (.re [oA 12 (.mv (.t 6)),oA 4 (.asg (.c (.slice none 0 0))),oA 5 (.mv (.t 12))] [4,5]) .ret) .skip)) (.seq
  (.re [oA 13 (.ld (some 2) (.t 2)),oA 14 (.mv (.t 1)),oA 15 (.call (.f 296) [aR 13,aR 14]),oA 4 (.asg (.t 15)),oA 5 (.mv (.ci 0))] [4,5]) .ret))))

def c_spec_l02Twice:F where
 np:=1
 rs:=[.t 2]
 body :=
  (.seq
  (.re [oA 1 (.box (.t 0)),oA 2 (.mv (.c (.bool false)))] [1]) (.seq (.seq
  (.re [oA 3 (.mv (.ci 0))] [1,3]) (.block 0 (.loop (.seq (.seq
  (.re [oA 7 (.mv (.t 3)),oA 8 (.fld 0 (.t 1)),oA 9 (.ld none (.t 8)),oA 10 (.len (.t 9)),oA 11 (.bin .lss (.t 7) (.t 10))] [1,3,11]) (.cond (.t 11) .skip (.exit 0))) (.seq (.block 1 (.seq
  (.re [oA 4 (.mv (.ci 0))] [1,3,4]) (.block 2 (.loop (.seq (.seq
  (.re [oA 14 (.mv (.t 4)),oA 15 (.fld 0 (.t 1)),oA 16 (.ld none (.t 15)),oA 17 (.len (.t 16)),oA 18 (.bin .lss (.t 14) (.t 17))] [1,3,4,18]) (.cond (.t 18) .skip (.exit 2))) (.seq (.block 3 (.seq
  (.region (some [5,21,22,23,24,25,26,27,28,29,30,31,32,33,34,35,36]) [oA 21 (.fld 0 (.t 1)),oA 22 (.ld none (.t 21)),oA 23 (.mv (.t 3)),oA 24 (.idx 1 (.t 22) (.t 23)),oA 25 (.ld none (.t 24)),oA 26 (.mv (.t 4)),oA 27 (.idx 1 (.t 25) (.t 26)),oA 28 (.ld none (.t 27)),oA 29 (.fld 1 (.t 1)),oA 30 (.ld none (.t 29)),oA 31 (.mv (.t 3)),oA 32 (.idx 1 (.t 30) (.t 31)),oA 33 (.ld none (.t 32)),oA 34 (.mv (.t 4)),oA 35 (.idx 1 (.t 33) (.t 34)),oA 36 (.ld none (.t 35)),oA 5 (.mv (.t 28)),oA 6 (.mv (.t 36))] [1,3,4,5,6]) (.seq
  (.re [oA 37 (.fld 0 (.t 1)),oA 38 (.ld none (.t 37)),oA 39 (.mv (.t 5)),oA 40 (.idx 1 (.t 38) (.t 39)),oA 41 (.ld none (.t 40)),oA 42 (.mv (.t 6)),oA 43 (.idx 1 (.t 41) (.t 42)),oA 44 (.ld none (.t 43)),oA 45 (.mv (.t 3)),oA 46 (.bin .neq (.t 44) (.t 45)),oA 47 (.mv (.t 46)),oI 48 47 false (.fld 1 (.t 1)),oI 49 47 false (.ld none (.t 48)),oI 50 47 false (.mv (.t 5)),oI 51 47 false (.idx 1 (.t 49) (.t 50)),oI 52 47 false (.ld none (.t 51)),oI 53 47 false (.mv (.t 6)),oI 54 47 false (.idx 1 (.t 52) (.t 53)),oI 55 47 false (.ld none (.t 54)),oI 56 47 false (.mv (.t 4)),oI 57 47 false (.bin .neq (.t 55) (.t 56)),oA 58 (.pick (.t 47) (.c (.bool true)) (.t 57))] [1,3,4,58]) (.cond (.t 58) (.seq
  (.re [oA 2 (.mv (.c (.bool false)))] [2]) .ret) .skip))))
  (.re [oA 19 (.mv (.t 4)),oA 20 (.bin .add (.t 19) (.ci 1)),oA 4 (.mv (.t 20))] [1,3,4])))))))
  (.re [oA 12 (.mv (.t 3)),oA 13 (.bin .add (.t 12) (.ci 1)),oA 3 (.mv (.t 13))] [1,3])))))) (.seq
  (.re [oA 2 (.mv (.c (.bool true)))] [2]) .ret)))

def c_impl_isInvolutive:F where
 np:=1
 rs:=[.t 2]
 body :=
  (.seq
  (.re [oA 1 (.box (.t 0)),oA 2 (.mv (.c (.bool false)))] [1]) (.seq (.seq
  (.re [oA 8 (.fld 0 (.t 1)),oA 9 (.ld none (.t 8)),oA 10 (.len (.t 9)),oA 11 (.mv (.ci 0))] [1,9,10,11]) (.block 0 (.loop (.seq
  (.re [oA 12 (.bin .lss (.t 11) (.t 10))] [1,9,10,11,12]) (.seq (.cond (.t 12) .skip (.exit 0)) (.seq (.block 1 (.seq
  (.re [oA 13 (.mv (.t 11)),oA 14 (.idx 1 (.t 9) (.t 11)),oA 15 (.ld none (.t 14)),oA 3 (.mv (.t 13)),oA 4 (.asg (.t 15))] [1,3,4,9,10,11]) (.seq
  (.re [oA 16 (.mv (.t 4)),oA 17 (.len (.t 16)),oA 18 (.mv (.ci 0))] [1,3,9,10,11,16,17,18]) (.block 2 (.loop (.seq
  (.re [oA 19 (.bin .lss (.t 18) (.t 17))] [1,3,9,10,11,16,17,18,19]) (.seq (.cond (.t 19) .skip (.exit 2)) (.seq (.block 3 (.seq
  (.re [oA 20 (.mv (.t 18)),oA 21 (.idx 1 (.t 16) (.t 18)),oA 22 (.ld none (.t 21)),oA 5 (.mv (.t 20)),oA 6 (.mv (.t 22))] [1,3,5,6,9,10,11,16,17,18]) (.seq
  (.re [oA 23 (.fld 1 (.t 1)),oA 24 (.ld none (.t 23)),oA 25 (.mv (.t 3)),oA 26 (.idx 1 (.t 24) (.t 25)),oA 27 (.ld none (.t 26)),oA 28 (.mv (.t 5)),oA 29 (.idx 1 (.t 27) (.t 28)),oA 30 (.ld none (.t 29)),oA 7 (.mv (.t 30))] [1,3,5,6,7,9,10,11,16,17,18]) (.seq
  (.re [oA 31 (.fld 0 (.t 1)),oA 32 (.ld none (.t 31)),oA 33 (.mv (.t 6)),oA 34 (.idx 1 (.t 32) (.t 33)),oA 35 (.ld none (.t 34)),oA 36 (.mv (.t 7)),oA 37 (.idx 1 (.t 35) (.t 36)),oA 38 (.ld none (.t 37)),oA 39 (.mv (.t 3)),oA 40 (.bin .neq (.t 38) (.t 39)),oA 41 (.mv (.t 40)),oI 42 41 false (.fld 1 (.t 1)),oI 43 41 false (.ld none (.t 42)),oI 44 41 false (.mv (.t 6)),oI 45 41 false (.idx 1 (.t 43) (.t 44)),oI 46 41 false (.ld none (.t 45)),oI 47 41 false (.mv (.t 7)),oI 48 41 false (.idx 1 (.t 46) (.t 47)),oI 49 41 false (.ld none (.t 48)),oI 50 41 false (.mv (.t 5)),oI 51 41 false (.bin .neq (.t 49) (.t 50)),oA 52 (.pick (.t 41) (.c (.bool true)) (.t 51))] [1,3,9,10,11,16,17,18,52]) (.cond (.t 52) (.seq
  (.re [oA 2 (.mv (.c (.bool false)))] [2]) .ret) .skip)))))
  (.re [oA 53 (.bin .add (.t 18) (.ci 1)),oA 18 (.mv (.t 53))] [1,3,9,10,11,16,17,18])))))))))
  (.re [oA 54 (.bin .add (.t 11) (.ci 1)),oA 11 (.mv (.t 54))] [1,9,10,11]))))))) (.seq
  (.re [oA 2 (.mv (.c (.bool true)))] [2]) .ret)))

end Go.Mch
