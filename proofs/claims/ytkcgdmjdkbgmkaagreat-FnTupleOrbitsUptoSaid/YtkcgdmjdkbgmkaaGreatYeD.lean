/- Compact code of the functions of words that the exact laws reach further. -/
import Derived.Test.YtkcgdmjdkbgmkaaGreatM1
namespace Go.Mch

def j1g:F where
 np:=2
 rs:=[.t 4,.t 5]
 body :=
  (.seq
  (.re [oA 2 (.box (.t 0)),oA 4 (.asg (.c (.slice none 0 0))),oA 5 (.mv (.ci 0))] [1,2]) (.seq (.block 0 (.seq
  (.re [oA 8 (.ld (some 2) (.t 2)),oA 9 (.call (.f 41) [aR 8]),oA 10 (.un .not (.t 9)),oA 7 (.mv (.t 10))] [1,2,7]) (.cond (.t 7) (.seq
  (.re [oA 4 (.asg (.c (.slice none 0 0))),oA 5 (.mv (.ci 1))] [4,5]) .ret) (.seq
  (.re [oA 12 (.fld 0 (.t 2)),oA 13 (.ld none (.t 12)),oA 14 (.len (.t 13)),oA 15 (.mv (.t 1)),oA 16 (.call (.f 29) [aR 14,aR 15]),oA 17 (.un .not (.t 16)),oA 11 (.mv (.t 17))] [1,2,11]) (.cond (.t 11) (.seq
  (.re [oA 4 (.asg (.c (.slice none 0 0))),oA 5 (.mv (.ci 2))] [4,5]) .ret) .skip))))) (.seq
  (.re [oA 18 (.ld (some 2) (.t 2)),oA 19 (.mv (.t 1)),oA 20 (.call (.f 315) [aR 18,aR 19,((.ci 5000),.r)]),oA 6 (.asg (.t 20))] [6]) (.seq (.seq
  (.re [oA 21 (.mv (.t 6)),oA 22 (.len (.t 21)),oA 23 (.bin .gtr (.t 22) (.ci 5000))] [6,23]) (.cond (.t 23) (.seq
  (.re [oA 4 (.asg (.c (.slice none 0 0))),oA 5 (.mv (.ci 3))] [4,5]) .ret) .skip)) (.seq
  (.re [oA 24 (.mv (.t 6)),oA 25 (.call (.f 280) [aR 24]),oA 4 (.asg (.t 25)),oA 5 (.mv (.ci 0))] [4,5]) .ret)))))

def c_spec_l06Reach:F where
 np:=3
 rs:=[.t 6]
 body :=
  (.seq
  (.re [oA 3 (.box (.t 0)),oA 6 (.asg (.c (.slice none 0 0)))] [1,2,3]) (.seq
  (.re [oA 14 (.mv (.t 1)),oA 15 (.call (.f 31) [aR 14]),oN (.freeze 15),oA 16 (.bsl [(.t 15)]),oA 17 (.mv (.t 1)),oA 18 (.call (.f 31) [aR 17]),oN (.freeze 18),oA 19 (.bsl [(.t 18)]),oA 7 (.asg (.t 16)),oA 8 (.asg (.t 19))] [1,2,3,7,8]) (.seq (.seq
  (.re [oA 9 (.mv (.ci 0))] [1,2,3,7,8,9]) (.block 0 (.loop (.seq (.seq
  (.re [oA 20 (.mv (.t 9)),oA 21 (.mv (.t 8)),oA 22 (.len (.t 21)),oA 23 (.bin .lss (.t 20) (.t 22)),oA 24 (.mv (.t 23)),oI 25 24 true (.mv (.t 8)),oI 26 24 true (.len (.t 25)),oI 27 24 true (.mv (.t 2)),oI 28 24 true (.bin .leq (.t 26) (.t 27)),oA 29 (.pick (.t 24) (.t 28) (.c (.bool false)))] [1,2,3,7,8,9,29]) (.cond (.t 29) .skip (.exit 0))) (.seq (.block 1 (.seq
  (.re [oA 10 (.mv (.ci 0))] [1,2,3,7,8,9,10]) (.block 2 (.loop (.seq (.seq
  (.re [oA 32 (.mv (.t 10)),oA 33 (.bin .add (.t 32) (.ci 1)),oA 34 (.mv (.t 1)),oA 35 (.len (.t 34)),oA 36 (.bin .lss (.t 33) (.t 35)),oA 37 (.mv (.t 36)),oI 38 37 true (.mv (.t 8)),oI 39 37 true (.len (.t 38)),oI 40 37 true (.mv (.t 2)),oI 41 37 true (.bin .leq (.t 39) (.t 40)),oA 42 (.pick (.t 37) (.t 41) (.c (.bool false)))] [1,2,3,7,8,9,10,42]) (.cond (.t 42) .skip (.exit 2))) (.seq (.block 3 (.seq
  (.region (some [45,46,47,48,49,50]) [oA 45 (.ld (some 2) (.t 3)),oA 46 (.mv (.t 8)),oA 47 (.mv (.t 9)),oA 48 (.idx 1 (.t 46) (.t 47)),oA 49 (.ld none (.t 48)),oA 50 (.mv (.t 10)),oA 51 (.call (.f 43) [aR 45,aR 49,aR 50]),oA 11 (.asg (.t 51))] [1,2,3,7,8,9,10,11]) (.seq
  (.re [oN (.freeze 11),oA 52 (.mv (.t 7)),oA 53 (.mv (.t 11)),oA 54 (.call (.f 396) [aR 52,aR 53]),oA 12 (.mv (.t 54))] [1,2,3,7,8,9,10,11,12]) (.seq (.seq
  (.re [oA 55 (.mv (.t 12)),oA 56 (.mv (.t 7)),oA 57 (.len (.t 56)),oA 58 (.bin .lss (.t 55) (.t 57)),oA 59 (.mv (.t 58)),oI 60 59 true (.mv (.t 7)),oI 61 59 true (.mv (.t 12)),oI 62 59 true (.idx 1 (.t 60) (.t 61)),oI 63 59 true (.ld none (.t 62)),oI 64 59 true (.mv (.t 11)),oI 65 59 true (.call (.f 67) [aR 63,aR 64]),oA 66 (.pick (.t 59) (.t 65) (.c (.bool false)))] [1,2,3,7,8,9,10,11,12,66]) (.cond (.t 66) (.exit 3) .skip)) (.seq
  (.re [oA 67 (.mv (.t 11)),oA 68 (.bsl [(.t 67)]),oA 69 (.mv (.t 7)),oA 70 (.mv (.t 12)),oA 71 (.sl 1 (.t 69) (some (.t 70)) none),oA 72 (.app false 1 (.t 68) (.t 71)),oA 13 (.asg (.t 72))] [1,2,3,7,8,9,10,11,12,13]) (.seq
  (.re [oA 73 (.bsl []),oA 74 (.mv (.t 7)),oA 75 (.mv (.t 12)),oA 76 (.sl 1 (.t 74) none (some (.t 75))),oA 77 (.app false 1 (.t 73) (.t 76)),oA 78 (.mv (.t 13)),oA 79 (.app false 1 (.t 77) (.t 78)),oA 7 (.asg (.t 79))] [1,2,3,7,8,9,10,11])
  (.re [oA 80 (.mv (.t 8)),oA 81 (.mv (.t 11)),oA 82 (.bsl [(.t 81)]),oA 83 (.app true 1 (.t 80) (.t 82)),oA 8 (.asg (.t 83))] [1,2,3,7,8,9,10])))))))
  (.re [oA 43 (.mv (.t 10)),oA 44 (.bin .add (.t 43) (.ci 1)),oA 10 (.mv (.t 44))] [1,2,3,7,8,9,10])))))))
  (.re [oA 30 (.mv (.t 9)),oA 31 (.bin .add (.t 30) (.ci 1)),oA 9 (.mv (.t 31))] [1,2,3,7,8,9])))))) (.seq
  (.re [oA 84 (.mv (.t 7)),oA 6 (.asg (.t 84))] [6]) .ret))))

def c_spec_l03Search:F where
 np:=2
 rs:=[.t 4]
 body :=
  (.seq
  (.re [oA 4 (.mv (.ci 0))] [0,1]) (.seq
  (.re [oA 8 (.mv (.t 0)),oA 9 (.len (.t 8)),oA 5 (.mv (.ci 0)),oA 6 (.mv (.t 9))] [0,1,5,6]) (.seq (.block 0 (.loop (.seq (.seq
  (.re [oA 10 (.mv (.t 5)),oA 11 (.mv (.t 6)),oA 12 (.bin .lss (.t 10) (.t 11))] [0,1,5,6,12]) (.cond (.t 12) .skip (.exit 0))) (.block 1 (.seq
  (.re [oA 13 (.mv (.t 5)),oA 14 (.mv (.t 6)),oA 15 (.bin .add (.t 13) (.t 14)),oA 16 (.bin .quo (.t 15) (.ci 2)),oA 7 (.mv (.t 16))] [0,1,5,6,7]) (.seq
  (.re [oA 17 (.mv (.t 0)),oA 18 (.mv (.t 7)),oA 19 (.idx 1 (.t 17) (.t 18)),oA 20 (.ld none (.t 19)),oA 21 (.mv (.t 1)),oA 22 (.call (.f 408) [aR 20,aR 21])] [0,1,5,6,7,22]) (.cond (.t 22)
  (.re [oA 23 (.mv (.t 7)),oA 24 (.bin .add (.t 23) (.ci 1)),oA 5 (.mv (.t 24))] [0,1,5,6])
  (.re [oA 25 (.mv (.t 7)),oA 6 (.mv (.t 25))] [0,1,5,6])))))))) (.seq
  (.re [oA 26 (.mv (.t 5)),oA 4 (.mv (.t 26))] [4]) .ret))))

def j1y:F where
 np:=2
 rs:=[.t 4,.t 5]
 body :=
  (.seq
  (.re [oA 2 (.box (.t 0)),oA 4 (.asg (.c (.slice none 0 0))),oA 5 (.mv (.ci 0))] [1,2]) (.seq (.seq
  (.re [oA 12 (.ld (some 2) (.t 2)),oA 13 (.call (.f 42) [aR 12]),oA 14 (.un .not (.t 13))] [1,2,14]) (.cond (.t 14) (.seq
  (.re [oA 4 (.asg (.c (.slice none 0 0))),oA 5 (.mv (.ci 1))] [4,5]) .ret) .skip)) (.seq (.seq
  (.re [oA 15 (.fld 0 (.t 2)),oA 16 (.ld none (.t 15)),oA 17 (.len (.t 16)),oA 18 (.mv (.t 1)),oA 19 (.call (.f 34) [aR 17,aR 18]),oA 20 (.un .not (.t 19))] [1,2,20]) (.cond (.t 20) (.seq
  (.re [oA 4 (.asg (.c (.slice none 0 0))),oA 5 (.mv (.ci 2))] [4,5]) .ret) .skip)) (.seq
  (.re [oA 21 (.mv (.t 1)),oA 22 (.call (.f 36) [aR 21]),oA 23 (.bsl [(.t 22)]),oA 6 (.asg (.t 23))] [1,2,6]) (.seq
  (.re [oA 24 .mkset,oA 25 (.mv (.t 1)),oA 26 (.call (.f 312) [aR 25]),oN (.upd (.t 24) (.t 26)),oA 27 (.mv (.t 24)),oA 7 (.asg (.t 27))] [1,2,6,7]) (.seq (.seq
  (.re [oA 8 (.mv (.ci 0))] [1,2,6,7,8]) (.block 0 (.loop (.seq (.seq
  (.re [oA 28 (.mv (.t 8)),oA 29 (.mv (.t 6)),oA 30 (.len (.t 29)),oA 31 (.bin .lss (.t 28) (.t 30))] [1,2,6,7,8,31]) (.cond (.t 31) .skip (.exit 0))) (.seq (.block 1 (.seq
  (.re [oA 34 (.mv (.t 1)),oA 35 (.len (.t 34)),oA 36 (.bin .sub (.t 35) (.ci 1)),oA 37 (.mv (.ci 0))] [1,2,6,7,8,36,37]) (.block 2 (.loop (.seq
  (.re [oA 38 (.bin .lss (.t 37) (.t 36))] [1,2,6,7,8,36,37,38]) (.seq (.cond (.t 38) .skip (.exit 2)) (.seq (.block 3 (.seq
  (.re [oA 39 (.mv (.t 37)),oA 9 (.mv (.t 39))] [1,2,6,7,8,9,36,37]) (.seq
  (.region (some [40,41,42,43,44,45]) [oA 40 (.ld (some 2) (.t 2)),oA 41 (.mv (.t 6)),oA 42 (.mv (.t 8)),oA 43 (.idx 1 (.t 41) (.t 42)),oA 44 (.ld none (.t 43)),oA 45 (.mv (.t 9)),oA 46 (.call (.f 44) [aR 40,aR 44,aR 45]),oA 10 (.asg (.t 46))] [1,2,6,7,8,10,36,37]) (.seq
  (.re [oA 47 (.mv (.t 10)),oA 48 (.call (.f 312) [aR 47]),oA 11 (.mv (.t 48))] [1,2,6,7,8,10,11,36,37]) (.seq
  (.re [oA 49 (.mv (.t 7)),oA 50 (.mv (.t 11)),oA 51 (.look (.t 49) (.t 50)),oA 52 (.un .not (.t 51))] [1,2,6,7,8,10,11,36,37,52]) (.cond (.t 52) (.seq (.seq
  (.re [oA 53 (.mv (.t 6)),oA 54 (.len (.t 53)),oA 55 (.bin .eql (.t 54) (.ci 5000))] [1,2,6,7,8,10,11,36,37,55]) (.cond (.t 55) (.seq
  (.re [oA 4 (.asg (.c (.slice none 0 0))),oA 5 (.mv (.ci 3))] [4,5]) .ret) .skip)) (.seq
  (.re [oA 56 (.mv (.t 7)),oA 57 (.mv (.t 11)),oN (.upd (.t 56) (.t 57))] [1,2,6,7,8,10,36,37])
  (.re [oA 58 (.mv (.t 6)),oA 59 (.mv (.t 10)),oA 60 (.bsl [(.t 59)]),oA 61 (.app true 1 (.t 58) (.t 60)),oA 6 (.asg (.t 61))] [1,2,6,7,8,36,37]))) .skip))))))
  (.re [oA 62 (.bin .add (.t 37) (.ci 1)),oA 37 (.mv (.t 62))] [1,2,6,7,8,36,37]))))))))
  (.re [oA 32 (.mv (.t 8)),oA 33 (.bin .add (.t 32) (.ci 1)),oA 8 (.mv (.t 33))] [1,2,6,7,8])))))) (.seq
  (.re [oA 63 (.mv (.t 6)),oA 64 (.callm (.f 313) [((.t 63),true),((.f 314),false)] [])] [6]) (.seq
  (.re [oA 65 (.mv (.t 6)),oA 4 (.asg (.t 65)),oA 5 (.mv (.ci 0))] [4,5]) .ret))))))))

def c_spec_l02Inverse:F where
 np:=1
 rs:=[.cell 2 (some 2)]
 body :=
  (.seq
  (.re [oA 1 (.box (.t 0)),oA 2 (.alloc [(.slice none 0 0),(.slice none 0 0)])] [1,2]) (.seq
  (.re [oA 9 (.fld 0 (.t 1)),oA 10 (.ld none (.t 9)),oA 11 (.len (.t 10)),oA 3 (.mv (.t 11))] [1,2,3]) (.seq
  (.re [oA 12 (.mv (.t 3)),oA 13 (.call (.f 398) [aR 12]),oA 4 (.alloc [(.slice none 0 0),(.slice none 0 0)]),oN (.st (some 2) (.t 4) (.t 13))] [1,2,3,4]) (.seq (.seq
  (.re [oA 5 (.mv (.ci 0))] [1,2,3,4,5]) (.block 0 (.loop (.seq (.seq
  (.re [oA 14 (.mv (.t 5)),oA 15 (.mv (.t 3)),oA 16 (.bin .lss (.t 14) (.t 15))] [1,2,3,4,5,16]) (.cond (.t 16) .skip (.exit 0))) (.seq (.block 1 (.seq
  (.re [oA 6 (.mv (.ci 0))] [1,2,3,4,5,6]) (.block 2 (.loop (.seq (.seq
  (.re [oA 19 (.mv (.t 6)),oA 20 (.mv (.t 3)),oA 21 (.bin .lss (.t 19) (.t 20))] [1,2,3,4,5,6,21]) (.cond (.t 21) .skip (.exit 2))) (.seq (.block 3 (.seq
  (.region (some [7,24,25,26,27,28,29,30,31,32,33,34,35,36,37,38,39,40,41,42,43,44,45,46,47]) [oA 24 (.fld 0 (.t 4)),oA 25 (.ld none (.t 24)),oA 26 (.fld 0 (.t 1)),oA 27 (.ld none (.t 26)),oA 28 (.mv (.t 5)),oA 29 (.idx 1 (.t 27) (.t 28)),oA 30 (.ld none (.t 29)),oA 31 (.mv (.t 6)),oA 32 (.idx 1 (.t 30) (.t 31)),oA 33 (.ld none (.t 32)),oA 34 (.idx 1 (.t 25) (.t 33)),oA 35 (.ld none (.t 34)),oA 36 (.fld 1 (.t 4)),oA 37 (.ld none (.t 36)),oA 38 (.fld 0 (.t 1)),oA 39 (.ld none (.t 38)),oA 40 (.mv (.t 5)),oA 41 (.idx 1 (.t 39) (.t 40)),oA 42 (.ld none (.t 41)),oA 43 (.mv (.t 6)),oA 44 (.idx 1 (.t 42) (.t 43)),oA 45 (.ld none (.t 44)),oA 46 (.idx 1 (.t 37) (.t 45)),oA 47 (.ld none (.t 46)),oA 7 (.mv (.t 35)),oA 8 (.mv (.t 47))] [1,2,3,4,5,6,7,8]) (.seq
  (.re [oA 48 (.mv (.t 7)),oA 49 (.fld 1 (.t 1)),oA 50 (.ld none (.t 49)),oA 51 (.mv (.t 5)),oA 52 (.idx 1 (.t 50) (.t 51)),oA 53 (.ld none (.t 52)),oA 54 (.mv (.t 6)),oA 55 (.idx 1 (.t 53) (.t 54)),oA 56 (.ld none (.t 55)),oA 57 (.mv (.t 5)),oA 58 (.idx 1 (.t 48) (.t 56)),oN (.st none (.t 58) (.t 57))] [1,2,3,4,5,6,8])
  (.re [oA 59 (.mv (.t 8)),oA 60 (.fld 1 (.t 1)),oA 61 (.ld none (.t 60)),oA 62 (.mv (.t 5)),oA 63 (.idx 1 (.t 61) (.t 62)),oA 64 (.ld none (.t 63)),oA 65 (.mv (.t 6)),oA 66 (.idx 1 (.t 64) (.t 65)),oA 67 (.ld none (.t 66)),oA 68 (.mv (.t 6)),oA 69 (.idx 1 (.t 59) (.t 67)),oN (.st none (.t 69) (.t 68))] [1,2,3,4,5,6]))))
  (.re [oA 22 (.mv (.t 6)),oA 23 (.bin .add (.t 22) (.ci 1)),oA 6 (.mv (.t 23))] [1,2,3,4,5,6])))))))
  (.re [oA 17 (.mv (.t 5)),oA 18 (.bin .add (.t 17) (.ci 1)),oA 5 (.mv (.t 18))] [1,2,3,4,5])))))) (.seq
  (.re [oA 70 (.ld (some 2) (.t 4)),oN (.st (some 2) (.t 2) (.t 70))] [2]) .ret)))))

end Go.Mch
