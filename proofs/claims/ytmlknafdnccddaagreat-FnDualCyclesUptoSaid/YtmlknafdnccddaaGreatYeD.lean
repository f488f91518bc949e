/- Compact code of the functions of words that the exact laws reach further. -/
import Derived.Test.YtmlknafdnccddaaGreatM1
namespace Go.Mch

def c_spec_l02Inverse:F where
 np:=1
 rs:=[.cell 2 (some 2)]
 body :=
  (.seq
  (.re [oA 1 (.box (.t 0)),oA 2 (.alloc [(.slice none 0 0),(.slice none 0 0)])] [1,2]) (.seq
  (.re [oA 9 (.fld 0 (.t 1)),oA 10 (.ld none (.t 9)),oA 11 (.len (.t 10)),oA 3 (.mv (.t 11))] [1,2,3]) (.seq
  (.re [oA 12 (.mv (.t 3)),oA 13 (.call (.f 398) [aR 12]),oA 4 (.alloc [(.slice none 0 0),(.slice none 0 0)]),oN (.st (some 2) (.t 4) (.t 13))] [1,2,3,4]) (.seq (.seq
  (.re [oA 5 (.mv (.ci 0))] [1,2,3,4,5]) (.block 0 (.loop (.seq (.seq
  (.re [oA 14 (.mv (.t 5)),oA 15 (.mv (.t 3)),oA 16 (.bin .lss (.t 14) (.t 15))] [1,2,3,4,5,16]) (.cond (.t 16) .skip (.exit 0))) (.seq (.block 1 (.seq
  (.re [oA 6 (.mv (.ci 0))] [1,2,3,4,5,6]) (.block 2 (.loop (.seq (.seq
  (.re [oA 19 (.mv (.t 6)),oA 20 (.mv (.t 3)),oA 21 (.bin .lss (.t 19) (.t 20))] [1,2,3,4,5,6,21]) (.cond (.t 21) .skip (.exit 2))) (.seq (.block 3 (.seq
  (.region (some [7,24,25,26,27,28,29,30,31,32,33,34,35,36,37,38,39,40,41,42,43,44,45,46,47]) [oA 24 (.fld 0 (.t 4)),oA 25 (.ld none (.t 24)),oA 26 (.fld 0 (.t 1)),oA 27 (.ld none (.t 26)),oA 28 (.mv (.t 5)),oA 29 (.idx 1 (.t 27) (.t 28)),oA 30 (.ld none (.t 29)),oA 31 (.mv (.t 6)),oA 32 (.idx 1 (.t 30) (.t 31)),oA 33 (.ld none (.t 32)),oA 34 (.idx 1 (.t 25) (.t 33)),oA 35 (.ld none (.t 34)),oA 36 (.fld 1 (.t 4)),oA 37 (.ld none (.t 36)),oA 38 (.fld 0 (.t 1)),oA 39 (.ld none (.t 38)),oA 40 (.mv (.t 5)),oA 41 (.idx 1 (.t 39) (.t 40)),oA 42 (.ld none (.t 41)),oA 43 (.mv (.t 6)),oA 44 (.idx 1 (.t 42) (.t 43)),oA 45 (.ld none (.t 44)),oA 46 (.idx 1 (.t 37) (.t 45)),oA 47 (.ld none (.t 46)),oA 7 (.mv (.t 35)),oA 8 (.mv (.t 47))] [1,2,3,4,5,6,7,8]) (.seq
  (.re [oA 48 (.mv (.t 7)),oA 49 (.fld 1 (.t 1)),oA 50 (.ld none (.t 49)),oA 51 (.mv (.t 5)),oA 52 (.idx 1 (.t 50) (.t 51)),oA 53 (.ld none (.t 52)),oA 54 (.mv (.t 6)),oA 55 (.idx 1 (.t 53) (.t 54)),oA 56 (.ld none (.t 55)),oA 57 (.mv (.t 5)),oA 58 (.idx 1 (.t 48) (.t 56)),oN (.st none (.t 58) (.t 57))] [1,2,3,4,5,6,8])
  (.re [oA 59 (.mv (.t 8)),oA 60 (.fld 1 (.t 1)),oA 61 (.ld none (.t 60)),oA 62 (.mv (.t 5)),oA 63 (.idx 1 (.t 61) (.t 62)),oA 64 (.ld none (.t 63)),oA 65 (.mv (.t 6)),oA 66 (.idx 1 (.t 64) (.t 65)),oA 67 (.ld none (.t 66)),oA 68 (.mv (.t 6)),oA 69 (.idx 1 (.t 59) (.t 67)),oN (.st none (.t 69) (.t 68))] [1,2,3,4,5,6]))))
  (.re [oA 22 (.mv (.t 6)),oA 23 (.bin .add (.t 22) (.ci 1)),oA 6 (.mv (.t 23))] [1,2,3,4,5,6])))))))
  (.re [oA 17 (.mv (.t 5)),oA 18 (.bin .add (.t 17) (.ci 1)),oA 5 (.mv (.t 18))] [1,2,3,4,5])))))) (.seq
  (.re [oA 70 (.ld (some 2) (.t 4)),oN (.st (some 2) (.t 2) (.t 70))] [2]) .ret)))))

def c_spec_l02Twice:F where
 np:=1
 rs:=[.t 2]
 body :=
  (.seq
  (.re [oA 1 (.box (.t 0)),oA 2 (.mv (.c (.bool false)))] [1]) (.seq (.seq
  (.re [oA 3 (.mv (.ci 0))] [1,3]) (.block 0 (.loop (.seq (.seq
  (.re [oA 7 (.mv (.t 3)),oA 8 (.fld 0 (.t 1)),oA 9 (.ld none (.t 8)),oA 10 (.len (.t 9)),oA 11 (.bin .lss (.t 7) (.t 10))] [1,3,11]) (.cond (.t 11) .skip (.exit 0))) (.seq (.block 1 (.seq
  (.re [oA 4 (.mv (.ci 0))] [1,3,4]) (.block 2 (.loop (.seq (.seq
  (.re [oA 14 (.mv (.t 4)),oA 15 (.fld 0 (.t 1)),oA 16 (.ld none (.t 15)),oA 17 (.len (.t 16)),oA 18 (.bin .lss (.t 14) (.t 17))] [1,3,4,18]) (.cond (.t 18) .skip (.exit 2))) (.seq (.block 3 (.seq
  (.region (some [5,21,22,23,24,25,26,27,28,29,30,31,32,33,34,35,36]) [oA 21 (.fld 0 (.t 1)),oA 22 (.ld none (.t 21)),oA 23 (.mv (.t 3)),oA 24 (.idx 1 (.t 22) (.t 23)),oA 25 (.ld none (.t 24)),oA 26 (.mv (.t 4)),oA 27 (.idx 1 (.t 25) (.t 26)),oA 28 (.ld none (.t 27)),oA 29 (.fld 1 (.t 1)),oA 30 (.ld none (.t 29)),oA 31 (.mv (.t 3)),oA 32 (.idx 1 (.t 30) (.t 31)),oA 33 (.ld none (.t 32)),oA 34 (.mv (.t 4)),oA 35 (.idx 1 (.t 33) (.t 34)),oA 36 (.ld none (.t 35)),oA 5 (.mv (.t 28)),oA 6 (.mv (.t 36))] [1,3,4,5,6]) (.seq
  (.re [oA 37 (.fld 0 (.t 1)),oA 38 (.ld none (.t 37)),oA 39 (.mv (.t 5)),oA 40 (.idx 1 (.t 38) (.t 39)),oA 41 (.ld none (.t 40)),oA 42 (.mv (.t 6)),oA 43 (.idx 1 (.t 41) (.t 42)),oA 44 (.ld none (.t 43)),oA 45 (.mv (.t 3)),oA 46 (.bin .neq (.t 44) (.t 45)),oA 47 (.mv (.t 46)),oI 48 47 false (.fld 1 (.t 1)),oI 49 47 false (.ld none (.t 48)),oI 50 47 false (.mv (.t 5)),oI 51 47 false (.idx 1 (.t 49) (.t 50)),oI 52 47 false (.ld none (.t 51)),oI 53 47 false (.mv (.t 6)),oI 54 47 false (.idx 1 (.t 52) (.t 53)),oI 55 47 false (.ld none (.t 54)),oI 56 47 false (.mv (.t 4)),oI 57 47 false (.bin .neq (.t 55) (.t 56)),oA 58 (.pick (.t 47) (.c (.bool true)) (.t 57))] [1,3,4,58]) (.cond (.t 58) (.seq
  (.re [oA 2 (.mv (.c (.bool false)))] [2]) .ret) .skip))))
  (.re [oA 19 (.mv (.t 4)),oA 20 (.bin .add (.t 19) (.ci 1)),oA 4 (.mv (.t 20))] [1,3,4])))))))
  (.re [oA 12 (.mv (.t 3)),oA 13 (.bin .add (.t 12) (.ci 1)),oA 3 (.mv (.t 13))] [1,3])))))) (.seq
  (.re [oA 2 (.mv (.c (.bool true)))] [2]) .ret)))

end Go.Mch
