/- Compact code of the functions that statements 13 to 36 reach further. -/
import Derived.Test.YtkcgdmjdkbgmkaaGreatM1
namespace Go.Mch

def c_spec_l08Classes : F where
 np := 1
 rs := [.t 2]
 body :=
  (.seq
  (.re [oA 1 (.box (.t 0)), oA 2 (.asg (.c (.slice none 0 0)))] [1]) (.seq
  (.re [oA 8 (.fld 1 (.t 1)), oA 9 (.ld none (.t 8)), oA 10 (.call (.f 265) [aR 9]), oA 11 (.bsl []), oA 3 (.asg (.t 10)), oA 4 (.asg (.t 11))] [1, 3, 4]) (.seq (.seq
  (.re [oA 5 (.mv (.ci 0))] [1, 3, 4, 5]) (.block 0 (.loop (.seq (.seq
  (.re [oA 12 (.mv (.t 5)), oA 13 (.fld 0 (.t 1)), oA 14 (.ld none (.t 13)), oA 15 (.len (.t 14)), oA 16 (.bin .lss (.t 12) (.t 15))] [1, 3, 4, 5, 16]) (.cond (.t 16) .skip (.exit 0))) (.seq (.block 1 (.seq
  (.re [oA 19 (.mv (.t 5)), oA 6 (.mv (.t 19))] [1, 3, 4, 5, 6]) (.seq (.seq
  (.re [oA 20 (.mv (.t 5)), oA 21 (.bin .sub (.t 20) (.ci 1)), oA 7 (.mv (.t 21))] [1, 3, 4, 5, 6, 7]) (.block 2 (.loop (.seq (.seq
  (.re [oA 22 (.mv (.t 7)), oA 23 (.bin .geq (.t 22) (.ci 0))] [1, 3, 4, 5, 6, 7, 23]) (.cond (.t 23) .skip (.exit 2))) (.seq (.block 3 (.seq
  (.region (some [26, 27, 28, 29, 30, 31, 32, 33, 34, 35, 38, 39, 40, 41, 42, 43, 44, 45]) [oA 26 (.fld 0 (.t 1)), oA 27 (.ld none (.t 26)), oA 28 (.mv (.t 5)), oA 29 (.idx 1 (.t 27) (.t 28)), oA 30 (.ld none (.t 29)), oA 31 (.fld 0 (.t 1)), oA 32 (.ld none (.t 31)), oA 33 (.mv (.t 7)), oA 34 (.idx 1 (.t 32) (.t 33)), oA 35 (.ld none (.t 34)), oA 36 (.call (.f 67) [aR 30, aR 35]), oA 37 (.mv (.t 36)), oI 38 37 true (.mv (.t 3)), oI 39 37 true (.mv (.t 5)), oI 40 37 true (.idx 1 (.t 38) (.t 39)), oI 41 37 true (.ld none (.t 40)), oI 42 37 true (.mv (.t 3)), oI 43 37 true (.mv (.t 7)), oI 44 37 true (.idx 1 (.t 42) (.t 43)), oI 45 37 true (.ld none (.t 44)), oI 46 37 true (.call (.f 67) [aR 41, aR 45]), oA 47 (.pick (.t 37) (.t 46) (.c (.bool false)))] [1, 3, 4, 5, 6, 7, 47]) (.cond (.t 47)
  (.re [oA 48 (.mv (.t 7)), oA 6 (.mv (.t 48))] [1, 3, 4, 5, 6, 7]) .skip)))
  (.re [oA 24 (.mv (.t 7)), oA 25 (.bin .sub (.t 24) (.ci 1)), oA 7 (.mv (.t 25))] [1, 3, 4, 5, 6, 7]))))))
  (.re [oA 49 (.mv (.t 4)), oA 50 (.mv (.t 6)), oA 51 (.bsl [(.t 50)]), oA 52 (.app true 1 (.t 49) (.t 51)), oA 4 (.asg (.t 52))] [1, 3, 4, 5]))))
  (.re [oA 17 (.mv (.t 5)), oA 18 (.bin .add (.t 17) (.ci 1)), oA 5 (.mv (.t 18))] [1, 3, 4, 5])))))) (.seq
  (.re [oA 53 (.mv (.t 4)), oA 54 (.call (.f 385) [aR 53]), oA 2 (.asg (.t 54))] [2]) .ret))))

def c_spec_l07Renumber : F where
 np := 1
 rs := [.t 2]
 body :=
  (.seq
  (.re [oA 2 (.asg (.c (.slice none 0 0)))] [0]) (.seq
  (.re [oA 6 (.bsl []), oA 7 (.bsl []), oA 3 (.asg (.t 6)), oA 4 (.asg (.t 7))] [0, 3, 4]) (.seq (.seq
  (.re [oA 5 (.mv (.ci 0))] [0, 3, 4, 5]) (.block 0 (.loop (.seq (.seq
  (.re [oA 8 (.mv (.t 5)), oA 9 (.mv (.t 0)), oA 10 (.len (.t 9)), oA 11 (.bin .lss (.t 8) (.t 10))] [0, 3, 4, 5, 11]) (.cond (.t 11) .skip (.exit 0))) (.seq (.block 1 (.seq (.seq
  (.re [oA 14 (.mv (.t 3)), oA 15 (.mv (.t 0)), oA 16 (.mv (.t 5)), oA 17 (.idx 1 (.t 15) (.t 16)), oA 18 (.ld none (.t 17)), oA 19 (.call (.f 62) [aR 14, aR 18]), oA 20 (.un .not (.t 19))] [0, 3, 4, 5, 20]) (.cond (.t 20)
  (.re [oA 21 (.mv (.t 3)), oA 22 (.mv (.t 0)), oA 23 (.mv (.t 5)), oA 24 (.idx 1 (.t 22) (.t 23)), oA 25 (.ld none (.t 24)), oA 26 (.bsl [(.t 25)]), oA 27 (.app true 1 (.t 21) (.t 26)), oA 3 (.asg (.t 27))] [0, 3, 4, 5]) .skip))
  (.re [oA 28 (.mv (.t 4)), oA 29 (.mv (.t 3)), oA 30 (.mv (.t 0)), oA 31 (.mv (.t 5)), oA 32 (.idx 1 (.t 30) (.t 31)), oA 33 (.ld none (.t 32)), oA 34 (.call (.f 69) [aR 29, aR 33]), oA 35 (.bsl [(.t 34)]), oA 36 (.app true 1 (.t 28) (.t 35)), oA 4 (.asg (.t 36))] [0, 3, 4, 5])))
  (.re [oA 12 (.mv (.t 5)), oA 13 (.bin .add (.t 12) (.ci 1)), oA 5 (.mv (.t 13))] [0, 3, 4, 5])))))) (.seq
  (.re [oA 37 (.mv (.t 4)), oA 2 (.asg (.t 37))] [2]) .ret))))

def c_spec_l01Greatest : F where
 np := 1
 rs := [.t 2]
 body :=
  (.seq
  (.re [oA 2 (.mv (.ci 0))] [0]) (.seq
  (.re [oA 3 (.mv (.ci 0))] [0, 3]) (.seq (.seq
  (.re [oA 4 (.mv (.ci 0))] [0, 3, 4]) (.block 0 (.loop (.seq (.seq
  (.re [oA 5 (.mv (.t 4)), oA 6 (.mv (.t 0)), oA 7 (.len (.t 6)), oA 8 (.bin .lss (.t 5) (.t 7))] [0, 3, 4, 8]) (.cond (.t 8) .skip (.exit 0))) (.seq (.block 1 (.seq
  (.re [oA 11 (.mv (.t 0)), oA 12 (.mv (.t 4)), oA 13 (.idx 1 (.t 11) (.t 12)), oA 14 (.ld none (.t 13)), oA 15 (.mv (.t 3)), oA 16 (.bin .geq (.t 14) (.t 15))] [0, 3, 4, 16]) (.cond (.t 16)
  (.re [oA 17 (.mv (.t 0)), oA 18 (.mv (.t 4)), oA 19 (.idx 1 (.t 17) (.t 18)), oA 20 (.ld none (.t 19)), oA 21 (.bin .add (.t 20) (.ci 1)), oA 3 (.mv (.t 21))] [0, 3, 4]) .skip)))
  (.re [oA 9 (.mv (.t 4)), oA 10 (.bin .add (.t 9) (.ci 1)), oA 4 (.mv (.t 10))] [0, 3, 4])))))) (.seq
  (.re [oA 22 (.mv (.t 3)), oA 2 (.mv (.t 22))] [2]) .ret))))

def c_impl_IsTwist : F where
 np := 1
 rs := [.t 2, .t 3]
 body :=
  (.seq
  (.re [oA 1 (.box (.t 0)), oA 2 (.mv (.c (.bool false))), oA 3 (.mv (.ci 0))] [1]) (.seq (.seq
  (.re [oA 4 (.ld (some 2) (.t 1)), oA 5 (.call (.f 266) [aR 4]), oA 6 (.un .not (.t 5))] [1, 6]) (.cond (.t 6) (.seq
  (.re [oA 2 (.mv (.c (.bool false))), oA 3 (.mv (.ci 1))] [2, 3]) .ret) .skip)) (.seq
  (.re [oA 7 (.ld (some 2) (.t 1)), oA 8 (.call (.f 291) [aR 7]), oA 9 (.call (.f 290) [aR 8]), oA 10 (.bin .eql (.t 9) (.ci 0)), oA 2 (.mv (.t 10)), oA 3 (.mv (.ci 0))] [2, 3]) .ret)))

def c_impl_alikeClasses : F where
 np := 1
 rs := [.t 2]
 body :=
  (.seq
  (.re [oA 1 (.box (.t 0)), oA 2 (.asg (.c (.slice none 0 0)))] [1]) (.seq
  (.re [oA 7 (.fld 1 (.t 1)), oA 8 (.ld none (.t 7)), oA 9 (.call (.f 267) [aR 8]), oA 3 (.asg (.t 9))] [1, 3]) (.seq
  (.re [oA 10 (.fld 0 (.t 1)), oA 11 (.ld none (.t 10)), oA 12 (.len (.t 11)), oA 13 (.call (.f 335) [aR 12]), oA 4 (.asg (.t 13))] [1, 3, 4]) (.seq (.seq
  (.re [oA 14 (.mv (.t 4)), oA 15 (.len (.t 14)), oA 16 (.mv (.ci 0))] [1, 3, 4, 15, 16]) (.block 0 (.loop (.seq
  (.re [oA 17 (.bin .lss (.t 16) (.t 15))] [1, 3, 4, 15, 16, 17]) (.seq (.cond (.t 17) .skip (.exit 0)) (.seq (.block 1 (.seq
  (.re [oA 18 (.mv (.t 16)), oA 5 (.mv (.t 18))] [1, 3, 4, 5, 15, 16]) (.seq
  (.re [oA 19 (.mv (.t 5)), oA 20 (.mv (.ci 0))] [1, 3, 4, 5, 15, 16, 19, 20]) (.block 2 (.loop (.seq
  (.re [oA 21 (.bin .lss (.t 20) (.t 19))] [1, 3, 4, 5, 15, 16, 19, 20, 21]) (.seq (.cond (.t 21) .skip (.exit 2)) (.seq (.block 3 (.seq
  (.re [oA 22 (.mv (.t 20)), oA 6 (.mv (.t 22))] [1, 3, 4, 5, 6, 15, 16, 19, 20]) (.seq
  (.region (some [23, 24, 25, 26, 27, 28, 29, 30, 31, 32, 35, 36, 37, 38, 39, 40, 41, 42]) [oA 23 (.fld 0 (.t 1)), oA 24 (.ld none (.t 23)), oA 25 (.mv (.t 5)), oA 26 (.idx 1 (.t 24) (.t 25)), oA 27 (.ld none (.t 26)), oA 28 (.fld 0 (.t 1)), oA 29 (.ld none (.t 28)), oA 30 (.mv (.t 6)), oA 31 (.idx 1 (.t 29) (.t 30)), oA 32 (.ld none (.t 31)), oA 33 (.call (.f 276) [aR 27, aR 32]), oA 34 (.mv (.t 33)), oI 35 34 true (.mv (.t 3)), oI 36 34 true (.mv (.t 5)), oI 37 34 true (.idx 1 (.t 35) (.t 36)), oI 38 34 true (.ld none (.t 37)), oI 39 34 true (.mv (.t 3)), oI 40 34 true (.mv (.t 6)), oI 41 34 true (.idx 1 (.t 39) (.t 40)), oI 42 34 true (.ld none (.t 41)), oI 43 34 true (.call (.f 276) [aR 38, aR 42]), oA 44 (.pick (.t 34) (.t 43) (.c (.bool false)))] [1, 3, 4, 5, 6, 15, 16, 19, 20, 44]) (.cond (.t 44) (.seq
  (.re [oA 45 (.mv (.t 4)), oA 46 (.mv (.t 5)), oA 47 (.mv (.t 4)), oA 48 (.mv (.t 6)), oA 49 (.idx 1 (.t 47) (.t 48)), oA 50 (.ld none (.t 49)), oA 51 (.idx 1 (.t 45) (.t 46)), oN (.st none (.t 51) (.t 50))] [1, 3, 4, 15, 16]) (.exit 2)) .skip))))
  (.re [oA 52 (.bin .add (.t 20) (.ci 1)), oA 20 (.mv (.t 52))] [1, 3, 4, 5, 15, 16, 19, 20])))))))))
  (.re [oA 53 (.bin .add (.t 16) (.ci 1)), oA 16 (.mv (.t 53))] [1, 3, 4, 15, 16]))))))) (.seq
  (.re [oA 54 (.mv (.t 4)), oA 55 (.call (.f 386) [aR 54]), oA 2 (.asg (.t 55))] [2]) .ret)))))

def c_impl_identity : F where
 np := 1
 rs := [.t 2]
 body :=
  (.seq
  (.re [oA 2 (.asg (.c (.slice none 0 0)))] [0]) (.seq
  (.re [oA 5 (.mv (.t 0)), oA 6 (.mks (.int .i64 0) (.t 5)), oA 3 (.asg (.t 6))] [3]) (.seq (.seq
  (.re [oA 7 (.mv (.t 3)), oA 8 (.len (.t 7)), oA 9 (.mv (.ci 0))] [3, 8, 9]) (.block 0 (.loop (.seq
  (.re [oA 10 (.bin .lss (.t 9) (.t 8))] [3, 8, 9, 10]) (.seq (.cond (.t 10) .skip (.exit 0)) (.seq (.block 1 (.seq
  (.re [oA 11 (.mv (.t 9)), oA 4 (.mv (.t 11))] [3, 4, 8, 9])
  (.re [oA 12 (.mv (.t 3)), oA 13 (.mv (.t 4)), oA 14 (.mv (.t 4)), oA 15 (.idx 1 (.t 12) (.t 13)), oN (.st none (.t 15) (.t 14))] [3, 8, 9])))
  (.re [oA 16 (.bin .add (.t 9) (.ci 1)), oA 9 (.mv (.t 16))] [3, 8, 9]))))))) (.seq
  (.re [oA 17 (.mv (.t 3)), oA 2 (.asg (.t 17))] [2]) .ret))))

def c_impl_numbered : F where
 np := 1
 rs := [.t 2]
 body :=
  (.seq
  (.re [oA 2 (.asg (.c (.slice none 0 0)))] [0]) (.seq
  (.re [oA 3 (.asg (.c (.slice none 0 0)))] [0, 3]) (.seq
  (.re [oA 8 (.mv (.t 0)), oA 9 (.len (.t 8)), oA 10 (.mks (.int .i64 0) (.t 9)), oA 4 (.asg (.t 10))] [0, 3, 4]) (.seq (.seq
  (.re [oA 11 (.mv (.t 0)), oA 12 (.len (.t 11)), oA 13 (.mv (.ci 0))] [3, 4, 11, 12, 13]) (.block 0 (.loop (.seq
  (.re [oA 14 (.bin .lss (.t 13) (.t 12))] [3, 4, 11, 12, 13, 14]) (.seq (.cond (.t 14) .skip (.exit 0)) (.seq (.block 1 (.seq
  (.re [oA 15 (.mv (.t 13)), oA 16 (.idx 1 (.t 11) (.t 13)), oA 17 (.ld none (.t 16)), oA 5 (.mv (.t 15)), oA 6 (.mv (.t 17))] [3, 4, 5, 6, 11, 12, 13]) (.seq
  (.re [oA 18 (.mv (.t 3)), oA 19 (.mv (.t 6)), oA 20 (.call (.f 384) [aR 18, aR 19]), oA 7 (.mv (.t 20))] [3, 4, 5, 6, 7, 11, 12, 13]) (.seq (.seq
  (.re [oA 21 (.mv (.t 7)), oA 22 (.bin .lss (.t 21) (.ci 0))] [3, 4, 5, 6, 7, 11, 12, 13, 22]) (.cond (.t 22) (.seq
  (.re [oA 23 (.mv (.t 3)), oA 24 (.len (.t 23)), oA 7 (.mv (.t 24))] [3, 4, 5, 6, 7, 11, 12, 13])
  (.re [oA 25 (.mv (.t 3)), oA 26 (.mv (.t 6)), oA 27 (.bsl [(.t 26)]), oA 28 (.app true 1 (.t 25) (.t 27)), oA 3 (.asg (.t 28))] [3, 4, 5, 7, 11, 12, 13])) .skip))
  (.re [oA 29 (.mv (.t 4)), oA 30 (.mv (.t 5)), oA 31 (.mv (.t 7)), oA 32 (.idx 1 (.t 29) (.t 30)), oN (.st none (.t 32) (.t 31))] [3, 4, 11, 12, 13])))))
  (.re [oA 33 (.bin .add (.t 13) (.ci 1)), oA 13 (.mv (.t 33))] [3, 4, 11, 12, 13]))))))) (.seq
  (.re [oA 34 (.mv (.t 4)), oA 2 (.asg (.t 34))] [2]) .ret)))))

def c_slices_Max___int64_int64_ : F where
 np := 1
 rs := [.t 2]
 body :=
  (.seq
  (.re [oA 2 (.mv (.ci 0))] [0]) (.seq (.seq
  (.re [oA 5 (.mv (.t 0)), oA 6 (.len (.t 5)), oA 7 (.bin .lss (.t 6) (.ci 1))] [0, 7]) (.cond (.t 7) .stuck .skip)) (.seq
  (.re [oA 9 (.mv (.t 0)), oA 10 (.idx 1 (.t 9) (.ci 0)), oA 11 (.ld none (.t 10)), oA 3 (.mv (.t 11))] [0, 3]) (.seq (.seq
  (.re [oA 4 (.mv (.ci 1))] [0, 3, 4]) (.block 0 (.loop (.seq (.seq
  (.re [oA 12 (.mv (.t 4)), oA 13 (.mv (.t 0)), oA 14 (.len (.t 13)), oA 15 (.bin .lss (.t 12) (.t 14))] [0, 3, 4, 15]) (.cond (.t 15) .skip (.exit 0))) (.seq (.block 1
  (.re [oA 18 (.mv (.t 3)), oA 19 (.mv (.t 0)), oA 20 (.mv (.t 4)), oA 21 (.idx 1 (.t 19) (.t 20)), oA 22 (.ld none (.t 21)), oA 23 (.mm true (.t 18) (.t 22)), oA 3 (.mv (.t 23))] [0, 3, 4]))
  (.re [oA 16 (.mv (.t 4)), oA 17 (.bin .add (.t 16) (.ci 1)), oA 4 (.mv (.t 17))] [0, 3, 4])))))) (.seq
  (.re [oA 24 (.mv (.t 3)), oA 2 (.mv (.t 24))] [2]) .ret)))))

def c_spec_l01Unit : F where
 np := 1
 rs := [.t 2]
 body :=
  (.seq
  (.re [oA 2 (.asg (.c (.slice none 0 0)))] [0]) (.seq
  (.re [oA 5 (.bsl []), oA 3 (.asg (.t 5))] [0, 3]) (.seq (.seq
  (.re [oA 4 (.mv (.ci 0))] [0, 3, 4]) (.block 0 (.loop (.seq (.seq
  (.re [oA 6 (.mv (.t 4)), oA 7 (.mv (.t 0)), oA 8 (.bin .lss (.t 6) (.t 7))] [0, 3, 4, 8]) (.cond (.t 8) .skip (.exit 0))) (.seq (.block 1
  (.re [oA 11 (.mv (.t 3)), oA 12 (.mv (.t 4)), oA 13 (.bsl [(.t 12)]), oA 14 (.app true 1 (.t 11) (.t 13)), oA 3 (.asg (.t 14))] [0, 3, 4]))
  (.re [oA 9 (.mv (.t 4)), oA 10 (.bin .add (.t 9) (.ci 1)), oA 4 (.mv (.t 10))] [0, 3, 4])))))) (.seq
  (.re [oA 15 (.mv (.t 3)), oA 2 (.asg (.t 15))] [2]) .ret))))

def c_spec_l01Back : F where
 np := 1
 rs := [.t 2]
 body :=
  (.seq
  (.re [oA 2 (.asg (.c (.slice none 0 0)))] [0]) (.seq
  (.re [oA 5 (.mv (.t 0)), oA 6 (.len (.t 5)), oA 7 (.mks (.int .i64 0) (.t 6)), oA 3 (.asg (.t 7))] [0, 3]) (.seq (.seq
  (.re [oA 4 (.mv (.ci 0))] [0, 3, 4]) (.block 0 (.loop (.seq (.seq
  (.re [oA 8 (.mv (.t 4)), oA 9 (.mv (.t 0)), oA 10 (.len (.t 9)), oA 11 (.bin .lss (.t 8) (.t 10))] [0, 3, 4, 11]) (.cond (.t 11) .skip (.exit 0))) (.seq (.block 1
  (.re [oA 14 (.mv (.t 3)), oA 15 (.mv (.t 0)), oA 16 (.mv (.t 4)), oA 17 (.idx 1 (.t 15) (.t 16)), oA 18 (.ld none (.t 17)), oA 19 (.mv (.t 4)), oA 20 (.idx 1 (.t 14) (.t 18)), oN (.st none (.t 20) (.t 19))] [0, 3, 4]))
  (.re [oA 12 (.mv (.t 4)), oA 13 (.bin .add (.t 12) (.ci 1)), oA 4 (.mv (.t 13))] [0, 3, 4])))))) (.seq
  (.re [oA 21 (.mv (.t 3)), oA 2 (.asg (.t 21))] [2]) .ret))))

def c_impl_solutionBy : F where
 np := 2
 rs := [.cell 4 (some 2)]
 body :=
  (.seq
  (.re [oA 3 (.box (.t 1)), oA 4 (.alloc [(.slice none 0 0), (.slice none 0 0)])] [0, 3, 4]) (.seq
  (.re [oA 5 (.mv (.t 0)), oA 6 (.fnc 391 [(.t 3)]), oA 7 (.call (.f 376) [aR 5, aR 6]), oA 8 (.mv (.t 0)), oA 9 (.fnc 392 [(.t 3)]), oA 10 (.call (.f 376) [aR 8, aR 9]), oA 11 (.build [(.slice none 0 0), (.slice none 0 0)] [(0, 1, (.t 7)), (1, 1, (.t 10))]), oN (.st (some 2) (.t 4) (.t 11))] [4]) .ret))

def c_impl_solutionBy_1 : F where
 np := 3
 rs := [.t 5]
 body :=
  (.seq
  (.re [oA 5 (.mv (.ci 0))] [0, 1, 2]) (.seq
  (.re [oA 9 (.ld none (.t 2)), oA 10 (.mv (.t 0)), oA 11 (.mv (.t 1)), oA 12 (.call (.t 9) [aR 10, aR 11]), oA 8 (.mv (.t 12)), oA 13 (.ext (.t 8) 0), oA 14 (.ext (.t 8) 1), oA 6 (.mv (.t 13)), oA 7 (.mv (.t 14))] [6]) (.seq
  (.re [oA 15 (.mv (.t 6)), oA 5 (.mv (.t 15))] [5]) .ret)))

def c_impl_solutionBy_2 : F where
 np := 3
 rs := [.t 5]
 body :=
  (.seq
  (.re [oA 5 (.mv (.ci 0))] [0, 1, 2]) (.seq
  (.re [oA 9 (.ld none (.t 2)), oA 10 (.mv (.t 0)), oA 11 (.mv (.t 1)), oA 12 (.call (.t 9) [aR 10, aR 11]), oA 8 (.mv (.t 12)), oA 13 (.ext (.t 8) 0), oA 14 (.ext (.t 8) 1), oA 6 (.mv (.t 13)), oA 7 (.mv (.t 14))] [7]) (.seq
  (.re [oA 15 (.mv (.t 7)), oA 5 (.mv (.t 15))] [5]) .ret)))

def c_impl_IsIrretractable : F where
 np := 1
 rs := [.t 2, .t 3]
 body :=
  (.seq
  (.re [oA 1 (.box (.t 0)), oA 2 (.mv (.c (.bool false))), oA 3 (.mv (.ci 0))] [1]) (.seq (.seq
  (.re [oA 4 (.ld (some 2) (.t 1)), oA 5 (.call (.f 266) [aR 4]), oA 6 (.un .not (.t 5))] [1, 6]) (.cond (.t 6) (.seq
  (.re [oA 2 (.mv (.c (.bool false))), oA 3 (.mv (.ci 1))] [2, 3]) .ret) .skip)) (.seq
  (.re [oA 7 (.fld 0 (.t 1)), oA 8 (.ld none (.t 7)), oA 9 (.len (.t 8)), oA 10 (.bin .gtr (.t 9) (.ci 1)), oA 11 (.mv (.t 10)), oI 12 11 true (.ld (some 2) (.t 1)), oI 13 11 true (.call (.f 310) [aR 12]), oI 14 11 true (.len (.t 13)), oI 15 11 true (.bin .eql (.t 14) (.ci 1)), oA 16 (.pick (.t 11) (.t 15) (.c (.bool false))), oA 2 (.mv (.t 16)), oA 3 (.mv (.ci 0))] [2, 3]) .ret)))

def c_impl_seriesOf : F where
 np := 1
 rs := [.t 2]
 body :=
  (.seq
  (.re [oA 1 (.box (.t 0)), oA 2 (.asg (.c (.slice none 0 0)))] [1]) (.seq
  (.re [oA 6 (.ld (some 2) (.t 1)), oA 7 (.bsls 2 false false [(.t 6)]), oA 3 (.asg (.t 7))] [3]) (.block 0 (.loop (.block 1 (.seq
  (.re [oA 8 (.mv (.t 3)), oA 9 (.mv (.t 3)), oA 10 (.len (.t 9)), oA 11 (.bin .sub (.t 10) (.ci 1)), oA 12 (.idx 2 (.t 8) (.t 11)), oA 13 (.ld (some 2) (.t 12)), oA 4 (.alloc [(.slice none 0 0), (.slice none 0 0)]), oN (.st (some 2) (.t 4) (.t 13))] [3, 4]) (.seq
  (.re [oA 14 (.ld (some 2) (.t 4)), oA 15 (.call (.f 321) [aR 14]), oN (.freeze 15), oA 5 (.alloc [(.slice none 0 0), (.slice none 0 0)]), oN (.st (some 2) (.t 5) (.t 15))] [3, 4, 5]) (.seq (.seq
  (.re [oA 16 (.fld 0 (.t 5)), oA 17 (.ld none (.t 16)), oA 18 (.len (.t 17)), oA 19 (.fld 0 (.t 4)), oA 20 (.ld none (.t 19)), oA 21 (.len (.t 20)), oA 22 (.bin .eql (.t 18) (.t 21))] [3, 5, 22]) (.cond (.t 22) (.seq
  (.re [oA 23 (.mv (.t 3)), oA 2 (.asg (.t 23))] [2]) .ret) .skip))
  (.re [oA 24 (.mv (.t 3)), oA 25 (.ld (some 2) (.t 5)), oA 26 (.bsls 2 false false [(.t 25)]), oA 27 (.app true 2 (.t 24) (.t 26)), oA 3 (.asg (.t 27))] [3])))))))))

def c_impl_retractOf : F where
 np := 1
 rs := [.cell 2 (some 2)]
 body :=
  (.seq
  (.re [oA 1 (.box (.t 0)), oA 2 (.alloc [(.slice none 0 0), (.slice none 0 0)])] [1, 2]) (.seq
  (.re [oA 5 (.ld (some 2) (.t 1)), oA 6 (.call (.f 291) [aR 5]), oA 3 (.alloc [(.slice none 0 0)]), oN (.st none (.t 3) (.t 6))] [1, 2, 3]) (.seq
  (.re [oA 7 (.ld none (.t 3)), oA 8 (.call (.f 399) [aR 7]), oA 4 (.alloc [(.slice none 0 0)]), oN (.st none (.t 4) (.t 8))] [1, 2, 3, 4]) (.seq
  (.re [oA 9 (.ld none (.t 4)), oA 10 (.len (.t 9)), oA 11 (.fnc 400 [(.t 4), (.t 3), (.t 1)]), oA 12 (.call (.f 308) [aR 10, aR 11]), oN (.st (some 2) (.t 2) (.t 12))] [2]) .ret))))

def c_impl_firstOf : F where
 np := 1
 rs := [.t 2]
 body :=
  (.seq
  (.re [oA 2 (.asg (.c (.slice none 0 0)))] [0]) (.seq
  (.re [oA 3 (.asg (.c (.slice none 0 0)))] [0, 3]) (.seq (.seq
  (.re [oA 6 (.mv (.t 0)), oA 7 (.len (.t 6)), oA 8 (.mv (.ci 0))] [3, 6, 7, 8]) (.block 0 (.loop (.seq
  (.re [oA 9 (.bin .lss (.t 8) (.t 7))] [3, 6, 7, 8, 9]) (.seq (.cond (.t 9) .skip (.exit 0)) (.seq (.block 1 (.seq
  (.re [oA 10 (.mv (.t 8)), oA 11 (.idx 1 (.t 6) (.t 8)), oA 12 (.ld none (.t 11)), oA 4 (.mv (.t 10)), oA 5 (.mv (.t 12))] [3, 4, 5, 6, 7, 8]) (.seq
  (.re [oA 13 (.mv (.t 5)), oA 14 (.mv (.t 3)), oA 15 (.len (.t 14)), oA 16 (.bin .eql (.t 13) (.t 15))] [3, 4, 6, 7, 8, 16]) (.cond (.t 16)
  (.re [oA 17 (.mv (.t 3)), oA 18 (.mv (.t 4)), oA 19 (.bsl [(.t 18)]), oA 20 (.app true 1 (.t 17) (.t 19)), oA 3 (.asg (.t 20))] [3, 6, 7, 8]) .skip))))
  (.re [oA 21 (.bin .add (.t 8) (.ci 1)), oA 8 (.mv (.t 21))] [3, 6, 7, 8]))))))) (.seq
  (.re [oA 22 (.mv (.t 3)), oA 2 (.asg (.t 22))] [2]) .ret))))

def c_impl_retractOf_1 : F where
 np := 5
 rs := [.t 7, .t 8]
 body :=
  (.seq
  (.re [oA 7 (.mv (.ci 0)), oA 8 (.mv (.ci 0))] [0, 1, 2, 3, 4]) (.seq
  (.region (some [9, 11, 12, 13, 14, 15, 16, 17, 18]) [oA 11 (.ld none (.t 2)), oA 12 (.mv (.t 0)), oA 13 (.idx 1 (.t 11) (.t 12)), oA 14 (.ld none (.t 13)), oA 15 (.ld none (.t 2)), oA 16 (.mv (.t 1)), oA 17 (.idx 1 (.t 15) (.t 16)), oA 18 (.ld none (.t 17)), oA 9 (.mv (.t 14)), oA 10 (.mv (.t 18))] [3, 4, 9, 10]) (.seq
  (.region (some [7, 19, 20, 21, 22, 23, 24, 25, 26, 27, 28, 29, 30, 31, 32, 33, 34, 35, 36, 37, 38, 39, 40]) [oA 19 (.ld none (.t 3)), oA 20 (.fld 0 (.t 4)), oA 21 (.ld none (.t 20)), oA 22 (.mv (.t 9)), oA 23 (.idx 1 (.t 21) (.t 22)), oA 24 (.ld none (.t 23)), oA 25 (.mv (.t 10)), oA 26 (.idx 1 (.t 24) (.t 25)), oA 27 (.ld none (.t 26)), oA 28 (.idx 1 (.t 19) (.t 27)), oA 29 (.ld none (.t 28)), oA 30 (.ld none (.t 3)), oA 31 (.fld 1 (.t 4)), oA 32 (.ld none (.t 31)), oA 33 (.mv (.t 9)), oA 34 (.idx 1 (.t 32) (.t 33)), oA 35 (.ld none (.t 34)), oA 36 (.mv (.t 10)), oA 37 (.idx 1 (.t 35) (.t 36)), oA 38 (.ld none (.t 37)), oA 39 (.idx 1 (.t 30) (.t 38)), oA 40 (.ld none (.t 39)), oA 7 (.mv (.t 29)), oA 8 (.mv (.t 40))] [7, 8]) .ret)))

def c_spec_LevelOf : F where
 np := 1
 rs := [.t 2, .t 3]
 body :=
  (.seq
  (.re [oA 1 (.box (.t 0)), oA 2 (.mv (.ci 0)), oA 3 (.mv (.ci 0))] [1]) (.seq (.seq
  (.re [oA 5 (.ld (some 2) (.t 1)), oA 6 (.call (.f 264) [aR 5]), oA 7 (.un .not (.t 6))] [1, 7]) (.cond (.t 7) (.seq
  (.re [oA 2 (.mv (.ci 0)), oA 3 (.mv (.ci 1))] [2, 3]) .ret) .skip)) (.seq
  (.re [oA 8 (.ld (some 2) (.t 1)), oA 9 (.call (.f 319) [aR 8]), oA 4 (.asg (.t 9))] [4]) (.seq (.seq
  (.re [oA 10 (.mv (.t 4)), oA 11 (.mv (.t 4)), oA 12 (.len (.t 11)), oA 13 (.bin .sub (.t 12) (.ci 1)), oA 14 (.idx 2 (.t 10) (.t 13)), oA 15 (.fld 0 (.t 14)), oA 16 (.ld none (.t 15)), oA 17 (.len (.t 16)), oA 18 (.bin .gtr (.t 17) (.ci 1))] [4, 18]) (.cond (.t 18) (.seq
  (.re [oA 2 (.mv (.ci 0)), oA 3 (.mv (.ci 4))] [2, 3]) .ret) .skip)) (.seq
  (.re [oA 19 (.mv (.t 4)), oA 20 (.len (.t 19)), oA 21 (.bin .sub (.t 20) (.ci 1)), oA 2 (.mv (.t 21)), oA 3 (.mv (.ci 0))] [2, 3]) .ret)))))

def c_spec_l08Series : F where
 np := 1
 rs := [.t 2]
 body :=
  (.seq
  (.re [oA 1 (.box (.t 0)), oA 2 (.asg (.c (.slice none 0 0)))] [1]) (.seq
  (.re [oA 6 (.ld (some 2) (.t 1)), oA 7 (.call (.f 397) [aR 6]), oN (.freeze 7), oA 8 (.bsls 2 false false [(.t 7)]), oA 3 (.asg (.t 8))] [3]) (.block 0 (.loop (.block 1 (.seq
  (.re [oA 9 (.mv (.t 3)), oA 10 (.mv (.t 3)), oA 11 (.len (.t 10)), oA 12 (.bin .sub (.t 11) (.ci 1)), oA 13 (.idx 2 (.t 9) (.t 12)), oA 14 (.ld (some 2) (.t 13)), oA 4 (.alloc [(.slice none 0 0), (.slice none 0 0)]), oN (.st (some 2) (.t 4) (.t 14))] [3, 4]) (.seq
  (.re [oA 15 (.ld (some 2) (.t 4)), oA 16 (.call (.f 320) [aR 15]), oN (.freeze 16), oA 5 (.alloc [(.slice none 0 0), (.slice none 0 0)]), oN (.st (some 2) (.t 5) (.t 16))] [3, 4, 5]) (.seq (.seq
  (.re [oA 17 (.fld 0 (.t 5)), oA 18 (.ld none (.t 17)), oA 19 (.len (.t 18)), oA 20 (.fld 0 (.t 4)), oA 21 (.ld none (.t 20)), oA 22 (.len (.t 21)), oA 23 (.bin .eql (.t 19) (.t 22))] [3, 5, 23]) (.cond (.t 23) (.seq
  (.re [oA 24 (.mv (.t 3)), oA 2 (.asg (.t 24))] [2]) .ret) .skip))
  (.re [oA 25 (.mv (.t 3)), oA 26 (.ld (some 2) (.t 5)), oA 27 (.bsls 2 false false [(.t 26)]), oA 28 (.app true 2 (.t 25) (.t 27)), oA 3 (.asg (.t 28))] [3])))))))))

def c_spec_l02Own : F where
 np := 1
 rs := [.cell 2 (some 2)]
 body :=
  (.seq
  (.re [oA 1 (.box (.t 0)), oA 2 (.alloc [(.slice none 0 0), (.slice none 0 0)])] [1, 2]) (.seq
  (.region (some [3, 4, 5, 6, 7]) [oA 3 (.fld 0 (.t 1)), oA 4 (.ld none (.t 3)), oA 5 (.call (.f 280) [aR 4]), oA 6 (.fld 1 (.t 1)), oA 7 (.ld none (.t 6)), oA 8 (.call (.f 280) [aR 7]), oA 9 (.build [(.slice none 0 0), (.slice none 0 0)] [(0, 1, (.t 5)), (1, 1, (.t 8))]), oN (.st (some 2) (.t 2) (.t 9))] [2]) .ret))

def c_spec_l08Retract : F where
 np := 1
 rs := [.cell 2 (some 2)]
 body :=
  (.seq
  (.re [oA 1 (.box (.t 0)), oA 2 (.alloc [(.slice none 0 0), (.slice none 0 0)])] [1, 2]) (.seq
  (.re [oA 9 (.ld (some 2) (.t 1)), oA 10 (.call (.f 289) [aR 9]), oA 3 (.asg (.t 10))] [1, 2, 3]) (.seq
  (.re [oA 11 (.mv (.t 3)), oA 12 (.call (.f 288) [aR 11]), oA 13 (.call (.f 398) [aR 12]), oA 4 (.alloc [(.slice none 0 0), (.slice none 0 0)]), oN (.st (some 2) (.t 4) (.t 13))] [1, 2, 3, 4]) (.seq (.seq
  (.re [oA 5 (.mv (.ci 0))] [1, 2, 3, 4, 5]) (.block 0 (.loop (.seq (.seq
  (.re [oA 14 (.mv (.t 5)), oA 15 (.mv (.t 3)), oA 16 (.len (.t 15)), oA 17 (.bin .lss (.t 14) (.t 16))] [1, 2, 3, 4, 5, 17]) (.cond (.t 17) .skip (.exit 0))) (.seq (.block 1 (.seq
  (.region (some [6, 20, 21, 22, 23, 24, 25, 26, 27, 28, 29, 30, 31, 32, 33, 34, 35]) [oA 20 (.fld 0 (.t 4)), oA 21 (.ld none (.t 20)), oA 22 (.mv (.t 3)), oA 23 (.mv (.t 5)), oA 24 (.idx 1 (.t 22) (.t 23)), oA 25 (.ld none (.t 24)), oA 26 (.idx 1 (.t 21) (.t 25)), oA 27 (.ld none (.t 26)), oA 28 (.fld 1 (.t 4)), oA 29 (.ld none (.t 28)), oA 30 (.mv (.t 3)), oA 31 (.mv (.t 5)), oA 32 (.idx 1 (.t 30) (.t 31)), oA 33 (.ld none (.t 32)), oA 34 (.idx 1 (.t 29) (.t 33)), oA 35 (.ld none (.t 34)), oA 6 (.mv (.t 27)), oA 7 (.mv (.t 35))] [1, 2, 3, 4, 5, 6, 7]) (.seq
  (.re [oA 8 (.mv (.ci 0))] [1, 2, 3, 4, 5, 6, 7, 8]) (.block 2 (.loop (.seq (.seq
  (.re [oA 36 (.mv (.t 8)), oA 37 (.mv (.t 3)), oA 38 (.len (.t 37)), oA 39 (.bin .lss (.t 36) (.t 38))] [1, 2, 3, 4, 5, 6, 7, 8, 39]) (.cond (.t 39) .skip (.exit 2))) (.seq (.block 3 (.seq
  (.region (some [42, 43, 44, 45, 46, 47, 48, 49, 50, 51, 52, 53, 54, 55, 56, 57]) [oA 42 (.mv (.t 6)), oA 43 (.mv (.t 3)), oA 44 (.mv (.t 8)), oA 45 (.idx 1 (.t 43) (.t 44)), oA 46 (.ld none (.t 45)), oA 47 (.mv (.t 3)), oA 48 (.fld 0 (.t 1)), oA 49 (.ld none (.t 48)), oA 50 (.mv (.t 5)), oA 51 (.idx 1 (.t 49) (.t 50)), oA 52 (.ld none (.t 51)), oA 53 (.mv (.t 8)), oA 54 (.idx 1 (.t 52) (.t 53)), oA 55 (.ld none (.t 54)), oA 56 (.idx 1 (.t 47) (.t 55)), oA 57 (.ld none (.t 56)), oA 58 (.idx 1 (.t 42) (.t 46)), oN (.st none (.t 58) (.t 57))] [1, 2, 3, 4, 5, 6, 7, 8])
  (.region (some [59, 60, 61, 62, 63, 64, 65, 66, 67, 68, 69, 70, 71, 72, 73, 74]) [oA 59 (.mv (.t 7)), oA 60 (.mv (.t 3)), oA 61 (.mv (.t 8)), oA 62 (.idx 1 (.t 60) (.t 61)), oA 63 (.ld none (.t 62)), oA 64 (.mv (.t 3)), oA 65 (.fld 1 (.t 1)), oA 66 (.ld none (.t 65)), oA 67 (.mv (.t 5)), oA 68 (.idx 1 (.t 66) (.t 67)), oA 69 (.ld none (.t 68)), oA 70 (.mv (.t 8)), oA 71 (.idx 1 (.t 69) (.t 70)), oA 72 (.ld none (.t 71)), oA 73 (.idx 1 (.t 64) (.t 72)), oA 74 (.ld none (.t 73)), oA 75 (.idx 1 (.t 59) (.t 63)), oN (.st none (.t 75) (.t 74))] [1, 2, 3, 4, 5, 6, 7, 8])))
  (.re [oA 40 (.mv (.t 8)), oA 41 (.bin .add (.t 40) (.ci 1)), oA 8 (.mv (.t 41))] [1, 2, 3, 4, 5, 6, 7, 8]))))))))
  (.re [oA 18 (.mv (.t 5)), oA 19 (.bin .add (.t 18) (.ci 1)), oA 5 (.mv (.t 19))] [1, 2, 3, 4, 5])))))) (.seq
  (.re [oA 76 (.ld (some 2) (.t 4)), oN (.st (some 2) (.t 2) (.t 76))] [2]) .ret)))))

def c_spec_l02Empty : F where
 np := 1
 rs := [.cell 2 (some 2)]
 body :=
  (.seq
  (.re [oA 2 (.alloc [(.slice none 0 0), (.slice none 0 0)])] [0, 2]) (.seq
  (.re [oA 5 (.build [(.slice none 0 0), (.slice none 0 0)] []), oA 3 (.alloc [(.slice none 0 0), (.slice none 0 0)]), oN (.st (some 2) (.t 3) (.t 5))] [0, 2, 3]) (.seq (.seq
  (.re [oA 4 (.mv (.ci 0))] [0, 2, 3, 4]) (.block 0 (.loop (.seq (.seq
  (.re [oA 6 (.mv (.t 4)), oA 7 (.mv (.t 0)), oA 8 (.bin .lss (.t 6) (.t 7))] [0, 2, 3, 4, 8]) (.cond (.t 8) .skip (.exit 0))) (.seq (.block 1 (.seq
  (.region (some [11, 12, 13, 14, 15]) [oA 11 (.fld 0 (.t 3)), oA 12 (.ld none (.t 11)), oA 13 (.mv (.t 0)), oA 14 (.mks (.int .i64 0) (.t 13)), oA 15 (.bsl1 14), oA 16 (.app true 1 (.t 12) (.t 15)), oA 17 (.fld 0 (.t 3)), oN (.st none (.t 17) (.t 16))] [0, 2, 3, 4])
  (.region (some [18, 19, 20, 21, 22]) [oA 18 (.fld 1 (.t 3)), oA 19 (.ld none (.t 18)), oA 20 (.mv (.t 0)), oA 21 (.mks (.int .i64 0) (.t 20)), oA 22 (.bsl1 21), oA 23 (.app true 1 (.t 19) (.t 22)), oA 24 (.fld 1 (.t 3)), oN (.st none (.t 24) (.t 23))] [0, 2, 3, 4])))
  (.re [oA 9 (.mv (.t 4)), oA 10 (.bin .add (.t 9) (.ci 1)), oA 4 (.mv (.t 10))] [0, 2, 3, 4])))))) (.seq
  (.re [oA 25 (.ld (some 2) (.t 3)), oN (.st (some 2) (.t 2) (.t 25))] [2]) .ret))))

def c_impl_LevelOf : F where
 np := 1
 rs := [.t 2, .t 3]
 body :=
  (.seq
  (.re [oA 1 (.box (.t 0)), oA 2 (.mv (.ci 0)), oA 3 (.mv (.ci 0))] [1]) (.seq (.seq
  (.re [oA 6 (.ld (some 2) (.t 1)), oA 7 (.call (.f 266) [aR 6]), oA 8 (.un .not (.t 7))] [1, 8]) (.cond (.t 8) (.seq
  (.re [oA 2 (.mv (.ci 0)), oA 3 (.mv (.ci 1))] [2, 3]) .ret) .skip)) (.seq
  (.re [oA 9 (.ld (some 2) (.t 1)), oA 10 (.call (.f 310) [aR 9]), oA 4 (.asg (.t 10))] [4]) (.seq
  (.re [oA 11 (.mv (.t 4)), oA 12 (.len (.t 11)), oA 13 (.bin .sub (.t 12) (.ci 1)), oA 5 (.mv (.t 13))] [4, 5]) (.seq (.seq
  (.re [oA 14 (.mv (.t 4)), oA 15 (.mv (.t 5)), oA 16 (.idx 2 (.t 14) (.t 15)), oA 17 (.fld 0 (.t 16)), oA 18 (.ld none (.t 17)), oA 19 (.len (.t 18)), oA 20 (.bin .gtr (.t 19) (.ci 1))] [5, 20]) (.cond (.t 20) (.seq
  (.re [oA 2 (.mv (.ci 0)), oA 3 (.mv (.ci 4))] [2, 3]) .ret) .skip)) (.seq
  (.re [oA 21 (.mv (.t 5)), oA 2 (.mv (.t 21)), oA 3 (.mv (.ci 0))] [2, 3]) .ret))))))

def c_impl_RetractOf : F where
 np := 1
 rs := [.cell 2 (some 2), .t 3]
 body :=
  (.seq
  (.re [oA 1 (.box (.t 0)), oA 2 (.alloc [(.slice none 0 0), (.slice none 0 0)]), oA 3 (.mv (.ci 0))] [1, 2]) (.seq (.seq
  (.re [oA 4 (.ld (some 2) (.t 1)), oA 5 (.call (.f 266) [aR 4]), oA 6 (.un .not (.t 5))] [1, 2, 6]) (.cond (.t 6) (.seq
  (.re [oA 7 (.build [(.slice none 0 0), (.slice none 0 0)] []), oN (.st (some 2) (.t 2) (.t 7)), oA 3 (.mv (.ci 1))] [2, 3]) .ret) .skip)) (.seq
  (.re [oA 8 (.ld (some 2) (.t 1)), oA 9 (.call (.f 321) [aR 8]), oN (.st (some 2) (.t 2) (.t 9)), oA 3 (.mv (.ci 0))] [2, 3]) .ret)))

def c_impl_RetractSizes : F where
 np := 1
 rs := [.t 2, .t 3]
 body :=
  (.seq
  (.re [oA 1 (.box (.t 0)), oA 2 (.asg (.c (.slice none 0 0))), oA 3 (.mv (.ci 0))] [1]) (.seq (.seq
  (.re [oA 7 (.ld (some 2) (.t 1)), oA 8 (.call (.f 266) [aR 7]), oA 9 (.un .not (.t 8))] [1, 9]) (.cond (.t 9) (.seq
  (.re [oA 2 (.asg (.c (.slice none 0 0))), oA 3 (.mv (.ci 1))] [2, 3]) .ret) .skip)) (.seq
  (.re [oA 4 (.asg (.c (.slice none 0 0)))] [1, 4]) (.seq (.seq
  (.re [oA 10 (.ld (some 2) (.t 1)), oA 11 (.call (.f 310) [aR 10]), oA 12 (.len (.t 11)), oA 13 (.mv (.ci 0))] [4, 11, 12, 13]) (.block 0 (.loop (.seq
  (.re [oA 14 (.bin .lss (.t 13) (.t 12))] [4, 11, 12, 13, 14]) (.seq (.cond (.t 14) .skip (.exit 0)) (.seq (.block 1 (.seq
  (.re [oA 15 (.idx 2 (.t 11) (.t 13)), oA 16 (.ld (some 2) (.t 15)), oA 6 (.alloc [(.slice none 0 0), (.slice none 0 0)]), oN (.st (some 2) (.t 6) (.t 16))] [4, 6, 11, 12, 13])
  (.re [oA 17 (.mv (.t 4)), oA 18 (.fld 0 (.t 6)), oA 19 (.ld none (.t 18)), oA 20 (.len (.t 19)), oA 21 (.bsl [(.t 20)]), oA 22 (.app true 1 (.t 17) (.t 21)), oA 4 (.asg (.t 22))] [4, 11, 12, 13])))
  (.re [oA 23 (.bin .add (.t 13) (.ci 1)), oA 13 (.mv (.t 23))] [4, 11, 12, 13]))))))) (.seq
  (.re [oA 24 (.mv (.t 4)), oA 2 (.asg (.t 24)), oA 3 (.mv (.ci 0))] [2, 3]) .ret)))))

def c_impl_LastRetract : F where
 np := 1
 rs := [.cell 2 (some 2), .t 3]
 body :=
  (.seq
  (.re [oA 1 (.box (.t 0)), oA 2 (.alloc [(.slice none 0 0), (.slice none 0 0)]), oA 3 (.mv (.ci 0))] [1, 2]) (.seq (.seq
  (.re [oA 6 (.ld (some 2) (.t 1)), oA 7 (.call (.f 266) [aR 6]), oA 8 (.un .not (.t 7))] [1, 2, 8]) (.cond (.t 8) (.seq
  (.re [oA 9 (.build [(.slice none 0 0), (.slice none 0 0)] []), oN (.st (some 2) (.t 2) (.t 9)), oA 3 (.mv (.ci 1))] [2, 3]) .ret) .skip)) (.seq
  (.re [oA 10 (.ld (some 2) (.t 1)), oA 11 (.call (.f 310) [aR 10]), oA 4 (.asg (.t 11))] [2, 4]) (.seq
  (.re [oA 12 (.mv (.t 4)), oA 13 (.mv (.t 4)), oA 14 (.len (.t 13)), oA 15 (.bin .sub (.t 14) (.ci 1)), oA 16 (.idx 2 (.t 12) (.t 15)), oA 17 (.ld (some 2) (.t 16)), oA 5 (.alloc [(.slice none 0 0), (.slice none 0 0)]), oN (.st (some 2) (.t 5) (.t 17))] [2, 5]) (.seq
  (.region (some [18, 19, 20, 21, 22]) [oA 18 (.fld 0 (.t 5)), oA 19 (.ld none (.t 18)), oA 20 (.call (.f 275) [aR 19]), oA 21 (.fld 1 (.t 5)), oA 22 (.ld none (.t 21)), oA 23 (.call (.f 275) [aR 22]), oA 24 (.build [(.slice none 0 0), (.slice none 0 0)] [(0, 1, (.t 20)), (1, 1, (.t 23))]), oN (.st (some 2) (.t 2) (.t 24)), oA 3 (.mv (.ci 0))] [2, 3]) .ret)))))

end Go.Mch
