/- Compact code of the functions that statements 13 to 36 reach further. -/
import Derived.Test.YtpaklggigidikaaM1
namespace Go.Mch

def c_spec_l08Classes : F where
  np := 1
  rs := [.t 2]
  body :=
    (.seq
    (.region none [ ⟨some 1, none, .box (.t 0)⟩, ⟨some 2, none, .asg (.c (.slice none 0 0))⟩] [1]) (.seq
    (.region none [ ⟨some 8, none, .fld 1 (.t 1)⟩, ⟨some 9, none, .ld none (.t 8)⟩, ⟨some 10, none, .call (.f 265) [((.t 9), .r)]⟩, ⟨some 11, none, .bsl []⟩, ⟨some 3, none, .asg (.t 10)⟩, ⟨some 4, none, .asg (.t 11)⟩] [1, 3, 4]) (.seq (.seq
    (.region none [ ⟨some 5, none, .mv (.c (.int .i64 0))⟩] [1, 3, 4, 5]) (.block 0 (.loop (.seq (.seq
    (.region none [ ⟨some 12, none, .mv (.t 5)⟩, ⟨some 13, none, .fld 0 (.t 1)⟩, ⟨some 14, none, .ld none (.t 13)⟩, ⟨some 15, none, .len (.t 14)⟩, ⟨some 16, none, .bin .lss (.t 12) (.t 15)⟩] [1, 3, 4, 5, 16]) (.cond (.t 16) .skip (.exit 0))) (.seq (.block 1 (.seq
    (.region none [ ⟨some 19, none, .mv (.t 5)⟩, ⟨some 6, none, .mv (.t 19)⟩] [1, 3, 4, 5, 6]) (.seq (.seq
    (.region none [ ⟨some 20, none, .mv (.t 5)⟩, ⟨some 21, none, .bin .sub (.t 20) (.c (.int .i64 1))⟩, ⟨some 7, none, .mv (.t 21)⟩] [1, 3, 4, 5, 6, 7]) (.block 2 (.loop (.seq (.seq
    (.region none [ ⟨some 22, none, .mv (.t 7)⟩, ⟨some 23, none, .bin .geq (.t 22) (.c (.int .i64 0))⟩] [1, 3, 4, 5, 6, 7, 23]) (.cond (.t 23) .skip (.exit 2))) (.seq (.block 3 (.seq
    (.region (some [26, 27, 28, 29, 30, 31, 32, 33, 34, 35, 38, 39, 40, 41, 42, 43, 44, 45]) [ ⟨some 26, none, .fld 0 (.t 1)⟩, ⟨some 27, none, .ld none (.t 26)⟩, ⟨some 28, none, .mv (.t 5)⟩, ⟨some 29, none, .idx 1 (.t 27) (.t 28)⟩, ⟨some 30, none, .ld none (.t 29)⟩, ⟨some 31, none, .fld 0 (.t 1)⟩, ⟨some 32, none, .ld none (.t 31)⟩, ⟨some 33, none, .mv (.t 7)⟩, ⟨some 34, none, .idx 1 (.t 32) (.t 33)⟩, ⟨some 35, none, .ld none (.t 34)⟩, ⟨some 36, none, .call (.f 67) [((.t 30), .r), ((.t 35), .r)]⟩, ⟨some 37, none, .mv (.t 36)⟩, ⟨some 38, (some (37, true)), .mv (.t 3)⟩, ⟨some 39, (some (37, true)), .mv (.t 5)⟩, ⟨some 40, (some (37, true)), .idx 1 (.t 38) (.t 39)⟩, ⟨some 41, (some (37, true)), .ld none (.t 40)⟩, ⟨some 42, (some (37, true)), .mv (.t 3)⟩, ⟨some 43, (some (37, true)), .mv (.t 7)⟩, ⟨some 44, (some (37, true)), .idx 1 (.t 42) (.t 43)⟩, ⟨some 45, (some (37, true)), .ld none (.t 44)⟩, ⟨some 46, (some (37, true)), .call (.f 67) [((.t 41), .r), ((.t 45), .r)]⟩, ⟨some 47, none, .pick (.t 37) (.t 46) (.c (.bool false))⟩] [1, 3, 4, 5, 6, 7, 47]) (.cond (.t 47)
    (.region none [ ⟨some 48, none, .mv (.t 7)⟩, ⟨some 6, none, .mv (.t 48)⟩] [1, 3, 4, 5, 6, 7]) .skip)))
    (.region none [ ⟨some 24, none, .mv (.t 7)⟩, ⟨some 25, none, .bin .sub (.t 24) (.c (.int .i64 1))⟩, ⟨some 7, none, .mv (.t 25)⟩] [1, 3, 4, 5, 6, 7]))))))
    (.region none [ ⟨some 49, none, .mv (.t 4)⟩, ⟨some 50, none, .mv (.t 6)⟩, ⟨some 51, none, .bsl [(.t 50)]⟩, ⟨some 52, none, .app true 1 (.t 49) (.t 51)⟩, ⟨some 4, none, .asg (.t 52)⟩] [1, 3, 4, 5]))))
    (.region none [ ⟨some 17, none, .mv (.t 5)⟩, ⟨some 18, none, .bin .add (.t 17) (.c (.int .i64 1))⟩, ⟨some 5, none, .mv (.t 18)⟩] [1, 3, 4, 5])))))) (.seq
    (.region none [ ⟨some 53, none, .mv (.t 4)⟩, ⟨some 54, none, .call (.f 385) [((.t 53), .r)]⟩, ⟨some 2, none, .asg (.t 54)⟩] [2]) .ret))))

def c_spec_l07Renumber : F where
  np := 1
  rs := [.t 2]
  body :=
    (.seq
    (.region none [ ⟨some 2, none, .asg (.c (.slice none 0 0))⟩] [0]) (.seq
    (.region none [ ⟨some 6, none, .bsl []⟩, ⟨some 7, none, .bsl []⟩, ⟨some 3, none, .asg (.t 6)⟩, ⟨some 4, none, .asg (.t 7)⟩] [0, 3, 4]) (.seq (.seq
    (.region none [ ⟨some 5, none, .mv (.c (.int .i64 0))⟩] [0, 3, 4, 5]) (.block 0 (.loop (.seq (.seq
    (.region none [ ⟨some 8, none, .mv (.t 5)⟩, ⟨some 9, none, .mv (.t 0)⟩, ⟨some 10, none, .len (.t 9)⟩, ⟨some 11, none, .bin .lss (.t 8) (.t 10)⟩] [0, 3, 4, 5, 11]) (.cond (.t 11) .skip (.exit 0))) (.seq (.block 1 (.seq (.seq
    (.region none [ ⟨some 14, none, .mv (.t 3)⟩, ⟨some 15, none, .mv (.t 0)⟩, ⟨some 16, none, .mv (.t 5)⟩, ⟨some 17, none, .idx 1 (.t 15) (.t 16)⟩, ⟨some 18, none, .ld none (.t 17)⟩, ⟨some 19, none, .call (.f 62) [((.t 14), .r), ((.t 18), .r)]⟩, ⟨some 20, none, .un .not (.t 19)⟩] [0, 3, 4, 5, 20]) (.cond (.t 20)
    (.region none [ ⟨some 21, none, .mv (.t 3)⟩, ⟨some 22, none, .mv (.t 0)⟩, ⟨some 23, none, .mv (.t 5)⟩, ⟨some 24, none, .idx 1 (.t 22) (.t 23)⟩, ⟨some 25, none, .ld none (.t 24)⟩, ⟨some 26, none, .bsl [(.t 25)]⟩, ⟨some 27, none, .app true 1 (.t 21) (.t 26)⟩, ⟨some 3, none, .asg (.t 27)⟩] [0, 3, 4, 5]) .skip))
    (.region none [ ⟨some 28, none, .mv (.t 4)⟩, ⟨some 29, none, .mv (.t 3)⟩, ⟨some 30, none, .mv (.t 0)⟩, ⟨some 31, none, .mv (.t 5)⟩, ⟨some 32, none, .idx 1 (.t 30) (.t 31)⟩, ⟨some 33, none, .ld none (.t 32)⟩, ⟨some 34, none, .call (.f 69) [((.t 29), .r), ((.t 33), .r)]⟩, ⟨some 35, none, .bsl [(.t 34)]⟩, ⟨some 36, none, .app true 1 (.t 28) (.t 35)⟩, ⟨some 4, none, .asg (.t 36)⟩] [0, 3, 4, 5])))
    (.region none [ ⟨some 12, none, .mv (.t 5)⟩, ⟨some 13, none, .bin .add (.t 12) (.c (.int .i64 1))⟩, ⟨some 5, none, .mv (.t 13)⟩] [0, 3, 4, 5])))))) (.seq
    (.region none [ ⟨some 37, none, .mv (.t 4)⟩, ⟨some 2, none, .asg (.t 37)⟩] [2]) .ret))))

def c_spec_l01Greatest : F where
  np := 1
  rs := [.t 2]
  body :=
    (.seq
    (.region none [ ⟨some 2, none, .mv (.c (.int .i64 0))⟩] [0]) (.seq
    (.region none [ ⟨some 3, none, .mv (.c (.int .i64 0))⟩] [0, 3]) (.seq (.seq
    (.region none [ ⟨some 4, none, .mv (.c (.int .i64 0))⟩] [0, 3, 4]) (.block 0 (.loop (.seq (.seq
    (.region none [ ⟨some 5, none, .mv (.t 4)⟩, ⟨some 6, none, .mv (.t 0)⟩, ⟨some 7, none, .len (.t 6)⟩, ⟨some 8, none, .bin .lss (.t 5) (.t 7)⟩] [0, 3, 4, 8]) (.cond (.t 8) .skip (.exit 0))) (.seq (.block 1 (.seq
    (.region none [ ⟨some 11, none, .mv (.t 0)⟩, ⟨some 12, none, .mv (.t 4)⟩, ⟨some 13, none, .idx 1 (.t 11) (.t 12)⟩, ⟨some 14, none, .ld none (.t 13)⟩, ⟨some 15, none, .mv (.t 3)⟩, ⟨some 16, none, .bin .geq (.t 14) (.t 15)⟩] [0, 3, 4, 16]) (.cond (.t 16)
    (.region none [ ⟨some 17, none, .mv (.t 0)⟩, ⟨some 18, none, .mv (.t 4)⟩, ⟨some 19, none, .idx 1 (.t 17) (.t 18)⟩, ⟨some 20, none, .ld none (.t 19)⟩, ⟨some 21, none, .bin .add (.t 20) (.c (.int .i64 1))⟩, ⟨some 3, none, .mv (.t 21)⟩] [0, 3, 4]) .skip)))
    (.region none [ ⟨some 9, none, .mv (.t 4)⟩, ⟨some 10, none, .bin .add (.t 9) (.c (.int .i64 1))⟩, ⟨some 4, none, .mv (.t 10)⟩] [0, 3, 4])))))) (.seq
    (.region none [ ⟨some 22, none, .mv (.t 3)⟩, ⟨some 2, none, .mv (.t 22)⟩] [2]) .ret))))

def c_impl_alikeClasses : F where
  np := 1
  rs := [.t 2]
  body :=
    (.seq
    (.region none [ ⟨some 1, none, .box (.t 0)⟩, ⟨some 2, none, .asg (.c (.slice none 0 0))⟩] [1]) (.seq
    (.region none [ ⟨some 7, none, .fld 1 (.t 1)⟩, ⟨some 8, none, .ld none (.t 7)⟩, ⟨some 9, none, .call (.f 267) [((.t 8), .r)]⟩, ⟨some 3, none, .asg (.t 9)⟩] [1, 3]) (.seq
    (.region none [ ⟨some 10, none, .fld 0 (.t 1)⟩, ⟨some 11, none, .ld none (.t 10)⟩, ⟨some 12, none, .len (.t 11)⟩, ⟨some 13, none, .call (.f 335) [((.t 12), .r)]⟩, ⟨some 4, none, .asg (.t 13)⟩] [1, 3, 4]) (.seq (.seq
    (.region none [ ⟨some 14, none, .mv (.t 4)⟩, ⟨some 15, none, .len (.t 14)⟩, ⟨some 16, none, .mv (.c (.int .i64 0))⟩] [1, 3, 4, 15, 16]) (.block 0 (.loop (.seq
    (.region none [ ⟨some 17, none, .bin .lss (.t 16) (.t 15)⟩] [1, 3, 4, 15, 16, 17]) (.seq (.cond (.t 17) .skip (.exit 0)) (.seq (.block 1 (.seq
    (.region none [ ⟨some 18, none, .mv (.t 16)⟩, ⟨some 5, none, .mv (.t 18)⟩] [1, 3, 4, 5, 15, 16]) (.seq
    (.region none [ ⟨some 19, none, .mv (.t 5)⟩, ⟨some 20, none, .mv (.c (.int .i64 0))⟩] [1, 3, 4, 5, 15, 16, 19, 20]) (.block 2 (.loop (.seq
    (.region none [ ⟨some 21, none, .bin .lss (.t 20) (.t 19)⟩] [1, 3, 4, 5, 15, 16, 19, 20, 21]) (.seq (.cond (.t 21) .skip (.exit 2)) (.seq (.block 3 (.seq
    (.region none [ ⟨some 22, none, .mv (.t 20)⟩, ⟨some 6, none, .mv (.t 22)⟩] [1, 3, 4, 5, 6, 15, 16, 19, 20]) (.seq
    (.region (some [23, 24, 25, 26, 27, 28, 29, 30, 31, 32, 35, 36, 37, 38, 39, 40, 41, 42]) [ ⟨some 23, none, .fld 0 (.t 1)⟩, ⟨some 24, none, .ld none (.t 23)⟩, ⟨some 25, none, .mv (.t 5)⟩, ⟨some 26, none, .idx 1 (.t 24) (.t 25)⟩, ⟨some 27, none, .ld none (.t 26)⟩, ⟨some 28, none, .fld 0 (.t 1)⟩, ⟨some 29, none, .ld none (.t 28)⟩, ⟨some 30, none, .mv (.t 6)⟩, ⟨some 31, none, .idx 1 (.t 29) (.t 30)⟩, ⟨some 32, none, .ld none (.t 31)⟩, ⟨some 33, none, .call (.f 276) [((.t 27), .r), ((.t 32), .r)]⟩, ⟨some 34, none, .mv (.t 33)⟩, ⟨some 35, (some (34, true)), .mv (.t 3)⟩, ⟨some 36, (some (34, true)), .mv (.t 5)⟩, ⟨some 37, (some (34, true)), .idx 1 (.t 35) (.t 36)⟩, ⟨some 38, (some (34, true)), .ld none (.t 37)⟩, ⟨some 39, (some (34, true)), .mv (.t 3)⟩, ⟨some 40, (some (34, true)), .mv (.t 6)⟩, ⟨some 41, (some (34, true)), .idx 1 (.t 39) (.t 40)⟩, ⟨some 42, (some (34, true)), .ld none (.t 41)⟩, ⟨some 43, (some (34, true)), .call (.f 276) [((.t 38), .r), ((.t 42), .r)]⟩, ⟨some 44, none, .pick (.t 34) (.t 43) (.c (.bool false))⟩] [1, 3, 4, 5, 6, 15, 16, 19, 20, 44]) (.cond (.t 44) (.seq
    (.region none [ ⟨some 45, none, .mv (.t 4)⟩, ⟨some 46, none, .mv (.t 5)⟩, ⟨some 47, none, .mv (.t 4)⟩, ⟨some 48, none, .mv (.t 6)⟩, ⟨some 49, none, .idx 1 (.t 47) (.t 48)⟩, ⟨some 50, none, .ld none (.t 49)⟩, ⟨some 51, none, .idx 1 (.t 45) (.t 46)⟩, ⟨none, none, .st none (.t 51) (.t 50)⟩] [1, 3, 4, 15, 16]) (.exit 2)) .skip))))
    (.region none [ ⟨some 52, none, .bin .add (.t 20) (.c (.int .i64 1))⟩, ⟨some 20, none, .mv (.t 52)⟩] [1, 3, 4, 5, 15, 16, 19, 20])))))))))
    (.region none [ ⟨some 53, none, .bin .add (.t 16) (.c (.int .i64 1))⟩, ⟨some 16, none, .mv (.t 53)⟩] [1, 3, 4, 15, 16]))))))) (.seq
    (.region none [ ⟨some 54, none, .mv (.t 4)⟩, ⟨some 55, none, .call (.f 386) [((.t 54), .r)]⟩, ⟨some 2, none, .asg (.t 55)⟩] [2]) .ret)))))

def c_impl_identity : F where
  np := 1
  rs := [.t 2]
  body :=
    (.seq
    (.region none [ ⟨some 2, none, .asg (.c (.slice none 0 0))⟩] [0]) (.seq
    (.region none [ ⟨some 5, none, .mv (.t 0)⟩, ⟨some 6, none, .mks (.int .i64 0) (.t 5)⟩, ⟨some 3, none, .asg (.t 6)⟩] [3]) (.seq (.seq
    (.region none [ ⟨some 7, none, .mv (.t 3)⟩, ⟨some 8, none, .len (.t 7)⟩, ⟨some 9, none, .mv (.c (.int .i64 0))⟩] [3, 8, 9]) (.block 0 (.loop (.seq
    (.region none [ ⟨some 10, none, .bin .lss (.t 9) (.t 8)⟩] [3, 8, 9, 10]) (.seq (.cond (.t 10) .skip (.exit 0)) (.seq (.block 1 (.seq
    (.region none [ ⟨some 11, none, .mv (.t 9)⟩, ⟨some 4, none, .mv (.t 11)⟩] [3, 4, 8, 9])
    (.region none [ ⟨some 12, none, .mv (.t 3)⟩, ⟨some 13, none, .mv (.t 4)⟩, ⟨some 14, none, .mv (.t 4)⟩, ⟨some 15, none, .idx 1 (.t 12) (.t 13)⟩, ⟨none, none, .st none (.t 15) (.t 14)⟩] [3, 8, 9])))
    (.region none [ ⟨some 16, none, .bin .add (.t 9) (.c (.int .i64 1))⟩, ⟨some 9, none, .mv (.t 16)⟩] [3, 8, 9]))))))) (.seq
    (.region none [ ⟨some 17, none, .mv (.t 3)⟩, ⟨some 2, none, .asg (.t 17)⟩] [2]) .ret))))

def c_impl_numbered : F where
  np := 1
  rs := [.t 2]
  body :=
    (.seq
    (.region none [ ⟨some 2, none, .asg (.c (.slice none 0 0))⟩] [0]) (.seq
    (.region none [ ⟨some 3, none, .asg (.c (.slice none 0 0))⟩] [0, 3]) (.seq
    (.region none [ ⟨some 8, none, .mv (.t 0)⟩, ⟨some 9, none, .len (.t 8)⟩, ⟨some 10, none, .mks (.int .i64 0) (.t 9)⟩, ⟨some 4, none, .asg (.t 10)⟩] [0, 3, 4]) (.seq (.seq
    (.region none [ ⟨some 11, none, .mv (.t 0)⟩, ⟨some 12, none, .len (.t 11)⟩, ⟨some 13, none, .mv (.c (.int .i64 0))⟩] [3, 4, 11, 12, 13]) (.block 0 (.loop (.seq
    (.region none [ ⟨some 14, none, .bin .lss (.t 13) (.t 12)⟩] [3, 4, 11, 12, 13, 14]) (.seq (.cond (.t 14) .skip (.exit 0)) (.seq (.block 1 (.seq
    (.region none [ ⟨some 15, none, .mv (.t 13)⟩, ⟨some 16, none, .idx 1 (.t 11) (.t 13)⟩, ⟨some 17, none, .ld none (.t 16)⟩, ⟨some 5, none, .mv (.t 15)⟩, ⟨some 6, none, .mv (.t 17)⟩] [3, 4, 5, 6, 11, 12, 13]) (.seq
    (.region none [ ⟨some 18, none, .mv (.t 3)⟩, ⟨some 19, none, .mv (.t 6)⟩, ⟨some 20, none, .call (.f 384) [((.t 18), .r), ((.t 19), .r)]⟩, ⟨some 7, none, .mv (.t 20)⟩] [3, 4, 5, 6, 7, 11, 12, 13]) (.seq (.seq
    (.region none [ ⟨some 21, none, .mv (.t 7)⟩, ⟨some 22, none, .bin .lss (.t 21) (.c (.int .i64 0))⟩] [3, 4, 5, 6, 7, 11, 12, 13, 22]) (.cond (.t 22) (.seq
    (.region none [ ⟨some 23, none, .mv (.t 3)⟩, ⟨some 24, none, .len (.t 23)⟩, ⟨some 7, none, .mv (.t 24)⟩] [3, 4, 5, 6, 7, 11, 12, 13])
    (.region none [ ⟨some 25, none, .mv (.t 3)⟩, ⟨some 26, none, .mv (.t 6)⟩, ⟨some 27, none, .bsl [(.t 26)]⟩, ⟨some 28, none, .app true 1 (.t 25) (.t 27)⟩, ⟨some 3, none, .asg (.t 28)⟩] [3, 4, 5, 7, 11, 12, 13])) .skip))
    (.region none [ ⟨some 29, none, .mv (.t 4)⟩, ⟨some 30, none, .mv (.t 5)⟩, ⟨some 31, none, .mv (.t 7)⟩, ⟨some 32, none, .idx 1 (.t 29) (.t 30)⟩, ⟨none, none, .st none (.t 32) (.t 31)⟩] [3, 4, 11, 12, 13])))))
    (.region none [ ⟨some 33, none, .bin .add (.t 13) (.c (.int .i64 1))⟩, ⟨some 13, none, .mv (.t 33)⟩] [3, 4, 11, 12, 13]))))))) (.seq
    (.region none [ ⟨some 34, none, .mv (.t 4)⟩, ⟨some 2, none, .asg (.t 34)⟩] [2]) .ret)))))

def c_impl_AlikeClasses : F where
  np := 1
  rs := [.t 2, .t 3]
  body :=
    (.seq
    (.region none [ ⟨some 1, none, .box (.t 0)⟩, ⟨some 2, none, .asg (.c (.slice none 0 0))⟩, ⟨some 3, none, .mv (.c (.int .i64 0))⟩] [1]) (.seq (.seq
    (.region none [ ⟨some 4, none, .ld (some 2) (.t 1)⟩, ⟨some 5, none, .call (.f 266) [((.t 4), .r)]⟩, ⟨some 6, none, .un .not (.t 5)⟩] [1, 6]) (.cond (.t 6) (.seq
    (.region none [ ⟨some 2, none, .asg (.c (.slice none 0 0))⟩, ⟨some 3, none, .mv (.c (.int .i64 1))⟩] [2, 3]) .ret) .skip)) (.seq
    (.region none [ ⟨some 7, none, .ld (some 2) (.t 1)⟩, ⟨some 8, none, .call (.f 291) [((.t 7), .r)]⟩, ⟨some 2, none, .asg (.t 8)⟩, ⟨some 3, none, .mv (.c (.int .i64 0))⟩] [2, 3]) .ret)))

def c_spec_l01Unit : F where
  np := 1
  rs := [.t 2]
  body :=
    (.seq
    (.region none [ ⟨some 2, none, .asg (.c (.slice none 0 0))⟩] [0]) (.seq
    (.region none [ ⟨some 5, none, .bsl []⟩, ⟨some 3, none, .asg (.t 5)⟩] [0, 3]) (.seq (.seq
    (.region none [ ⟨some 4, none, .mv (.c (.int .i64 0))⟩] [0, 3, 4]) (.block 0 (.loop (.seq (.seq
    (.region none [ ⟨some 6, none, .mv (.t 4)⟩, ⟨some 7, none, .mv (.t 0)⟩, ⟨some 8, none, .bin .lss (.t 6) (.t 7)⟩] [0, 3, 4, 8]) (.cond (.t 8) .skip (.exit 0))) (.seq (.block 1
    (.region none [ ⟨some 11, none, .mv (.t 3)⟩, ⟨some 12, none, .mv (.t 4)⟩, ⟨some 13, none, .bsl [(.t 12)]⟩, ⟨some 14, none, .app true 1 (.t 11) (.t 13)⟩, ⟨some 3, none, .asg (.t 14)⟩] [0, 3, 4]))
    (.region none [ ⟨some 9, none, .mv (.t 4)⟩, ⟨some 10, none, .bin .add (.t 9) (.c (.int .i64 1))⟩, ⟨some 4, none, .mv (.t 10)⟩] [0, 3, 4])))))) (.seq
    (.region none [ ⟨some 15, none, .mv (.t 3)⟩, ⟨some 2, none, .asg (.t 15)⟩] [2]) .ret))))

def c_spec_l01Back : F where
  np := 1
  rs := [.t 2]
  body :=
    (.seq
    (.region none [ ⟨some 2, none, .asg (.c (.slice none 0 0))⟩] [0]) (.seq
    (.region none [ ⟨some 5, none, .mv (.t 0)⟩, ⟨some 6, none, .len (.t 5)⟩, ⟨some 7, none, .mks (.int .i64 0) (.t 6)⟩, ⟨some 3, none, .asg (.t 7)⟩] [0, 3]) (.seq (.seq
    (.region none [ ⟨some 4, none, .mv (.c (.int .i64 0))⟩] [0, 3, 4]) (.block 0 (.loop (.seq (.seq
    (.region none [ ⟨some 8, none, .mv (.t 4)⟩, ⟨some 9, none, .mv (.t 0)⟩, ⟨some 10, none, .len (.t 9)⟩, ⟨some 11, none, .bin .lss (.t 8) (.t 10)⟩] [0, 3, 4, 11]) (.cond (.t 11) .skip (.exit 0))) (.seq (.block 1
    (.region none [ ⟨some 14, none, .mv (.t 3)⟩, ⟨some 15, none, .mv (.t 0)⟩, ⟨some 16, none, .mv (.t 4)⟩, ⟨some 17, none, .idx 1 (.t 15) (.t 16)⟩, ⟨some 18, none, .ld none (.t 17)⟩, ⟨some 19, none, .mv (.t 4)⟩, ⟨some 20, none, .idx 1 (.t 14) (.t 18)⟩, ⟨none, none, .st none (.t 20) (.t 19)⟩] [0, 3, 4]))
    (.region none [ ⟨some 12, none, .mv (.t 4)⟩, ⟨some 13, none, .bin .add (.t 12) (.c (.int .i64 1))⟩, ⟨some 4, none, .mv (.t 13)⟩] [0, 3, 4])))))) (.seq
    (.region none [ ⟨some 21, none, .mv (.t 3)⟩, ⟨some 2, none, .asg (.t 21)⟩] [2]) .ret))))

def c_impl_solutionBy : F where
  np := 2
  rs := [.cell 4 (some 2)]
  body :=
    (.seq
    (.region none [ ⟨some 3, none, .box (.t 1)⟩, ⟨some 4, none, .alloc [(.slice none 0 0), (.slice none 0 0)]⟩] [0, 3, 4]) (.seq
    (.region none [ ⟨some 5, none, .mv (.t 0)⟩, ⟨some 6, none, .fnc 391 [(.t 3)]⟩, ⟨some 7, none, .call (.f 376) [((.t 5), .r), ((.t 6), .r)]⟩, ⟨some 8, none, .mv (.t 0)⟩, ⟨some 9, none, .fnc 392 [(.t 3)]⟩, ⟨some 10, none, .call (.f 376) [((.t 8), .r), ((.t 9), .r)]⟩, ⟨some 11, none, .build [(.slice none 0 0), (.slice none 0 0)] [(0, 1, (.t 7)), (1, 1, (.t 10))]⟩, ⟨none, none, .st (some 2) (.t 4) (.t 11)⟩] [4]) .ret))

def c_impl_solutionBy_1 : F where
  np := 3
  rs := [.t 5]
  body :=
    (.seq
    (.region none [ ⟨some 5, none, .mv (.c (.int .i64 0))⟩] [0, 1, 2]) (.seq
    (.region none [ ⟨some 9, none, .ld none (.t 2)⟩, ⟨some 10, none, .mv (.t 0)⟩, ⟨some 11, none, .mv (.t 1)⟩, ⟨some 12, none, .call (.t 9) [((.t 10), .r), ((.t 11), .r)]⟩, ⟨some 8, none, .mv (.t 12)⟩, ⟨some 13, none, .ext (.t 8) 0⟩, ⟨some 14, none, .ext (.t 8) 1⟩, ⟨some 6, none, .mv (.t 13)⟩, ⟨some 7, none, .mv (.t 14)⟩] [6]) (.seq
    (.region none [ ⟨some 15, none, .mv (.t 6)⟩, ⟨some 5, none, .mv (.t 15)⟩] [5]) .ret)))

def c_impl_solutionBy_2 : F where
  np := 3
  rs := [.t 5]
  body :=
    (.seq
    (.region none [ ⟨some 5, none, .mv (.c (.int .i64 0))⟩] [0, 1, 2]) (.seq
    (.region none [ ⟨some 9, none, .ld none (.t 2)⟩, ⟨some 10, none, .mv (.t 0)⟩, ⟨some 11, none, .mv (.t 1)⟩, ⟨some 12, none, .call (.t 9) [((.t 10), .r), ((.t 11), .r)]⟩, ⟨some 8, none, .mv (.t 12)⟩, ⟨some 13, none, .ext (.t 8) 0⟩, ⟨some 14, none, .ext (.t 8) 1⟩, ⟨some 6, none, .mv (.t 13)⟩, ⟨some 7, none, .mv (.t 14)⟩] [7]) (.seq
    (.region none [ ⟨some 15, none, .mv (.t 7)⟩, ⟨some 5, none, .mv (.t 15)⟩] [5]) .ret)))

def c_impl_retractOf : F where
  np := 1
  rs := [.cell 2 (some 2)]
  body :=
    (.seq
    (.region none [ ⟨some 1, none, .box (.t 0)⟩, ⟨some 2, none, .alloc [(.slice none 0 0), (.slice none 0 0)]⟩] [1, 2]) (.seq
    (.region none [ ⟨some 5, none, .ld (some 2) (.t 1)⟩, ⟨some 6, none, .call (.f 291) [((.t 5), .r)]⟩, ⟨some 3, none, .alloc [(.slice none 0 0)]⟩, ⟨none, none, .st none (.t 3) (.t 6)⟩] [1, 2, 3]) (.seq
    (.region none [ ⟨some 7, none, .ld none (.t 3)⟩, ⟨some 8, none, .call (.f 399) [((.t 7), .r)]⟩, ⟨some 4, none, .alloc [(.slice none 0 0)]⟩, ⟨none, none, .st none (.t 4) (.t 8)⟩] [1, 2, 3, 4]) (.seq
    (.region none [ ⟨some 9, none, .ld none (.t 4)⟩, ⟨some 10, none, .len (.t 9)⟩, ⟨some 11, none, .fnc 400 [(.t 4), (.t 3), (.t 1)]⟩, ⟨some 12, none, .call (.f 308) [((.t 10), .r), ((.t 11), .r)]⟩, ⟨none, none, .st (some 2) (.t 2) (.t 12)⟩] [2]) .ret))))

def c_impl_firstOf : F where
  np := 1
  rs := [.t 2]
  body :=
    (.seq
    (.region none [ ⟨some 2, none, .asg (.c (.slice none 0 0))⟩] [0]) (.seq
    (.region none [ ⟨some 3, none, .asg (.c (.slice none 0 0))⟩] [0, 3]) (.seq (.seq
    (.region none [ ⟨some 6, none, .mv (.t 0)⟩, ⟨some 7, none, .len (.t 6)⟩, ⟨some 8, none, .mv (.c (.int .i64 0))⟩] [3, 6, 7, 8]) (.block 0 (.loop (.seq
    (.region none [ ⟨some 9, none, .bin .lss (.t 8) (.t 7)⟩] [3, 6, 7, 8, 9]) (.seq (.cond (.t 9) .skip (.exit 0)) (.seq (.block 1 (.seq
    (.region none [ ⟨some 10, none, .mv (.t 8)⟩, ⟨some 11, none, .idx 1 (.t 6) (.t 8)⟩, ⟨some 12, none, .ld none (.t 11)⟩, ⟨some 4, none, .mv (.t 10)⟩, ⟨some 5, none, .mv (.t 12)⟩] [3, 4, 5, 6, 7, 8]) (.seq
    (.region none [ ⟨some 13, none, .mv (.t 5)⟩, ⟨some 14, none, .mv (.t 3)⟩, ⟨some 15, none, .len (.t 14)⟩, ⟨some 16, none, .bin .eql (.t 13) (.t 15)⟩] [3, 4, 6, 7, 8, 16]) (.cond (.t 16)
    (.region none [ ⟨some 17, none, .mv (.t 3)⟩, ⟨some 18, none, .mv (.t 4)⟩, ⟨some 19, none, .bsl [(.t 18)]⟩, ⟨some 20, none, .app true 1 (.t 17) (.t 19)⟩, ⟨some 3, none, .asg (.t 20)⟩] [3, 6, 7, 8]) .skip))))
    (.region none [ ⟨some 21, none, .bin .add (.t 8) (.c (.int .i64 1))⟩, ⟨some 8, none, .mv (.t 21)⟩] [3, 6, 7, 8]))))))) (.seq
    (.region none [ ⟨some 22, none, .mv (.t 3)⟩, ⟨some 2, none, .asg (.t 22)⟩] [2]) .ret))))

def c_impl_retractOf_1 : F where
  np := 5
  rs := [.t 7, .t 8]
  body :=
    (.seq
    (.region none [ ⟨some 7, none, .mv (.c (.int .i64 0))⟩, ⟨some 8, none, .mv (.c (.int .i64 0))⟩] [0, 1, 2, 3, 4]) (.seq
    (.region (some [9, 11, 12, 13, 14, 15, 16, 17, 18]) [ ⟨some 11, none, .ld none (.t 2)⟩, ⟨some 12, none, .mv (.t 0)⟩, ⟨some 13, none, .idx 1 (.t 11) (.t 12)⟩, ⟨some 14, none, .ld none (.t 13)⟩, ⟨some 15, none, .ld none (.t 2)⟩, ⟨some 16, none, .mv (.t 1)⟩, ⟨some 17, none, .idx 1 (.t 15) (.t 16)⟩, ⟨some 18, none, .ld none (.t 17)⟩, ⟨some 9, none, .mv (.t 14)⟩, ⟨some 10, none, .mv (.t 18)⟩] [3, 4, 9, 10]) (.seq
    (.region (some [7, 19, 20, 21, 22, 23, 24, 25, 26, 27, 28, 29, 30, 31, 32, 33, 34, 35, 36, 37, 38, 39, 40]) [ ⟨some 19, none, .ld none (.t 3)⟩, ⟨some 20, none, .fld 0 (.t 4)⟩, ⟨some 21, none, .ld none (.t 20)⟩, ⟨some 22, none, .mv (.t 9)⟩, ⟨some 23, none, .idx 1 (.t 21) (.t 22)⟩, ⟨some 24, none, .ld none (.t 23)⟩, ⟨some 25, none, .mv (.t 10)⟩, ⟨some 26, none, .idx 1 (.t 24) (.t 25)⟩, ⟨some 27, none, .ld none (.t 26)⟩, ⟨some 28, none, .idx 1 (.t 19) (.t 27)⟩, ⟨some 29, none, .ld none (.t 28)⟩, ⟨some 30, none, .ld none (.t 3)⟩, ⟨some 31, none, .fld 1 (.t 4)⟩, ⟨some 32, none, .ld none (.t 31)⟩, ⟨some 33, none, .mv (.t 9)⟩, ⟨some 34, none, .idx 1 (.t 32) (.t 33)⟩, ⟨some 35, none, .ld none (.t 34)⟩, ⟨some 36, none, .mv (.t 10)⟩, ⟨some 37, none, .idx 1 (.t 35) (.t 36)⟩, ⟨some 38, none, .ld none (.t 37)⟩, ⟨some 39, none, .idx 1 (.t 30) (.t 38)⟩, ⟨some 40, none, .ld none (.t 39)⟩, ⟨some 7, none, .mv (.t 29)⟩, ⟨some 8, none, .mv (.t 40)⟩] [7, 8]) .ret)))

def c_spec_l08Retract : F where
  np := 1
  rs := [.cell 2 (some 2)]
  body :=
    (.seq
    (.region none [ ⟨some 1, none, .box (.t 0)⟩, ⟨some 2, none, .alloc [(.slice none 0 0), (.slice none 0 0)]⟩] [1, 2]) (.seq
    (.region none [ ⟨some 9, none, .ld (some 2) (.t 1)⟩, ⟨some 10, none, .call (.f 289) [((.t 9), .r)]⟩, ⟨some 3, none, .asg (.t 10)⟩] [1, 2, 3]) (.seq
    (.region none [ ⟨some 11, none, .mv (.t 3)⟩, ⟨some 12, none, .call (.f 288) [((.t 11), .r)]⟩, ⟨some 13, none, .call (.f 398) [((.t 12), .r)]⟩, ⟨some 4, none, .alloc [(.slice none 0 0), (.slice none 0 0)]⟩, ⟨none, none, .st (some 2) (.t 4) (.t 13)⟩] [1, 2, 3, 4]) (.seq (.seq
    (.region none [ ⟨some 5, none, .mv (.c (.int .i64 0))⟩] [1, 2, 3, 4, 5]) (.block 0 (.loop (.seq (.seq
    (.region none [ ⟨some 14, none, .mv (.t 5)⟩, ⟨some 15, none, .mv (.t 3)⟩, ⟨some 16, none, .len (.t 15)⟩, ⟨some 17, none, .bin .lss (.t 14) (.t 16)⟩] [1, 2, 3, 4, 5, 17]) (.cond (.t 17) .skip (.exit 0))) (.seq (.block 1 (.seq
    (.region (some [6, 20, 21, 22, 23, 24, 25, 26, 27, 28, 29, 30, 31, 32, 33, 34, 35]) [ ⟨some 20, none, .fld 0 (.t 4)⟩, ⟨some 21, none, .ld none (.t 20)⟩, ⟨some 22, none, .mv (.t 3)⟩, ⟨some 23, none, .mv (.t 5)⟩, ⟨some 24, none, .idx 1 (.t 22) (.t 23)⟩, ⟨some 25, none, .ld none (.t 24)⟩, ⟨some 26, none, .idx 1 (.t 21) (.t 25)⟩, ⟨some 27, none, .ld none (.t 26)⟩, ⟨some 28, none, .fld 1 (.t 4)⟩, ⟨some 29, none, .ld none (.t 28)⟩, ⟨some 30, none, .mv (.t 3)⟩, ⟨some 31, none, .mv (.t 5)⟩, ⟨some 32, none, .idx 1 (.t 30) (.t 31)⟩, ⟨some 33, none, .ld none (.t 32)⟩, ⟨some 34, none, .idx 1 (.t 29) (.t 33)⟩, ⟨some 35, none, .ld none (.t 34)⟩, ⟨some 6, none, .mv (.t 27)⟩, ⟨some 7, none, .mv (.t 35)⟩] [1, 2, 3, 4, 5, 6, 7]) (.seq
    (.region none [ ⟨some 8, none, .mv (.c (.int .i64 0))⟩] [1, 2, 3, 4, 5, 6, 7, 8]) (.block 2 (.loop (.seq (.seq
    (.region none [ ⟨some 36, none, .mv (.t 8)⟩, ⟨some 37, none, .mv (.t 3)⟩, ⟨some 38, none, .len (.t 37)⟩, ⟨some 39, none, .bin .lss (.t 36) (.t 38)⟩] [1, 2, 3, 4, 5, 6, 7, 8, 39]) (.cond (.t 39) .skip (.exit 2))) (.seq (.block 3 (.seq
    (.region (some [42, 43, 44, 45, 46, 47, 48, 49, 50, 51, 52, 53, 54, 55, 56, 57]) [ ⟨some 42, none, .mv (.t 6)⟩, ⟨some 43, none, .mv (.t 3)⟩, ⟨some 44, none, .mv (.t 8)⟩, ⟨some 45, none, .idx 1 (.t 43) (.t 44)⟩, ⟨some 46, none, .ld none (.t 45)⟩, ⟨some 47, none, .mv (.t 3)⟩, ⟨some 48, none, .fld 0 (.t 1)⟩, ⟨some 49, none, .ld none (.t 48)⟩, ⟨some 50, none, .mv (.t 5)⟩, ⟨some 51, none, .idx 1 (.t 49) (.t 50)⟩, ⟨some 52, none, .ld none (.t 51)⟩, ⟨some 53, none, .mv (.t 8)⟩, ⟨some 54, none, .idx 1 (.t 52) (.t 53)⟩, ⟨some 55, none, .ld none (.t 54)⟩, ⟨some 56, none, .idx 1 (.t 47) (.t 55)⟩, ⟨some 57, none, .ld none (.t 56)⟩, ⟨some 58, none, .idx 1 (.t 42) (.t 46)⟩, ⟨none, none, .st none (.t 58) (.t 57)⟩] [1, 2, 3, 4, 5, 6, 7, 8])
    (.region (some [59, 60, 61, 62, 63, 64, 65, 66, 67, 68, 69, 70, 71, 72, 73, 74]) [ ⟨some 59, none, .mv (.t 7)⟩, ⟨some 60, none, .mv (.t 3)⟩, ⟨some 61, none, .mv (.t 8)⟩, ⟨some 62, none, .idx 1 (.t 60) (.t 61)⟩, ⟨some 63, none, .ld none (.t 62)⟩, ⟨some 64, none, .mv (.t 3)⟩, ⟨some 65, none, .fld 1 (.t 1)⟩, ⟨some 66, none, .ld none (.t 65)⟩, ⟨some 67, none, .mv (.t 5)⟩, ⟨some 68, none, .idx 1 (.t 66) (.t 67)⟩, ⟨some 69, none, .ld none (.t 68)⟩, ⟨some 70, none, .mv (.t 8)⟩, ⟨some 71, none, .idx 1 (.t 69) (.t 70)⟩, ⟨some 72, none, .ld none (.t 71)⟩, ⟨some 73, none, .idx 1 (.t 64) (.t 72)⟩, ⟨some 74, none, .ld none (.t 73)⟩, ⟨some 75, none, .idx 1 (.t 59) (.t 63)⟩, ⟨none, none, .st none (.t 75) (.t 74)⟩] [1, 2, 3, 4, 5, 6, 7, 8])))
    (.region none [ ⟨some 40, none, .mv (.t 8)⟩, ⟨some 41, none, .bin .add (.t 40) (.c (.int .i64 1))⟩, ⟨some 8, none, .mv (.t 41)⟩] [1, 2, 3, 4, 5, 6, 7, 8]))))))))
    (.region none [ ⟨some 18, none, .mv (.t 5)⟩, ⟨some 19, none, .bin .add (.t 18) (.c (.int .i64 1))⟩, ⟨some 5, none, .mv (.t 19)⟩] [1, 2, 3, 4, 5])))))) (.seq
    (.region none [ ⟨some 76, none, .ld (some 2) (.t 4)⟩, ⟨none, none, .st (some 2) (.t 2) (.t 76)⟩] [2]) .ret)))))

def c_spec_l02Empty : F where
  np := 1
  rs := [.cell 2 (some 2)]
  body :=
    (.seq
    (.region none [ ⟨some 2, none, .alloc [(.slice none 0 0), (.slice none 0 0)]⟩] [0, 2]) (.seq
    (.region none [ ⟨some 5, none, .build [(.slice none 0 0), (.slice none 0 0)] []⟩, ⟨some 3, none, .alloc [(.slice none 0 0), (.slice none 0 0)]⟩, ⟨none, none, .st (some 2) (.t 3) (.t 5)⟩] [0, 2, 3]) (.seq (.seq
    (.region none [ ⟨some 4, none, .mv (.c (.int .i64 0))⟩] [0, 2, 3, 4]) (.block 0 (.loop (.seq (.seq
    (.region none [ ⟨some 6, none, .mv (.t 4)⟩, ⟨some 7, none, .mv (.t 0)⟩, ⟨some 8, none, .bin .lss (.t 6) (.t 7)⟩] [0, 2, 3, 4, 8]) (.cond (.t 8) .skip (.exit 0))) (.seq (.block 1 (.seq
    (.region (some [11, 12, 13, 14, 15]) [ ⟨some 11, none, .fld 0 (.t 3)⟩, ⟨some 12, none, .ld none (.t 11)⟩, ⟨some 13, none, .mv (.t 0)⟩, ⟨some 14, none, .mks (.int .i64 0) (.t 13)⟩, ⟨some 15, none, .bsl1 14⟩, ⟨some 16, none, .app true 1 (.t 12) (.t 15)⟩, ⟨some 17, none, .fld 0 (.t 3)⟩, ⟨none, none, .st none (.t 17) (.t 16)⟩] [0, 2, 3, 4])
    (.region (some [18, 19, 20, 21, 22]) [ ⟨some 18, none, .fld 1 (.t 3)⟩, ⟨some 19, none, .ld none (.t 18)⟩, ⟨some 20, none, .mv (.t 0)⟩, ⟨some 21, none, .mks (.int .i64 0) (.t 20)⟩, ⟨some 22, none, .bsl1 21⟩, ⟨some 23, none, .app true 1 (.t 19) (.t 22)⟩, ⟨some 24, none, .fld 1 (.t 3)⟩, ⟨none, none, .st none (.t 24) (.t 23)⟩] [0, 2, 3, 4])))
    (.region none [ ⟨some 9, none, .mv (.t 4)⟩, ⟨some 10, none, .bin .add (.t 9) (.c (.int .i64 1))⟩, ⟨some 4, none, .mv (.t 10)⟩] [0, 2, 3, 4])))))) (.seq
    (.region none [ ⟨some 25, none, .ld (some 2) (.t 3)⟩, ⟨none, none, .st (some 2) (.t 2) (.t 25)⟩] [2]) .ret))))

def c_spec_RetractOf : F where
  np := 1
  rs := [.cell 2 (some 2), .t 3]
  body :=
    (.seq
    (.region none [ ⟨some 1, none, .box (.t 0)⟩, ⟨some 2, none, .alloc [(.slice none 0 0), (.slice none 0 0)]⟩, ⟨some 3, none, .mv (.c (.int .i64 0))⟩] [1, 2]) (.seq (.seq
    (.region none [ ⟨some 4, none, .ld (some 2) (.t 1)⟩, ⟨some 5, none, .call (.f 264) [((.t 4), .r)]⟩, ⟨some 6, none, .un .not (.t 5)⟩] [1, 2, 6]) (.cond (.t 6) (.seq
    (.region none [ ⟨some 7, none, .build [(.slice none 0 0), (.slice none 0 0)] []⟩, ⟨none, none, .st (some 2) (.t 2) (.t 7)⟩, ⟨some 3, none, .mv (.c (.int .i64 1))⟩] [2, 3]) .ret) .skip)) (.seq
    (.region none [ ⟨some 8, none, .ld (some 2) (.t 1)⟩, ⟨some 9, none, .call (.f 320) [((.t 8), .r)]⟩, ⟨none, none, .st (some 2) (.t 2) (.t 9)⟩, ⟨some 3, none, .mv (.c (.int .i64 0))⟩] [2, 3]) .ret)))

def c_impl_RetractOf : F where
  np := 1
  rs := [.cell 2 (some 2), .t 3]
  body :=
    (.seq
    (.region none [ ⟨some 1, none, .box (.t 0)⟩, ⟨some 2, none, .alloc [(.slice none 0 0), (.slice none 0 0)]⟩, ⟨some 3, none, .mv (.c (.int .i64 0))⟩] [1, 2]) (.seq (.seq
    (.region none [ ⟨some 4, none, .ld (some 2) (.t 1)⟩, ⟨some 5, none, .call (.f 266) [((.t 4), .r)]⟩, ⟨some 6, none, .un .not (.t 5)⟩] [1, 2, 6]) (.cond (.t 6) (.seq
    (.region none [ ⟨some 7, none, .build [(.slice none 0 0), (.slice none 0 0)] []⟩, ⟨none, none, .st (some 2) (.t 2) (.t 7)⟩, ⟨some 3, none, .mv (.c (.int .i64 1))⟩] [2, 3]) .ret) .skip)) (.seq
    (.region none [ ⟨some 8, none, .ld (some 2) (.t 1)⟩, ⟨some 9, none, .call (.f 321) [((.t 8), .r)]⟩, ⟨none, none, .st (some 2) (.t 2) (.t 9)⟩, ⟨some 3, none, .mv (.c (.int .i64 0))⟩] [2, 3]) .ret)))

end Go.Mch
