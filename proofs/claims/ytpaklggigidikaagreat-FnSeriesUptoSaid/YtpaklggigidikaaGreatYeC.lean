/- Compact code of the functions that statements 13 to 36 reach further. -/
import Derived.Test.YtpaklggigidikaaGreatM1
namespace Go.Mch

def j3s : F where
 np := 1
 rs := [.t 2]
 body :=
  (.seq
  (.region none [ ⟨some 1, none, .box (.t 0)⟩, ⟨some 2, none, .asg (.c (.slice none 0 0))⟩] [1]) (.seq
  (.region none [ ⟨some 8, none, .fld 1 (.t 1)⟩, ⟨some 9, none, .ld none (.t 8)⟩, ⟨some 10, none, .call (.f 265) [((.t 9), .r)]⟩, ⟨some 11, none, .bsl []⟩, ⟨some 3, none, .asg (.t 10)⟩, ⟨some 4, none, .asg (.t 11)⟩] [1, 3, 4]) (.seq (.seq
  (.region none [ ⟨some 5, none, .mv (.c (.int .i64 0))⟩] [1, 3, 4, 5]) (.block 0 (.loop (.seq (.seq
  (.region none [ ⟨some 12, none, .mv (.t 5)⟩, ⟨some 13, none, .fld 0 (.t 1)⟩, ⟨some 14, none, .ld none (.t 13)⟩, ⟨some 15, none, .len (.t 14)⟩, ⟨some 16, none, .bin .lss (.t 12) (.t 15)⟩] [1, 3, 4, 5, 16]) (.cond (.t 16) .skip (.exit 0))) (.seq (.block 1 (.seq
  (.region none [ ⟨some 19, none, .mv (.t 5)⟩, ⟨some 6, none, .mv (.t 19)⟩] [1, 3, 4, 5, 6]) (.seq (.seq
  (.region none [ ⟨some 20, none, .mv (.t 5)⟩, ⟨some 21, none, .bin .sub (.t 20) (.c (.int .i64 1))⟩, ⟨some 7, none, .mv (.t 21)⟩] [1, 3, 4, 5, 6, 7]) (.block 2 (.loop (.seq (.seq
  (.region none [ ⟨some 22, none, .mv (.t 7)⟩, ⟨some 23, none, .bin .geq (.t 22) (.c (.int .i64 0))⟩] [1, 3, 4, 5, 6, 7, 23]) (.cond (.t 23) .skip (.exit 2))) (.seq (.block 3 (.seq
  (.region (some [26, 27, 28, 29, 30, 31, 32, 33, 34, 35, 38, 39, 40, 41, 42, 43, 44, 45]) [ ⟨some 26, none, .fld 0 (.t 1)⟩, ⟨some 27, none, .ld none (.t 26)⟩, ⟨some 28, none, .mv (.t 5)⟩, ⟨some 29, none, .idx 1 (.t 27) (.t 28)⟩, ⟨some 30, none, .ld none (.t 29)⟩, ⟨some 31, none, .fld 0 (.t 1)⟩, ⟨some 32, none, .ld none (.t 31)⟩, ⟨some 33, none, .mv (.t 7)⟩, ⟨some 34, none, .idx 1 (.t 32) (.t 33)⟩, ⟨some 35, none, .ld none (.t 34)⟩, ⟨some 36, none, .call (.f 67) [((.t 30), .r), ((.t 35), .r)]⟩, ⟨some 37, none, .mv (.t 36)⟩, ⟨some 38, (some (37, true)), .mv (.t 3)⟩, ⟨some 39, (some (37, true)), .mv (.t 5)⟩, ⟨some 40, (some (37, true)), .idx 1 (.t 38) (.t 39)⟩, ⟨some 41, (some (37, true)), .ld none (.t 40)⟩, ⟨some 42, (some (37, true)), .mv (.t 3)⟩, ⟨some 43, (some (37, true)), .mv (.t 7)⟩, ⟨some 44, (some (37, true)), .idx 1 (.t 42) (.t 43)⟩, ⟨some 45, (some (37, true)), .ld none (.t 44)⟩, ⟨some 46, (some (37, true)), .call (.f 67) [((.t 41), .r), ((.t 45), .r)]⟩, ⟨some 47, none, .pick (.t 37) (.t 46) (.c (.bool false))⟩] [1, 3, 4, 5, 6, 7, 47]) (.cond (.t 47)
  (.region none [ ⟨some 48, none, .mv (.t 7)⟩, ⟨some 6, none, .mv (.t 48)⟩] [1, 3, 4, 5, 6, 7]) .skip)))
  (.region none [ ⟨some 24, none, .mv (.t 7)⟩, ⟨some 25, none, .bin .sub (.t 24) (.c (.int .i64 1))⟩, ⟨some 7, none, .mv (.t 25)⟩] [1, 3, 4, 5, 6, 7]))))))
  (.region none [ ⟨some 49, none, .mv (.t 4)⟩, ⟨some 50, none, .mv (.t 6)⟩, ⟨some 51, none, .bsl [(.t 50)]⟩, ⟨some 52, none, .app true 1 (.t 49) (.t 51)⟩, ⟨some 4, none, .asg (.t 52)⟩] [1, 3, 4, 5]))))
  (.region none [ ⟨some 17, none, .mv (.t 5)⟩, ⟨some 18, none, .bin .add (.t 17) (.c (.int .i64 1))⟩, ⟨some 5, none, .mv (.t 18)⟩] [1, 3, 4, 5])))))) (.seq
  (.region none [ ⟨some 53, none, .mv (.t 4)⟩, ⟨some 54, none, .call (.f 385) [((.t 53), .r)]⟩, ⟨some 2, none, .asg (.t 54)⟩] [2]) .ret))))

def j3d : F where
 np := 1
 rs := [.t 2]
 body :=
  (.seq
  (.region none [ ⟨some 2, none, .asg (.c (.slice none 0 0))⟩] [0]) (.seq
  (.region none [ ⟨some 6, none, .bsl []⟩, ⟨some 7, none, .bsl []⟩, ⟨some 3, none, .asg (.t 6)⟩, ⟨some 4, none, .asg (.t 7)⟩] [0, 3, 4]) (.seq (.seq
  (.region none [ ⟨some 5, none, .mv (.c (.int .i64 0))⟩] [0, 3, 4, 5]) (.block 0 (.loop (.seq (.seq
  (.region none [ ⟨some 8, none, .mv (.t 5)⟩, ⟨some 9, none, .mv (.t 0)⟩, ⟨some 10, none, .len (.t 9)⟩, ⟨some 11, none, .bin .lss (.t 8) (.t 10)⟩] [0, 3, 4, 5, 11]) (.cond (.t 11) .skip (.exit 0))) (.seq (.block 1 (.seq (.seq
  (.region none [ ⟨some 14, none, .mv (.t 3)⟩, ⟨some 15, none, .mv (.t 0)⟩, ⟨some 16, none, .mv (.t 5)⟩, ⟨some 17, none, .idx 1 (.t 15) (.t 16)⟩, ⟨some 18, none, .ld none (.t 17)⟩, ⟨some 19, none, .call (.f 62) [((.t 14), .r), ((.t 18), .r)]⟩, ⟨some 20, none, .un .not (.t 19)⟩] [0, 3, 4, 5, 20]) (.cond (.t 20)
  (.region none [ ⟨some 21, none, .mv (.t 3)⟩, ⟨some 22, none, .mv (.t 0)⟩, ⟨some 23, none, .mv (.t 5)⟩, ⟨some 24, none, .idx 1 (.t 22) (.t 23)⟩, ⟨some 25, none, .ld none (.t 24)⟩, ⟨some 26, none, .bsl [(.t 25)]⟩, ⟨some 27, none, .app true 1 (.t 21) (.t 26)⟩, ⟨some 3, none, .asg (.t 27)⟩] [0, 3, 4, 5]) .skip))
  (.region none [ ⟨some 28, none, .mv (.t 4)⟩, ⟨some 29, none, .mv (.t 3)⟩, ⟨some 30, none, .mv (.t 0)⟩, ⟨some 31, none, .mv (.t 5)⟩, ⟨some 32, none, .idx 1 (.t 30) (.t 31)⟩, ⟨some 33, none, .ld none (.t 32)⟩, ⟨some 34, none, .call (.f 69) [((.t 29), .r), ((.t 33), .r)]⟩, ⟨some 35, none, .bsl [(.t 34)]⟩, ⟨some 36, none, .app true 1 (.t 28) (.t 35)⟩, ⟨some 4, none, .asg (.t 36)⟩] [0, 3, 4, 5])))
  (.region none [ ⟨some 12, none, .mv (.t 5)⟩, ⟨some 13, none, .bin .add (.t 12) (.c (.int .i64 1))⟩, ⟨some 5, none, .mv (.t 13)⟩] [0, 3, 4, 5])))))) (.seq
  (.region none [ ⟨some 37, none, .mv (.t 4)⟩, ⟨some 2, none, .asg (.t 37)⟩] [2]) .ret))))

def j3h : F where
 np := 1
 rs := [.t 2]
 body :=
  (.seq
  (.region none [ ⟨some 2, none, .mv (.c (.int .i64 0))⟩] [0]) (.seq
  (.region none [ ⟨some 3, none, .mv (.c (.int .i64 0))⟩] [0, 3]) (.seq (.seq
  (.region none [ ⟨some 4, none, .mv (.c (.int .i64 0))⟩] [0, 3, 4]) (.block 0 (.loop (.seq (.seq
  (.region none [ ⟨some 5, none, .mv (.t 4)⟩, ⟨some 6, none, .mv (.t 0)⟩, ⟨some 7, none, .len (.t 6)⟩, ⟨some 8, none, .bin .lss (.t 5) (.t 7)⟩] [0, 3, 4, 8]) (.cond (.t 8) .skip (.exit 0))) (.seq (.block 1 (.seq
  (.region none [ ⟨some 11, none, .mv (.t 0)⟩, ⟨some 12, none, .mv (.t 4)⟩, ⟨some 13, none, .idx 1 (.t 11) (.t 12)⟩, ⟨some 14, none, .ld none (.t 13)⟩, ⟨some 15, none, .mv (.t 3)⟩, ⟨some 16, none, .bin .geq (.t 14) (.t 15)⟩] [0, 3, 4, 16]) (.cond (.t 16)
  (.region none [ ⟨some 17, none, .mv (.t 0)⟩, ⟨some 18, none, .mv (.t 4)⟩, ⟨some 19, none, .idx 1 (.t 17) (.t 18)⟩, ⟨some 20, none, .ld none (.t 19)⟩, ⟨some 21, none, .bin .add (.t 20) (.c (.int .i64 1))⟩, ⟨some 3, none, .mv (.t 21)⟩] [0, 3, 4]) .skip)))
  (.region none [ ⟨some 9, none, .mv (.t 4)⟩, ⟨some 10, none, .bin .add (.t 9) (.c (.int .i64 1))⟩, ⟨some 4, none, .mv (.t 10)⟩] [0, 3, 4])))))) (.seq
  (.region none [ ⟨some 22, none, .mv (.t 3)⟩, ⟨some 2, none, .mv (.t 22)⟩] [2]) .ret))))

def j25 : F where
 np := 1
 rs := [.t 2]
 body :=
  (.seq
  (.region none [ ⟨some 1, none, .box (.t 0)⟩, ⟨some 2, none, .asg (.c (.slice none 0 0))⟩] [1]) (.seq
  (.region none [ ⟨some 7, none, .fld 1 (.t 1)⟩, ⟨some 8, none, .ld none (.t 7)⟩, ⟨some 9, none, .call (.f 267) [((.t 8), .r)]⟩, ⟨some 3, none, .asg (.t 9)⟩] [1, 3]) (.seq
  (.region none [ ⟨some 10, none, .fld 0 (.t 1)⟩, ⟨some 11, none, .ld none (.t 10)⟩, ⟨some 12, none, .len (.t 11)⟩, ⟨some 13, none, .call (.f 335) [((.t 12), .r)]⟩, ⟨some 4, none, .asg (.t 13)⟩] [1, 3, 4]) (.seq (.seq
  (.region none [ ⟨some 14, none, .mv (.t 4)⟩, ⟨some 15, none, .len (.t 14)⟩, ⟨some 16, none, .mv (.c (.int .i64 0))⟩] [1, 3, 4, 15, 16]) (.block 0 (.loop (.seq
  (.region none [ ⟨some 17, none, .bin .lss (.t 16) (.t 15)⟩] [1, 3, 4, 15, 16, 17]) (.seq (.cond (.t 17) .skip (.exit 0)) (.seq (.block 1 (.seq
  (.region none [ ⟨some 18, none, .mv (.t 16)⟩, ⟨some 5, none, .mv (.t 18)⟩] [1, 3, 4, 5, 15, 16]) (.seq
  (.region none [ ⟨some 19, none, .mv (.t 5)⟩, ⟨some 20, none, .mv (.c (.int .i64 0))⟩] [1, 3, 4, 5, 15, 16, 19, 20]) (.block 2 (.loop (.seq
  (.region none [ ⟨some 21, none, .bin .lss (.t 20) (.t 19)⟩] [1, 3, 4, 5, 15, 16, 19, 20, 21]) (.seq (.cond (.t 21) .skip (.exit 2)) (.seq (.block 3 (.seq
  (.region none [ ⟨some 22, none, .mv (.t 20)⟩, ⟨some 6, none, .mv (.t 22)⟩] [1, 3, 4, 5, 6, 15, 16, 19, 20]) (.seq
  (.region (some [23, 24, 25, 26, 27, 28, 29, 30, 31, 32, 35, 36, 37, 38, 39, 40, 41, 42]) [ ⟨some 23, none, .fld 0 (.t 1)⟩, ⟨some 24, none, .ld none (.t 23)⟩, ⟨some 25, none, .mv (.t 5)⟩, ⟨some 26, none, .idx 1 (.t 24) (.t 25)⟩, ⟨some 27, none, .ld none (.t 26)⟩, ⟨some 28, none, .fld 0 (.t 1)⟩, ⟨some 29, none, .ld none (.t 28)⟩, ⟨some 30, none, .mv (.t 6)⟩, ⟨some 31, none, .idx 1 (.t 29) (.t 30)⟩, ⟨some 32, none, .ld none (.t 31)⟩, ⟨some 33, none, .call (.f 276) [((.t 27), .r), ((.t 32), .r)]⟩, ⟨some 34, none, .mv (.t 33)⟩, ⟨some 35, (some (34, true)), .mv (.t 3)⟩, ⟨some 36, (some (34, true)), .mv (.t 5)⟩, ⟨some 37, (some (34, true)), .idx 1 (.t 35) (.t 36)⟩, ⟨some 38, (some (34, true)), .ld none (.t 37)⟩, ⟨some 39, (some (34, true)), .mv (.t 3)⟩, ⟨some 40, (some (34, true)), .mv (.t 6)⟩, ⟨some 41, (some (34, true)), .idx 1 (.t 39) (.t 40)⟩, ⟨some 42, (some (34, true)), .ld none (.t 41)⟩, ⟨some 43, (some (34, true)), .call (.f 276) [((.t 38), .r), ((.t 42), .r)]⟩, ⟨some 44, none, .pick (.t 34) (.t 43) (.c (.bool false))⟩] [1, 3, 4, 5, 6, 15, 16, 19, 20, 44]) (.cond (.t 44) (.seq
  (.region none [ ⟨some 45, none, .mv (.t 4)⟩, ⟨some 46, none, .mv (.t 5)⟩, ⟨some 47, none, .mv (.t 4)⟩, ⟨some 48, none, .mv (.t 6)⟩, ⟨some 49, none, .idx 1 (.t 47) (.t 48)⟩, ⟨some 50, none, .ld none (.t 49)⟩, ⟨some 51, none, .idx 1 (.t 45) (.t 46)⟩, ⟨none, none, .st none (.t 51) (.t 50)⟩] [1, 3, 4, 15, 16]) (.exit 2)) .skip))))
  (.region none [ ⟨some 52, none, .bin .add (.t 20) (.c (.int .i64 1))⟩, ⟨some 20, none, .mv (.t 52)⟩] [1, 3, 4, 5, 15, 16, 19, 20])))))))))
  (.region none [ ⟨some 53, none, .bin .add (.t 16) (.c (.int .i64 1))⟩, ⟨some 16, none, .mv (.t 53)⟩] [1, 3, 4, 15, 16]))))))) (.seq
  (.region none [ ⟨some 54, none, .mv (.t 4)⟩, ⟨some 55, none, .call (.f 386) [((.t 54), .r)]⟩, ⟨some 2, none, .asg (.t 55)⟩] [2]) .ret)))))

def j40 : F where
 np := 1
 rs := [.t 2]
 body :=
  (.seq
  (.region none [ ⟨some 2, none, .asg (.c (.slice none 0 0))⟩] [0]) (.seq
  (.region none [ ⟨some 5, none, .mv (.t 0)⟩, ⟨some 6, none, .mks (.int .i64 0) (.t 5)⟩, ⟨some 3, none, .asg (.t 6)⟩] [3]) (.seq (.seq
  (.region none [ ⟨some 7, none, .mv (.t 3)⟩, ⟨some 8, none, .len (.t 7)⟩, ⟨some 9, none, .mv (.c (.int .i64 0))⟩] [3, 8, 9]) (.block 0 (.loop (.seq
  (.region none [ ⟨some 10, none, .bin .lss (.t 9) (.t 8)⟩] [3, 8, 9, 10]) (.seq (.cond (.t 10) .skip (.exit 0)) (.seq (.block 1 (.seq
  (.region none [ ⟨some 11, none, .mv (.t 9)⟩, ⟨some 4, none, .mv (.t 11)⟩] [3, 4, 8, 9])
  (.region none [ ⟨some 12, none, .mv (.t 3)⟩, ⟨some 13, none, .mv (.t 4)⟩, ⟨some 14, none, .mv (.t 4)⟩, ⟨some 15, none, .idx 1 (.t 12) (.t 13)⟩, ⟨none, none, .st none (.t 15) (.t 14)⟩] [3, 8, 9])))
  (.region none [ ⟨some 16, none, .bin .add (.t 9) (.c (.int .i64 1))⟩, ⟨some 9, none, .mv (.t 16)⟩] [3, 8, 9]))))))) (.seq
  (.region none [ ⟨some 17, none, .mv (.t 3)⟩, ⟨some 2, none, .asg (.t 17)⟩] [2]) .ret))))

def j4y : F where
 np := 1
 rs := [.t 2]
 body :=
  (.seq
  (.region none [ ⟨some 2, none, .asg (.c (.slice none 0 0))⟩] [0]) (.seq
  (.region none [ ⟨some 3, none, .asg (.c (.slice none 0 0))⟩] [0, 3]) (.seq
  (.region none [ ⟨some 8, none, .mv (.t 0)⟩, ⟨some 9, none, .len (.t 8)⟩, ⟨some 10, none, .mks (.int .i64 0) (.t 9)⟩, ⟨some 4, none, .asg (.t 10)⟩] [0, 3, 4]) (.seq (.seq
  (.region none [ ⟨some 11, none, .mv (.t 0)⟩, ⟨some 12, none, .len (.t 11)⟩, ⟨some 13, none, .mv (.c (.int .i64 0))⟩] [3, 4, 11, 12, 13]) (.block 0 (.loop (.seq
  (.region none [ ⟨some 14, none, .bin .lss (.t 13) (.t 12)⟩] [3, 4, 11, 12, 13, 14]) (.seq (.cond (.t 14) .skip (.exit 0)) (.seq (.block 1 (.seq
  (.region none [ ⟨some 15, none, .mv (.t 13)⟩, ⟨some 16, none, .idx 1 (.t 11) (.t 13)⟩, ⟨some 17, none, .ld none (.t 16)⟩, ⟨some 5, none, .mv (.t 15)⟩, ⟨some 6, none, .mv (.t 17)⟩] [3, 4, 5, 6, 11, 12, 13]) (.seq
  (.region none [ ⟨some 18, none, .mv (.t 3)⟩, ⟨some 19, none, .mv (.t 6)⟩, ⟨some 20, none, .call (.f 384) [((.t 18), .r), ((.t 19), .r)]⟩, ⟨some 7, none, .mv (.t 20)⟩] [3, 4, 5, 6, 7, 11, 12, 13]) (.seq (.seq
  (.region none [ ⟨some 21, none, .mv (.t 7)⟩, ⟨some 22, none, .bin .lss (.t 21) (.c (.int .i64 0))⟩] [3, 4, 5, 6, 7, 11, 12, 13, 22]) (.cond (.t 22) (.seq
  (.region none [ ⟨some 23, none, .mv (.t 3)⟩, ⟨some 24, none, .len (.t 23)⟩, ⟨some 7, none, .mv (.t 24)⟩] [3, 4, 5, 6, 7, 11, 12, 13])
  (.region none [ ⟨some 25, none, .mv (.t 3)⟩, ⟨some 26, none, .mv (.t 6)⟩, ⟨some 27, none, .bsl [(.t 26)]⟩, ⟨some 28, none, .app true 1 (.t 25) (.t 27)⟩, ⟨some 3, none, .asg (.t 28)⟩] [3, 4, 5, 7, 11, 12, 13])) .skip))
  (.region none [ ⟨some 29, none, .mv (.t 4)⟩, ⟨some 30, none, .mv (.t 5)⟩, ⟨some 31, none, .mv (.t 7)⟩, ⟨some 32, none, .idx 1 (.t 29) (.t 30)⟩, ⟨none, none, .st none (.t 32) (.t 31)⟩] [3, 4, 11, 12, 13])))))
  (.region none [ ⟨some 33, none, .bin .add (.t 13) (.c (.int .i64 1))⟩, ⟨some 13, none, .mv (.t 33)⟩] [3, 4, 11, 12, 13]))))))) (.seq
  (.region none [ ⟨some 34, none, .mv (.t 4)⟩, ⟨some 2, none, .asg (.t 34)⟩] [2]) .ret)))))

def j5f : F where
 np := 1
 rs := [.t 2]
 body :=
  (.seq
  (.region none [ ⟨some 2, none, .asg (.c (.slice none 0 0))⟩] [0]) (.seq
  (.region none [ ⟨some 5, none, .bsl []⟩, ⟨some 3, none, .asg (.t 5)⟩] [0, 3]) (.seq (.seq
  (.region none [ ⟨some 4, none, .mv (.c (.int .i64 0))⟩] [0, 3, 4]) (.block 0 (.loop (.seq (.seq
  (.region none [ ⟨some 6, none, .mv (.t 4)⟩, ⟨some 7, none, .mv (.t 0)⟩, ⟨some 8, none, .bin .lss (.t 6) (.t 7)⟩] [0, 3, 4, 8]) (.cond (.t 8) .skip (.exit 0))) (.seq (.block 1
  (.region none [ ⟨some 11, none, .mv (.t 3)⟩, ⟨some 12, none, .mv (.t 4)⟩, ⟨some 13, none, .bsl [(.t 12)]⟩, ⟨some 14, none, .app true 1 (.t 11) (.t 13)⟩, ⟨some 3, none, .asg (.t 14)⟩] [0, 3, 4]))
  (.region none [ ⟨some 9, none, .mv (.t 4)⟩, ⟨some 10, none, .bin .add (.t 9) (.c (.int .i64 1))⟩, ⟨some 4, none, .mv (.t 10)⟩] [0, 3, 4])))))) (.seq
  (.region none [ ⟨some 15, none, .mv (.t 3)⟩, ⟨some 2, none, .asg (.t 15)⟩] [2]) .ret))))

def j5m : F where
 np := 1
 rs := [.t 2]
 body :=
  (.seq
  (.region none [ ⟨some 2, none, .asg (.c (.slice none 0 0))⟩] [0]) (.seq
  (.region none [ ⟨some 5, none, .mv (.t 0)⟩, ⟨some 6, none, .len (.t 5)⟩, ⟨some 7, none, .mks (.int .i64 0) (.t 6)⟩, ⟨some 3, none, .asg (.t 7)⟩] [0, 3]) (.seq (.seq
  (.region none [ ⟨some 4, none, .mv (.c (.int .i64 0))⟩] [0, 3, 4]) (.block 0 (.loop (.seq (.seq
  (.region none [ ⟨some 8, none, .mv (.t 4)⟩, ⟨some 9, none, .mv (.t 0)⟩, ⟨some 10, none, .len (.t 9)⟩, ⟨some 11, none, .bin .lss (.t 8) (.t 10)⟩] [0, 3, 4, 11]) (.cond (.t 11) .skip (.exit 0))) (.seq (.block 1
  (.region none [ ⟨some 14, none, .mv (.t 3)⟩, ⟨some 15, none, .mv (.t 0)⟩, ⟨some 16, none, .mv (.t 4)⟩, ⟨some 17, none, .idx 1 (.t 15) (.t 16)⟩, ⟨some 18, none, .ld none (.t 17)⟩, ⟨some 19, none, .mv (.t 4)⟩, ⟨some 20, none, .idx 1 (.t 14) (.t 18)⟩, ⟨none, none, .st none (.t 20) (.t 19)⟩] [0, 3, 4]))
  (.region none [ ⟨some 12, none, .mv (.t 4)⟩, ⟨some 13, none, .bin .add (.t 12) (.c (.int .i64 1))⟩, ⟨some 4, none, .mv (.t 13)⟩] [0, 3, 4])))))) (.seq
  (.region none [ ⟨some 21, none, .mv (.t 3)⟩, ⟨some 2, none, .asg (.t 21)⟩] [2]) .ret))))

def j3w : F where
 np := 2
 rs := [.cell 4 (some 2)]
 body :=
  (.seq
  (.region none [ ⟨some 3, none, .box (.t 1)⟩, ⟨some 4, none, .alloc [(.slice none 0 0), (.slice none 0 0)]⟩] [0, 3, 4]) (.seq
  (.region none [ ⟨some 5, none, .mv (.t 0)⟩, ⟨some 6, none, .fnc 391 [(.t 3)]⟩, ⟨some 7, none, .call (.f 376) [((.t 5), .r), ((.t 6), .r)]⟩, ⟨some 8, none, .mv (.t 0)⟩, ⟨some 9, none, .fnc 392 [(.t 3)]⟩, ⟨some 10, none, .call (.f 376) [((.t 8), .r), ((.t 9), .r)]⟩, ⟨some 11, none, .build [(.slice none 0 0), (.slice none 0 0)] [(0, 1, (.t 7)), (1, 1, (.t 10))]⟩, ⟨none, none, .st (some 2) (.t 4) (.t 11)⟩] [4]) .ret))

def j24 : F where
 np := 3
 rs := [.t 5]
 body :=
  (.seq
  (.region none [ ⟨some 5, none, .mv (.c (.int .i64 0))⟩] [0, 1, 2]) (.seq
  (.region none [ ⟨some 9, none, .ld none (.t 2)⟩, ⟨some 10, none, .mv (.t 0)⟩, ⟨some 11, none, .mv (.t 1)⟩, ⟨some 12, none, .call (.t 9) [((.t 10), .r), ((.t 11), .r)]⟩, ⟨some 8, none, .mv (.t 12)⟩, ⟨some 13, none, .ext (.t 8) 0⟩, ⟨some 14, none, .ext (.t 8) 1⟩, ⟨some 6, none, .mv (.t 13)⟩, ⟨some 7, none, .mv (.t 14)⟩] [6]) (.seq
  (.region none [ ⟨some 15, none, .mv (.t 6)⟩, ⟨some 5, none, .mv (.t 15)⟩] [5]) .ret)))

def j23 : F where
 np := 3
 rs := [.t 5]
 body :=
  (.seq
  (.region none [ ⟨some 5, none, .mv (.c (.int .i64 0))⟩] [0, 1, 2]) (.seq
  (.region none [ ⟨some 9, none, .ld none (.t 2)⟩, ⟨some 10, none, .mv (.t 0)⟩, ⟨some 11, none, .mv (.t 1)⟩, ⟨some 12, none, .call (.t 9) [((.t 10), .r), ((.t 11), .r)]⟩, ⟨some 8, none, .mv (.t 12)⟩, ⟨some 13, none, .ext (.t 8) 0⟩, ⟨some 14, none, .ext (.t 8) 1⟩, ⟨some 6, none, .mv (.t 13)⟩, ⟨some 7, none, .mv (.t 14)⟩] [7]) (.seq
  (.region none [ ⟨some 15, none, .mv (.t 7)⟩, ⟨some 5, none, .mv (.t 15)⟩] [5]) .ret)))

def j4w : F where
 np := 1
 rs := [.t 2]
 body :=
  (.seq
  (.region none [ ⟨some 1, none, .box (.t 0)⟩, ⟨some 2, none, .asg (.c (.slice none 0 0))⟩] [1]) (.seq
  (.region none [ ⟨some 6, none, .ld (some 2) (.t 1)⟩, ⟨some 7, none, .bsls 2 false false [(.t 6)]⟩, ⟨some 3, none, .asg (.t 7)⟩] [3]) (.block 0 (.loop (.block 1 (.seq
  (.region none [ ⟨some 8, none, .mv (.t 3)⟩, ⟨some 9, none, .mv (.t 3)⟩, ⟨some 10, none, .len (.t 9)⟩, ⟨some 11, none, .bin .sub (.t 10) (.c (.int .i64 1))⟩, ⟨some 12, none, .idx 2 (.t 8) (.t 11)⟩, ⟨some 13, none, .ld (some 2) (.t 12)⟩, ⟨some 4, none, .alloc [(.slice none 0 0), (.slice none 0 0)]⟩, ⟨none, none, .st (some 2) (.t 4) (.t 13)⟩] [3, 4]) (.seq
  (.region none [ ⟨some 14, none, .ld (some 2) (.t 4)⟩, ⟨some 15, none, .call (.f 321) [((.t 14), .r)]⟩, ⟨none, none, .freeze 15⟩, ⟨some 5, none, .alloc [(.slice none 0 0), (.slice none 0 0)]⟩, ⟨none, none, .st (some 2) (.t 5) (.t 15)⟩] [3, 4, 5]) (.seq (.seq
  (.region none [ ⟨some 16, none, .fld 0 (.t 5)⟩, ⟨some 17, none, .ld none (.t 16)⟩, ⟨some 18, none, .len (.t 17)⟩, ⟨some 19, none, .fld 0 (.t 4)⟩, ⟨some 20, none, .ld none (.t 19)⟩, ⟨some 21, none, .len (.t 20)⟩, ⟨some 22, none, .bin .eql (.t 18) (.t 21)⟩] [3, 5, 22]) (.cond (.t 22) (.seq
  (.region none [ ⟨some 23, none, .mv (.t 3)⟩, ⟨some 2, none, .asg (.t 23)⟩] [2]) .ret) .skip))
  (.region none [ ⟨some 24, none, .mv (.t 3)⟩, ⟨some 25, none, .ld (some 2) (.t 5)⟩, ⟨some 26, none, .bsls 2 false false [(.t 25)]⟩, ⟨some 27, none, .app true 2 (.t 24) (.t 26)⟩, ⟨some 3, none, .asg (.t 27)⟩] [3])))))))))

def j39 : F where
 np := 1
 rs := [.cell 2 (some 2)]
 body :=
  (.seq
  (.region none [ ⟨some 1, none, .box (.t 0)⟩, ⟨some 2, none, .alloc [(.slice none 0 0), (.slice none 0 0)]⟩] [1, 2]) (.seq
  (.region none [ ⟨some 5, none, .ld (some 2) (.t 1)⟩, ⟨some 6, none, .call (.f 291) [((.t 5), .r)]⟩, ⟨some 3, none, .alloc [(.slice none 0 0)]⟩, ⟨none, none, .st none (.t 3) (.t 6)⟩] [1, 2, 3]) (.seq
  (.region none [ ⟨some 7, none, .ld none (.t 3)⟩, ⟨some 8, none, .call (.f 399) [((.t 7), .r)]⟩, ⟨some 4, none, .alloc [(.slice none 0 0)]⟩, ⟨none, none, .st none (.t 4) (.t 8)⟩] [1, 2, 3, 4]) (.seq
  (.region none [ ⟨some 9, none, .ld none (.t 4)⟩, ⟨some 10, none, .len (.t 9)⟩, ⟨some 11, none, .fnc 400 [(.t 4), (.t 3), (.t 1)]⟩, ⟨some 12, none, .call (.f 308) [((.t 10), .r), ((.t 11), .r)]⟩, ⟨none, none, .st (some 2) (.t 2) (.t 12)⟩] [2]) .ret))))

def j5p : F where
 np := 1
 rs := [.t 2]
 body :=
  (.seq
  (.region none [ ⟨some 2, none, .asg (.c (.slice none 0 0))⟩] [0]) (.seq
  (.region none [ ⟨some 3, none, .asg (.c (.slice none 0 0))⟩] [0, 3]) (.seq (.seq
  (.region none [ ⟨some 6, none, .mv (.t 0)⟩, ⟨some 7, none, .len (.t 6)⟩, ⟨some 8, none, .mv (.c (.int .i64 0))⟩] [3, 6, 7, 8]) (.block 0 (.loop (.seq
  (.region none [ ⟨some 9, none, .bin .lss (.t 8) (.t 7)⟩] [3, 6, 7, 8, 9]) (.seq (.cond (.t 9) .skip (.exit 0)) (.seq (.block 1 (.seq
  (.region none [ ⟨some 10, none, .mv (.t 8)⟩, ⟨some 11, none, .idx 1 (.t 6) (.t 8)⟩, ⟨some 12, none, .ld none (.t 11)⟩, ⟨some 4, none, .mv (.t 10)⟩, ⟨some 5, none, .mv (.t 12)⟩] [3, 4, 5, 6, 7, 8]) (.seq
  (.region none [ ⟨some 13, none, .mv (.t 5)⟩, ⟨some 14, none, .mv (.t 3)⟩, ⟨some 15, none, .len (.t 14)⟩, ⟨some 16, none, .bin .eql (.t 13) (.t 15)⟩] [3, 4, 6, 7, 8, 16]) (.cond (.t 16)
  (.region none [ ⟨some 17, none, .mv (.t 3)⟩, ⟨some 18, none, .mv (.t 4)⟩, ⟨some 19, none, .bsl [(.t 18)]⟩, ⟨some 20, none, .app true 1 (.t 17) (.t 19)⟩, ⟨some 3, none, .asg (.t 20)⟩] [3, 6, 7, 8]) .skip))))
  (.region none [ ⟨some 21, none, .bin .add (.t 8) (.c (.int .i64 1))⟩, ⟨some 8, none, .mv (.t 21)⟩] [3, 6, 7, 8]))))))) (.seq
  (.region none [ ⟨some 22, none, .mv (.t 3)⟩, ⟨some 2, none, .asg (.t 22)⟩] [2]) .ret))))

def j3j : F where
 np := 5
 rs := [.t 7, .t 8]
 body :=
  (.seq
  (.region none [ ⟨some 7, none, .mv (.c (.int .i64 0))⟩, ⟨some 8, none, .mv (.c (.int .i64 0))⟩] [0, 1, 2, 3, 4]) (.seq
  (.region (some [9, 11, 12, 13, 14, 15, 16, 17, 18]) [ ⟨some 11, none, .ld none (.t 2)⟩, ⟨some 12, none, .mv (.t 0)⟩, ⟨some 13, none, .idx 1 (.t 11) (.t 12)⟩, ⟨some 14, none, .ld none (.t 13)⟩, ⟨some 15, none, .ld none (.t 2)⟩, ⟨some 16, none, .mv (.t 1)⟩, ⟨some 17, none, .idx 1 (.t 15) (.t 16)⟩, ⟨some 18, none, .ld none (.t 17)⟩, ⟨some 9, none, .mv (.t 14)⟩, ⟨some 10, none, .mv (.t 18)⟩] [3, 4, 9, 10]) (.seq
  (.region (some [7, 19, 20, 21, 22, 23, 24, 25, 26, 27, 28, 29, 30, 31, 32, 33, 34, 35, 36, 37, 38, 39, 40]) [ ⟨some 19, none, .ld none (.t 3)⟩, ⟨some 20, none, .fld 0 (.t 4)⟩, ⟨some 21, none, .ld none (.t 20)⟩, ⟨some 22, none, .mv (.t 9)⟩, ⟨some 23, none, .idx 1 (.t 21) (.t 22)⟩, ⟨some 24, none, .ld none (.t 23)⟩, ⟨some 25, none, .mv (.t 10)⟩, ⟨some 26, none, .idx 1 (.t 24) (.t 25)⟩, ⟨some 27, none, .ld none (.t 26)⟩, ⟨some 28, none, .idx 1 (.t 19) (.t 27)⟩, ⟨some 29, none, .ld none (.t 28)⟩, ⟨some 30, none, .ld none (.t 3)⟩, ⟨some 31, none, .fld 1 (.t 4)⟩, ⟨some 32, none, .ld none (.t 31)⟩, ⟨some 33, none, .mv (.t 9)⟩, ⟨some 34, none, .idx 1 (.t 32) (.t 33)⟩, ⟨some 35, none, .ld none (.t 34)⟩, ⟨some 36, none, .mv (.t 10)⟩, ⟨some 37, none, .idx 1 (.t 35) (.t 36)⟩, ⟨some 38, none, .ld none (.t 37)⟩, ⟨some 39, none, .idx 1 (.t 30) (.t 38)⟩, ⟨some 40, none, .ld none (.t 39)⟩, ⟨some 7, none, .mv (.t 29)⟩, ⟨some 8, none, .mv (.t 40)⟩] [7, 8]) .ret)))

def j3t : F where
 np := 2
 rs := [.t 4]
 body :=
  (.seq
  (.region none [ ⟨some 4, none, .asg (.c (.slice none 0 0))⟩] [0, 1]) (.seq
  (.region none [ ⟨some 7, none, .bsl []⟩, ⟨some 5, none, .asg (.t 7)⟩] [0, 1, 5]) (.seq (.seq
  (.region none [ ⟨some 6, none, .mv (.c (.int .i64 0))⟩] [0, 1, 5, 6]) (.block 0 (.loop (.seq (.seq
  (.region none [ ⟨some 8, none, .mv (.t 6)⟩, ⟨some 9, none, .mv (.t 0)⟩, ⟨some 10, none, .len (.t 9)⟩, ⟨some 11, none, .bin .lss (.t 8) (.t 10)⟩] [0, 1, 5, 6, 11]) (.cond (.t 11) .skip (.exit 0))) (.seq (.block 1 (.seq
  (.region none [ ⟨some 14, none, .mv (.t 0)⟩, ⟨some 15, none, .mv (.t 6)⟩, ⟨some 16, none, .idx 1 (.t 14) (.t 15)⟩, ⟨some 17, none, .ld none (.t 16)⟩, ⟨some 18, none, .mv (.t 1)⟩, ⟨some 19, none, .bin .eql (.t 17) (.t 18)⟩] [0, 1, 5, 6, 19]) (.cond (.t 19)
  (.region none [ ⟨some 20, none, .mv (.t 5)⟩, ⟨some 21, none, .mv (.t 6)⟩, ⟨some 22, none, .bsl [(.t 21)]⟩, ⟨some 23, none, .app true 1 (.t 20) (.t 22)⟩, ⟨some 5, none, .asg (.t 23)⟩] [0, 1, 5, 6]) .skip)))
  (.region none [ ⟨some 12, none, .mv (.t 6)⟩, ⟨some 13, none, .bin .add (.t 12) (.c (.int .i64 1))⟩, ⟨some 6, none, .mv (.t 13)⟩] [0, 1, 5, 6])))))) (.seq
  (.region none [ ⟨some 24, none, .mv (.t 5)⟩, ⟨some 4, none, .asg (.t 24)⟩] [4]) .ret))))

def j4x : F where
 np := 2
 rs := [.t 4]
 body :=
  (.seq
  (.region none [ ⟨some 4, none, .asg (.c (.slice none 0 0))⟩] [0, 1]) (.seq
  (.region none [ ⟨some 5, none, .asg (.c (.slice none 0 0))⟩] [0, 1, 5]) (.seq (.seq
  (.region none [ ⟨some 8, none, .mv (.t 0)⟩, ⟨some 9, none, .len (.t 8)⟩, ⟨some 10, none, .mv (.c (.int .i64 0))⟩] [1, 5, 8, 9, 10]) (.block 0 (.loop (.seq
  (.region none [ ⟨some 11, none, .bin .lss (.t 10) (.t 9)⟩] [1, 5, 8, 9, 10, 11]) (.seq (.cond (.t 11) .skip (.exit 0)) (.seq (.block 1 (.seq
  (.region none [ ⟨some 12, none, .mv (.t 10)⟩, ⟨some 13, none, .idx 1 (.t 8) (.t 10)⟩, ⟨some 14, none, .ld none (.t 13)⟩, ⟨some 6, none, .mv (.t 12)⟩, ⟨some 7, none, .mv (.t 14)⟩] [1, 5, 6, 7, 8, 9, 10]) (.seq
  (.region none [ ⟨some 15, none, .mv (.t 7)⟩, ⟨some 16, none, .mv (.t 1)⟩, ⟨some 17, none, .bin .eql (.t 15) (.t 16)⟩] [1, 5, 6, 8, 9, 10, 17]) (.cond (.t 17)
  (.region none [ ⟨some 18, none, .mv (.t 5)⟩, ⟨some 19, none, .mv (.t 6)⟩, ⟨some 20, none, .bsl [(.t 19)]⟩, ⟨some 21, none, .app true 1 (.t 18) (.t 20)⟩, ⟨some 5, none, .asg (.t 21)⟩] [1, 5, 8, 9, 10]) .skip))))
  (.region none [ ⟨some 22, none, .bin .add (.t 10) (.c (.int .i64 1))⟩, ⟨some 10, none, .mv (.t 22)⟩] [1, 5, 8, 9, 10]))))))) (.seq
  (.region none [ ⟨some 23, none, .mv (.t 5)⟩, ⟨some 4, none, .asg (.t 23)⟩] [4]) .ret))))

def j33 : F where
 np := 1
 rs := [.t 2]
 body :=
  (.seq
  (.region none [ ⟨some 1, none, .box (.t 0)⟩, ⟨some 2, none, .asg (.c (.slice none 0 0))⟩] [1]) (.seq
  (.region none [ ⟨some 6, none, .ld (some 2) (.t 1)⟩, ⟨some 7, none, .call (.f 397) [((.t 6), .r)]⟩, ⟨none, none, .freeze 7⟩, ⟨some 8, none, .bsls 2 false false [(.t 7)]⟩, ⟨some 3, none, .asg (.t 8)⟩] [3]) (.block 0 (.loop (.block 1 (.seq
  (.region none [ ⟨some 9, none, .mv (.t 3)⟩, ⟨some 10, none, .mv (.t 3)⟩, ⟨some 11, none, .len (.t 10)⟩, ⟨some 12, none, .bin .sub (.t 11) (.c (.int .i64 1))⟩, ⟨some 13, none, .idx 2 (.t 9) (.t 12)⟩, ⟨some 14, none, .ld (some 2) (.t 13)⟩, ⟨some 4, none, .alloc [(.slice none 0 0), (.slice none 0 0)]⟩, ⟨none, none, .st (some 2) (.t 4) (.t 14)⟩] [3, 4]) (.seq
  (.region none [ ⟨some 15, none, .ld (some 2) (.t 4)⟩, ⟨some 16, none, .call (.f 320) [((.t 15), .r)]⟩, ⟨none, none, .freeze 16⟩, ⟨some 5, none, .alloc [(.slice none 0 0), (.slice none 0 0)]⟩, ⟨none, none, .st (some 2) (.t 5) (.t 16)⟩] [3, 4, 5]) (.seq (.seq
  (.region none [ ⟨some 17, none, .fld 0 (.t 5)⟩, ⟨some 18, none, .ld none (.t 17)⟩, ⟨some 19, none, .len (.t 18)⟩, ⟨some 20, none, .fld 0 (.t 4)⟩, ⟨some 21, none, .ld none (.t 20)⟩, ⟨some 22, none, .len (.t 21)⟩, ⟨some 23, none, .bin .eql (.t 19) (.t 22)⟩] [3, 5, 23]) (.cond (.t 23) (.seq
  (.region none [ ⟨some 24, none, .mv (.t 3)⟩, ⟨some 2, none, .asg (.t 24)⟩] [2]) .ret) .skip))
  (.region none [ ⟨some 25, none, .mv (.t 3)⟩, ⟨some 26, none, .ld (some 2) (.t 5)⟩, ⟨some 27, none, .bsls 2 false false [(.t 26)]⟩, ⟨some 28, none, .app true 2 (.t 25) (.t 27)⟩, ⟨some 3, none, .asg (.t 28)⟩] [3])))))))))

def j53 : F where
 np := 1
 rs := [.cell 2 (some 2)]
 body :=
  (.seq
  (.region none [ ⟨some 1, none, .box (.t 0)⟩, ⟨some 2, none, .alloc [(.slice none 0 0), (.slice none 0 0)]⟩] [1, 2]) (.seq
  (.region (some [3, 4, 5, 6, 7]) [ ⟨some 3, none, .fld 0 (.t 1)⟩, ⟨some 4, none, .ld none (.t 3)⟩, ⟨some 5, none, .call (.f 280) [((.t 4), .r)]⟩, ⟨some 6, none, .fld 1 (.t 1)⟩, ⟨some 7, none, .ld none (.t 6)⟩, ⟨some 8, none, .call (.f 280) [((.t 7), .r)]⟩, ⟨some 9, none, .build [(.slice none 0 0), (.slice none 0 0)] [(0, 1, (.t 5)), (1, 1, (.t 8))]⟩, ⟨none, none, .st (some 2) (.t 2) (.t 9)⟩] [2]) .ret))

def j3r : F where
 np := 1
 rs := [.cell 2 (some 2)]
 body :=
  (.seq
  (.region none [ ⟨some 1, none, .box (.t 0)⟩, ⟨some 2, none, .alloc [(.slice none 0 0), (.slice none 0 0)]⟩] [1, 2]) (.seq
  (.region none [ ⟨some 9, none, .ld (some 2) (.t 1)⟩, ⟨some 10, none, .call (.f 289) [((.t 9), .r)]⟩, ⟨some 3, none, .asg (.t 10)⟩] [1, 2, 3]) (.seq
  (.region none [ ⟨some 11, none, .mv (.t 3)⟩, ⟨some 12, none, .call (.f 288) [((.t 11), .r)]⟩, ⟨some 13, none, .call (.f 398) [((.t 12), .r)]⟩, ⟨some 4, none, .alloc [(.slice none 0 0), (.slice none 0 0)]⟩, ⟨none, none, .st (some 2) (.t 4) (.t 13)⟩] [1, 2, 3, 4]) (.seq (.seq
  (.region none [ ⟨some 5, none, .mv (.c (.int .i64 0))⟩] [1, 2, 3, 4, 5]) (.block 0 (.loop (.seq (.seq
  (.region none [ ⟨some 14, none, .mv (.t 5)⟩, ⟨some 15, none, .mv (.t 3)⟩, ⟨some 16, none, .len (.t 15)⟩, ⟨some 17, none, .bin .lss (.t 14) (.t 16)⟩] [1, 2, 3, 4, 5, 17]) (.cond (.t 17) .skip (.exit 0))) (.seq (.block 1 (.seq
  (.region (some [6, 20, 21, 22, 23, 24, 25, 26, 27, 28, 29, 30, 31, 32, 33, 34, 35]) [ ⟨some 20, none, .fld 0 (.t 4)⟩, ⟨some 21, none, .ld none (.t 20)⟩, ⟨some 22, none, .mv (.t 3)⟩, ⟨some 23, none, .mv (.t 5)⟩, ⟨some 24, none, .idx 1 (.t 22) (.t 23)⟩, ⟨some 25, none, .ld none (.t 24)⟩, ⟨some 26, none, .idx 1 (.t 21) (.t 25)⟩, ⟨some 27, none, .ld none (.t 26)⟩, ⟨some 28, none, .fld 1 (.t 4)⟩, ⟨some 29, none, .ld none (.t 28)⟩, ⟨some 30, none, .mv (.t 3)⟩, ⟨some 31, none, .mv (.t 5)⟩, ⟨some 32, none, .idx 1 (.t 30) (.t 31)⟩, ⟨some 33, none, .ld none (.t 32)⟩, ⟨some 34, none, .idx 1 (.t 29) (.t 33)⟩, ⟨some 35, none, .ld none (.t 34)⟩, ⟨some 6, none, .mv (.t 27)⟩, ⟨some 7, none, .mv (.t 35)⟩] [1, 2, 3, 4, 5, 6, 7]) (.seq
  (.region none [ ⟨some 8, none, .mv (.c (.int .i64 0))⟩] [1, 2, 3, 4, 5, 6, 7, 8]) (.block 2 (.loop (.seq (.seq
  (.region none [ ⟨some 36, none, .mv (.t 8)⟩, ⟨some 37, none, .mv (.t 3)⟩, ⟨some 38, none, .len (.t 37)⟩, ⟨some 39, none, .bin .lss (.t 36) (.t 38)⟩] [1, 2, 3, 4, 5, 6, 7, 8, 39]) (.cond (.t 39) .skip (.exit 2))) (.seq (.block 3 (.seq
  (.region (some [42, 43, 44, 45, 46, 47, 48, 49, 50, 51, 52, 53, 54, 55, 56, 57]) [ ⟨some 42, none, .mv (.t 6)⟩, ⟨some 43, none, .mv (.t 3)⟩, ⟨some 44, none, .mv (.t 8)⟩, ⟨some 45, none, .idx 1 (.t 43) (.t 44)⟩, ⟨some 46, none, .ld none (.t 45)⟩, ⟨some 47, none, .mv (.t 3)⟩, ⟨some 48, none, .fld 0 (.t 1)⟩, ⟨some 49, none, .ld none (.t 48)⟩, ⟨some 50, none, .mv (.t 5)⟩, ⟨some 51, none, .idx 1 (.t 49) (.t 50)⟩, ⟨some 52, none, .ld none (.t 51)⟩, ⟨some 53, none, .mv (.t 8)⟩, ⟨some 54, none, .idx 1 (.t 52) (.t 53)⟩, ⟨some 55, none, .ld none (.t 54)⟩, ⟨some 56, none, .idx 1 (.t 47) (.t 55)⟩, ⟨some 57, none, .ld none (.t 56)⟩, ⟨some 58, none, .idx 1 (.t 42) (.t 46)⟩, ⟨none, none, .st none (.t 58) (.t 57)⟩] [1, 2, 3, 4, 5, 6, 7, 8])
  (.region (some [59, 60, 61, 62, 63, 64, 65, 66, 67, 68, 69, 70, 71, 72, 73, 74]) [ ⟨some 59, none, .mv (.t 7)⟩, ⟨some 60, none, .mv (.t 3)⟩, ⟨some 61, none, .mv (.t 8)⟩, ⟨some 62, none, .idx 1 (.t 60) (.t 61)⟩, ⟨some 63, none, .ld none (.t 62)⟩, ⟨some 64, none, .mv (.t 3)⟩, ⟨some 65, none, .fld 1 (.t 1)⟩, ⟨some 66, none, .ld none (.t 65)⟩, ⟨some 67, none, .mv (.t 5)⟩, ⟨some 68, none, .idx 1 (.t 66) (.t 67)⟩, ⟨some 69, none, .ld none (.t 68)⟩, ⟨some 70, none, .mv (.t 8)⟩, ⟨some 71, none, .idx 1 (.t 69) (.t 70)⟩, ⟨some 72, none, .ld none (.t 71)⟩, ⟨some 73, none, .idx 1 (.t 64) (.t 72)⟩, ⟨some 74, none, .ld none (.t 73)⟩, ⟨some 75, none, .idx 1 (.t 59) (.t 63)⟩, ⟨none, none, .st none (.t 75) (.t 74)⟩] [1, 2, 3, 4, 5, 6, 7, 8])))
  (.region none [ ⟨some 40, none, .mv (.t 8)⟩, ⟨some 41, none, .bin .add (.t 40) (.c (.int .i64 1))⟩, ⟨some 8, none, .mv (.t 41)⟩] [1, 2, 3, 4, 5, 6, 7, 8]))))))))
  (.region none [ ⟨some 18, none, .mv (.t 5)⟩, ⟨some 19, none, .bin .add (.t 18) (.c (.int .i64 1))⟩, ⟨some 5, none, .mv (.t 19)⟩] [1, 2, 3, 4, 5])))))) (.seq
  (.region none [ ⟨some 76, none, .ld (some 2) (.t 4)⟩, ⟨none, none, .st (some 2) (.t 2) (.t 76)⟩] [2]) .ret)))))

def j4s : F where
 np := 1
 rs := [.cell 2 (some 2)]
 body :=
  (.seq
  (.region none [ ⟨some 2, none, .alloc [(.slice none 0 0), (.slice none 0 0)]⟩] [0, 2]) (.seq
  (.region none [ ⟨some 5, none, .build [(.slice none 0 0), (.slice none 0 0)] []⟩, ⟨some 3, none, .alloc [(.slice none 0 0), (.slice none 0 0)]⟩, ⟨none, none, .st (some 2) (.t 3) (.t 5)⟩] [0, 2, 3]) (.seq (.seq
  (.region none [ ⟨some 4, none, .mv (.c (.int .i64 0))⟩] [0, 2, 3, 4]) (.block 0 (.loop (.seq (.seq
  (.region none [ ⟨some 6, none, .mv (.t 4)⟩, ⟨some 7, none, .mv (.t 0)⟩, ⟨some 8, none, .bin .lss (.t 6) (.t 7)⟩] [0, 2, 3, 4, 8]) (.cond (.t 8) .skip (.exit 0))) (.seq (.block 1 (.seq
  (.region (some [11, 12, 13, 14, 15]) [ ⟨some 11, none, .fld 0 (.t 3)⟩, ⟨some 12, none, .ld none (.t 11)⟩, ⟨some 13, none, .mv (.t 0)⟩, ⟨some 14, none, .mks (.int .i64 0) (.t 13)⟩, ⟨some 15, none, .bsl1 14⟩, ⟨some 16, none, .app true 1 (.t 12) (.t 15)⟩, ⟨some 17, none, .fld 0 (.t 3)⟩, ⟨none, none, .st none (.t 17) (.t 16)⟩] [0, 2, 3, 4])
  (.region (some [18, 19, 20, 21, 22]) [ ⟨some 18, none, .fld 1 (.t 3)⟩, ⟨some 19, none, .ld none (.t 18)⟩, ⟨some 20, none, .mv (.t 0)⟩, ⟨some 21, none, .mks (.int .i64 0) (.t 20)⟩, ⟨some 22, none, .bsl1 21⟩, ⟨some 23, none, .app true 1 (.t 19) (.t 22)⟩, ⟨some 24, none, .fld 1 (.t 3)⟩, ⟨none, none, .st none (.t 24) (.t 23)⟩] [0, 2, 3, 4])))
  (.region none [ ⟨some 9, none, .mv (.t 4)⟩, ⟨some 10, none, .bin .add (.t 9) (.c (.int .i64 1))⟩, ⟨some 4, none, .mv (.t 10)⟩] [0, 2, 3, 4])))))) (.seq
  (.region none [ ⟨some 25, none, .ld (some 2) (.t 3)⟩, ⟨none, none, .st (some 2) (.t 2) (.t 25)⟩] [2]) .ret))))

def j38 : F where
 np := 1
 rs := [.cell 2 (some 2), .t 3]
 body :=
  (.seq
  (.region none [ ⟨some 1, none, .box (.t 0)⟩, ⟨some 2, none, .alloc [(.slice none 0 0), (.slice none 0 0)]⟩, ⟨some 3, none, .mv (.c (.int .i64 0))⟩] [1, 2]) (.seq (.seq
  (.region none [ ⟨some 4, none, .ld (some 2) (.t 1)⟩, ⟨some 5, none, .call (.f 264) [((.t 4), .r)]⟩, ⟨some 6, none, .un .not (.t 5)⟩] [1, 2, 6]) (.cond (.t 6) (.seq
  (.region none [ ⟨some 7, none, .build [(.slice none 0 0), (.slice none 0 0)] []⟩, ⟨none, none, .st (some 2) (.t 2) (.t 7)⟩, ⟨some 3, none, .mv (.c (.int .i64 1))⟩] [2, 3]) .ret) .skip)) (.seq
  (.region none [ ⟨some 8, none, .ld (some 2) (.t 1)⟩, ⟨some 9, none, .call (.f 320) [((.t 8), .r)]⟩, ⟨none, none, .st (some 2) (.t 2) (.t 9)⟩, ⟨some 3, none, .mv (.c (.int .i64 0))⟩] [2, 3]) .ret)))

def j4c : F where
 np := 1
 rs := [.cell 2 (some 2), .t 3]
 body :=
  (.seq
  (.region none [ ⟨some 1, none, .box (.t 0)⟩, ⟨some 2, none, .alloc [(.slice none 0 0), (.slice none 0 0)]⟩, ⟨some 3, none, .mv (.c (.int .i64 0))⟩] [1, 2]) (.seq (.seq
  (.region none [ ⟨some 4, none, .ld (some 2) (.t 1)⟩, ⟨some 5, none, .call (.f 266) [((.t 4), .r)]⟩, ⟨some 6, none, .un .not (.t 5)⟩] [1, 2, 6]) (.cond (.t 6) (.seq
  (.region none [ ⟨some 7, none, .build [(.slice none 0 0), (.slice none 0 0)] []⟩, ⟨none, none, .st (some 2) (.t 2) (.t 7)⟩, ⟨some 3, none, .mv (.c (.int .i64 1))⟩] [2, 3]) .ret) .skip)) (.seq
  (.region none [ ⟨some 8, none, .ld (some 2) (.t 1)⟩, ⟨some 9, none, .call (.f 321) [((.t 8), .r)]⟩, ⟨none, none, .st (some 2) (.t 2) (.t 9)⟩, ⟨some 3, none, .mv (.c (.int .i64 0))⟩] [2, 3]) .ret)))

def j1i : F where
 np := 1
 rs := [.t 2, .t 3]
 body :=
  (.seq
  (.region none [ ⟨some 1, none, .box (.t 0)⟩, ⟨some 2, none, .asg (.c (.slice none 0 0))⟩, ⟨some 3, none, .mv (.c (.int .i64 0))⟩] [1]) (.seq (.seq
  (.region none [ ⟨some 7, none, .ld (some 2) (.t 1)⟩, ⟨some 8, none, .call (.f 266) [((.t 7), .r)]⟩, ⟨some 9, none, .un .not (.t 8)⟩] [1, 9]) (.cond (.t 9) (.seq
  (.region none [ ⟨some 2, none, .asg (.c (.slice none 0 0))⟩, ⟨some 3, none, .mv (.c (.int .i64 1))⟩] [2, 3]) .ret) .skip)) (.seq
  (.region none [ ⟨some 4, none, .asg (.c (.slice none 0 0))⟩] [1, 4]) (.seq (.seq
  (.region none [ ⟨some 10, none, .ld (some 2) (.t 1)⟩, ⟨some 11, none, .call (.f 310) [((.t 10), .r)]⟩, ⟨some 12, none, .len (.t 11)⟩, ⟨some 13, none, .mv (.c (.int .i64 0))⟩] [4, 11, 12, 13]) (.block 0 (.loop (.seq
  (.region none [ ⟨some 14, none, .bin .lss (.t 13) (.t 12)⟩] [4, 11, 12, 13, 14]) (.seq (.cond (.t 14) .skip (.exit 0)) (.seq (.block 1 (.seq
  (.region none [ ⟨some 15, none, .idx 2 (.t 11) (.t 13)⟩, ⟨some 16, none, .ld (some 2) (.t 15)⟩, ⟨some 6, none, .alloc [(.slice none 0 0), (.slice none 0 0)]⟩, ⟨none, none, .st (some 2) (.t 6) (.t 16)⟩] [4, 6, 11, 12, 13])
  (.region none [ ⟨some 17, none, .mv (.t 4)⟩, ⟨some 18, none, .fld 0 (.t 6)⟩, ⟨some 19, none, .ld none (.t 18)⟩, ⟨some 20, none, .len (.t 19)⟩, ⟨some 21, none, .bsl [(.t 20)]⟩, ⟨some 22, none, .app true 1 (.t 17) (.t 21)⟩, ⟨some 4, none, .asg (.t 22)⟩] [4, 11, 12, 13])))
  (.region none [ ⟨some 23, none, .bin .add (.t 13) (.c (.int .i64 1))⟩, ⟨some 13, none, .mv (.t 23)⟩] [4, 11, 12, 13]))))))) (.seq
  (.region none [ ⟨some 24, none, .mv (.t 4)⟩, ⟨some 2, none, .asg (.t 24)⟩, ⟨some 3, none, .mv (.c (.int .i64 0))⟩] [2, 3]) .ret)))))

def j2n : F where
 np := 2
 rs := [.cell 4 (some 2), .t 5]
 body :=
  (.seq
  (.region none [ ⟨some 2, none, .box (.t 0)⟩, ⟨some 4, none, .alloc [(.slice none 0 0), (.slice none 0 0)]⟩, ⟨some 5, none, .mv (.c (.int .i64 0))⟩] [1, 2, 4]) (.seq (.seq
  (.region none [ ⟨some 7, none, .ld (some 2) (.t 2)⟩, ⟨some 8, none, .call (.f 264) [((.t 7), .r)]⟩, ⟨some 9, none, .un .not (.t 8)⟩] [1, 2, 4, 9]) (.cond (.t 9) (.seq
  (.region none [ ⟨some 10, none, .build [(.slice none 0 0), (.slice none 0 0)] []⟩, ⟨none, none, .st (some 2) (.t 4) (.t 10)⟩, ⟨some 5, none, .mv (.c (.int .i64 1))⟩] [4, 5]) .ret) .skip)) (.seq
  (.region none [ ⟨some 11, none, .ld (some 2) (.t 2)⟩, ⟨some 12, none, .call (.f 289) [((.t 11), .r)]⟩, ⟨some 13, none, .mv (.t 1)⟩, ⟨some 14, none, .call (.f 316) [((.t 12), .r), ((.t 13), .r)]⟩, ⟨some 6, none, .asg (.t 14)⟩] [2, 4, 6]) (.seq (.seq
  (.region none [ ⟨some 15, none, .mv (.t 6)⟩, ⟨some 16, none, .len (.t 15)⟩, ⟨some 17, none, .bin .eql (.t 16) (.c (.int .i64 0))⟩, ⟨some 18, none, .mv (.t 17)⟩, ⟨some 19, (some (18, false)), .ld (some 2) (.t 2)⟩, ⟨some 20, (some (18, false)), .mv (.t 6)⟩, ⟨some 21, (some (18, false)), .call (.f 331) [((.t 19), .r), ((.t 20), .r)]⟩, ⟨some 22, (some (18, false)), .un .not (.t 21)⟩, ⟨some 23, none, .pick (.t 18) (.c (.bool true)) (.t 22)⟩] [2, 4, 6, 23]) (.cond (.t 23) (.seq
  (.region none [ ⟨some 24, none, .build [(.slice none 0 0), (.slice none 0 0)] []⟩, ⟨none, none, .st (some 2) (.t 4) (.t 24)⟩, ⟨some 5, none, .mv (.c (.int .i64 4))⟩] [4, 5]) .ret) .skip)) (.seq
  (.region none [ ⟨some 25, none, .ld (some 2) (.t 2)⟩, ⟨some 26, none, .mv (.t 6)⟩, ⟨some 27, none, .call (.f 332) [((.t 25), .r), ((.t 26), .r)]⟩, ⟨none, none, .st (some 2) (.t 4) (.t 27)⟩, ⟨some 5, none, .mv (.c (.int .i64 0))⟩] [4, 5]) .ret)))))

def j35 : F where
 np := 2
 rs := [.t 4]
 body :=
  (.seq
  (.region none [ ⟨some 2, none, .box (.t 0)⟩, ⟨some 4, none, .mv (.c (.bool false))⟩] [1, 2]) (.seq (.seq
  (.region none [ ⟨some 5, none, .mv (.c (.int .i64 0))⟩] [1, 2, 5]) (.block 0 (.loop (.seq (.seq
  (.region none [ ⟨some 7, none, .mv (.t 5)⟩, ⟨some 8, none, .mv (.t 1)⟩, ⟨some 9, none, .len (.t 8)⟩, ⟨some 10, none, .bin .lss (.t 7) (.t 9)⟩] [1, 2, 5, 10]) (.cond (.t 10) .skip (.exit 0))) (.seq (.block 1 (.seq
  (.region none [ ⟨some 6, none, .mv (.c (.int .i64 0))⟩] [1, 2, 5, 6]) (.block 2 (.loop (.seq (.seq
  (.region none [ ⟨some 13, none, .mv (.t 6)⟩, ⟨some 14, none, .mv (.t 1)⟩, ⟨some 15, none, .len (.t 14)⟩, ⟨some 16, none, .bin .lss (.t 13) (.t 15)⟩] [1, 2, 5, 6, 16]) (.cond (.t 16) .skip (.exit 2))) (.seq (.block 3 (.seq
  (.region (some [19, 20, 21, 22, 23, 24, 25, 26, 27, 28, 29, 30, 31, 32, 33, 37, 38, 39, 40, 41, 42, 43, 44, 45, 46, 47, 48, 49, 50, 51]) [ ⟨some 19, none, .mv (.t 1)⟩, ⟨some 20, none, .fld 0 (.t 2)⟩, ⟨some 21, none, .ld none (.t 20)⟩, ⟨some 22, none, .mv (.t 1)⟩, ⟨some 23, none, .mv (.t 5)⟩, ⟨some 24, none, .idx 1 (.t 22) (.t 23)⟩, ⟨some 25, none, .ld none (.t 24)⟩, ⟨some 26, none, .idx 1 (.t 21) (.t 25)⟩, ⟨some 27, none, .ld none (.t 26)⟩, ⟨some 28, none, .mv (.t 1)⟩, ⟨some 29, none, .mv (.t 6)⟩, ⟨some 30, none, .idx 1 (.t 28) (.t 29)⟩, ⟨some 31, none, .ld none (.t 30)⟩, ⟨some 32, none, .idx 1 (.t 27) (.t 31)⟩, ⟨some 33, none, .ld none (.t 32)⟩, ⟨some 34, none, .call (.f 62) [((.t 19), .r), ((.t 33), .r)]⟩, ⟨some 35, none, .un .not (.t 34)⟩, ⟨some 36, none, .mv (.t 35)⟩, ⟨some 37, (some (36, false)), .mv (.t 1)⟩, ⟨some 38, (some (36, false)), .fld 1 (.t 2)⟩, ⟨some 39, (some (36, false)), .ld none (.t 38)⟩, ⟨some 40, (some (36, false)), .mv (.t 1)⟩, ⟨some 41, (some (36, false)), .mv (.t 5)⟩, ⟨some 42, (some (36, false)), .idx 1 (.t 40) (.t 41)⟩, ⟨some 43, (some (36, false)), .ld none (.t 42)⟩, ⟨some 44, (some (36, false)), .idx 1 (.t 39) (.t 43)⟩, ⟨some 45, (some (36, false)), .ld none (.t 44)⟩, ⟨some 46, (some (36, false)), .mv (.t 1)⟩, ⟨some 47, (some (36, false)), .mv (.t 6)⟩, ⟨some 48, (some (36, false)), .idx 1 (.t 46) (.t 47)⟩, ⟨some 49, (some (36, false)), .ld none (.t 48)⟩, ⟨some 50, (some (36, false)), .idx 1 (.t 45) (.t 49)⟩, ⟨some 51, (some (36, false)), .ld none (.t 50)⟩, ⟨some 52, (some (36, false)), .call (.f 62) [((.t 37), .r), ((.t 51), .r)]⟩, ⟨some 53, (some (36, false)), .un .not (.t 52)⟩, ⟨some 54, none, .pick (.t 36) (.c (.bool true)) (.t 53)⟩] [1, 2, 5, 6, 54]) (.cond (.t 54) (.seq
  (.region none [ ⟨some 4, none, .mv (.c (.bool false))⟩] [4]) .ret) .skip)))
  (.region none [ ⟨some 17, none, .mv (.t 6)⟩, ⟨some 18, none, .bin .add (.t 17) (.c (.int .i64 1))⟩, ⟨some 6, none, .mv (.t 18)⟩] [1, 2, 5, 6])))))))
  (.region none [ ⟨some 11, none, .mv (.t 5)⟩, ⟨some 12, none, .bin .add (.t 11) (.c (.int .i64 1))⟩, ⟨some 5, none, .mv (.t 12)⟩] [1, 2, 5])))))) (.seq
  (.region none [ ⟨some 4, none, .mv (.c (.bool true))⟩] [4]) .ret)))

def j52 : F where
 np := 2
 rs := [.cell 4 (some 2)]
 body :=
  (.seq
  (.region none [ ⟨some 2, none, .box (.t 0)⟩, ⟨some 4, none, .alloc [(.slice none 0 0), (.slice none 0 0)]⟩] [1, 2, 4]) (.seq
  (.region none [ ⟨some 10, none, .build [(.slice none 0 0), (.slice none 0 0)] []⟩, ⟨some 5, none, .alloc [(.slice none 0 0), (.slice none 0 0)]⟩, ⟨none, none, .st (some 2) (.t 5) (.t 10)⟩] [1, 2, 4, 5]) (.seq (.seq
  (.region none [ ⟨some 6, none, .mv (.c (.int .i64 0))⟩] [1, 2, 4, 5, 6]) (.block 0 (.loop (.seq (.seq
  (.region none [ ⟨some 11, none, .mv (.t 6)⟩, ⟨some 12, none, .mv (.t 1)⟩, ⟨some 13, none, .len (.t 12)⟩, ⟨some 14, none, .bin .lss (.t 11) (.t 13)⟩] [1, 2, 4, 5, 6, 14]) (.cond (.t 14) .skip (.exit 0))) (.seq (.block 1 (.seq
  (.region none [ ⟨some 17, none, .bsl []⟩, ⟨some 18, none, .bsl []⟩, ⟨some 7, none, .asg (.t 17)⟩, ⟨some 8, none, .asg (.t 18)⟩] [1, 2, 4, 5, 6, 7, 8]) (.seq (.seq
  (.region none [ ⟨some 9, none, .mv (.c (.int .i64 0))⟩] [1, 2, 4, 5, 6, 7, 8, 9]) (.block 2 (.loop (.seq (.seq
  (.region none [ ⟨some 19, none, .mv (.t 9)⟩, ⟨some 20, none, .mv (.t 1)⟩, ⟨some 21, none, .len (.t 20)⟩, ⟨some 22, none, .bin .lss (.t 19) (.t 21)⟩] [1, 2, 4, 5, 6, 7, 8, 9, 22]) (.cond (.t 22) .skip (.exit 2))) (.seq (.block 3 (.seq
  (.region (some [25, 26, 27, 28, 29, 30, 31, 32, 33, 34, 35, 36, 37, 38, 39, 40, 41, 42]) [ ⟨some 25, none, .mv (.t 7)⟩, ⟨some 26, none, .mv (.t 1)⟩, ⟨some 27, none, .fld 0 (.t 2)⟩, ⟨some 28, none, .ld none (.t 27)⟩, ⟨some 29, none, .mv (.t 1)⟩, ⟨some 30, none, .mv (.t 6)⟩, ⟨some 31, none, .idx 1 (.t 29) (.t 30)⟩, ⟨some 32, none, .ld none (.t 31)⟩, ⟨some 33, none, .idx 1 (.t 28) (.t 32)⟩, ⟨some 34, none, .ld none (.t 33)⟩, ⟨some 35, none, .mv (.t 1)⟩, ⟨some 36, none, .mv (.t 9)⟩, ⟨some 37, none, .idx 1 (.t 35) (.t 36)⟩, ⟨some 38, none, .ld none (.t 37)⟩, ⟨some 39, none, .idx 1 (.t 34) (.t 38)⟩, ⟨some 40, none, .ld none (.t 39)⟩, ⟨some 41, none, .call (.f 69) [((.t 26), .r), ((.t 40), .r)]⟩, ⟨some 42, none, .bslv 1 [(.t 41)]⟩, ⟨some 43, none, .app true 1 (.t 25) (.t 42)⟩, ⟨some 7, none, .asg (.t 43)⟩] [1, 2, 4, 5, 6, 7, 8, 9])
  (.region (some [44, 45, 46, 47, 48, 49, 50, 51, 52, 53, 54, 55, 56, 57, 58, 59, 60, 61]) [ ⟨some 44, none, .mv (.t 8)⟩, ⟨some 45, none, .mv (.t 1)⟩, ⟨some 46, none, .fld 1 (.t 2)⟩, ⟨some 47, none, .ld none (.t 46)⟩, ⟨some 48, none, .mv (.t 1)⟩, ⟨some 49, none, .mv (.t 6)⟩, ⟨some 50, none, .idx 1 (.t 48) (.t 49)⟩, ⟨some 51, none, .ld none (.t 50)⟩, ⟨some 52, none, .idx 1 (.t 47) (.t 51)⟩, ⟨some 53, none, .ld none (.t 52)⟩, ⟨some 54, none, .mv (.t 1)⟩, ⟨some 55, none, .mv (.t 9)⟩, ⟨some 56, none, .idx 1 (.t 54) (.t 55)⟩, ⟨some 57, none, .ld none (.t 56)⟩, ⟨some 58, none, .idx 1 (.t 53) (.t 57)⟩, ⟨some 59, none, .ld none (.t 58)⟩, ⟨some 60, none, .call (.f 69) [((.t 45), .r), ((.t 59), .r)]⟩, ⟨some 61, none, .bslv 1 [(.t 60)]⟩, ⟨some 62, none, .app true 1 (.t 44) (.t 61)⟩, ⟨some 8, none, .asg (.t 62)⟩] [1, 2, 4, 5, 6, 7, 8, 9])))
  (.region none [ ⟨some 23, none, .mv (.t 9)⟩, ⟨some 24, none, .bin .add (.t 23) (.c (.int .i64 1))⟩, ⟨some 9, none, .mv (.t 24)⟩] [1, 2, 4, 5, 6, 7, 8, 9])))))) (.seq
  (.region none [ ⟨some 63, none, .fld 0 (.t 5)⟩, ⟨some 64, none, .ld none (.t 63)⟩, ⟨some 65, none, .mv (.t 7)⟩, ⟨some 66, none, .bsl [(.t 65)]⟩, ⟨some 67, none, .app true 1 (.t 64) (.t 66)⟩, ⟨some 68, none, .fld 0 (.t 5)⟩, ⟨none, none, .st none (.t 68) (.t 67)⟩] [1, 2, 4, 5, 6, 8])
  (.region none [ ⟨some 69, none, .fld 1 (.t 5)⟩, ⟨some 70, none, .ld none (.t 69)⟩, ⟨some 71, none, .mv (.t 8)⟩, ⟨some 72, none, .bsl [(.t 71)]⟩, ⟨some 73, none, .app true 1 (.t 70) (.t 72)⟩, ⟨some 74, none, .fld 1 (.t 5)⟩, ⟨none, none, .st none (.t 74) (.t 73)⟩] [1, 2, 4, 5, 6])))))
  (.region none [ ⟨some 15, none, .mv (.t 6)⟩, ⟨some 16, none, .bin .add (.t 15) (.c (.int .i64 1))⟩, ⟨some 6, none, .mv (.t 16)⟩] [1, 2, 4, 5, 6])))))) (.seq
  (.region none [ ⟨some 75, none, .ld (some 2) (.t 5)⟩, ⟨none, none, .st (some 2) (.t 4) (.t 75)⟩] [4]) .ret))))

def j2q : F where
 np := 2
 rs := [.cell 4 (some 2), .t 5]
 body :=
  (.seq
  (.region none [ ⟨some 2, none, .box (.t 0)⟩, ⟨some 4, none, .alloc [(.slice none 0 0), (.slice none 0 0)]⟩, ⟨some 5, none, .mv (.c (.int .i64 0))⟩] [1, 2, 4]) (.seq (.seq
  (.region none [ ⟨some 7, none, .ld (some 2) (.t 2)⟩, ⟨some 8, none, .call (.f 266) [((.t 7), .r)]⟩, ⟨some 9, none, .un .not (.t 8)⟩] [1, 2, 4, 9]) (.cond (.t 9) (.seq
  (.region none [ ⟨some 10, none, .build [(.slice none 0 0), (.slice none 0 0)] []⟩, ⟨none, none, .st (some 2) (.t 4) (.t 10)⟩, ⟨some 5, none, .mv (.c (.int .i64 1))⟩] [4, 5]) .ret) .skip)) (.seq
  (.region none [ ⟨some 11, none, .ld (some 2) (.t 2)⟩, ⟨some 12, none, .call (.f 291) [((.t 11), .r)]⟩, ⟨some 13, none, .mv (.t 1)⟩, ⟨some 14, none, .call (.f 318) [((.t 12), .r), ((.t 13), .r)]⟩, ⟨some 6, none, .asg (.t 14)⟩] [2, 4, 6]) (.seq (.seq
  (.region none [ ⟨some 15, none, .mv (.t 6)⟩, ⟨some 16, none, .len (.t 15)⟩, ⟨some 17, none, .bin .eql (.t 16) (.c (.int .i64 0))⟩, ⟨some 18, none, .mv (.t 17)⟩, ⟨some 19, (some (18, false)), .ld (some 2) (.t 2)⟩, ⟨some 20, (some (18, false)), .mv (.t 6)⟩, ⟨some 21, (some (18, false)), .call (.f 333) [((.t 19), .r), ((.t 20), .r)]⟩, ⟨some 22, (some (18, false)), .un .not (.t 21)⟩, ⟨some 23, none, .pick (.t 18) (.c (.bool true)) (.t 22)⟩] [2, 4, 6, 23]) (.cond (.t 23) (.seq
  (.region none [ ⟨some 24, none, .build [(.slice none 0 0), (.slice none 0 0)] []⟩, ⟨none, none, .st (some 2) (.t 4) (.t 24)⟩, ⟨some 5, none, .mv (.c (.int .i64 4))⟩] [4, 5]) .ret) .skip)) (.seq
  (.region none [ ⟨some 25, none, .ld (some 2) (.t 2)⟩, ⟨some 26, none, .mv (.t 6)⟩, ⟨some 27, none, .call (.f 239) [((.t 25), .r), ((.t 26), .r)]⟩, ⟨some 28, none, .ext (.t 27) 0⟩, ⟨some 29, none, .ext (.t 27) 1⟩, ⟨none, none, .st (some 2) (.t 4) (.t 28)⟩, ⟨some 5, none, .mv (.t 29)⟩] [4, 5]) .ret)))))

def j4z : F where
 np := 2
 rs := [.t 4]
 body :=
  (.seq
  (.region none [ ⟨some 2, none, .box (.t 0)⟩, ⟨some 4, none, .mv (.c (.bool false))⟩] [1, 2]) (.seq (.seq
  (.region none [ ⟨some 9, none, .mv (.t 1)⟩, ⟨some 10, none, .len (.t 9)⟩, ⟨some 11, none, .mv (.c (.int .i64 0))⟩] [1, 2, 9, 10, 11]) (.block 0 (.loop (.seq
  (.region none [ ⟨some 12, none, .bin .lss (.t 11) (.t 10)⟩] [1, 2, 9, 10, 11, 12]) (.seq (.cond (.t 12) .skip (.exit 0)) (.seq (.block 1 (.seq
  (.region none [ ⟨some 13, none, .idx 1 (.t 9) (.t 11)⟩, ⟨some 14, none, .ld none (.t 13)⟩, ⟨some 6, none, .mv (.t 14)⟩] [1, 2, 6, 9, 10, 11]) (.seq
  (.region none [ ⟨some 15, none, .mv (.t 1)⟩, ⟨some 16, none, .len (.t 15)⟩, ⟨some 17, none, .mv (.c (.int .i64 0))⟩] [1, 2, 6, 9, 10, 11, 15, 16, 17]) (.block 2 (.loop (.seq
  (.region none [ ⟨some 18, none, .bin .lss (.t 17) (.t 16)⟩] [1, 2, 6, 9, 10, 11, 15, 16, 17, 18]) (.seq (.cond (.t 18) .skip (.exit 2)) (.seq (.block 3 (.seq
  (.region none [ ⟨some 19, none, .idx 1 (.t 15) (.t 17)⟩, ⟨some 20, none, .ld none (.t 19)⟩, ⟨some 8, none, .mv (.t 20)⟩] [1, 2, 6, 8, 9, 10, 11, 15, 16, 17]) (.seq
  (.region none [ ⟨some 21, none, .mv (.t 1)⟩, ⟨some 22, none, .fld 0 (.t 2)⟩, ⟨some 23, none, .ld none (.t 22)⟩, ⟨some 24, none, .mv (.t 6)⟩, ⟨some 25, none, .idx 1 (.t 23) (.t 24)⟩, ⟨some 26, none, .ld none (.t 25)⟩, ⟨some 27, none, .mv (.t 8)⟩, ⟨some 28, none, .idx 1 (.t 26) (.t 27)⟩, ⟨some 29, none, .ld none (.t 28)⟩, ⟨some 30, none, .call (.f 405) [((.t 21), .r), ((.t 29), .r)]⟩, ⟨some 31, none, .un .not (.t 30)⟩, ⟨some 32, none, .mv (.t 31)⟩, ⟨some 33, (some (32, false)), .mv (.t 1)⟩, ⟨some 34, (some (32, false)), .fld 1 (.t 2)⟩, ⟨some 35, (some (32, false)), .ld none (.t 34)⟩, ⟨some 36, (some (32, false)), .mv (.t 6)⟩, ⟨some 37, (some (32, false)), .idx 1 (.t 35) (.t 36)⟩, ⟨some 38, (some (32, false)), .ld none (.t 37)⟩, ⟨some 39, (some (32, false)), .mv (.t 8)⟩, ⟨some 40, (some (32, false)), .idx 1 (.t 38) (.t 39)⟩, ⟨some 41, (some (32, false)), .ld none (.t 40)⟩, ⟨some 42, (some (32, false)), .call (.f 405) [((.t 33), .r), ((.t 41), .r)]⟩, ⟨some 43, (some (32, false)), .un .not (.t 42)⟩, ⟨some 44, none, .pick (.t 32) (.c (.bool true)) (.t 43)⟩] [1, 2, 6, 9, 10, 11, 15, 16, 17, 44]) (.cond (.t 44) (.seq
  (.region none [ ⟨some 4, none, .mv (.c (.bool false))⟩] [4]) .ret) .skip))))
  (.region none [ ⟨some 45, none, .bin .add (.t 17) (.c (.int .i64 1))⟩, ⟨some 17, none, .mv (.t 45)⟩] [1, 2, 6, 9, 10, 11, 15, 16, 17])))))))))
  (.region none [ ⟨some 46, none, .bin .add (.t 11) (.c (.int .i64 1))⟩, ⟨some 11, none, .mv (.t 46)⟩] [1, 2, 9, 10, 11]))))))) (.seq
  (.region none [ ⟨some 4, none, .mv (.c (.bool true))⟩] [4]) .ret)))

def j0z : F where
 np := 2
 rs := [.t 4]
 body :=
  (.seq
  (.region none [ ⟨some 4, none, .mv (.c (.bool false))⟩] [0, 1]) (.seq
  (.region none [ ⟨some 5, none, .mv (.t 0)⟩, ⟨some 6, none, .mv (.t 1)⟩, ⟨some 7, none, .call (.f 384) [((.t 5), .r), ((.t 6), .r)]⟩, ⟨some 8, none, .bin .geq (.t 7) (.c (.int .i64 0))⟩, ⟨some 4, none, .mv (.t 8)⟩] [4]) .ret))

def j3l : F where
 np := 2
 rs := [.cell 4 (some 2), .t 5]
 body :=
  (.seq
  (.region none [ ⟨some 2, none, .box (.t 0)⟩, ⟨some 3, none, .box (.t 1)⟩, ⟨some 4, none, .alloc [(.slice none 0 0), (.slice none 0 0)]⟩, ⟨some 5, none, .mv (.c (.int .i64 0))⟩] [2, 3, 4]) (.seq (.seq
  (.region none [ ⟨some 6, none, .ld (some 2) (.t 2)⟩, ⟨some 7, none, .call (.f 59) [((.t 6), .r)]⟩, ⟨some 8, none, .un .not (.t 7)⟩] [2, 3, 4, 8]) (.cond (.t 8) (.seq
  (.region none [ ⟨some 9, none, .build [(.slice none 0 0), (.slice none 0 0)] []⟩, ⟨none, none, .st (some 2) (.t 4) (.t 9)⟩, ⟨some 5, none, .mv (.c (.int .i64 1))⟩] [4, 5]) .ret) .skip)) (.seq (.seq
  (.region none [ ⟨some 10, none, .fld 0 (.t 2)⟩, ⟨some 11, none, .ld none (.t 10)⟩, ⟨some 12, none, .len (.t 11)⟩, ⟨some 13, none, .ld none (.t 3)⟩, ⟨some 14, none, .call (.f 357) [((.t 12), .r), ((.t 13), .r)]⟩, ⟨some 15, none, .un .not (.t 14)⟩] [2, 3, 4, 15]) (.cond (.t 15) (.seq
  (.region none [ ⟨some 16, none, .build [(.slice none 0 0), (.slice none 0 0)] []⟩, ⟨none, none, .st (some 2) (.t 4) (.t 16)⟩, ⟨some 5, none, .mv (.c (.int .i64 2))⟩] [4, 5]) .ret) .skip)) (.seq (.seq
  (.region none [ ⟨some 17, none, .ld (some 2) (.t 2)⟩, ⟨some 18, none, .ld none (.t 3)⟩, ⟨some 19, none, .call (.f 333) [((.t 17), .r), ((.t 18), .r)]⟩, ⟨some 20, none, .un .not (.t 19)⟩] [2, 3, 4, 20]) (.cond (.t 20) (.seq
  (.region none [ ⟨some 21, none, .build [(.slice none 0 0), (.slice none 0 0)] []⟩, ⟨none, none, .st (some 2) (.t 4) (.t 21)⟩, ⟨some 5, none, .mv (.c (.int .i64 5))⟩] [4, 5]) .ret) .skip)) (.seq
  (.region none [ ⟨some 22, none, .ld none (.t 3)⟩, ⟨some 23, none, .len (.t 22)⟩, ⟨some 24, none, .fnc 358 [(.t 3), (.t 2)]⟩, ⟨some 25, none, .call (.f 308) [((.t 23), .r), ((.t 24), .r)]⟩, ⟨none, none, .st (some 2) (.t 4) (.t 25)⟩, ⟨some 5, none, .mv (.c (.int .i64 0))⟩] [4, 5]) .ret)))))

def j6r : F where
 np := 2
 rs := [.t 4]
 body :=
  (.seq
  (.region none [ ⟨some 4, none, .mv (.c (.bool false))⟩] [0, 1]) (.seq
  (.region none [ ⟨some 5, none, .mv (.t 1)⟩, ⟨some 6, none, .len (.t 5)⟩, ⟨some 7, none, .bin .gtr (.t 6) (.c (.int .i64 0))⟩, ⟨some 8, none, .mv (.t 7)⟩, ⟨some 9, (some (8, true)), .mv (.t 0)⟩, ⟨some 10, (some (8, true)), .mv (.t 1)⟩, ⟨some 11, (some (8, true)), .call (.f 39) [((.t 9), .r), ((.t 10), .r)]⟩, ⟨some 12, none, .pick (.t 8) (.t 11) (.c (.bool false))⟩, ⟨some 13, none, .mv (.t 12)⟩, ⟨some 14, (some (13, true)), .mv (.t 1)⟩, ⟨some 15, (some (13, true)), .call (.f 403) [((.t 14), .r)]⟩, ⟨some 16, none, .pick (.t 13) (.t 15) (.c (.bool false))⟩, ⟨some 4, none, .mv (.t 16)⟩] [4]) .ret))

def j3y : F where
 np := 1
 rs := [.t 2]
 body :=
  (.seq
  (.region none [ ⟨some 2, none, .mv (.c (.bool false))⟩] [0]) (.seq (.seq
  (.region none [ ⟨some 3, none, .mv (.c (.int .i64 1))⟩] [0, 3]) (.block 0 (.loop (.seq (.seq
  (.region none [ ⟨some 4, none, .mv (.t 3)⟩, ⟨some 5, none, .mv (.t 0)⟩, ⟨some 6, none, .len (.t 5)⟩, ⟨some 7, none, .bin .lss (.t 4) (.t 6)⟩] [0, 3, 7]) (.cond (.t 7) .skip (.exit 0))) (.seq (.block 1 (.seq
  (.region (some [10, 11, 12, 13, 14, 15, 16, 17, 18]) [ ⟨some 10, none, .mv (.t 0)⟩, ⟨some 11, none, .mv (.t 3)⟩, ⟨some 12, none, .bin .sub (.t 11) (.c (.int .i64 1))⟩, ⟨some 13, none, .idx 1 (.t 10) (.t 12)⟩, ⟨some 14, none, .ld none (.t 13)⟩, ⟨some 15, none, .mv (.t 0)⟩, ⟨some 16, none, .mv (.t 3)⟩, ⟨some 17, none, .idx 1 (.t 15) (.t 16)⟩, ⟨some 18, none, .ld none (.t 17)⟩, ⟨some 19, none, .bin .geq (.t 14) (.t 18)⟩] [0, 3, 19]) (.cond (.t 19) (.seq
  (.region none [ ⟨some 2, none, .mv (.c (.bool false))⟩] [2]) .ret) .skip)))
  (.region none [ ⟨some 8, none, .mv (.t 3)⟩, ⟨some 9, none, .bin .add (.t 8) (.c (.int .i64 1))⟩, ⟨some 3, none, .mv (.t 9)⟩] [0, 3])))))) (.seq
  (.region none [ ⟨some 2, none, .mv (.c (.bool true))⟩] [2]) .ret)))

def j2p : F where
 np := 4
 rs := [.t 6, .t 7]
 body :=
  (.seq
  (.region none [ ⟨some 6, none, .mv (.c (.int .i64 0))⟩, ⟨some 7, none, .mv (.c (.int .i64 0))⟩] [0, 1, 2, 3]) (.seq
  (.region (some [8, 9, 10, 11, 12, 13, 14, 15, 16, 17, 18, 19, 20, 21, 22, 23, 24, 25, 26, 27, 28, 29, 30, 31, 32, 33, 34, 35, 36, 37, 38]) [ ⟨some 8, none, .ld none (.t 2)⟩, ⟨some 9, none, .fld 0 (.t 3)⟩, ⟨some 10, none, .ld none (.t 9)⟩, ⟨some 11, none, .ld none (.t 2)⟩, ⟨some 12, none, .mv (.t 0)⟩, ⟨some 13, none, .idx 1 (.t 11) (.t 12)⟩, ⟨some 14, none, .ld none (.t 13)⟩, ⟨some 15, none, .idx 1 (.t 10) (.t 14)⟩, ⟨some 16, none, .ld none (.t 15)⟩, ⟨some 17, none, .ld none (.t 2)⟩, ⟨some 18, none, .mv (.t 1)⟩, ⟨some 19, none, .idx 1 (.t 17) (.t 18)⟩, ⟨some 20, none, .ld none (.t 19)⟩, ⟨some 21, none, .idx 1 (.t 16) (.t 20)⟩, ⟨some 22, none, .ld none (.t 21)⟩, ⟨some 23, none, .call (.f 287) [((.t 8), .r), ((.t 22), .r)]⟩, ⟨some 24, none, .ld none (.t 2)⟩, ⟨some 25, none, .fld 1 (.t 3)⟩, ⟨some 26, none, .ld none (.t 25)⟩, ⟨some 27, none, .ld none (.t 2)⟩, ⟨some 28, none, .mv (.t 0)⟩, ⟨some 29, none, .idx 1 (.t 27) (.t 28)⟩, ⟨some 30, none, .ld none (.t 29)⟩, ⟨some 31, none, .idx 1 (.t 26) (.t 30)⟩, ⟨some 32, none, .ld none (.t 31)⟩, ⟨some 33, none, .ld none (.t 2)⟩, ⟨some 34, none, .mv (.t 1)⟩, ⟨some 35, none, .idx 1 (.t 33) (.t 34)⟩, ⟨some 36, none, .ld none (.t 35)⟩, ⟨some 37, none, .idx 1 (.t 32) (.t 36)⟩, ⟨some 38, none, .ld none (.t 37)⟩, ⟨some 39, none, .call (.f 287) [((.t 24), .r), ((.t 38), .r)]⟩, ⟨some 6, none, .mv (.t 23)⟩, ⟨some 7, none, .mv (.t 39)⟩] [6, 7]) .ret))

def j04 : F where
 np := 2
 rs := [.t 4, .t 5]
 body :=
  (.seq
  (.region none [ ⟨some 2, none, .box (.t 0)⟩, ⟨some 4, none, .asg (.c (.slice none 0 0))⟩, ⟨some 5, none, .mv (.c (.int .i64 0))⟩] [1, 2]) (.seq (.seq
  (.region none [ ⟨some 11, none, .ld (some 2) (.t 2)⟩, ⟨some 12, none, .call (.f 264) [((.t 11), .r)]⟩, ⟨some 13, none, .un .not (.t 12)⟩] [1, 2, 13]) (.cond (.t 13) (.seq
  (.region none [ ⟨some 4, none, .asg (.c (.slice none 0 0))⟩, ⟨some 5, none, .mv (.c (.int .i64 1))⟩] [4, 5]) .ret) .skip)) (.seq
  (.region none [ ⟨some 14, none, .ld (some 2) (.t 2)⟩, ⟨some 15, none, .call (.f 319) [((.t 14), .r)]⟩, ⟨some 6, none, .asg (.t 15)⟩] [1, 2, 6]) (.seq (.seq
  (.region none [ ⟨some 16, none, .mv (.t 1)⟩, ⟨some 17, none, .mv (.t 6)⟩, ⟨some 18, none, .len (.t 17)⟩, ⟨some 19, none, .bin .sub (.t 18) (.c (.int .i64 1))⟩, ⟨some 20, none, .call (.f 30) [((.t 16), .r), ((.c (.int .i64 0)), .r), ((.t 19), .r)]⟩, ⟨some 21, none, .un .not (.t 20)⟩] [1, 2, 6, 21]) (.cond (.t 21) (.seq
  (.region none [ ⟨some 4, none, .asg (.c (.slice none 0 0))⟩, ⟨some 5, none, .mv (.c (.int .i64 4))⟩] [4, 5]) .ret) .skip)) (.seq
  (.region none [ ⟨some 22, none, .fld 0 (.t 2)⟩, ⟨some 23, none, .ld none (.t 22)⟩, ⟨some 24, none, .len (.t 23)⟩, ⟨some 25, none, .call (.f 334) [((.t 24), .r)]⟩, ⟨some 7, none, .asg (.t 25)⟩] [1, 6, 7]) (.seq (.seq
  (.region none [ ⟨some 8, none, .mv (.c (.int .i64 0))⟩] [1, 6, 7, 8]) (.block 0 (.loop (.seq (.seq
  (.region none [ ⟨some 26, none, .mv (.t 8)⟩, ⟨some 27, none, .mv (.t 1)⟩, ⟨some 28, none, .bin .lss (.t 26) (.t 27)⟩] [1, 6, 7, 8, 28]) (.cond (.t 28) .skip (.exit 0))) (.seq (.block 1 (.seq
  (.region none [ ⟨some 31, none, .mv (.t 6)⟩, ⟨some 32, none, .mv (.t 8)⟩, ⟨some 33, none, .idx 2 (.t 31) (.t 32)⟩, ⟨some 34, none, .ld (some 2) (.t 33)⟩, ⟨some 35, none, .call (.f 289) [((.t 34), .r)]⟩, ⟨some 9, none, .asg (.t 35)⟩] [1, 6, 7, 8, 9]) (.seq
  (.region none [ ⟨some 10, none, .mv (.c (.int .i64 0))⟩] [1, 6, 7, 8, 9, 10]) (.block 2 (.loop (.seq (.seq
  (.region none [ ⟨some 36, none, .mv (.t 10)⟩, ⟨some 37, none, .mv (.t 7)⟩, ⟨some 38, none, .len (.t 37)⟩, ⟨some 39, none, .bin .lss (.t 36) (.t 38)⟩] [1, 6, 7, 8, 9, 10, 39]) (.cond (.t 39) .skip (.exit 2))) (.seq (.block 3
  (.region none [ ⟨some 42, none, .mv (.t 7)⟩, ⟨some 43, none, .mv (.t 10)⟩, ⟨some 44, none, .mv (.t 9)⟩, ⟨some 45, none, .mv (.t 7)⟩, ⟨some 46, none, .mv (.t 10)⟩, ⟨some 47, none, .idx 1 (.t 45) (.t 46)⟩, ⟨some 48, none, .ld none (.t 47)⟩, ⟨some 49, none, .idx 1 (.t 44) (.t 48)⟩, ⟨some 50, none, .ld none (.t 49)⟩, ⟨some 51, none, .idx 1 (.t 42) (.t 43)⟩, ⟨none, none, .st none (.t 51) (.t 50)⟩] [1, 6, 7, 8, 9, 10]))
  (.region none [ ⟨some 40, none, .mv (.t 10)⟩, ⟨some 41, none, .bin .add (.t 40) (.c (.int .i64 1))⟩, ⟨some 10, none, .mv (.t 41)⟩] [1, 6, 7, 8, 9, 10]))))))))
  (.region none [ ⟨some 29, none, .mv (.t 8)⟩, ⟨some 30, none, .bin .add (.t 29) (.c (.int .i64 1))⟩, ⟨some 8, none, .mv (.t 30)⟩] [1, 6, 7, 8])))))) (.seq
  (.region none [ ⟨some 52, none, .mv (.t 7)⟩, ⟨some 4, none, .asg (.t 52)⟩, ⟨some 5, none, .mv (.c (.int .i64 0))⟩] [4, 5]) .ret)))))))

def j05 : F where
 np := 2
 rs := [.t 4, .t 5]
 body :=
  (.seq
  (.region none [ ⟨some 2, none, .box (.t 0)⟩, ⟨some 4, none, .asg (.c (.slice none 0 0))⟩, ⟨some 5, none, .mv (.c (.int .i64 0))⟩] [1, 2]) (.seq (.seq
  (.region none [ ⟨some 10, none, .ld (some 2) (.t 2)⟩, ⟨some 11, none, .call (.f 266) [((.t 10), .r)]⟩, ⟨some 12, none, .un .not (.t 11)⟩] [1, 2, 12]) (.cond (.t 12) (.seq
  (.region none [ ⟨some 4, none, .asg (.c (.slice none 0 0))⟩, ⟨some 5, none, .mv (.c (.int .i64 1))⟩] [4, 5]) .ret) .skip)) (.seq
  (.region none [ ⟨some 13, none, .ld (some 2) (.t 2)⟩, ⟨some 14, none, .call (.f 310) [((.t 13), .r)]⟩, ⟨some 6, none, .asg (.t 14)⟩] [1, 2, 6]) (.seq (.seq
  (.region none [ ⟨some 15, none, .mv (.t 1)⟩, ⟨some 16, none, .mv (.t 6)⟩, ⟨some 17, none, .len (.t 16)⟩, ⟨some 18, none, .bin .sub (.t 17) (.c (.int .i64 1))⟩, ⟨some 19, none, .call (.f 35) [((.t 15), .r), ((.c (.int .i64 0)), .r), ((.t 18), .r)]⟩, ⟨some 20, none, .un .not (.t 19)⟩] [1, 2, 6, 20]) (.cond (.t 20) (.seq
  (.region none [ ⟨some 4, none, .asg (.c (.slice none 0 0))⟩, ⟨some 5, none, .mv (.c (.int .i64 4))⟩] [4, 5]) .ret) .skip)) (.seq
  (.region none [ ⟨some 21, none, .fld 0 (.t 2)⟩, ⟨some 22, none, .ld none (.t 21)⟩, ⟨some 23, none, .len (.t 22)⟩, ⟨some 24, none, .call (.f 335) [((.t 23), .r)]⟩, ⟨some 7, none, .asg (.t 24)⟩] [1, 6, 7]) (.seq (.seq
  (.region none [ ⟨some 25, none, .mv (.t 6)⟩, ⟨some 26, none, .mv (.t 1)⟩, ⟨some 27, none, .sl 2 (.t 25) none (some (.t 26))⟩, ⟨some 28, none, .len (.t 27)⟩, ⟨some 29, none, .mv (.c (.int .i64 0))⟩] [6, 7, 27, 28, 29]) (.block 0 (.loop (.seq
  (.region none [ ⟨some 30, none, .bin .lss (.t 29) (.t 28)⟩] [6, 7, 27, 28, 29, 30]) (.seq (.cond (.t 30) .skip (.exit 0)) (.seq (.block 1 (.seq
  (.region none [ ⟨some 31, none, .idx 2 (.t 27) (.t 29)⟩, ⟨some 32, none, .ld (some 2) (.t 31)⟩, ⟨some 9, none, .alloc [(.slice none 0 0), (.slice none 0 0)]⟩, ⟨none, none, .st (some 2) (.t 9) (.t 32)⟩] [6, 7, 9, 27, 28, 29])
  (.region none [ ⟨some 33, none, .mv (.t 7)⟩, ⟨some 34, none, .ld (some 2) (.t 9)⟩, ⟨some 35, none, .call (.f 291) [((.t 34), .r)]⟩, ⟨some 36, none, .call (.f 277) [((.t 33), .r), ((.t 35), .r)]⟩, ⟨some 7, none, .asg (.t 36)⟩] [6, 7, 27, 28, 29])))
  (.region none [ ⟨some 37, none, .bin .add (.t 29) (.c (.int .i64 1))⟩, ⟨some 29, none, .mv (.t 37)⟩] [6, 7, 27, 28, 29]))))))) (.seq
  (.region none [ ⟨some 38, none, .mv (.t 7)⟩, ⟨some 4, none, .asg (.t 38)⟩, ⟨some 5, none, .mv (.c (.int .i64 0))⟩] [4, 5]) .ret)))))))

end Go.Mch
