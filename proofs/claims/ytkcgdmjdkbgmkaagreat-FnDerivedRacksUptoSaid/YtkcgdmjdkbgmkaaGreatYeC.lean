/- Compact code of the functions that statements 13 to 36 reach further. -/
import Derived.Test.YtkcgdmjdkbgmkaaGreatM1
namespace Go.Mch

def c_spec_l01Unit : F where
 np := 1
 rs := [.t 2]
 body :=
  (.seq
  (.region none [ ⟨some 2, none, .asg (.c (.slice none 0 0))⟩] [0]) (.seq
  (.region none [ ⟨some 5, none, .bsl []⟩, ⟨some 3, none, .asg (.t 5)⟩] [0, 3]) (.seq (.seq
  (.region none [ ⟨some 4, none, .mv (.c (.int .i64 0))⟩] [0, 3, 4]) (.block 0 (.loop (.seq (.seq
  (.region none [ ⟨some 6, none, .mv (.t 4)⟩, ⟨some 7, none, .mv (.t 0)⟩, ⟨some 8, none, .bin .lss (.t 6) (.t 7)⟩] [0, 3, 4, 8]) (.cond (.t 8) .skip (.exit 0))) (.seq (.block 1
  (.region none [ ⟨some 11, none, .mv (.t 3)⟩, ⟨some 12, none, .mv (.t 4)⟩, ⟨some 13, none, .bsl [(.t 12)]⟩, ⟨some 14, none, .app true 1 (.t 11) (.t 13)⟩, ⟨some 3, none, .asg (.t 14)⟩] [0, 3, 4]))
  (.region none [ ⟨some 9, none, .mv (.t 4)⟩, ⟨some 10, none, .bin .add (.t 9) (.c (.int .i64 1))⟩, ⟨some 4, none, .mv (.t 10)⟩] [0, 3, 4])))))) (.seq
  (.region none [ ⟨some 15, none, .mv (.t 3)⟩, ⟨some 2, none, .asg (.t 15)⟩] [2]) .ret))))

def c_spec_TwistedSolution : F where
 np := 2
 rs := [.cell 4 (some 2), .t 5]
 body :=
  (.seq
  (.region none [ ⟨some 2, none, .box (.t 0)⟩, ⟨some 4, none, .alloc [(.slice none 0 0), (.slice none 0 0)]⟩, ⟨some 5, none, .mv (.c (.int .i64 0))⟩] [1, 2, 4]) (.seq (.block 0 (.seq
  (.region none [ ⟨some 13, none, .ld (some 1) (.t 2)⟩, ⟨some 14, none, .call (.f 28) [((.t 13), .r)]⟩, ⟨some 15, none, .un .not (.t 14)⟩, ⟨some 12, none, .mv (.t 15)⟩] [1, 2, 4, 12]) (.cond (.t 12) (.seq
  (.region none [ ⟨some 16, none, .build [(.slice none 0 0), (.slice none 0 0)] []⟩, ⟨none, none, .st (some 2) (.t 4) (.t 16)⟩, ⟨some 5, none, .mv (.c (.int .i64 1))⟩] [4, 5]) .ret) (.seq
  (.region none [ ⟨some 18, none, .mv (.t 1)⟩, ⟨some 19, none, .call (.f 47) [((.t 18), .r)]⟩, ⟨some 20, none, .un .not (.t 19)⟩, ⟨some 21, none, .mv (.t 20)⟩, ⟨some 22, (some (21, false)), .mv (.t 1)⟩, ⟨some 23, (some (21, false)), .len (.t 22)⟩, ⟨some 24, (some (21, false)), .fld 0 (.t 2)⟩, ⟨some 25, (some (21, false)), .ld none (.t 24)⟩, ⟨some 26, (some (21, false)), .len (.t 25)⟩, ⟨some 27, (some (21, false)), .bin .neq (.t 23) (.t 26)⟩, ⟨some 28, none, .pick (.t 21) (.c (.bool true)) (.t 27)⟩, ⟨some 17, none, .mv (.t 28)⟩] [1, 2, 4, 17]) (.cond (.t 17) (.seq
  (.region none [ ⟨some 29, none, .build [(.slice none 0 0), (.slice none 0 0)] []⟩, ⟨none, none, .st (some 2) (.t 4) (.t 29)⟩, ⟨some 5, none, .mv (.c (.int .i64 2))⟩] [4, 5]) .ret) (.seq
  (.region (some [31, 32, 33, 34, 35, 36]) [ ⟨some 31, none, .fld 0 (.t 2)⟩, ⟨some 32, none, .ld none (.t 31)⟩, ⟨some 33, none, .mv (.t 1)⟩, ⟨some 34, none, .call (.f 303) [((.t 32), .r), ((.t 33), .r)]⟩, ⟨some 35, none, .fld 0 (.t 2)⟩, ⟨some 36, none, .ld none (.t 35)⟩, ⟨some 37, none, .call (.f 302) [((.t 34), .r), ((.t 36), .r)]⟩, ⟨some 38, none, .un .not (.t 37)⟩, ⟨some 30, none, .mv (.t 38)⟩] [1, 2, 4, 30]) (.cond (.t 30) (.seq
  (.region none [ ⟨some 39, none, .build [(.slice none 0 0), (.slice none 0 0)] []⟩, ⟨none, none, .st (some 2) (.t 4) (.t 39)⟩, ⟨some 5, none, .mv (.c (.int .i64 5))⟩] [4, 5]) .ret) .skip))))))) (.seq
  (.region none [ ⟨some 40, none, .mv (.t 1)⟩, ⟨some 41, none, .call (.f 304) [((.t 40), .r)]⟩, ⟨some 42, none, .build [(.slice none 0 0), (.slice none 0 0)] []⟩, ⟨some 7, none, .alloc [(.slice none 0 0), (.slice none 0 0)]⟩, ⟨some 6, none, .asg (.t 41)⟩, ⟨none, none, .st (some 2) (.t 7) (.t 42)⟩] [1, 2, 4, 6, 7]) (.seq (.seq
  (.region none [ ⟨some 8, none, .mv (.c (.int .i64 0))⟩] [1, 2, 4, 6, 7, 8]) (.block 1 (.loop (.seq (.seq
  (.region none [ ⟨some 43, none, .mv (.t 8)⟩, ⟨some 44, none, .mv (.t 1)⟩, ⟨some 45, none, .len (.t 44)⟩, ⟨some 46, none, .bin .lss (.t 43) (.t 45)⟩] [1, 2, 4, 6, 7, 8, 46]) (.cond (.t 46) .skip (.exit 1))) (.seq (.block 2 (.seq
  (.region none [ ⟨some 49, none, .bsl []⟩, ⟨some 50, none, .bsl []⟩, ⟨some 9, none, .asg (.t 49)⟩, ⟨some 10, none, .asg (.t 50)⟩] [1, 2, 4, 6, 7, 8, 9, 10]) (.seq (.seq
  (.region none [ ⟨some 11, none, .mv (.c (.int .i64 0))⟩] [1, 2, 4, 6, 7, 8, 9, 10, 11]) (.block 3 (.loop (.seq (.seq
  (.region none [ ⟨some 51, none, .mv (.t 11)⟩, ⟨some 52, none, .mv (.t 1)⟩, ⟨some 53, none, .len (.t 52)⟩, ⟨some 54, none, .bin .lss (.t 51) (.t 53)⟩] [1, 2, 4, 6, 7, 8, 9, 10, 11, 54]) (.cond (.t 54) .skip (.exit 3))) (.seq (.block 4 (.seq
  (.region none [ ⟨some 57, none, .mv (.t 9)⟩, ⟨some 58, none, .mv (.t 1)⟩, ⟨some 59, none, .mv (.t 11)⟩, ⟨some 60, none, .idx 1 (.t 58) (.t 59)⟩, ⟨some 61, none, .ld none (.t 60)⟩, ⟨some 62, none, .bsl [(.t 61)]⟩, ⟨some 63, none, .app true 1 (.t 57) (.t 62)⟩, ⟨some 9, none, .asg (.t 63)⟩] [1, 2, 4, 6, 7, 8, 9, 10, 11])
  (.region (some [64, 65, 66, 67, 68, 69, 70, 71, 72, 73, 74, 75, 76, 77, 78, 79]) [ ⟨some 64, none, .mv (.t 10)⟩, ⟨some 65, none, .mv (.t 6)⟩, ⟨some 66, none, .fld 0 (.t 2)⟩, ⟨some 67, none, .ld none (.t 66)⟩, ⟨some 68, none, .mv (.t 1)⟩, ⟨some 69, none, .mv (.t 11)⟩, ⟨some 70, none, .idx 1 (.t 68) (.t 69)⟩, ⟨some 71, none, .ld none (.t 70)⟩, ⟨some 72, none, .idx 1 (.t 67) (.t 71)⟩, ⟨some 73, none, .ld none (.t 72)⟩, ⟨some 74, none, .mv (.t 8)⟩, ⟨some 75, none, .idx 1 (.t 73) (.t 74)⟩, ⟨some 76, none, .ld none (.t 75)⟩, ⟨some 77, none, .idx 1 (.t 65) (.t 76)⟩, ⟨some 78, none, .ld none (.t 77)⟩, ⟨some 79, none, .bslv 1 [(.t 78)]⟩, ⟨some 80, none, .app true 1 (.t 64) (.t 79)⟩, ⟨some 10, none, .asg (.t 80)⟩] [1, 2, 4, 6, 7, 8, 9, 10, 11])))
  (.region none [ ⟨some 55, none, .mv (.t 11)⟩, ⟨some 56, none, .bin .add (.t 55) (.c (.int .i64 1))⟩, ⟨some 11, none, .mv (.t 56)⟩] [1, 2, 4, 6, 7, 8, 9, 10, 11])))))) (.seq
  (.region none [ ⟨some 81, none, .fld 0 (.t 7)⟩, ⟨some 82, none, .ld none (.t 81)⟩, ⟨some 83, none, .mv (.t 9)⟩, ⟨some 84, none, .bsl [(.t 83)]⟩, ⟨some 85, none, .app true 1 (.t 82) (.t 84)⟩, ⟨some 86, none, .fld 0 (.t 7)⟩, ⟨none, none, .st none (.t 86) (.t 85)⟩] [1, 2, 4, 6, 7, 8, 10])
  (.region none [ ⟨some 87, none, .fld 1 (.t 7)⟩, ⟨some 88, none, .ld none (.t 87)⟩, ⟨some 89, none, .mv (.t 10)⟩, ⟨some 90, none, .bsl [(.t 89)]⟩, ⟨some 91, none, .app true 1 (.t 88) (.t 90)⟩, ⟨some 92, none, .fld 1 (.t 7)⟩, ⟨none, none, .st none (.t 92) (.t 91)⟩] [1, 2, 4, 6, 7, 8])))))
  (.region none [ ⟨some 47, none, .mv (.t 8)⟩, ⟨some 48, none, .bin .add (.t 47) (.c (.int .i64 1))⟩, ⟨some 8, none, .mv (.t 48)⟩] [1, 2, 4, 6, 7, 8])))))) (.seq
  (.region none [ ⟨some 93, none, .ld (some 2) (.t 7)⟩, ⟨none, none, .st (some 2) (.t 4) (.t 93)⟩, ⟨some 5, none, .mv (.c (.int .i64 0))⟩] [4, 5]) .ret)))))

def c_spec_l03Image : F where
 np := 2
 rs := [.t 4]
 body :=
  (.seq
  (.region none [ ⟨some 4, none, .asg (.c (.slice none 0 0))⟩] [0, 1]) (.seq
  (.region none [ ⟨some 8, none, .mv (.t 0)⟩, ⟨some 9, none, .call (.f 280) [((.t 8), .r)]⟩, ⟨some 5, none, .asg (.t 9)⟩] [0, 1, 5]) (.seq (.seq
  (.region none [ ⟨some 6, none, .mv (.c (.int .i64 0))⟩] [0, 1, 5, 6]) (.block 0 (.loop (.seq (.seq
  (.region none [ ⟨some 10, none, .mv (.t 6)⟩, ⟨some 11, none, .mv (.t 0)⟩, ⟨some 12, none, .len (.t 11)⟩, ⟨some 13, none, .bin .lss (.t 10) (.t 12)⟩] [0, 1, 5, 6, 13]) (.cond (.t 13) .skip (.exit 0))) (.seq (.block 1 (.seq
  (.region none [ ⟨some 7, none, .mv (.c (.int .i64 0))⟩] [0, 1, 5, 6, 7]) (.block 2 (.loop (.seq (.seq
  (.region none [ ⟨some 16, none, .mv (.t 7)⟩, ⟨some 17, none, .mv (.t 0)⟩, ⟨some 18, none, .len (.t 17)⟩, ⟨some 19, none, .bin .lss (.t 16) (.t 18)⟩] [0, 1, 5, 6, 7, 19]) (.cond (.t 19) .skip (.exit 2))) (.seq (.block 3
  (.region (some [22, 23, 24, 25, 26, 27, 28, 29, 30, 31, 32, 33, 34, 35, 36, 37, 38, 39, 40, 41, 42]) [ ⟨some 22, none, .mv (.t 5)⟩, ⟨some 23, none, .mv (.t 1)⟩, ⟨some 24, none, .mv (.t 6)⟩, ⟨some 25, none, .idx 1 (.t 23) (.t 24)⟩, ⟨some 26, none, .ld none (.t 25)⟩, ⟨some 27, none, .idx 1 (.t 22) (.t 26)⟩, ⟨some 28, none, .ld none (.t 27)⟩, ⟨some 29, none, .mv (.t 1)⟩, ⟨some 30, none, .mv (.t 7)⟩, ⟨some 31, none, .idx 1 (.t 29) (.t 30)⟩, ⟨some 32, none, .ld none (.t 31)⟩, ⟨some 33, none, .mv (.t 1)⟩, ⟨some 34, none, .mv (.t 0)⟩, ⟨some 35, none, .mv (.t 6)⟩, ⟨some 36, none, .idx 1 (.t 34) (.t 35)⟩, ⟨some 37, none, .ld none (.t 36)⟩, ⟨some 38, none, .mv (.t 7)⟩, ⟨some 39, none, .idx 1 (.t 37) (.t 38)⟩, ⟨some 40, none, .ld none (.t 39)⟩, ⟨some 41, none, .idx 1 (.t 33) (.t 40)⟩, ⟨some 42, none, .ld none (.t 41)⟩, ⟨some 43, none, .idx 1 (.t 28) (.t 32)⟩, ⟨none, none, .st none (.t 43) (.t 42)⟩] [0, 1, 5, 6, 7]))
  (.region none [ ⟨some 20, none, .mv (.t 7)⟩, ⟨some 21, none, .bin .add (.t 20) (.c (.int .i64 1))⟩, ⟨some 7, none, .mv (.t 21)⟩] [0, 1, 5, 6, 7])))))))
  (.region none [ ⟨some 14, none, .mv (.t 6)⟩, ⟨some 15, none, .bin .add (.t 14) (.c (.int .i64 1))⟩, ⟨some 6, none, .mv (.t 15)⟩] [0, 1, 5, 6])))))) (.seq
  (.region none [ ⟨some 44, none, .mv (.t 5)⟩, ⟨some 4, none, .asg (.t 44)⟩] [4]) .ret))))

def c_spec_l01Same2 : F where
 np := 2
 rs := [.t 4]
 body :=
  (.seq
  (.region none [ ⟨some 4, none, .mv (.c (.bool false))⟩] [0, 1]) (.seq (.seq
  (.region none [ ⟨some 6, none, .mv (.t 0)⟩, ⟨some 7, none, .len (.t 6)⟩, ⟨some 8, none, .mv (.t 1)⟩, ⟨some 9, none, .len (.t 8)⟩, ⟨some 10, none, .bin .neq (.t 7) (.t 9)⟩] [0, 1, 10]) (.cond (.t 10) (.seq
  (.region none [ ⟨some 4, none, .mv (.c (.bool false))⟩] [4]) .ret) .skip)) (.seq (.seq
  (.region none [ ⟨some 5, none, .mv (.c (.int .i64 0))⟩] [0, 1, 5]) (.block 0 (.loop (.seq (.seq
  (.region none [ ⟨some 11, none, .mv (.t 5)⟩, ⟨some 12, none, .mv (.t 0)⟩, ⟨some 13, none, .len (.t 12)⟩, ⟨some 14, none, .bin .lss (.t 11) (.t 13)⟩] [0, 1, 5, 14]) (.cond (.t 14) .skip (.exit 0))) (.seq (.block 1 (.seq
  (.region (some [17, 18, 19, 20, 21, 22, 23, 24]) [ ⟨some 17, none, .mv (.t 0)⟩, ⟨some 18, none, .mv (.t 5)⟩, ⟨some 19, none, .idx 1 (.t 17) (.t 18)⟩, ⟨some 20, none, .ld none (.t 19)⟩, ⟨some 21, none, .mv (.t 1)⟩, ⟨some 22, none, .mv (.t 5)⟩, ⟨some 23, none, .idx 1 (.t 21) (.t 22)⟩, ⟨some 24, none, .ld none (.t 23)⟩, ⟨some 25, none, .call (.f 67) [((.t 20), .r), ((.t 24), .r)]⟩, ⟨some 26, none, .un .not (.t 25)⟩] [0, 1, 5, 26]) (.cond (.t 26) (.seq
  (.region none [ ⟨some 4, none, .mv (.c (.bool false))⟩] [4]) .ret) .skip)))
  (.region none [ ⟨some 15, none, .mv (.t 5)⟩, ⟨some 16, none, .bin .add (.t 15) (.c (.int .i64 1))⟩, ⟨some 5, none, .mv (.t 16)⟩] [0, 1, 5])))))) (.seq
  (.region none [ ⟨some 4, none, .mv (.c (.bool true))⟩] [4]) .ret))))

def c_spec_l01Back : F where
 np := 1
 rs := [.t 2]
 body :=
  (.seq
  (.region none [ ⟨some 2, none, .asg (.c (.slice none 0 0))⟩] [0]) (.seq
  (.region none [ ⟨some 5, none, .mv (.t 0)⟩, ⟨some 6, none, .len (.t 5)⟩, ⟨some 7, none, .mks (.int .i64 0) (.t 6)⟩, ⟨some 3, none, .asg (.t 7)⟩] [0, 3]) (.seq (.seq
  (.region none [ ⟨some 4, none, .mv (.c (.int .i64 0))⟩] [0, 3, 4]) (.block 0 (.loop (.seq (.seq
  (.region none [ ⟨some 8, none, .mv (.t 4)⟩, ⟨some 9, none, .mv (.t 0)⟩, ⟨some 10, none, .len (.t 9)⟩, ⟨some 11, none, .bin .lss (.t 8) (.t 10)⟩] [0, 3, 4, 11]) (.cond (.t 11) .skip (.exit 0))) (.seq (.block 1
  (.region none [ ⟨some 14, none, .mv (.t 3)⟩, ⟨some 15, none, .mv (.t 0)⟩, ⟨some 16, none, .mv (.t 4)⟩, ⟨some 17, none, .idx 1 (.t 15) (.t 16)⟩, ⟨some 18, none, .ld none (.t 17)⟩, ⟨some 19, none, .mv (.t 4)⟩, ⟨some 20, none, .idx 1 (.t 14) (.t 18)⟩, ⟨none, none, .st none (.t 20) (.t 19)⟩] [0, 3, 4]))
  (.region none [ ⟨some 12, none, .mv (.t 4)⟩, ⟨some 13, none, .bin .add (.t 12) (.c (.int .i64 1))⟩, ⟨some 4, none, .mv (.t 13)⟩] [0, 3, 4])))))) (.seq
  (.region none [ ⟨some 21, none, .mv (.t 3)⟩, ⟨some 2, none, .asg (.t 21)⟩] [2]) .ret))))

def c_impl_TwistedSolution : F where
 np := 2
 rs := [.cell 4 (some 2), .t 5]
 body :=
  (.seq
  (.region none [ ⟨some 2, none, .box (.t 0)⟩, ⟨some 3, none, .box (.t 1)⟩, ⟨some 4, none, .alloc [(.slice none 0 0), (.slice none 0 0)]⟩, ⟨some 5, none, .mv (.c (.int .i64 0))⟩] [2, 3, 4]) (.seq (.seq
  (.region none [ ⟨some 7, none, .ld (some 1) (.t 2)⟩, ⟨some 8, none, .call (.f 33) [((.t 7), .r)]⟩, ⟨some 9, none, .un .not (.t 8)⟩] [2, 3, 4, 9]) (.cond (.t 9) (.seq
  (.region none [ ⟨some 10, none, .build [(.slice none 0 0), (.slice none 0 0)] []⟩, ⟨none, none, .st (some 2) (.t 4) (.t 10)⟩, ⟨some 5, none, .mv (.c (.int .i64 1))⟩] [4, 5]) .ret) .skip)) (.seq (.seq
  (.region none [ ⟨some 11, none, .ld none (.t 3)⟩, ⟨some 12, none, .len (.t 11)⟩, ⟨some 13, none, .fld 0 (.t 2)⟩, ⟨some 14, none, .ld none (.t 13)⟩, ⟨some 15, none, .len (.t 14)⟩, ⟨some 16, none, .bin .neq (.t 12) (.t 15)⟩, ⟨some 17, none, .mv (.t 16)⟩, ⟨some 18, (some (17, false)), .ld none (.t 3)⟩, ⟨some 19, (some (17, false)), .call (.f 66) [((.t 18), .r)]⟩, ⟨some 20, (some (17, false)), .un .not (.t 19)⟩, ⟨some 21, none, .pick (.t 17) (.c (.bool true)) (.t 20)⟩] [2, 3, 4, 21]) (.cond (.t 21) (.seq
  (.region none [ ⟨some 22, none, .build [(.slice none 0 0), (.slice none 0 0)] []⟩, ⟨none, none, .st (some 2) (.t 4) (.t 22)⟩, ⟨some 5, none, .mv (.c (.int .i64 2))⟩] [4, 5]) .ret) .skip)) (.seq (.seq
  (.region (some [23, 24, 25, 26, 27, 28]) [ ⟨some 23, none, .fld 0 (.t 2)⟩, ⟨some 24, none, .ld none (.t 23)⟩, ⟨some 25, none, .ld none (.t 3)⟩, ⟨some 26, none, .call (.f 306) [((.t 24), .r), ((.t 25), .r)]⟩, ⟨some 27, none, .fld 0 (.t 2)⟩, ⟨some 28, none, .ld none (.t 27)⟩, ⟨some 29, none, .call (.f 305) [((.t 26), .r), ((.t 28), .r)]⟩, ⟨some 30, none, .un .not (.t 29)⟩] [2, 3, 4, 30]) (.cond (.t 30) (.seq
  (.region none [ ⟨some 31, none, .build [(.slice none 0 0), (.slice none 0 0)] []⟩, ⟨none, none, .st (some 2) (.t 4) (.t 31)⟩, ⟨some 5, none, .mv (.c (.int .i64 5))⟩] [4, 5]) .ret) .skip)) (.seq
  (.region none [ ⟨some 32, none, .ld none (.t 3)⟩, ⟨some 33, none, .call (.f 307) [((.t 32), .r)]⟩, ⟨some 6, none, .alloc [(.slice none 0 0)]⟩, ⟨none, none, .st none (.t 6) (.t 33)⟩] [2, 3, 4, 6]) (.seq
  (.region none [ ⟨some 34, none, .ld none (.t 3)⟩, ⟨some 35, none, .len (.t 34)⟩, ⟨some 36, none, .fnc 309 [(.t 3), (.t 6), (.t 2)]⟩, ⟨some 37, none, .call (.f 308) [((.t 35), .r), ((.t 36), .r)]⟩, ⟨none, none, .st (some 2) (.t 4) (.t 37)⟩, ⟨some 5, none, .mv (.c (.int .i64 0))⟩] [4, 5]) .ret))))))

def c_impl_renamed : F where
 np := 2
 rs := [.t 4]
 body :=
  (.seq
  (.region none [ ⟨some 2, none, .box (.t 0)⟩, ⟨some 3, none, .box (.t 1)⟩, ⟨some 4, none, .asg (.c (.slice none 0 0))⟩] [2, 3]) (.seq
  (.region none [ ⟨some 6, none, .ld none (.t 3)⟩, ⟨some 7, none, .call (.f 307) [((.t 6), .r)]⟩, ⟨some 5, none, .alloc [(.slice none 0 0)]⟩, ⟨none, none, .st none (.t 5) (.t 7)⟩] [2, 3, 5]) (.seq
  (.region none [ ⟨some 8, none, .ld none (.t 2)⟩, ⟨some 9, none, .len (.t 8)⟩, ⟨some 10, none, .fnc 390 [(.t 3), (.t 2), (.t 5)]⟩, ⟨some 11, none, .call (.f 376) [((.t 9), .r), ((.t 10), .r)]⟩, ⟨some 4, none, .asg (.t 11)⟩] [4]) .ret)))

def c_impl_inverse : F where
 np := 1
 rs := [.t 2]
 body :=
  (.seq
  (.region none [ ⟨some 2, none, .asg (.c (.slice none 0 0))⟩] [0]) (.seq
  (.region none [ ⟨some 6, none, .mv (.t 0)⟩, ⟨some 7, none, .len (.t 6)⟩, ⟨some 8, none, .mks (.int .i64 0) (.t 7)⟩, ⟨some 3, none, .asg (.t 8)⟩] [0, 3]) (.seq (.seq
  (.region none [ ⟨some 9, none, .mv (.t 0)⟩, ⟨some 10, none, .len (.t 9)⟩, ⟨some 11, none, .mv (.c (.int .i64 0))⟩] [3, 9, 10, 11]) (.block 0 (.loop (.seq
  (.region none [ ⟨some 12, none, .bin .lss (.t 11) (.t 10)⟩] [3, 9, 10, 11, 12]) (.seq (.cond (.t 12) .skip (.exit 0)) (.seq (.block 1 (.seq
  (.region none [ ⟨some 13, none, .mv (.t 11)⟩, ⟨some 14, none, .idx 1 (.t 9) (.t 11)⟩, ⟨some 15, none, .ld none (.t 14)⟩, ⟨some 4, none, .mv (.t 13)⟩, ⟨some 5, none, .mv (.t 15)⟩] [3, 4, 5, 9, 10, 11])
  (.region none [ ⟨some 16, none, .mv (.t 3)⟩, ⟨some 17, none, .mv (.t 5)⟩, ⟨some 18, none, .mv (.t 4)⟩, ⟨some 19, none, .idx 1 (.t 16) (.t 17)⟩, ⟨none, none, .st none (.t 19) (.t 18)⟩] [3, 9, 10, 11])))
  (.region none [ ⟨some 20, none, .bin .add (.t 11) (.c (.int .i64 1))⟩, ⟨some 11, none, .mv (.t 20)⟩] [3, 9, 10, 11]))))))) (.seq
  (.region none [ ⟨some 21, none, .mv (.t 3)⟩, ⟨some 2, none, .asg (.t 21)⟩] [2]) .ret))))

def c_impl_renamed_1 : F where
 np := 5
 rs := [.t 7]
 body :=
  (.seq
  (.region none [ ⟨some 7, none, .mv (.c (.int .i64 0))⟩] [0, 1, 2, 3, 4]) (.seq
  (.region (some [8, 9, 10, 11, 12, 13, 14, 15, 16, 17, 18, 19, 20, 21]) [ ⟨some 8, none, .ld none (.t 2)⟩, ⟨some 9, none, .ld none (.t 3)⟩, ⟨some 10, none, .ld none (.t 4)⟩, ⟨some 11, none, .mv (.t 0)⟩, ⟨some 12, none, .idx 1 (.t 10) (.t 11)⟩, ⟨some 13, none, .ld none (.t 12)⟩, ⟨some 14, none, .idx 1 (.t 9) (.t 13)⟩, ⟨some 15, none, .ld none (.t 14)⟩, ⟨some 16, none, .ld none (.t 4)⟩, ⟨some 17, none, .mv (.t 1)⟩, ⟨some 18, none, .idx 1 (.t 16) (.t 17)⟩, ⟨some 19, none, .ld none (.t 18)⟩, ⟨some 20, none, .idx 1 (.t 15) (.t 19)⟩, ⟨some 21, none, .ld none (.t 20)⟩, ⟨some 22, none, .idx 1 (.t 8) (.t 21)⟩, ⟨some 23, none, .ld none (.t 22)⟩, ⟨some 7, none, .mv (.t 23)⟩] [7]) .ret))

def c_impl_equalTables : F where
 np := 2
 rs := [.t 4]
 body :=
  (.seq
  (.region none [ ⟨some 4, none, .mv (.c (.bool false))⟩] [0, 1]) (.seq
  (.region none [ ⟨some 5, none, .mv (.t 0)⟩, ⟨some 6, none, .mv (.t 1)⟩, ⟨some 7, none, .call (.f 389) [((.t 5), .r), ((.t 6), .r)]⟩, ⟨some 8, none, .bin .eql (.t 7) (.c (.int .i64 0))⟩, ⟨some 4, none, .mv (.t 8)⟩] [4]) .ret))

def c_impl_compareTables : F where
 np := 2
 rs := [.t 4]
 body :=
  (.seq
  (.region none [ ⟨some 4, none, .mv (.c (.int .i64 0))⟩] [0, 1]) (.seq
  (.region none [ ⟨some 5, none, .mv (.t 0)⟩, ⟨some 6, none, .mv (.t 1)⟩, ⟨some 7, none, .call (.f 431) [((.t 5), .r), ((.t 6), .r), ((.f 432), .r)]⟩, ⟨some 4, none, .mv (.t 7)⟩] [4]) .ret))

def j0l : F where
 np := 3
 rs := [.t 6]
 body :=
  (.seq
  (.region none [ ⟨some 6, none, .mv (.c (.int .i64 0))⟩] [0, 1, 2]) (.seq (.seq
  (.region none [ ⟨some 11, none, .mv (.t 0)⟩, ⟨some 12, none, .len (.t 11)⟩, ⟨some 13, none, .mv (.c (.int .i64 0))⟩] [0, 1, 2, 11, 12, 13]) (.block 0 (.loop (.seq
  (.region none [ ⟨some 14, none, .bin .lss (.t 13) (.t 12)⟩] [0, 1, 2, 11, 12, 13, 14]) (.seq (.cond (.t 14) .skip (.exit 0)) (.seq (.block 1 (.seq
  (.region none [ ⟨some 15, none, .mv (.t 13)⟩, ⟨some 16, none, .idx 1 (.t 11) (.t 13)⟩, ⟨some 17, none, .ld none (.t 16)⟩, ⟨some 7, none, .mv (.t 15)⟩, ⟨some 8, none, .asg (.t 17)⟩] [0, 1, 2, 7, 8, 11, 12, 13]) (.seq (.seq
  (.region none [ ⟨some 18, none, .mv (.t 7)⟩, ⟨some 19, none, .mv (.t 1)⟩, ⟨some 20, none, .len (.t 19)⟩, ⟨some 21, none, .bin .geq (.t 18) (.t 20)⟩] [0, 1, 2, 7, 8, 11, 12, 13, 21]) (.cond (.t 21) (.seq
  (.region none [ ⟨some 6, none, .mv (.c (.int .i64 1))⟩] [6]) .ret) .skip)) (.seq
  (.region none [ ⟨some 22, none, .mv (.t 1)⟩, ⟨some 23, none, .mv (.t 7)⟩, ⟨some 24, none, .idx 1 (.t 22) (.t 23)⟩, ⟨some 25, none, .ld none (.t 24)⟩, ⟨some 9, none, .asg (.t 25)⟩] [0, 1, 2, 8, 9, 11, 12, 13]) (.seq
  (.region none [ ⟨some 26, none, .mv (.t 2)⟩, ⟨some 27, none, .mv (.t 8)⟩, ⟨some 28, none, .mv (.t 9)⟩, ⟨some 29, none, .call (.t 26) [((.t 27), .r), ((.t 28), .r)]⟩, ⟨some 10, none, .mv (.t 29)⟩] [0, 1, 2, 10, 11, 12, 13]) (.seq
  (.region none [ ⟨some 30, none, .mv (.t 10)⟩, ⟨some 31, none, .bin .neq (.t 30) (.c (.int .i64 0))⟩] [0, 1, 2, 10, 11, 12, 13, 31]) (.cond (.t 31) (.seq
  (.region none [ ⟨some 32, none, .mv (.t 10)⟩, ⟨some 6, none, .mv (.t 32)⟩] [6]) .ret) .skip)))))))
  (.region none [ ⟨some 33, none, .bin .add (.t 13) (.c (.int .i64 1))⟩, ⟨some 13, none, .mv (.t 33)⟩] [0, 1, 2, 11, 12, 13]))))))) (.seq (.seq
  (.region none [ ⟨some 34, none, .mv (.t 0)⟩, ⟨some 35, none, .len (.t 34)⟩, ⟨some 36, none, .mv (.t 1)⟩, ⟨some 37, none, .len (.t 36)⟩, ⟨some 38, none, .bin .lss (.t 35) (.t 37)⟩] [38]) (.cond (.t 38) (.seq
  (.region none [ ⟨some 6, none, .mv (.c (.int .i64 (-1)))⟩] [6]) .ret) .skip)) (.seq
  (.region none [ ⟨some 6, none, .mv (.c (.int .i64 0))⟩] [6]) .ret))))

def c_impl_compareTables_1 : F where
 np := 2
 rs := [.t 4]
 body :=
  (.seq
  (.region none [ ⟨some 4, none, .mv (.c (.int .i64 0))⟩] [0, 1]) (.seq
  (.region none [ ⟨some 5, none, .mv (.t 0)⟩, ⟨some 6, none, .mv (.t 1)⟩, ⟨some 7, none, .call (.f 314) [((.t 5), .r), ((.t 6), .r)]⟩, ⟨some 4, none, .mv (.t 7)⟩] [4]) .ret))

def j00 : F where
 np := 2
 rs := [.t 4]
 body :=
  (.seq
  (.region none [ ⟨some 4, none, .mv (.c (.int .i64 0))⟩] [0, 1]) (.seq (.seq
  (.region none [ ⟨some 9, none, .mv (.t 0)⟩, ⟨some 10, none, .len (.t 9)⟩, ⟨some 11, none, .mv (.c (.int .i64 0))⟩] [0, 1, 9, 10, 11]) (.block 0 (.loop (.seq
  (.region none [ ⟨some 12, none, .bin .lss (.t 11) (.t 10)⟩] [0, 1, 9, 10, 11, 12]) (.seq (.cond (.t 12) .skip (.exit 0)) (.seq (.block 1 (.seq
  (.region none [ ⟨some 13, none, .mv (.t 11)⟩, ⟨some 14, none, .idx 1 (.t 9) (.t 11)⟩, ⟨some 15, none, .ld none (.t 14)⟩, ⟨some 5, none, .mv (.t 13)⟩, ⟨some 6, none, .mv (.t 15)⟩] [0, 1, 5, 6, 9, 10, 11]) (.seq (.seq
  (.region none [ ⟨some 16, none, .mv (.t 5)⟩, ⟨some 17, none, .mv (.t 1)⟩, ⟨some 18, none, .len (.t 17)⟩, ⟨some 19, none, .bin .geq (.t 16) (.t 18)⟩] [0, 1, 5, 6, 9, 10, 11, 19]) (.cond (.t 19) (.seq
  (.region none [ ⟨some 4, none, .mv (.c (.int .i64 1))⟩] [4]) .ret) .skip)) (.seq
  (.region none [ ⟨some 20, none, .mv (.t 1)⟩, ⟨some 21, none, .mv (.t 5)⟩, ⟨some 22, none, .idx 1 (.t 20) (.t 21)⟩, ⟨some 23, none, .ld none (.t 22)⟩, ⟨some 7, none, .mv (.t 23)⟩] [0, 1, 6, 7, 9, 10, 11]) (.seq
  (.region none [ ⟨some 24, none, .mv (.t 6)⟩, ⟨some 25, none, .mv (.t 7)⟩, ⟨some 26, none, .call (.f 395) [((.t 24), .r), ((.t 25), .r)]⟩, ⟨some 8, none, .mv (.t 26)⟩] [0, 1, 8, 9, 10, 11]) (.seq
  (.region none [ ⟨some 27, none, .mv (.t 8)⟩, ⟨some 28, none, .bin .neq (.t 27) (.c (.int .i64 0))⟩] [0, 1, 8, 9, 10, 11, 28]) (.cond (.t 28) (.seq
  (.region none [ ⟨some 29, none, .mv (.t 8)⟩, ⟨some 4, none, .mv (.t 29)⟩] [4]) .ret) .skip)))))))
  (.region none [ ⟨some 30, none, .bin .add (.t 11) (.c (.int .i64 1))⟩, ⟨some 11, none, .mv (.t 30)⟩] [0, 1, 9, 10, 11]))))))) (.seq (.seq
  (.region none [ ⟨some 31, none, .mv (.t 0)⟩, ⟨some 32, none, .len (.t 31)⟩, ⟨some 33, none, .mv (.t 1)⟩, ⟨some 34, none, .len (.t 33)⟩, ⟨some 35, none, .bin .lss (.t 32) (.t 34)⟩] [35]) (.cond (.t 35) (.seq
  (.region none [ ⟨some 4, none, .mv (.c (.int .i64 (-1)))⟩] [4]) .ret) .skip)) (.seq
  (.region none [ ⟨some 4, none, .mv (.c (.int .i64 0))⟩] [4]) .ret))))

def c_cmp_Compare_int64_ : F where
 np := 2
 rs := [.t 4]
 body :=
  (.seq
  (.region none [ ⟨some 4, none, .mv (.c (.int .i64 0))⟩] [0, 1]) (.seq
  (.region none [ ⟨some 7, none, .mv (.t 0)⟩, ⟨some 8, none, .call (.f 443) [((.t 7), .r)]⟩, ⟨some 5, none, .mv (.t 8)⟩] [0, 1, 5]) (.seq
  (.region none [ ⟨some 9, none, .mv (.t 1)⟩, ⟨some 10, none, .call (.f 443) [((.t 9), .r)]⟩, ⟨some 6, none, .mv (.t 10)⟩] [0, 1, 5, 6]) (.seq (.seq
  (.region none [ ⟨some 11, none, .mv (.t 5)⟩] [0, 1, 6, 11]) (.cond (.t 11) (.seq (.seq
  (.region none [ ⟨some 12, none, .mv (.t 6)⟩] [12]) (.cond (.t 12) (.seq
  (.region none [ ⟨some 4, none, .mv (.c (.int .i64 0))⟩] [4]) .ret) .skip)) (.seq
  (.region none [ ⟨some 4, none, .mv (.c (.int .i64 (-1)))⟩] [4]) .ret)) .skip)) (.seq (.seq
  (.region none [ ⟨some 13, none, .mv (.t 6)⟩] [0, 1, 13]) (.cond (.t 13) (.seq
  (.region none [ ⟨some 4, none, .mv (.c (.int .i64 1))⟩] [4]) .ret) .skip)) (.seq (.seq
  (.region none [ ⟨some 14, none, .mv (.t 0)⟩, ⟨some 15, none, .mv (.t 1)⟩, ⟨some 16, none, .bin .lss (.t 14) (.t 15)⟩] [0, 1, 16]) (.cond (.t 16) (.seq
  (.region none [ ⟨some 4, none, .mv (.c (.int .i64 (-1)))⟩] [4]) .ret) .skip)) (.seq (.seq
  (.region none [ ⟨some 17, none, .mv (.t 0)⟩, ⟨some 18, none, .mv (.t 1)⟩, ⟨some 19, none, .bin .gtr (.t 17) (.t 18)⟩] [19]) (.cond (.t 19) (.seq
  (.region none [ ⟨some 4, none, .mv (.c (.int .i64 1))⟩] [4]) .ret) .skip)) (.seq
  (.region none [ ⟨some 4, none, .mv (.c (.int .i64 0))⟩] [4]) .ret))))))))

def c_cmp_isNaN_int64_ : F where
 np := 1
 rs := [.t 2]
 body :=
  (.seq
  (.region none [ ⟨some 2, none, .mv (.c (.bool false))⟩] [0]) (.seq
  (.region none [ ⟨some 3, none, .mv (.t 0)⟩, ⟨some 4, none, .mv (.t 0)⟩, ⟨some 5, none, .bin .neq (.t 3) (.t 4)⟩, ⟨some 2, none, .mv (.t 5)⟩] [2]) .ret))

def c_impl_TwistedSolution_1 : F where
 np := 5
 rs := [.t 7, .t 8]
 body :=
  (.seq
  (.region none [ ⟨some 7, none, .mv (.c (.int .i64 0))⟩, ⟨some 8, none, .mv (.c (.int .i64 0))⟩] [0, 1, 2, 3, 4]) (.seq
  (.region (some [7, 9, 10, 11, 12, 13, 14, 15, 16, 17, 18, 19, 20, 21, 22, 23, 24, 25, 26]) [ ⟨some 9, none, .ld none (.t 2)⟩, ⟨some 10, none, .mv (.t 1)⟩, ⟨some 11, none, .idx 1 (.t 9) (.t 10)⟩, ⟨some 12, none, .ld none (.t 11)⟩, ⟨some 13, none, .ld none (.t 3)⟩, ⟨some 14, none, .fld 0 (.t 4)⟩, ⟨some 15, none, .ld none (.t 14)⟩, ⟨some 16, none, .ld none (.t 2)⟩, ⟨some 17, none, .mv (.t 1)⟩, ⟨some 18, none, .idx 1 (.t 16) (.t 17)⟩, ⟨some 19, none, .ld none (.t 18)⟩, ⟨some 20, none, .idx 1 (.t 15) (.t 19)⟩, ⟨some 21, none, .ld none (.t 20)⟩, ⟨some 22, none, .mv (.t 0)⟩, ⟨some 23, none, .idx 1 (.t 21) (.t 22)⟩, ⟨some 24, none, .ld none (.t 23)⟩, ⟨some 25, none, .idx 1 (.t 13) (.t 24)⟩, ⟨some 26, none, .ld none (.t 25)⟩, ⟨some 7, none, .mv (.t 12)⟩, ⟨some 8, none, .mv (.t 26)⟩] [7, 8]) .ret))

def c_impl_solutionBy : F where
 np := 2
 rs := [.cell 4 (some 2)]
 body :=
  (.seq
  (.region none [ ⟨some 3, none, .box (.t 1)⟩, ⟨some 4, none, .alloc [(.slice none 0 0), (.slice none 0 0)]⟩] [0, 3, 4]) (.seq
  (.region none [ ⟨some 5, none, .mv (.t 0)⟩, ⟨some 6, none, .fnc 391 [(.t 3)]⟩, ⟨some 7, none, .call (.f 376) [((.t 5), .r), ((.t 6), .r)]⟩, ⟨some 8, none, .mv (.t 0)⟩, ⟨some 9, none, .fnc 392 [(.t 3)]⟩, ⟨some 10, none, .call (.f 376) [((.t 8), .r), ((.t 9), .r)]⟩, ⟨some 11, none, .build [(.slice none 0 0), (.slice none 0 0)] [(0, 1, (.t 7)), (1, 1, (.t 10))]⟩, ⟨none, none, .st (some 2) (.t 4) (.t 11)⟩] [4]) .ret))

def c_impl_solutionBy_1 : F where
 np := 3
 rs := [.t 5]
 body :=
  (.seq
  (.region none [ ⟨some 5, none, .mv (.c (.int .i64 0))⟩] [0, 1, 2]) (.seq
  (.region none [ ⟨some 9, none, .ld none (.t 2)⟩, ⟨some 10, none, .mv (.t 0)⟩, ⟨some 11, none, .mv (.t 1)⟩, ⟨some 12, none, .call (.t 9) [((.t 10), .r), ((.t 11), .r)]⟩, ⟨some 8, none, .mv (.t 12)⟩, ⟨some 13, none, .ext (.t 8) 0⟩, ⟨some 14, none, .ext (.t 8) 1⟩, ⟨some 6, none, .mv (.t 13)⟩, ⟨some 7, none, .mv (.t 14)⟩] [6]) (.seq
  (.region none [ ⟨some 15, none, .mv (.t 6)⟩, ⟨some 5, none, .mv (.t 15)⟩] [5]) .ret)))

def c_impl_solutionBy_2 : F where
 np := 3
 rs := [.t 5]
 body :=
  (.seq
  (.region none [ ⟨some 5, none, .mv (.c (.int .i64 0))⟩] [0, 1, 2]) (.seq
  (.region none [ ⟨some 9, none, .ld none (.t 2)⟩, ⟨some 10, none, .mv (.t 0)⟩, ⟨some 11, none, .mv (.t 1)⟩, ⟨some 12, none, .call (.t 9) [((.t 10), .r), ((.t 11), .r)]⟩, ⟨some 8, none, .mv (.t 12)⟩, ⟨some 13, none, .ext (.t 8) 0⟩, ⟨some 14, none, .ext (.t 8) 1⟩, ⟨some 6, none, .mv (.t 13)⟩, ⟨some 7, none, .mv (.t 14)⟩] [7]) (.seq
  (.region none [ ⟨some 15, none, .mv (.t 7)⟩, ⟨some 5, none, .mv (.t 15)⟩] [5]) .ret)))

def c_spec_l02Empty : F where
 np := 1
 rs := [.cell 2 (some 2)]
 body :=
  (.seq
  (.region none [ ⟨some 2, none, .alloc [(.slice none 0 0), (.slice none 0 0)]⟩] [0, 2]) (.seq
  (.region none [ ⟨some 5, none, .build [(.slice none 0 0), (.slice none 0 0)] []⟩, ⟨some 3, none, .alloc [(.slice none 0 0), (.slice none 0 0)]⟩, ⟨none, none, .st (some 2) (.t 3) (.t 5)⟩] [0, 2, 3]) (.seq (.seq
  (.region none [ ⟨some 4, none, .mv (.c (.int .i64 0))⟩] [0, 2, 3, 4]) (.block 0 (.loop (.seq (.seq
  (.region none [ ⟨some 6, none, .mv (.t 4)⟩, ⟨some 7, none, .mv (.t 0)⟩, ⟨some 8, none, .bin .lss (.t 6) (.t 7)⟩] [0, 2, 3, 4, 8]) (.cond (.t 8) .skip (.exit 0))) (.seq (.block 1 (.seq
  (.region (some [11, 12, 13, 14, 15]) [ ⟨some 11, none, .fld 0 (.t 3)⟩, ⟨some 12, none, .ld none (.t 11)⟩, ⟨some 13, none, .mv (.t 0)⟩, ⟨some 14, none, .mks (.int .i64 0) (.t 13)⟩, ⟨some 15, none, .bsl1 14⟩, ⟨some 16, none, .app true 1 (.t 12) (.t 15)⟩, ⟨some 17, none, .fld 0 (.t 3)⟩, ⟨none, none, .st none (.t 17) (.t 16)⟩] [0, 2, 3, 4])
  (.region (some [18, 19, 20, 21, 22]) [ ⟨some 18, none, .fld 1 (.t 3)⟩, ⟨some 19, none, .ld none (.t 18)⟩, ⟨some 20, none, .mv (.t 0)⟩, ⟨some 21, none, .mks (.int .i64 0) (.t 20)⟩, ⟨some 22, none, .bsl1 21⟩, ⟨some 23, none, .app true 1 (.t 19) (.t 22)⟩, ⟨some 24, none, .fld 1 (.t 3)⟩, ⟨none, none, .st none (.t 24) (.t 23)⟩] [0, 2, 3, 4])))
  (.region none [ ⟨some 9, none, .mv (.t 4)⟩, ⟨some 10, none, .bin .add (.t 9) (.c (.int .i64 1))⟩, ⟨some 4, none, .mv (.t 10)⟩] [0, 2, 3, 4])))))) (.seq
  (.region none [ ⟨some 25, none, .ld (some 2) (.t 3)⟩, ⟨none, none, .st (some 2) (.t 2) (.t 25)⟩] [2]) .ret))))

end Go.Mch
