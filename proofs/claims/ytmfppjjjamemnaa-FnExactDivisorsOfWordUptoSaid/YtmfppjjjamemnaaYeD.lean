/- Compact code of the functions of words that the exact laws reach further. -/
import Derived.Test.YtmfppjjjamemnaaM1
namespace Go.Mch

/-- spec.l09Class -/
def c_spec_l09Class : F where
  np := 3
  rs := [.t 6, .t 7]
  body :=
    (.seq
    (.region none [ ⟨some 3, none, .box (.t 0)⟩, ⟨some 6, none, .asg (.c (.slice none 0 0))⟩, ⟨some 7, none, .mv (.c (.bool false))⟩] [1, 2, 3]) (.seq
    (.region none [ ⟨some 17, none, .ld (some 2) (.t 3)⟩, ⟨some 18, none, .call (.f 406) [((.t 17), .r)]⟩, ⟨some 8, none, .alloc [(.slice none 0 0), (.slice none 0 0)]⟩, ⟨none, none, .st (some 2) (.t 8) (.t 18)⟩] [1, 2, 3, 8]) (.seq
    (.region none [ ⟨some 19, none, .mv (.t 1)⟩, ⟨some 20, none, .call (.f 31) [((.t 19), .r)]⟩, ⟨none, none, .freeze 20⟩, ⟨some 21, none, .bsl [(.t 20)]⟩, ⟨some 22, none, .mv (.t 1)⟩, ⟨some 23, none, .call (.f 31) [((.t 22), .r)]⟩, ⟨none, none, .freeze 23⟩, ⟨some 24, none, .bsl [(.t 23)]⟩, ⟨some 9, none, .asg (.t 21)⟩, ⟨some 10, none, .asg (.t 24)⟩] [1, 2, 3, 8, 9, 10]) (.seq (.seq
    (.region none [ ⟨some 11, none, .mv (.c (.int .i64 0))⟩] [1, 2, 3, 8, 9, 10, 11]) (.block 0 (.loop (.seq (.seq
    (.region none [ ⟨some 25, none, .mv (.t 11)⟩, ⟨some 26, none, .mv (.t 9)⟩, ⟨some 27, none, .len (.t 26)⟩, ⟨some 28, none, .bin .lss (.t 25) (.t 27)⟩] [1, 2, 3, 8, 9, 10, 11, 28]) (.cond (.t 28) .skip (.exit 0))) (.seq (.block 1 (.seq (.seq
    (.region none [ ⟨some 12, none, .mv (.c (.int .i64 0))⟩] [1, 2, 3, 8, 9, 10, 11, 12]) (.block 2 (.loop (.seq (.seq
    (.region none [ ⟨some 31, none, .mv (.t 12)⟩, ⟨some 32, none, .bin .add (.t 31) (.c (.int .i64 1))⟩, ⟨some 33, none, .mv (.t 1)⟩, ⟨some 34, none, .len (.t 33)⟩, ⟨some 35, none, .bin .lss (.t 32) (.t 34)⟩] [1, 2, 3, 8, 9, 10, 11, 12, 35]) (.cond (.t 35) .skip (.exit 2))) (.seq (.block 3 (.seq
    (.region (some [38, 39, 40, 41, 42, 43, 44, 45, 46, 47, 48, 49, 50]) [ ⟨some 38, none, .ld (some 2) (.t 3)⟩, ⟨some 39, none, .mv (.t 9)⟩, ⟨some 40, none, .mv (.t 11)⟩, ⟨some 41, none, .idx 1 (.t 39) (.t 40)⟩, ⟨some 42, none, .ld none (.t 41)⟩, ⟨some 43, none, .mv (.t 12)⟩, ⟨some 44, none, .call (.f 68) [((.t 38), .r), ((.t 42), .r), ((.t 43), .r)]⟩, ⟨some 45, none, .ld (some 2) (.t 8)⟩, ⟨some 46, none, .mv (.t 9)⟩, ⟨some 47, none, .mv (.t 11)⟩, ⟨some 48, none, .idx 1 (.t 46) (.t 47)⟩, ⟨some 49, none, .ld none (.t 48)⟩, ⟨some 50, none, .mv (.t 12)⟩, ⟨some 51, none, .call (.f 68) [((.t 45), .r), ((.t 49), .r), ((.t 50), .r)]⟩, ⟨some 52, none, .bsl [(.t 44), (.t 51)]⟩, ⟨some 13, none, .asg (.t 52)⟩] [1, 2, 3, 8, 9, 10, 11, 12, 13]) (.seq
    (.region none [ ⟨none, none, .freeze 13⟩, ⟨some 14, none, .mv (.c (.int .i64 0))⟩] [1, 2, 3, 8, 9, 10, 11, 12, 13, 14]) (.block 4 (.loop (.seq (.seq
    (.region none [ ⟨some 53, none, .mv (.t 14)⟩, ⟨some 54, none, .mv (.t 13)⟩, ⟨some 55, none, .len (.t 54)⟩, ⟨some 56, none, .bin .lss (.t 53) (.t 55)⟩] [1, 2, 3, 8, 9, 10, 11, 12, 13, 14, 56]) (.cond (.t 56) .skip (.exit 4))) (.seq (.block 5 (.seq
    (.region none [ ⟨some 60, none, .mv (.t 10)⟩, ⟨some 61, none, .mv (.t 13)⟩, ⟨some 62, none, .mv (.t 14)⟩, ⟨some 63, none, .idx 1 (.t 61) (.t 62)⟩, ⟨some 64, none, .ld none (.t 63)⟩, ⟨some 65, none, .callm (.f 349) [((.t 60), false), ((.t 64), false)] []⟩, ⟨some 59, none, .mv (.t 65)⟩, ⟨some 66, none, .ext (.t 59) 0⟩, ⟨some 67, none, .ext (.t 59) 1⟩, ⟨some 15, none, .asg (.t 66)⟩, ⟨some 16, none, .mv (.t 67)⟩] [1, 2, 3, 8, 9, 11, 12, 13, 14, 15, 16]) (.seq
    (.region none [ ⟨some 68, none, .mv (.t 15)⟩, ⟨some 10, none, .asg (.t 68)⟩] [1, 2, 3, 8, 9, 10, 11, 12, 13, 14, 16]) (.seq
    (.region none [ ⟨some 69, none, .mv (.t 16)⟩] [1, 2, 3, 8, 9, 10, 11, 12, 13, 14, 69]) (.cond (.t 69)
    (.region none [ ⟨some 70, none, .mv (.t 9)⟩, ⟨some 71, none, .mv (.t 13)⟩, ⟨some 72, none, .mv (.t 14)⟩, ⟨some 73, none, .idx 1 (.t 71) (.t 72)⟩, ⟨some 74, none, .ld none (.t 73)⟩, ⟨some 75, none, .bsl [(.t 74)]⟩, ⟨some 76, none, .app true 1 (.t 70) (.t 75)⟩, ⟨some 9, none, .asg (.t 76)⟩] [1, 2, 3, 8, 9, 10, 11, 12, 13, 14]) .skip)))))
    (.region none [ ⟨some 57, none, .mv (.t 14)⟩, ⟨some 58, none, .bin .add (.t 57) (.c (.int .i64 1))⟩, ⟨some 14, none, .mv (.t 58)⟩] [1, 2, 3, 8, 9, 10, 11, 12, 13, 14]))))))))
    (.region none [ ⟨some 36, none, .mv (.t 12)⟩, ⟨some 37, none, .bin .add (.t 36) (.c (.int .i64 1))⟩, ⟨some 12, none, .mv (.t 37)⟩] [1, 2, 3, 8, 9, 10, 11, 12])))))) (.seq
    (.region none [ ⟨some 77, none, .mv (.t 9)⟩, ⟨some 78, none, .len (.t 77)⟩, ⟨some 79, none, .mv (.t 2)⟩, ⟨some 80, none, .bin .gtr (.t 78) (.t 79)⟩] [1, 2, 3, 8, 9, 10, 11, 80]) (.cond (.t 80) (.seq
    (.region none [ ⟨some 6, none, .asg (.c (.slice none 0 0))⟩, ⟨some 7, none, .mv (.c (.bool false))⟩] [6, 7]) .ret) .skip))))
    (.region none [ ⟨some 29, none, .mv (.t 11)⟩, ⟨some 30, none, .bin .add (.t 29) (.c (.int .i64 1))⟩, ⟨some 11, none, .mv (.t 30)⟩] [1, 2, 3, 8, 9, 10, 11])))))) (.seq
    (.region none [ ⟨some 81, none, .mv (.t 10)⟩, ⟨some 82, none, .call (.f 280) [((.t 81), .r)]⟩, ⟨some 6, none, .asg (.t 82)⟩, ⟨some 7, none, .mv (.c (.bool true))⟩] [6, 7]) .ret)))))

/-- spec.l02Inverse -/
def c_spec_l02Inverse : F where
  np := 1
  rs := [.cell 2 (some 2)]
  body :=
    (.seq
    (.region none [ ⟨some 1, none, .box (.t 0)⟩, ⟨some 2, none, .alloc [(.slice none 0 0), (.slice none 0 0)]⟩] [1, 2]) (.seq
    (.region none [ ⟨some 9, none, .fld 0 (.t 1)⟩, ⟨some 10, none, .ld none (.t 9)⟩, ⟨some 11, none, .len (.t 10)⟩, ⟨some 3, none, .mv (.t 11)⟩] [1, 2, 3]) (.seq
    (.region none [ ⟨some 12, none, .mv (.t 3)⟩, ⟨some 13, none, .call (.f 398) [((.t 12), .r)]⟩, ⟨some 4, none, .alloc [(.slice none 0 0), (.slice none 0 0)]⟩, ⟨none, none, .st (some 2) (.t 4) (.t 13)⟩] [1, 2, 3, 4]) (.seq (.seq
    (.region none [ ⟨some 5, none, .mv (.c (.int .i64 0))⟩] [1, 2, 3, 4, 5]) (.block 0 (.loop (.seq (.seq
    (.region none [ ⟨some 14, none, .mv (.t 5)⟩, ⟨some 15, none, .mv (.t 3)⟩, ⟨some 16, none, .bin .lss (.t 14) (.t 15)⟩] [1, 2, 3, 4, 5, 16]) (.cond (.t 16) .skip (.exit 0))) (.seq (.block 1 (.seq
    (.region none [ ⟨some 6, none, .mv (.c (.int .i64 0))⟩] [1, 2, 3, 4, 5, 6]) (.block 2 (.loop (.seq (.seq
    (.region none [ ⟨some 19, none, .mv (.t 6)⟩, ⟨some 20, none, .mv (.t 3)⟩, ⟨some 21, none, .bin .lss (.t 19) (.t 20)⟩] [1, 2, 3, 4, 5, 6, 21]) (.cond (.t 21) .skip (.exit 2))) (.seq (.block 3 (.seq
    (.region (some [7, 24, 25, 26, 27, 28, 29, 30, 31, 32, 33, 34, 35, 36, 37, 38, 39, 40, 41, 42, 43, 44, 45, 46, 47]) [ ⟨some 24, none, .fld 0 (.t 4)⟩, ⟨some 25, none, .ld none (.t 24)⟩, ⟨some 26, none, .fld 0 (.t 1)⟩, ⟨some 27, none, .ld none (.t 26)⟩, ⟨some 28, none, .mv (.t 5)⟩, ⟨some 29, none, .idx 1 (.t 27) (.t 28)⟩, ⟨some 30, none, .ld none (.t 29)⟩, ⟨some 31, none, .mv (.t 6)⟩, ⟨some 32, none, .idx 1 (.t 30) (.t 31)⟩, ⟨some 33, none, .ld none (.t 32)⟩, ⟨some 34, none, .idx 1 (.t 25) (.t 33)⟩, ⟨some 35, none, .ld none (.t 34)⟩, ⟨some 36, none, .fld 1 (.t 4)⟩, ⟨some 37, none, .ld none (.t 36)⟩, ⟨some 38, none, .fld 0 (.t 1)⟩, ⟨some 39, none, .ld none (.t 38)⟩, ⟨some 40, none, .mv (.t 5)⟩, ⟨some 41, none, .idx 1 (.t 39) (.t 40)⟩, ⟨some 42, none, .ld none (.t 41)⟩, ⟨some 43, none, .mv (.t 6)⟩, ⟨some 44, none, .idx 1 (.t 42) (.t 43)⟩, ⟨some 45, none, .ld none (.t 44)⟩, ⟨some 46, none, .idx 1 (.t 37) (.t 45)⟩, ⟨some 47, none, .ld none (.t 46)⟩, ⟨some 7, none, .mv (.t 35)⟩, ⟨some 8, none, .mv (.t 47)⟩] [1, 2, 3, 4, 5, 6, 7, 8]) (.seq
    (.region none [ ⟨some 48, none, .mv (.t 7)⟩, ⟨some 49, none, .fld 1 (.t 1)⟩, ⟨some 50, none, .ld none (.t 49)⟩, ⟨some 51, none, .mv (.t 5)⟩, ⟨some 52, none, .idx 1 (.t 50) (.t 51)⟩, ⟨some 53, none, .ld none (.t 52)⟩, ⟨some 54, none, .mv (.t 6)⟩, ⟨some 55, none, .idx 1 (.t 53) (.t 54)⟩, ⟨some 56, none, .ld none (.t 55)⟩, ⟨some 57, none, .mv (.t 5)⟩, ⟨some 58, none, .idx 1 (.t 48) (.t 56)⟩, ⟨none, none, .st none (.t 58) (.t 57)⟩] [1, 2, 3, 4, 5, 6, 8])
    (.region none [ ⟨some 59, none, .mv (.t 8)⟩, ⟨some 60, none, .fld 1 (.t 1)⟩, ⟨some 61, none, .ld none (.t 60)⟩, ⟨some 62, none, .mv (.t 5)⟩, ⟨some 63, none, .idx 1 (.t 61) (.t 62)⟩, ⟨some 64, none, .ld none (.t 63)⟩, ⟨some 65, none, .mv (.t 6)⟩, ⟨some 66, none, .idx 1 (.t 64) (.t 65)⟩, ⟨some 67, none, .ld none (.t 66)⟩, ⟨some 68, none, .mv (.t 6)⟩, ⟨some 69, none, .idx 1 (.t 59) (.t 67)⟩, ⟨none, none, .st none (.t 69) (.t 68)⟩] [1, 2, 3, 4, 5, 6]))))
    (.region none [ ⟨some 22, none, .mv (.t 6)⟩, ⟨some 23, none, .bin .add (.t 22) (.c (.int .i64 1))⟩, ⟨some 6, none, .mv (.t 23)⟩] [1, 2, 3, 4, 5, 6])))))))
    (.region none [ ⟨some 17, none, .mv (.t 5)⟩, ⟨some 18, none, .bin .add (.t 17) (.c (.int .i64 1))⟩, ⟨some 5, none, .mv (.t 18)⟩] [1, 2, 3, 4, 5])))))) (.seq
    (.region none [ ⟨some 70, none, .ld (some 2) (.t 4)⟩, ⟨none, none, .st (some 2) (.t 2) (.t 70)⟩] [2]) .ret)))))

/-- impl.limitedClass -/
def c_impl_limitedClass : F where
  np := 2
  rs := [.t 4, .t 5]
  body :=
    (.seq
    (.region none [ ⟨some 2, none, .box (.t 0)⟩, ⟨some 4, none, .asg (.c (.slice none 0 0))⟩, ⟨some 5, none, .mv (.c (.int .i64 0))⟩] [1, 2]) (.seq
    (.region none [ ⟨some 9, none, .ld (some 2) (.t 2)⟩, ⟨some 10, none, .mv (.t 1)⟩, ⟨some 11, none, .call (.f 352) [((.t 9), .r), ((.t 10), .r), ((.c (.int .i64 1000)), .r)]⟩, ⟨some 8, none, .mv (.t 11)⟩, ⟨some 12, none, .ext (.t 8) 0⟩, ⟨some 13, none, .ext (.t 8) 1⟩, ⟨some 6, none, .asg (.t 12)⟩, ⟨some 7, none, .mv (.t 13)⟩] [6, 7]) (.seq (.seq
    (.region none [ ⟨some 14, none, .mv (.t 7)⟩, ⟨some 15, none, .un .not (.t 14)⟩] [6, 15]) (.cond (.t 15) (.seq
    (.region none [ ⟨some 4, none, .asg (.c (.slice none 0 0))⟩, ⟨some 5, none, .mv (.c (.int .i64 3))⟩] [4, 5]) .ret) .skip)) (.seq
    (.region none [ ⟨some 16, none, .mv (.t 6)⟩, ⟨some 4, none, .asg (.t 16)⟩, ⟨some 5, none, .mv (.c (.int .i64 0))⟩] [4, 5]) .ret))))

/-- impl.wordClass -/
def c_impl_wordClass : F where
  np := 3
  rs := [.t 6, .t 7]
  body :=
    (.seq
    (.region none [ ⟨some 3, none, .box (.t 0)⟩, ⟨some 6, none, .asg (.c (.slice none 0 0))⟩, ⟨some 7, none, .mv (.c (.bool false))⟩] [1, 2, 3]) (.seq
    (.region none [ ⟨some 19, none, .ld (some 2) (.t 3)⟩, ⟨some 20, none, .call (.f 411) [((.t 19), .r)]⟩, ⟨none, none, .freeze 20⟩, ⟨some 18, none, .mv (.t 20)⟩, ⟨some 21, none, .ext (.t 18) 0⟩, ⟨some 22, none, .ext (.t 18) 1⟩, ⟨some 8, none, .alloc [(.slice none 0 0), (.slice none 0 0)]⟩, ⟨none, none, .st (some 2) (.t 8) (.t 21)⟩, ⟨some 9, none, .mv (.t 22)⟩] [1, 2, 3, 8]) (.seq
    (.region none [ ⟨some 23, none, .mv (.t 1)⟩, ⟨some 24, none, .call (.f 36) [((.t 23), .r)]⟩, ⟨some 25, none, .bsl [(.t 24)]⟩, ⟨some 10, none, .asg (.t 25)⟩] [1, 2, 3, 8, 10]) (.seq
    (.region none [ ⟨some 26, none, .mkset⟩, ⟨some 27, none, .mv (.t 1)⟩, ⟨some 28, none, .call (.f 312) [((.t 27), .r)]⟩, ⟨none, none, .upd (.t 26) (.t 28)⟩, ⟨some 29, none, .mv (.t 26)⟩, ⟨some 11, none, .asg (.t 29)⟩] [1, 2, 3, 8, 10, 11]) (.seq (.seq
    (.region none [ ⟨some 12, none, .mv (.c (.int .i64 0))⟩] [1, 2, 3, 8, 10, 11, 12]) (.block 0 (.loop (.seq (.seq
    (.region none [ ⟨some 30, none, .mv (.t 12)⟩, ⟨some 31, none, .mv (.t 10)⟩, ⟨some 32, none, .len (.t 31)⟩, ⟨some 33, none, .bin .lss (.t 30) (.t 32)⟩] [1, 2, 3, 8, 10, 11, 12, 33]) (.cond (.t 33) .skip (.exit 0))) (.seq (.block 1 (.seq
    (.region none [ ⟨some 36, none, .mv (.t 1)⟩, ⟨some 37, none, .len (.t 36)⟩, ⟨some 38, none, .bin .sub (.t 37) (.c (.int .i64 1))⟩, ⟨some 39, none, .mv (.c (.int .i64 0))⟩] [1, 2, 3, 8, 10, 11, 12, 38, 39]) (.block 2 (.loop (.seq
    (.region none [ ⟨some 40, none, .bin .lss (.t 39) (.t 38)⟩] [1, 2, 3, 8, 10, 11, 12, 38, 39, 40]) (.seq (.cond (.t 40) .skip (.exit 2)) (.seq (.block 3 (.seq
    (.region none [ ⟨some 41, none, .mv (.t 39)⟩, ⟨some 13, none, .mv (.t 41)⟩] [1, 2, 3, 8, 10, 11, 12, 13, 38, 39]) (.seq
    (.region none [ ⟨some 42, none, .ld (some 2) (.t 3)⟩, ⟨some 43, none, .ld (some 2) (.t 8)⟩, ⟨some 44, none, .build [(.slice none 0 0), (.slice none 0 0), (.slice none 0 0), (.slice none 0 0)] [(0, 2, (.t 42)), (2, 2, (.t 43))]⟩, ⟨some 45, none, .mv (.c (.int .i64 0))⟩] [1, 2, 3, 8, 10, 11, 12, 13, 38, 39, 44, 45]) (.block 4 (.loop (.seq
    (.region none [ ⟨some 46, none, .bin .lss (.t 45) (.c (.int .i64 2))⟩] [1, 2, 3, 8, 10, 11, 12, 13, 38, 39, 44, 45, 46]) (.seq (.cond (.t 46) .skip (.exit 4)) (.seq (.block 5 (.seq
    (.region none [ ⟨some 47, none, .arr 2 2 (.t 44) (.t 45)⟩, ⟨some 15, none, .alloc [(.slice none 0 0), (.slice none 0 0)]⟩, ⟨none, none, .st (some 2) (.t 15) (.t 47)⟩] [1, 2, 3, 8, 10, 11, 12, 13, 15, 38, 39, 44, 45]) (.seq
    (.region (some [48, 49, 50, 51, 52, 53]) [ ⟨some 48, none, .ld (some 2) (.t 15)⟩, ⟨some 49, none, .mv (.t 10)⟩, ⟨some 50, none, .mv (.t 12)⟩, ⟨some 51, none, .idx 1 (.t 49) (.t 50)⟩, ⟨some 52, none, .ld none (.t 51)⟩, ⟨some 53, none, .mv (.t 13)⟩, ⟨some 54, none, .call (.f 44) [((.t 48), .r), ((.t 52), .r), ((.t 53), .r)]⟩, ⟨some 16, none, .asg (.t 54)⟩] [1, 2, 3, 8, 10, 11, 12, 13, 16, 38, 39, 44, 45]) (.seq
    (.region none [ ⟨some 55, none, .mv (.t 16)⟩, ⟨some 56, none, .call (.f 312) [((.t 55), .r)]⟩, ⟨some 17, none, .mv (.t 56)⟩] [1, 2, 3, 8, 10, 11, 12, 13, 16, 17, 38, 39, 44, 45]) (.seq (.seq
    (.region none [ ⟨some 57, none, .mv (.t 11)⟩, ⟨some 58, none, .mv (.t 17)⟩, ⟨some 59, none, .look (.t 57) (.t 58)⟩] [1, 2, 3, 8, 10, 11, 12, 13, 16, 17, 38, 39, 44, 45, 59]) (.cond (.t 59) (.exit 5) .skip)) (.seq (.seq
    (.region none [ ⟨some 60, none, .mv (.t 10)⟩, ⟨some 61, none, .len (.t 60)⟩, ⟨some 62, none, .mv (.t 2)⟩, ⟨some 63, none, .bin .eql (.t 61) (.t 62)⟩] [1, 2, 3, 8, 10, 11, 12, 13, 16, 17, 38, 39, 44, 45, 63]) (.cond (.t 63) (.seq
    (.region none [ ⟨some 6, none, .asg (.c (.slice none 0 0))⟩, ⟨some 7, none, .mv (.c (.bool false))⟩] [6, 7]) .ret) .skip)) (.seq
    (.region none [ ⟨some 64, none, .mv (.t 11)⟩, ⟨some 65, none, .mv (.t 17)⟩, ⟨none, none, .upd (.t 64) (.t 65)⟩] [1, 2, 3, 8, 10, 11, 12, 13, 16, 38, 39, 44, 45])
    (.region none [ ⟨some 66, none, .mv (.t 10)⟩, ⟨some 67, none, .mv (.t 16)⟩, ⟨some 68, none, .bsl [(.t 67)]⟩, ⟨some 69, none, .app true 1 (.t 66) (.t 68)⟩, ⟨some 10, none, .asg (.t 69)⟩] [1, 2, 3, 8, 10, 11, 12, 13, 38, 39, 44, 45]))))))))
    (.region none [ ⟨some 70, none, .bin .add (.t 45) (.c (.int .i64 1))⟩, ⟨some 45, none, .mv (.t 70)⟩] [1, 2, 3, 8, 10, 11, 12, 13, 38, 39, 44, 45])))))))))
    (.region none [ ⟨some 71, none, .bin .add (.t 39) (.c (.int .i64 1))⟩, ⟨some 39, none, .mv (.t 71)⟩] [1, 2, 3, 8, 10, 11, 12, 38, 39]))))))))
    (.region none [ ⟨some 34, none, .mv (.t 12)⟩, ⟨some 35, none, .bin .add (.t 34) (.c (.int .i64 1))⟩, ⟨some 12, none, .mv (.t 35)⟩] [1, 2, 3, 8, 10, 11, 12])))))) (.seq
    (.region none [ ⟨some 72, none, .mv (.t 10)⟩, ⟨some 73, none, .callm (.f 313) [((.t 72), true), ((.f 314), false)] []⟩] [10]) (.seq
    (.region none [ ⟨some 74, none, .mv (.t 10)⟩, ⟨some 6, none, .asg (.t 74)⟩, ⟨some 7, none, .mv (.c (.bool true))⟩] [6, 7]) .ret)))))))

/-- impl.InverseSolution -/
def c_impl_InverseSolution : F where
  np := 1
  rs := [.cell 2 (some 2), .t 3]
  body :=
    (.seq
    (.region none [ ⟨some 1, none, .box (.t 0)⟩, ⟨some 2, none, .alloc [(.slice none 0 0), (.slice none 0 0)]⟩, ⟨some 3, none, .mv (.c (.int .i64 0))⟩] [1, 2]) (.seq (.seq
    (.region none [ ⟨some 10, none, .ld (some 2) (.t 1)⟩, ⟨some 11, none, .call (.f 42) [((.t 10), .r)]⟩, ⟨some 12, none, .un .not (.t 11)⟩] [1, 2, 12]) (.cond (.t 12) (.seq
    (.region none [ ⟨some 13, none, .build [(.slice none 0 0), (.slice none 0 0)] []⟩, ⟨none, none, .st (some 2) (.t 2) (.t 13)⟩, ⟨some 3, none, .mv (.c (.int .i64 1))⟩] [2, 3]) .ret) .skip)) (.seq
    (.region (some [4, 14, 15, 16, 17, 18, 19, 20]) [ ⟨some 14, none, .fld 0 (.t 1)⟩, ⟨some 15, none, .ld none (.t 14)⟩, ⟨some 16, none, .call (.f 275) [((.t 15), .r)]⟩, ⟨some 17, none, .fld 1 (.t 1)⟩, ⟨some 18, none, .ld none (.t 17)⟩, ⟨some 19, none, .call (.f 275) [((.t 18), .r)]⟩, ⟨some 20, none, .build [(.slice none 0 0), (.slice none 0 0)] [(0, 1, (.t 16)), (1, 1, (.t 19))]⟩, ⟨some 4, none, .alloc [(.slice none 0 0), (.slice none 0 0)]⟩, ⟨none, none, .st (some 2) (.t 4) (.t 20)⟩] [1, 2, 4]) (.seq (.seq
    (.region none [ ⟨some 21, none, .fld 0 (.t 1)⟩, ⟨some 22, none, .ld none (.t 21)⟩, ⟨some 23, none, .len (.t 22)⟩, ⟨some 24, none, .mv (.c (.int .i64 0))⟩] [1, 2, 4, 22, 23, 24]) (.block 0 (.loop (.seq
    (.region none [ ⟨some 25, none, .bin .lss (.t 24) (.t 23)⟩] [1, 2, 4, 22, 23, 24, 25]) (.seq (.cond (.t 25) .skip (.exit 0)) (.seq (.block 1 (.seq
    (.region none [ ⟨some 26, none, .mv (.t 24)⟩, ⟨some 27, none, .idx 1 (.t 22) (.t 24)⟩, ⟨some 28, none, .ld none (.t 27)⟩, ⟨some 5, none, .mv (.t 26)⟩, ⟨some 6, none, .asg (.t 28)⟩] [1, 2, 4, 5, 6, 22, 23, 24]) (.seq
    (.region none [ ⟨some 29, none, .mv (.t 6)⟩, ⟨some 30, none, .len (.t 29)⟩, ⟨some 31, none, .mv (.c (.int .i64 0))⟩] [1, 2, 4, 5, 22, 23, 24, 29, 30, 31]) (.block 2 (.loop (.seq
    (.region none [ ⟨some 32, none, .bin .lss (.t 31) (.t 30)⟩] [1, 2, 4, 5, 22, 23, 24, 29, 30, 31, 32]) (.seq (.cond (.t 32) .skip (.exit 2)) (.seq (.block 3 (.seq
    (.region none [ ⟨some 33, none, .mv (.t 31)⟩, ⟨some 34, none, .idx 1 (.t 29) (.t 31)⟩, ⟨some 35, none, .ld none (.t 34)⟩, ⟨some 7, none, .mv (.t 33)⟩, ⟨some 8, none, .mv (.t 35)⟩] [1, 2, 4, 5, 7, 8, 22, 23, 24, 29, 30, 31]) (.seq
    (.region none [ ⟨some 36, none, .fld 1 (.t 1)⟩, ⟨some 37, none, .ld none (.t 36)⟩, ⟨some 38, none, .mv (.t 5)⟩, ⟨some 39, none, .idx 1 (.t 37) (.t 38)⟩, ⟨some 40, none, .ld none (.t 39)⟩, ⟨some 41, none, .mv (.t 7)⟩, ⟨some 42, none, .idx 1 (.t 40) (.t 41)⟩, ⟨some 43, none, .ld none (.t 42)⟩, ⟨some 9, none, .mv (.t 43)⟩] [1, 2, 4, 5, 7, 8, 9, 22, 23, 24, 29, 30, 31])
    (.region (some [44, 45, 46, 47, 48, 49, 50, 51, 52, 53, 54, 55, 56, 57, 58]) [ ⟨some 44, none, .fld 0 (.t 4)⟩, ⟨some 45, none, .ld none (.t 44)⟩, ⟨some 46, none, .mv (.t 8)⟩, ⟨some 47, none, .idx 1 (.t 45) (.t 46)⟩, ⟨some 48, none, .ld none (.t 47)⟩, ⟨some 49, none, .mv (.t 9)⟩, ⟨some 50, none, .fld 1 (.t 4)⟩, ⟨some 51, none, .ld none (.t 50)⟩, ⟨some 52, none, .mv (.t 8)⟩, ⟨some 53, none, .idx 1 (.t 51) (.t 52)⟩, ⟨some 54, none, .ld none (.t 53)⟩, ⟨some 55, none, .mvw (.t 9)⟩, ⟨some 56, none, .mv (.t 5)⟩, ⟨some 57, none, .mvw (.t 7)⟩, ⟨some 58, none, .idx 1 (.t 48) (.t 49)⟩, ⟨none, none, .sts (.t 58) (.t 56)⟩, ⟨some 59, none, .idx 1 (.t 54) (.t 55)⟩, ⟨none, none, .st none (.t 59) (.t 57)⟩] [1, 2, 4, 5, 22, 23, 24, 29, 30, 31]))))
    (.region none [ ⟨some 60, none, .bin .add (.t 31) (.c (.int .i64 1))⟩, ⟨some 31, none, .mv (.t 60)⟩] [1, 2, 4, 5, 22, 23, 24, 29, 30, 31])))))))))
    (.region none [ ⟨some 61, none, .bin .add (.t 24) (.c (.int .i64 1))⟩, ⟨some 24, none, .mv (.t 61)⟩] [1, 2, 4, 22, 23, 24]))))))) (.seq
    (.region none [ ⟨some 62, none, .ld (some 2) (.t 4)⟩, ⟨none, none, .st (some 2) (.t 2) (.t 62)⟩, ⟨some 3, none, .mv (.c (.int .i64 0))⟩] [2, 3]) .ret)))))

/-- impl.listIndex -/
def c_impl_listIndex : F where
  np := 2
  rs := [.t 4]
  body :=
    (.seq
    (.region none [ ⟨some 3, none, .box (.t 1)⟩, ⟨some 4, none, .mv (.c (.int .i64 0))⟩] [0, 3]) (.seq
    (.region none [ ⟨some 5, none, .mv (.t 0)⟩, ⟨some 6, none, .fnc 407 [(.t 3)]⟩, ⟨some 7, none, .call (.f 70) [((.t 5), .r), ((.t 6), .r)]⟩, ⟨some 4, none, .mv (.t 7)⟩] [4]) .ret))

/-- impl.listIndex$1 -/
def c_impl_listIndex_1 : F where
  np := 2
  rs := [.t 3]
  body :=
    (.seq
    (.region none [ ⟨some 3, none, .mv (.c (.bool false))⟩] [0, 1]) (.seq
    (.region none [ ⟨some 4, none, .mv (.t 0)⟩, ⟨some 5, none, .ld none (.t 1)⟩, ⟨some 6, none, .call (.f 276) [((.t 4), .r), ((.t 5), .r)]⟩, ⟨some 3, none, .mv (.t 6)⟩] [3]) .ret))

/-- spec.ClassOfWord -/
def c_spec_ClassOfWord : F where
  np := 2
  rs := [.t 4, .t 5]
  body :=
    (.seq
    (.region none [ ⟨some 2, none, .box (.t 0)⟩, ⟨some 4, none, .asg (.c (.slice none 0 0))⟩, ⟨some 5, none, .mv (.c (.int .i64 0))⟩] [1, 2]) (.seq
    (.region none [ ⟨some 9, none, .ld (some 2) (.t 2)⟩, ⟨some 10, none, .mv (.t 1)⟩, ⟨some 11, none, .mv (.t 1)⟩, ⟨some 12, none, .call (.f 37) [((.t 9), .r), ((.t 10), .r), ((.t 11), .r)]⟩, ⟨some 6, none, .mv (.t 12)⟩] [1, 2, 6]) (.seq (.seq
    (.region none [ ⟨some 13, none, .mv (.t 6)⟩, ⟨some 14, none, .bin .neq (.t 13) (.c (.int .i64 0))⟩] [1, 2, 6, 14]) (.cond (.t 14) (.seq
    (.region none [ ⟨some 15, none, .mv (.t 6)⟩, ⟨some 4, none, .asg (.c (.slice none 0 0))⟩, ⟨some 5, none, .mv (.t 15)⟩] [4, 5]) .ret) .skip)) (.seq
    (.region none [ ⟨some 17, none, .ld (some 2) (.t 2)⟩, ⟨some 18, none, .mv (.t 1)⟩, ⟨some 19, none, .call (.f 339) [((.t 17), .r), ((.t 18), .r), ((.c (.int .i64 1000)), .r)]⟩, ⟨some 16, none, .mv (.t 19)⟩, ⟨some 20, none, .ext (.t 16) 0⟩, ⟨some 21, none, .ext (.t 16) 1⟩, ⟨some 7, none, .asg (.t 20)⟩, ⟨some 8, none, .mv (.t 21)⟩] [7, 8]) (.seq (.seq
    (.region none [ ⟨some 22, none, .mv (.t 8)⟩, ⟨some 23, none, .un .not (.t 22)⟩] [7, 23]) (.cond (.t 23) (.seq
    (.region none [ ⟨some 4, none, .asg (.c (.slice none 0 0))⟩, ⟨some 5, none, .mv (.c (.int .i64 3))⟩] [4, 5]) .ret) .skip)) (.seq
    (.region none [ ⟨some 24, none, .mv (.t 7)⟩, ⟨some 4, none, .asg (.t 24)⟩, ⟨some 5, none, .mv (.c (.int .i64 0))⟩] [4, 5]) .ret))))))

/-- spec.NormalWord -/
def c_spec_NormalWord : F where
  np := 2
  rs := [.t 4, .t 5]
  body :=
    (.seq
    (.region none [ ⟨some 2, none, .box (.t 0)⟩, ⟨some 4, none, .asg (.c (.slice none 0 0))⟩, ⟨some 5, none, .mv (.c (.int .i64 0))⟩] [1, 2]) (.seq
    (.region none [ ⟨some 9, none, .ld (some 2) (.t 2)⟩, ⟨some 10, none, .mv (.t 1)⟩, ⟨some 11, none, .call (.f 215) [((.t 9), .r), ((.t 10), .r)]⟩, ⟨some 8, none, .mv (.t 11)⟩, ⟨some 12, none, .ext (.t 8) 0⟩, ⟨some 13, none, .ext (.t 8) 1⟩, ⟨some 6, none, .asg (.t 12)⟩, ⟨some 7, none, .mv (.t 13)⟩] [6, 7]) (.seq (.seq
    (.region none [ ⟨some 14, none, .mv (.t 7)⟩, ⟨some 15, none, .bin .neq (.t 14) (.c (.int .i64 0))⟩] [6, 7, 15]) (.cond (.t 15) (.seq
    (.region none [ ⟨some 16, none, .mv (.t 7)⟩, ⟨some 4, none, .asg (.c (.slice none 0 0))⟩, ⟨some 5, none, .mv (.t 16)⟩] [4, 5]) .ret) .skip)) (.seq
    (.region none [ ⟨some 17, none, .mv (.t 6)⟩, ⟨some 18, none, .idx 1 (.t 17) (.c (.int .i64 0))⟩, ⟨some 19, none, .ld none (.t 18)⟩, ⟨some 4, none, .asg (.t 19)⟩, ⟨some 5, none, .mv (.c (.int .i64 0))⟩] [4, 5]) .ret))))

/-- impl.normalWord -/
def c_impl_normalWord : F where
  np := 2
  rs := [.t 4, .t 5]
  body :=
    (.seq
    (.region none [ ⟨some 2, none, .box (.t 0)⟩, ⟨some 4, none, .asg (.c (.slice none 0 0))⟩, ⟨some 5, none, .mv (.c (.int .i64 0))⟩] [1, 2]) (.seq
    (.region none [ ⟨some 9, none, .ld (some 2) (.t 2)⟩, ⟨some 10, none, .mv (.t 1)⟩, ⟨some 11, none, .call (.f 297) [((.t 9), .r), ((.t 10), .r)]⟩, ⟨some 8, none, .mv (.t 11)⟩, ⟨some 12, none, .ext (.t 8) 0⟩, ⟨some 13, none, .ext (.t 8) 1⟩, ⟨some 6, none, .asg (.t 12)⟩, ⟨some 7, none, .mv (.t 13)⟩] [6, 7]) (.seq (.seq
    (.region none [ ⟨some 14, none, .mv (.t 7)⟩, ⟨some 15, none, .bin .neq (.t 14) (.c (.int .i64 0))⟩] [6, 7, 15]) (.cond (.t 15) (.seq
    (.region none [ ⟨some 16, none, .mv (.t 7)⟩, ⟨some 4, none, .asg (.c (.slice none 0 0))⟩, ⟨some 5, none, .mv (.t 16)⟩] [4, 5]) .ret) .skip)) (.seq
    (.region none [ ⟨some 17, none, .mv (.t 6)⟩, ⟨some 18, none, .idx 1 (.t 17) (.c (.int .i64 0))⟩, ⟨some 19, none, .ld none (.t 18)⟩, ⟨some 4, none, .asg (.t 19)⟩, ⟨some 5, none, .mv (.c (.int .i64 0))⟩] [4, 5]) .ret))))

/-- spec.DivisorsOfWord -/
def c_spec_DivisorsOfWord : F where
  np := 2
  rs := [.t 4, .t 5]
  body :=
    (.seq
    (.region none [ ⟨some 2, none, .box (.t 0)⟩, ⟨some 4, none, .asg (.c (.slice none 0 0))⟩, ⟨some 5, none, .mv (.c (.int .i64 0))⟩] [1, 2]) (.seq
    (.region none [ ⟨some 15, none, .ld (some 2) (.t 2)⟩, ⟨some 16, none, .mv (.t 1)⟩, ⟨some 17, none, .call (.f 215) [((.t 15), .r), ((.t 16), .r)]⟩, ⟨some 14, none, .mv (.t 17)⟩, ⟨some 18, none, .ext (.t 14) 0⟩, ⟨some 19, none, .ext (.t 14) 1⟩, ⟨some 6, none, .asg (.t 18)⟩, ⟨some 7, none, .mv (.t 19)⟩] [1, 2, 6, 7]) (.seq (.seq
    (.region none [ ⟨some 20, none, .mv (.t 7)⟩, ⟨some 21, none, .bin .neq (.t 20) (.c (.int .i64 0))⟩] [1, 2, 6, 7, 21]) (.cond (.t 21) (.seq
    (.region none [ ⟨some 22, none, .mv (.t 7)⟩, ⟨some 4, none, .asg (.c (.slice none 0 0))⟩, ⟨some 5, none, .mv (.t 22)⟩] [4, 5]) .ret) .skip)) (.seq
    (.region none [ ⟨some 23, none, .bsl []⟩, ⟨some 8, none, .asg (.t 23)⟩] [1, 2, 6, 8]) (.seq (.seq
    (.region none [ ⟨some 9, none, .mv (.c (.int .i64 0))⟩] [1, 2, 6, 8, 9]) (.block 0 (.loop (.seq (.seq
    (.region none [ ⟨some 24, none, .mv (.t 9)⟩, ⟨some 25, none, .mv (.t 1)⟩, ⟨some 26, none, .len (.t 25)⟩, ⟨some 27, none, .bin .leq (.t 24) (.t 26)⟩] [1, 2, 6, 8, 9, 27]) (.cond (.t 27) .skip (.exit 0))) (.seq (.block 1 (.seq
    (.region none [ ⟨some 30, none, .bsl []⟩, ⟨some 10, none, .asg (.t 30)⟩] [1, 2, 6, 8, 9, 10]) (.seq (.seq
    (.region none [ ⟨some 11, none, .mv (.c (.int .i64 0))⟩] [1, 2, 6, 8, 9, 10, 11]) (.block 2 (.loop (.seq (.seq
    (.region none [ ⟨some 31, none, .mv (.t 11)⟩, ⟨some 32, none, .mv (.t 6)⟩, ⟨some 33, none, .len (.t 32)⟩, ⟨some 34, none, .bin .lss (.t 31) (.t 33)⟩] [1, 2, 6, 8, 9, 10, 11, 34]) (.cond (.t 34) .skip (.exit 2))) (.seq (.block 3 (.seq
    (.region (some [12, 38, 39, 40, 41, 42, 43, 44, 46, 47]) [ ⟨some 38, none, .ld (some 2) (.t 2)⟩, ⟨some 39, none, .mv (.t 6)⟩, ⟨some 40, none, .mv (.t 11)⟩, ⟨some 41, none, .idx 1 (.t 39) (.t 40)⟩, ⟨some 42, none, .ld none (.t 41)⟩, ⟨some 43, none, .mv (.t 9)⟩, ⟨some 44, none, .sl 1 (.t 42) none (some (.t 43))⟩, ⟨some 45, none, .call (.f 220) [((.t 38), .r), ((.t 44), .r)]⟩, ⟨some 37, none, .mv (.t 45)⟩, ⟨some 46, none, .ext (.t 37) 0⟩, ⟨some 47, none, .ext (.t 37) 1⟩, ⟨some 12, none, .mv (.t 46)⟩, ⟨some 13, none, .mv (.t 47)⟩] [1, 2, 6, 8, 9, 10, 11, 12, 13, 45]) (.seq (.seq
    (.region none [ ⟨some 48, none, .mv (.t 13)⟩, ⟨some 49, none, .bin .neq (.t 48) (.c (.int .i64 0))⟩] [1, 2, 6, 8, 9, 10, 11, 12, 13, 45, 49]) (.cond (.t 49) (.seq
    (.region none [ ⟨some 50, none, .mv (.t 13)⟩, ⟨some 4, none, .asg (.c (.slice none 0 0))⟩, ⟨some 5, none, .mv (.t 50)⟩] [4, 5]) .ret) .skip))
    (.region none [ ⟨none, none, .settle 12⟩, ⟨none, none, .freeze 12⟩, ⟨some 52, none, .mv (.t 10)⟩, ⟨some 53, none, .mv (.t 12)⟩, ⟨some 54, none, .callm (.f 349) [((.t 52), false), ((.t 53), false)] []⟩, ⟨some 51, none, .mv (.t 54)⟩, ⟨some 55, none, .ext (.t 51) 0⟩, ⟨some 56, none, .ext (.t 51) 1⟩, ⟨some 10, none, .asg (.t 55)⟩] [1, 2, 6, 8, 9, 10, 11]))))
    (.region none [ ⟨some 35, none, .mv (.t 11)⟩, ⟨some 36, none, .bin .add (.t 35) (.c (.int .i64 1))⟩, ⟨some 11, none, .mv (.t 36)⟩] [1, 2, 6, 8, 9, 10, 11]))))))
    (.region none [ ⟨some 57, none, .mv (.t 8)⟩, ⟨some 58, none, .mv (.t 10)⟩, ⟨some 59, none, .app false 1 (.t 57) (.t 58)⟩, ⟨some 8, none, .asg (.t 59)⟩] [1, 2, 6, 8, 9]))))
    (.region none [ ⟨some 28, none, .mv (.t 9)⟩, ⟨some 29, none, .bin .add (.t 28) (.c (.int .i64 1))⟩, ⟨some 9, none, .mv (.t 29)⟩] [1, 2, 6, 8, 9])))))) (.seq
    (.region none [ ⟨some 60, none, .mv (.t 8)⟩, ⟨some 4, none, .asg (.t 60)⟩, ⟨some 5, none, .mv (.c (.int .i64 0))⟩] [4, 5]) .ret))))))

/-- impl.DivisorsOfWord -/
def c_impl_DivisorsOfWord : F where
  np := 2
  rs := [.t 4, .t 5]
  body :=
    (.seq
    (.region none [ ⟨some 2, none, .box (.t 0)⟩, ⟨some 4, none, .asg (.c (.slice none 0 0))⟩, ⟨some 5, none, .mv (.c (.int .i64 0))⟩] [1, 2]) (.seq (.seq
    (.region none [ ⟨some 16, none, .ld (some 2) (.t 2)⟩, ⟨some 17, none, .mv (.t 1)⟩, ⟨some 18, none, .bsl [(.t 17)]⟩, ⟨some 19, none, .call (.f 38) [((.t 16), .r), ((.t 18), .r)]⟩, ⟨some 6, none, .mv (.t 19)⟩] [1, 2, 6]) (.seq
    (.region none [ ⟨some 20, none, .mv (.t 6)⟩, ⟨some 21, none, .bin .neq (.t 20) (.c (.int .i64 0))⟩] [1, 2, 6, 21]) (.cond (.t 21) (.seq
    (.region none [ ⟨some 22, none, .mv (.t 6)⟩, ⟨some 4, none, .asg (.c (.slice none 0 0))⟩, ⟨some 5, none, .mv (.t 22)⟩] [4, 5]) .ret) .skip))) (.seq
    (.region none [ ⟨some 24, none, .ld (some 2) (.t 2)⟩, ⟨some 25, none, .mv (.t 1)⟩, ⟨some 26, none, .call (.f 297) [((.t 24), .r), ((.t 25), .r)]⟩, ⟨none, none, .freeze 26⟩, ⟨some 23, none, .mv (.t 26)⟩, ⟨some 27, none, .ext (.t 23) 0⟩, ⟨some 28, none, .ext (.t 23) 1⟩, ⟨some 7, none, .asg (.t 27)⟩, ⟨some 8, none, .mv (.t 28)⟩] [1, 2, 7, 8]) (.seq (.seq
    (.region none [ ⟨some 29, none, .mv (.t 8)⟩, ⟨some 30, none, .bin .neq (.t 29) (.c (.int .i64 0))⟩] [1, 2, 7, 8, 30]) (.cond (.t 30) (.seq
    (.region none [ ⟨some 31, none, .mv (.t 8)⟩, ⟨some 4, none, .asg (.c (.slice none 0 0))⟩, ⟨some 5, none, .mv (.t 31)⟩] [4, 5]) .ret) .skip)) (.seq
    (.region none [ ⟨some 9, none, .asg (.c (.slice none 0 0))⟩] [1, 2, 7, 9]) (.seq (.seq
    (.region none [ ⟨some 32, none, .mv (.t 1)⟩, ⟨some 33, none, .len (.t 32)⟩, ⟨some 34, none, .bin .add (.t 33) (.c (.int .i64 1))⟩, ⟨some 35, none, .mv (.c (.int .i64 0))⟩] [2, 7, 9, 34, 35]) (.block 0 (.loop (.seq
    (.region none [ ⟨some 36, none, .bin .lss (.t 35) (.t 34)⟩] [2, 7, 9, 34, 35, 36]) (.seq (.cond (.t 36) .skip (.exit 0)) (.seq (.block 1 (.seq
    (.region none [ ⟨some 37, none, .mv (.t 35)⟩, ⟨some 10, none, .mv (.t 37)⟩] [2, 7, 9, 10, 34, 35]) (.seq
    (.region none [ ⟨some 11, none, .asg (.c (.slice none 0 0))⟩] [2, 7, 9, 10, 11, 34, 35]) (.seq (.seq
    (.region none [ ⟨some 38, none, .mv (.t 7)⟩, ⟨some 39, none, .len (.t 38)⟩, ⟨some 40, none, .mv (.c (.int .i64 0))⟩] [2, 7, 9, 10, 11, 34, 35, 38, 39, 40]) (.block 2 (.loop (.seq
    (.region none [ ⟨some 41, none, .bin .lss (.t 40) (.t 39)⟩] [2, 7, 9, 10, 11, 34, 35, 38, 39, 40, 41]) (.seq (.cond (.t 41) .skip (.exit 2)) (.seq (.block 3 (.seq
    (.region none [ ⟨some 42, none, .idx 1 (.t 38) (.t 40)⟩, ⟨some 43, none, .ld none (.t 42)⟩, ⟨some 13, none, .asg (.t 43)⟩] [2, 7, 9, 10, 11, 13, 34, 35, 38, 39, 40]) (.seq
    (.region (some [14, 45, 46, 47, 48, 50, 51]) [ ⟨some 45, none, .ld (some 2) (.t 2)⟩, ⟨some 46, none, .mv (.t 13)⟩, ⟨some 47, none, .mv (.t 10)⟩, ⟨some 48, none, .sl 1 (.t 46) none (some (.t 47))⟩, ⟨some 49, none, .call (.f 342) [((.t 45), .r), ((.t 48), .r)]⟩, ⟨some 44, none, .mv (.t 49)⟩, ⟨some 50, none, .ext (.t 44) 0⟩, ⟨some 51, none, .ext (.t 44) 1⟩, ⟨some 14, none, .mv (.t 50)⟩, ⟨some 15, none, .mv (.t 51)⟩] [2, 7, 9, 10, 11, 14, 15, 34, 35, 38, 39, 40, 49]) (.seq (.seq
    (.region none [ ⟨some 52, none, .mv (.t 15)⟩, ⟨some 53, none, .bin .neq (.t 52) (.c (.int .i64 0))⟩] [2, 7, 9, 10, 11, 14, 15, 34, 35, 38, 39, 40, 49, 53]) (.cond (.t 53) (.seq
    (.region none [ ⟨some 54, none, .mv (.t 15)⟩, ⟨some 4, none, .asg (.c (.slice none 0 0))⟩, ⟨some 5, none, .mv (.t 54)⟩] [4, 5]) .ret) .skip)) (.seq
    (.region none [ ⟨some 55, none, .mv (.t 11)⟩, ⟨some 56, none, .mv (.t 14)⟩, ⟨some 57, none, .call (.f 341) [((.t 55), .r), ((.t 56), .r)]⟩, ⟨some 58, none, .bin .lss (.t 57) (.c (.int .i64 0))⟩] [2, 7, 9, 10, 11, 14, 34, 35, 38, 39, 40, 49, 58]) (.cond (.t 58)
    (.region none [ ⟨some 59, none, .mv (.t 11)⟩, ⟨some 60, none, .mv (.t 14)⟩, ⟨some 61, none, .bsl [(.t 60)]⟩, ⟨some 62, none, .app true 1 (.t 59) (.t 61)⟩, ⟨some 11, none, .asg (.t 62)⟩] [2, 7, 9, 10, 11, 34, 35, 38, 39, 40]) .skip))))))
    (.region none [ ⟨some 63, none, .bin .add (.t 40) (.c (.int .i64 1))⟩, ⟨some 40, none, .mv (.t 63)⟩] [2, 7, 9, 10, 11, 34, 35, 38, 39, 40]))))))) (.seq
    (.region none [ ⟨some 64, none, .mv (.t 11)⟩, ⟨some 65, none, .callm (.f 313) [((.t 64), true), ((.f 314), false)] []⟩] [2, 7, 9, 11, 34, 35])
    (.region none [ ⟨some 66, none, .mv (.t 9)⟩, ⟨some 67, none, .mv (.t 11)⟩, ⟨some 68, none, .app true 1 (.t 66) (.t 67)⟩, ⟨some 9, none, .asg (.t 68)⟩] [2, 7, 9, 34, 35]))))))
    (.region none [ ⟨some 69, none, .bin .add (.t 35) (.c (.int .i64 1))⟩, ⟨some 35, none, .mv (.t 69)⟩] [2, 7, 9, 34, 35]))))))) (.seq
    (.region none [ ⟨some 70, none, .mv (.t 9)⟩, ⟨some 4, none, .asg (.t 70)⟩, ⟨some 5, none, .mv (.c (.int .i64 0))⟩] [4, 5]) .ret)))))))

/-- spec.CommonMultiple -/
def c_spec_CommonMultiple : F where
  np := 3
  rs := [.t 6, .t 7]
  body :=
    (.seq
    (.region none [ ⟨some 3, none, .box (.t 0)⟩, ⟨some 6, none, .asg (.c (.slice none 0 0))⟩, ⟨some 7, none, .mv (.c (.int .i64 0))⟩] [1, 2, 3]) (.seq (.seq
    (.region none [ ⟨some 12, none, .ld (some 2) (.t 3)⟩, ⟨some 13, none, .call (.f 41) [((.t 12), .r)]⟩, ⟨some 14, none, .un .not (.t 13)⟩] [1, 2, 3, 14]) (.cond (.t 14) (.seq
    (.region none [ ⟨some 6, none, .asg (.c (.slice none 0 0))⟩, ⟨some 7, none, .mv (.c (.int .i64 1))⟩] [6, 7]) .ret) .skip)) (.seq
    (.region none [ ⟨some 15, none, .fld 0 (.t 3)⟩, ⟨some 16, none, .ld none (.t 15)⟩, ⟨some 17, none, .len (.t 16)⟩, ⟨some 8, none, .mv (.t 17)⟩] [1, 2, 3, 8]) (.seq (.seq
    (.region none [ ⟨some 18, none, .mv (.t 1)⟩, ⟨some 19, none, .mv (.t 8)⟩, ⟨some 20, none, .bin .sub (.t 19) (.c (.int .i64 1))⟩, ⟨some 21, none, .call (.f 30) [((.t 18), .r), ((.c (.int .i64 0)), .r), ((.t 20), .r)]⟩, ⟨some 22, none, .un .not (.t 21)⟩, ⟨some 23, none, .mv (.t 22)⟩, ⟨some 24, (some (23, false)), .mv (.t 2)⟩, ⟨some 25, (some (23, false)), .mv (.t 8)⟩, ⟨some 26, (some (23, false)), .bin .sub (.t 25) (.c (.int .i64 1))⟩, ⟨some 27, (some (23, false)), .call (.f 30) [((.t 24), .r), ((.c (.int .i64 0)), .r), ((.t 26), .r)]⟩, ⟨some 28, (some (23, false)), .un .not (.t 27)⟩, ⟨some 29, none, .pick (.t 23) (.c (.bool true)) (.t 28)⟩, ⟨some 30, none, .mv (.t 29)⟩, ⟨some 31, (some (30, false)), .mv (.t 1)⟩, ⟨some 32, (some (30, false)), .mv (.t 2)⟩, ⟨some 33, (some (30, false)), .bin .eql (.t 31) (.t 32)⟩, ⟨some 34, none, .pick (.t 30) (.c (.bool true)) (.t 33)⟩] [1, 2, 3, 34]) (.cond (.t 34) (.seq
    (.region none [ ⟨some 6, none, .asg (.c (.slice none 0 0))⟩, ⟨some 7, none, .mv (.c (.int .i64 2))⟩] [6, 7]) .ret) .skip)) (.seq (.seq
    (.region none [ ⟨some 35, none, .ld (some 2) (.t 3)⟩, ⟨some 36, none, .call (.f 350) [((.t 35), .r)]⟩, ⟨some 37, none, .un .not (.t 36)⟩, ⟨some 38, none, .mv (.t 37)⟩, ⟨some 39, (some (38, false)), .ld (some 2) (.t 3)⟩, ⟨some 40, (some (38, false)), .call (.f 351) [((.t 39), .r)]⟩, ⟨some 41, (some (38, false)), .un .not (.t 40)⟩, ⟨some 42, none, .pick (.t 38) (.c (.bool true)) (.t 41)⟩] [1, 2, 3, 42]) (.cond (.t 42) (.seq
    (.region none [ ⟨some 6, none, .asg (.c (.slice none 0 0))⟩, ⟨some 7, none, .mv (.c (.int .i64 5))⟩] [6, 7]) .ret) .skip)) (.seq
    (.region none [ ⟨some 43, none, .fld 0 (.t 3)⟩, ⟨some 44, none, .ld none (.t 43)⟩, ⟨some 45, none, .mv (.t 1)⟩, ⟨some 46, none, .idx 1 (.t 44) (.t 45)⟩, ⟨some 47, none, .ld none (.t 46)⟩, ⟨some 48, none, .mv (.t 2)⟩, ⟨some 49, none, .call (.f 69) [((.t 47), .r), ((.t 48), .r)]⟩, ⟨some 9, none, .mv (.t 49)⟩] [1, 3, 9]) (.seq
    (.region none [ ⟨some 51, none, .ld (some 2) (.t 3)⟩, ⟨some 52, none, .mv (.t 1)⟩, ⟨some 53, none, .mv (.t 9)⟩, ⟨some 54, none, .bsl [(.t 52), (.t 53)]⟩, ⟨some 55, none, .call (.f 339) [((.t 51), .r), ((.t 54), .r), ((.c (.int .i64 1000)), .r)]⟩, ⟨some 50, none, .mv (.t 55)⟩, ⟨some 56, none, .ext (.t 50) 0⟩, ⟨some 57, none, .ext (.t 50) 1⟩, ⟨some 10, none, .asg (.t 56)⟩, ⟨some 11, none, .mv (.t 57)⟩] [10]) (.seq
    (.region none [ ⟨some 58, none, .mv (.t 10)⟩, ⟨some 59, none, .idx 1 (.t 58) (.c (.int .i64 0))⟩, ⟨some 60, none, .ld none (.t 59)⟩, ⟨some 6, none, .asg (.t 60)⟩, ⟨some 7, none, .mv (.c (.int .i64 0))⟩] [6, 7]) .ret))))))))

/-- spec.l02Twice -/
def c_spec_l02Twice : F where
  np := 1
  rs := [.t 2]
  body :=
    (.seq
    (.region none [ ⟨some 1, none, .box (.t 0)⟩, ⟨some 2, none, .mv (.c (.bool false))⟩] [1]) (.seq (.seq
    (.region none [ ⟨some 3, none, .mv (.c (.int .i64 0))⟩] [1, 3]) (.block 0 (.loop (.seq (.seq
    (.region none [ ⟨some 7, none, .mv (.t 3)⟩, ⟨some 8, none, .fld 0 (.t 1)⟩, ⟨some 9, none, .ld none (.t 8)⟩, ⟨some 10, none, .len (.t 9)⟩, ⟨some 11, none, .bin .lss (.t 7) (.t 10)⟩] [1, 3, 11]) (.cond (.t 11) .skip (.exit 0))) (.seq (.block 1 (.seq
    (.region none [ ⟨some 4, none, .mv (.c (.int .i64 0))⟩] [1, 3, 4]) (.block 2 (.loop (.seq (.seq
    (.region none [ ⟨some 14, none, .mv (.t 4)⟩, ⟨some 15, none, .fld 0 (.t 1)⟩, ⟨some 16, none, .ld none (.t 15)⟩, ⟨some 17, none, .len (.t 16)⟩, ⟨some 18, none, .bin .lss (.t 14) (.t 17)⟩] [1, 3, 4, 18]) (.cond (.t 18) .skip (.exit 2))) (.seq (.block 3 (.seq
    (.region (some [5, 21, 22, 23, 24, 25, 26, 27, 28, 29, 30, 31, 32, 33, 34, 35, 36]) [ ⟨some 21, none, .fld 0 (.t 1)⟩, ⟨some 22, none, .ld none (.t 21)⟩, ⟨some 23, none, .mv (.t 3)⟩, ⟨some 24, none, .idx 1 (.t 22) (.t 23)⟩, ⟨some 25, none, .ld none (.t 24)⟩, ⟨some 26, none, .mv (.t 4)⟩, ⟨some 27, none, .idx 1 (.t 25) (.t 26)⟩, ⟨some 28, none, .ld none (.t 27)⟩, ⟨some 29, none, .fld 1 (.t 1)⟩, ⟨some 30, none, .ld none (.t 29)⟩, ⟨some 31, none, .mv (.t 3)⟩, ⟨some 32, none, .idx 1 (.t 30) (.t 31)⟩, ⟨some 33, none, .ld none (.t 32)⟩, ⟨some 34, none, .mv (.t 4)⟩, ⟨some 35, none, .idx 1 (.t 33) (.t 34)⟩, ⟨some 36, none, .ld none (.t 35)⟩, ⟨some 5, none, .mv (.t 28)⟩, ⟨some 6, none, .mv (.t 36)⟩] [1, 3, 4, 5, 6]) (.seq
    (.region none [ ⟨some 37, none, .fld 0 (.t 1)⟩, ⟨some 38, none, .ld none (.t 37)⟩, ⟨some 39, none, .mv (.t 5)⟩, ⟨some 40, none, .idx 1 (.t 38) (.t 39)⟩, ⟨some 41, none, .ld none (.t 40)⟩, ⟨some 42, none, .mv (.t 6)⟩, ⟨some 43, none, .idx 1 (.t 41) (.t 42)⟩, ⟨some 44, none, .ld none (.t 43)⟩, ⟨some 45, none, .mv (.t 3)⟩, ⟨some 46, none, .bin .neq (.t 44) (.t 45)⟩, ⟨some 47, none, .mv (.t 46)⟩, ⟨some 48, (some (47, false)), .fld 1 (.t 1)⟩, ⟨some 49, (some (47, false)), .ld none (.t 48)⟩, ⟨some 50, (some (47, false)), .mv (.t 5)⟩, ⟨some 51, (some (47, false)), .idx 1 (.t 49) (.t 50)⟩, ⟨some 52, (some (47, false)), .ld none (.t 51)⟩, ⟨some 53, (some (47, false)), .mv (.t 6)⟩, ⟨some 54, (some (47, false)), .idx 1 (.t 52) (.t 53)⟩, ⟨some 55, (some (47, false)), .ld none (.t 54)⟩, ⟨some 56, (some (47, false)), .mv (.t 4)⟩, ⟨some 57, (some (47, false)), .bin .neq (.t 55) (.t 56)⟩, ⟨some 58, none, .pick (.t 47) (.c (.bool true)) (.t 57)⟩] [1, 3, 4, 58]) (.cond (.t 58) (.seq
    (.region none [ ⟨some 2, none, .mv (.c (.bool false))⟩] [2]) .ret) .skip))))
    (.region none [ ⟨some 19, none, .mv (.t 4)⟩, ⟨some 20, none, .bin .add (.t 19) (.c (.int .i64 1))⟩, ⟨some 4, none, .mv (.t 20)⟩] [1, 3, 4])))))))
    (.region none [ ⟨some 12, none, .mv (.t 3)⟩, ⟨some 13, none, .bin .add (.t 12) (.c (.int .i64 1))⟩, ⟨some 3, none, .mv (.t 13)⟩] [1, 3])))))) (.seq
    (.region none [ ⟨some 2, none, .mv (.c (.bool true))⟩] [2]) .ret)))

/-- impl.CommonMultiple -/
def c_impl_CommonMultiple : F where
  np := 3
  rs := [.t 6, .t 7]
  body :=
    (.seq
    (.region none [ ⟨some 3, none, .box (.t 0)⟩, ⟨some 5, none, .box (.t 2)⟩, ⟨some 6, none, .asg (.c (.slice none 0 0))⟩, ⟨some 7, none, .mv (.c (.int .i64 0))⟩] [1, 3, 5]) (.seq (.seq
    (.region none [ ⟨some 11, none, .ld (some 2) (.t 3)⟩, ⟨some 12, none, .call (.f 42) [((.t 11), .r)]⟩, ⟨some 13, none, .un .not (.t 12)⟩] [1, 3, 5, 13]) (.cond (.t 13) (.seq
    (.region none [ ⟨some 6, none, .asg (.c (.slice none 0 0))⟩, ⟨some 7, none, .mv (.c (.int .i64 1))⟩] [6, 7]) .ret) .skip)) (.seq (.seq
    (.region none [ ⟨some 14, none, .fld 0 (.t 3)⟩, ⟨some 15, none, .ld none (.t 14)⟩, ⟨some 16, none, .len (.t 15)⟩, ⟨some 17, none, .mv (.t 1)⟩, ⟨some 18, none, .ld none (.t 5)⟩, ⟨some 19, none, .bsl [(.t 17), (.t 18)]⟩, ⟨some 20, none, .call (.f 39) [((.t 16), .r), ((.t 19), .r)]⟩, ⟨some 21, none, .un .not (.t 20)⟩, ⟨some 22, none, .mv (.t 21)⟩, ⟨some 23, (some (22, false)), .mv (.t 1)⟩, ⟨some 24, (some (22, false)), .ld none (.t 5)⟩, ⟨some 25, (some (22, false)), .bin .eql (.t 23) (.t 24)⟩, ⟨some 26, none, .pick (.t 22) (.c (.bool true)) (.t 25)⟩] [1, 3, 5, 26]) (.cond (.t 26) (.seq
    (.region none [ ⟨some 6, none, .asg (.c (.slice none 0 0))⟩, ⟨some 7, none, .mv (.c (.int .i64 2))⟩] [6, 7]) .ret) .skip)) (.seq (.seq
    (.region none [ ⟨some 27, none, .ld (some 2) (.t 3)⟩, ⟨some 28, none, .call (.f 285) [((.t 27), .r)]⟩, ⟨some 29, none, .un .not (.t 28)⟩, ⟨some 30, none, .mv (.t 29)⟩, ⟨some 31, (some (30, false)), .ld (some 2) (.t 3)⟩, ⟨some 32, (some (30, false)), .call (.f 298) [((.t 31), .r)]⟩, ⟨some 33, (some (30, false)), .un .not (.t 32)⟩, ⟨some 34, none, .pick (.t 30) (.c (.bool true)) (.t 33)⟩] [1, 3, 5, 34]) (.cond (.t 34) (.seq
    (.region none [ ⟨some 6, none, .asg (.c (.slice none 0 0))⟩, ⟨some 7, none, .mv (.c (.int .i64 5))⟩] [6, 7]) .ret) .skip)) (.seq (.seq
    (.region none [ ⟨some 35, none, .fld 0 (.t 3)⟩, ⟨some 36, none, .ld none (.t 35)⟩, ⟨none, none, .freeze 5⟩, ⟨some 37, none, .len (.t 36)⟩, ⟨some 38, none, .mv (.c (.int .i64 0))⟩] [1, 3, 5, 37, 38]) (.block 0 (.loop (.seq
    (.region none [ ⟨some 39, none, .bin .lss (.t 38) (.t 37)⟩] [1, 3, 5, 37, 38, 39]) (.seq (.cond (.t 39) .skip (.exit 0)) (.seq (.block 1 (.seq
    (.region none [ ⟨some 40, none, .mv (.t 38)⟩, ⟨some 8, none, .mv (.t 40)⟩] [1, 3, 5, 8, 37, 38]) (.seq
    (.region none [ ⟨some 42, none, .ld (some 2) (.t 3)⟩, ⟨some 43, none, .mv (.t 1)⟩, ⟨some 44, none, .mv (.t 8)⟩, ⟨some 45, none, .bsl [(.t 43), (.t 44)]⟩, ⟨some 46, none, .call (.f 352) [((.t 42), .r), ((.t 45), .r), ((.c (.int .i64 1000)), .r)]⟩, ⟨some 41, none, .mv (.t 46)⟩, ⟨some 47, none, .ext (.t 41) 0⟩, ⟨some 48, none, .ext (.t 41) 1⟩, ⟨some 9, none, .asg (.t 47)⟩, ⟨some 10, none, .mv (.t 48)⟩] [1, 3, 5, 9, 37, 38]) (.seq
    (.region none [ ⟨some 49, none, .mv (.t 9)⟩, ⟨some 50, none, .fnc 353 [(.t 5)]⟩, ⟨some 51, none, .call (.f 63) [((.t 49), .r), ((.t 50), .r)]⟩] [1, 3, 5, 9, 37, 38, 51]) (.cond (.t 51) (.seq
    (.region none [ ⟨some 52, none, .mv (.t 9)⟩, ⟨some 53, none, .idx 1 (.t 52) (.c (.int .i64 0))⟩, ⟨some 54, none, .ld none (.t 53)⟩, ⟨some 6, none, .asg (.t 54)⟩, ⟨some 7, none, .mv (.c (.int .i64 0))⟩] [6, 7]) .ret) .skip)))))
    (.region none [ ⟨some 55, none, .bin .add (.t 38) (.c (.int .i64 1))⟩, ⟨some 38, none, .mv (.t 55)⟩] [1, 3, 5, 37, 38]))))))) (.seq
    (.region none [ ⟨some 6, none, .asg (.c (.slice none 0 0))⟩, ⟨some 7, none, .mv (.c (.int .i64 4))⟩] [6, 7]) .ret))))))

/-- impl.isInvolutive -/
def c_impl_isInvolutive : F where
  np := 1
  rs := [.t 2]
  body :=
    (.seq
    (.region none [ ⟨some 1, none, .box (.t 0)⟩, ⟨some 2, none, .mv (.c (.bool false))⟩] [1]) (.seq (.seq
    (.region none [ ⟨some 8, none, .fld 0 (.t 1)⟩, ⟨some 9, none, .ld none (.t 8)⟩, ⟨some 10, none, .len (.t 9)⟩, ⟨some 11, none, .mv (.c (.int .i64 0))⟩] [1, 9, 10, 11]) (.block 0 (.loop (.seq
    (.region none [ ⟨some 12, none, .bin .lss (.t 11) (.t 10)⟩] [1, 9, 10, 11, 12]) (.seq (.cond (.t 12) .skip (.exit 0)) (.seq (.block 1 (.seq
    (.region none [ ⟨some 13, none, .mv (.t 11)⟩, ⟨some 14, none, .idx 1 (.t 9) (.t 11)⟩, ⟨some 15, none, .ld none (.t 14)⟩, ⟨some 3, none, .mv (.t 13)⟩, ⟨some 4, none, .asg (.t 15)⟩] [1, 3, 4, 9, 10, 11]) (.seq
    (.region none [ ⟨some 16, none, .mv (.t 4)⟩, ⟨some 17, none, .len (.t 16)⟩, ⟨some 18, none, .mv (.c (.int .i64 0))⟩] [1, 3, 9, 10, 11, 16, 17, 18]) (.block 2 (.loop (.seq
    (.region none [ ⟨some 19, none, .bin .lss (.t 18) (.t 17)⟩] [1, 3, 9, 10, 11, 16, 17, 18, 19]) (.seq (.cond (.t 19) .skip (.exit 2)) (.seq (.block 3 (.seq
    (.region none [ ⟨some 20, none, .mv (.t 18)⟩, ⟨some 21, none, .idx 1 (.t 16) (.t 18)⟩, ⟨some 22, none, .ld none (.t 21)⟩, ⟨some 5, none, .mv (.t 20)⟩, ⟨some 6, none, .mv (.t 22)⟩] [1, 3, 5, 6, 9, 10, 11, 16, 17, 18]) (.seq
    (.region none [ ⟨some 23, none, .fld 1 (.t 1)⟩, ⟨some 24, none, .ld none (.t 23)⟩, ⟨some 25, none, .mv (.t 3)⟩, ⟨some 26, none, .idx 1 (.t 24) (.t 25)⟩, ⟨some 27, none, .ld none (.t 26)⟩, ⟨some 28, none, .mv (.t 5)⟩, ⟨some 29, none, .idx 1 (.t 27) (.t 28)⟩, ⟨some 30, none, .ld none (.t 29)⟩, ⟨some 7, none, .mv (.t 30)⟩] [1, 3, 5, 6, 7, 9, 10, 11, 16, 17, 18]) (.seq
    (.region none [ ⟨some 31, none, .fld 0 (.t 1)⟩, ⟨some 32, none, .ld none (.t 31)⟩, ⟨some 33, none, .mv (.t 6)⟩, ⟨some 34, none, .idx 1 (.t 32) (.t 33)⟩, ⟨some 35, none, .ld none (.t 34)⟩, ⟨some 36, none, .mv (.t 7)⟩, ⟨some 37, none, .idx 1 (.t 35) (.t 36)⟩, ⟨some 38, none, .ld none (.t 37)⟩, ⟨some 39, none, .mv (.t 3)⟩, ⟨some 40, none, .bin .neq (.t 38) (.t 39)⟩, ⟨some 41, none, .mv (.t 40)⟩, ⟨some 42, (some (41, false)), .fld 1 (.t 1)⟩, ⟨some 43, (some (41, false)), .ld none (.t 42)⟩, ⟨some 44, (some (41, false)), .mv (.t 6)⟩, ⟨some 45, (some (41, false)), .idx 1 (.t 43) (.t 44)⟩, ⟨some 46, (some (41, false)), .ld none (.t 45)⟩, ⟨some 47, (some (41, false)), .mv (.t 7)⟩, ⟨some 48, (some (41, false)), .idx 1 (.t 46) (.t 47)⟩, ⟨some 49, (some (41, false)), .ld none (.t 48)⟩, ⟨some 50, (some (41, false)), .mv (.t 5)⟩, ⟨some 51, (some (41, false)), .bin .neq (.t 49) (.t 50)⟩, ⟨some 52, none, .pick (.t 41) (.c (.bool true)) (.t 51)⟩] [1, 3, 9, 10, 11, 16, 17, 18, 52]) (.cond (.t 52) (.seq
    (.region none [ ⟨some 2, none, .mv (.c (.bool false))⟩] [2]) .ret) .skip)))))
    (.region none [ ⟨some 53, none, .bin .add (.t 18) (.c (.int .i64 1))⟩, ⟨some 18, none, .mv (.t 53)⟩] [1, 3, 9, 10, 11, 16, 17, 18])))))))))
    (.region none [ ⟨some 54, none, .bin .add (.t 11) (.c (.int .i64 1))⟩, ⟨some 11, none, .mv (.t 54)⟩] [1, 9, 10, 11]))))))) (.seq
    (.region none [ ⟨some 2, none, .mv (.c (.bool true))⟩] [2]) .ret)))

/-- impl.CommonMultiple$1 -/
def c_impl_CommonMultiple_1 : F where
  np := 2
  rs := [.t 3]
  body :=
    (.seq
    (.region none [ ⟨some 3, none, .mv (.c (.bool false))⟩] [0, 1]) (.seq
    (.region (some [4, 5, 6, 7]) [ ⟨some 4, none, .mv (.t 0)⟩, ⟨some 5, none, .idx 1 (.t 4) (.c (.int .i64 0))⟩, ⟨some 6, none, .ld none (.t 5)⟩, ⟨some 7, none, .ld none (.t 1)⟩, ⟨some 8, none, .bin .eql (.t 6) (.t 7)⟩, ⟨some 3, none, .mv (.t 8)⟩] [3]) .ret))

end Go.Mch
