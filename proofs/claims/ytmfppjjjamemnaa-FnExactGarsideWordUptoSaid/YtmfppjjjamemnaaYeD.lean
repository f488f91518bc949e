/- Compact code of the functions of words that the exact laws reach further. -/
import Derived.Test.YtmfppjjjamemnaaM1
namespace Go.Mch

/-- spec.l09Class -/
def c_spec_l09Class : F where
  np := 3
  rs := [.t 6, .t 7]
  body :=
    (.seq
    (.region none [ ⟨some 3, none, .box (.t 0)⟩, ⟨some 6, none, .asg (.c (.slice none 0 0))⟩, ⟨some 7, none, .mv (.c (.bool false))⟩] [1, 2, 3]) (.seq
    (.region none [ ⟨some 17, none, .ld (some 2) (.t 3)⟩, ⟨some 18, none, .call (.f 406) [((.t 17), .r)]⟩, ⟨some 8, none, .alloc [(.slice none 0 0), (.slice none 0 0)]⟩, ⟨none, none, .st (some 2) (.t 8) (.t 18)⟩] [1, 2, 3, 8]) (.seq
    (.region none [ ⟨some 19, none, .mv (.t 1)⟩, ⟨some 20, none, .call (.f 31) [((.t 19), .r)]⟩, ⟨none, none, .freeze 20⟩, ⟨some 21, none, .bsl [(.t 20)]⟩, ⟨some 22, none, .mv (.t 1)⟩, ⟨some 23, none, .call (.f 31) [((.t 22), .r)]⟩, ⟨none, none, .freeze 23⟩, ⟨some 24, none, .bsl [(.t 23)]⟩, ⟨some 9, none, .asg (.t 21)⟩, ⟨some 10, none, .asg (.t 24)⟩] [1, 2, 3, 8, 9, 10]) (.seq (.seq
    (.region none [ ⟨some 11, none, .mv (.c (.int .i64 0))⟩] [1, 2, 3, 8, 9, 10, 11]) (.block 0 (.loop (.seq (.seq
    (.region none [ ⟨some 25, none, .mv (.t 11)⟩, ⟨some 26, none, .mv (.t 9)⟩, ⟨some 27, none, .len (.t 26)⟩, ⟨some 28, none, .bin .lss (.t 25) (.t 27)⟩] [1, 2, 3, 8, 9, 10, 11, 28]) (.cond (.t 28) .skip (.exit 0))) (.seq (.block 1 (.seq (.seq
    (.region none [ ⟨some 12, none, .mv (.c (.int .i64 0))⟩] [1, 2, 3, 8, 9, 10, 11, 12]) (.block 2 (.loop (.seq (.seq
    (.region none [ ⟨some 31, none, .mv (.t 12)⟩, ⟨some 32, none, .bin .add (.t 31) (.c (.int .i64 1))⟩, ⟨some 33, none, .mv (.t 1)⟩, ⟨some 34, none, .len (.t 33)⟩, ⟨some 35, none, .bin .lss (.t 32) (.t 34)⟩] [1, 2, 3, 8, 9, 10, 11, 12, 35]) (.cond (.t 35) .skip (.exit 2))) (.seq (.block 3 (.seq
    (.region (some [38, 39, 40, 41, 42, 43, 44, 45, 46, 47, 48, 49, 50]) [ ⟨some 38, none, .ld (some 2) (.t 3)⟩, ⟨some 39, none, .mv (.t 9)⟩, ⟨some 40, none, .mv (.t 11)⟩, ⟨some 41, none, .idx 1 (.t 39) (.t 40)⟩, ⟨some 42, none, .ld none (.t 41)⟩, ⟨some 43, none, .mv (.t 12)⟩, ⟨some 44, none, .call (.f 68) [((.t 38), .r), ((.t 42), .r), ((.t 43), .r)]⟩, ⟨some 45, none, .ld (some 2) (.t 8)⟩, ⟨some 46, none, .mv (.t 9)⟩, ⟨some 47, none, .mv (.t 11)⟩, ⟨some 48, none, .idx 1 (.t 46) (.t 47)⟩, ⟨some 49, none, .ld none (.t 48)⟩, ⟨some 50, none, .mv (.t 12)⟩, ⟨some 51, none, .call (.f 68) [((.t 45), .r), ((.t 49), .r), ((.t 50), .r)]⟩, ⟨some 52, none, .bsl [(.t 44), (.t 51)]⟩, ⟨some 13, none, .asg (.t 52)⟩] [1, 2, 3, 8, 9, 10, 11, 12, 13]) (.seq
    (.region none [ ⟨none, none, .freeze 13⟩, ⟨some 14, none, .mv (.c (.int .i64 0))⟩] [1, 2, 3, 8, 9, 10, 11, 12, 13, 14]) (.block 4 (.loop (.seq (.seq
    (.region none [ ⟨some 53, none, .mv (.t 14)⟩, ⟨some 54, none, .mv (.t 13)⟩, ⟨some 55, none, .len (.t 54)⟩, ⟨some 56, none, .bin .lss (.t 53) (.t 55)⟩] [1, 2, 3, 8, 9, 10, 11, 12, 13, 14, 56]) (.cond (.t 56) .skip (.exit 4))) (.seq (.block 5 (.seq
    (.region none [ ⟨some 60, none, .mv (.t 10)⟩, ⟨some 61, none, .mv (.t 13)⟩, ⟨some 62, none, .mv (.t 14)⟩, ⟨some 63, none, .idx 1 (.t 61) (.t 62)⟩, ⟨some 64, none, .ld none (.t 63)⟩, ⟨some 65, none, .callm (.f 349) [((.t 60), false), ((.t 64), false)] []⟩, ⟨some 59, none, .mv (.t 65)⟩, ⟨some 66, none, .ext (.t 59) 0⟩, ⟨some 67, none, .ext (.t 59) 1⟩, ⟨some 15, none, .asg (.t 66)⟩, ⟨some 16, none, .mv (.t 67)⟩] [1, 2, 3, 8, 9, 11, 12, 13, 14, 15, 16]) (.seq
    (.region none [ ⟨some 68, none, .mv (.t 15)⟩, ⟨some 10, none, .asg (.t 68)⟩] [1, 2, 3, 8, 9, 10, 11, 12, 13, 14, 16]) (.seq
    (.region none [ ⟨some 69, none, .mv (.t 16)⟩] [1, 2, 3, 8, 9, 10, 11, 12, 13, 14, 69]) (.cond (.t 69)
    (.region none [ ⟨some 70, none, .mv (.t 9)⟩, ⟨some 71, none, .mv (.t 13)⟩, ⟨some 72, none, .mv (.t 14)⟩, ⟨some 73, none, .idx 1 (.t 71) (.t 72)⟩, ⟨some 74, none, .ld none (.t 73)⟩, ⟨some 75, none, .bsl [(.t 74)]⟩, ⟨some 76, none, .app true 1 (.t 70) (.t 75)⟩, ⟨some 9, none, .asg (.t 76)⟩] [1, 2, 3, 8, 9, 10, 11, 12, 13, 14]) .skip)))))
    (.region none [ ⟨some 57, none, .mv (.t 14)⟩, ⟨some 58, none, .bin .add (.t 57) (.c (.int .i64 1))⟩, ⟨some 14, none, .mv (.t 58)⟩] [1, 2, 3, 8, 9, 10, 11, 12, 13, 14]))))))))
    (.region none [ ⟨some 36, none, .mv (.t 12)⟩, ⟨some 37, none, .bin .add (.t 36) (.c (.int .i64 1))⟩, ⟨some 12, none, .mv (.t 37)⟩] [1, 2, 3, 8, 9, 10, 11, 12])))))) (.seq
    (.region none [ ⟨some 77, none, .mv (.t 9)⟩, ⟨some 78, none, .len (.t 77)⟩, ⟨some 79, none, .mv (.t 2)⟩, ⟨some 80, none, .bin .gtr (.t 78) (.t 79)⟩] [1, 2, 3, 8, 9, 10, 11, 80]) (.cond (.t 80) (.seq
    (.region none [ ⟨some 6, none, .asg (.c (.slice none 0 0))⟩, ⟨some 7, none, .mv (.c (.bool false))⟩] [6, 7]) .ret) .skip))))
    (.region none [ ⟨some 29, none, .mv (.t 11)⟩, ⟨some 30, none, .bin .add (.t 29) (.c (.int .i64 1))⟩, ⟨some 11, none, .mv (.t 30)⟩] [1, 2, 3, 8, 9, 10, 11])))))) (.seq
    (.region none [ ⟨some 81, none, .mv (.t 10)⟩, ⟨some 82, none, .call (.f 280) [((.t 81), .r)]⟩, ⟨some 6, none, .asg (.t 82)⟩, ⟨some 7, none, .mv (.c (.bool true))⟩] [6, 7]) .ret)))))

/-- spec.l02Inverse -/
def c_spec_l02Inverse : F where
  np := 1
  rs := [.cell 2 (some 2)]
  body :=
    (.seq
    (.region none [ ⟨some 1, none, .box (.t 0)⟩, ⟨some 2, none, .alloc [(.slice none 0 0), (.slice none 0 0)]⟩] [1, 2]) (.seq
    (.region none [ ⟨some 9, none, .fld 0 (.t 1)⟩, ⟨some 10, none, .ld none (.t 9)⟩, ⟨some 11, none, .len (.t 10)⟩, ⟨some 3, none, .mv (.t 11)⟩] [1, 2, 3]) (.seq
    (.region none [ ⟨some 12, none, .mv (.t 3)⟩, ⟨some 13, none, .call (.f 398) [((.t 12), .r)]⟩, ⟨some 4, none, .alloc [(.slice none 0 0), (.slice none 0 0)]⟩, ⟨none, none, .st (some 2) (.t 4) (.t 13)⟩] [1, 2, 3, 4]) (.seq (.seq
    (.region none [ ⟨some 5, none, .mv (.c (.int .i64 0))⟩] [1, 2, 3, 4, 5]) (.block 0 (.loop (.seq (.seq
    (.region none [ ⟨some 14, none, .mv (.t 5)⟩, ⟨some 15, none, .mv (.t 3)⟩, ⟨some 16, none, .bin .lss (.t 14) (.t 15)⟩] [1, 2, 3, 4, 5, 16]) (.cond (.t 16) .skip (.exit 0))) (.seq (.block 1 (.seq
    (.region none [ ⟨some 6, none, .mv (.c (.int .i64 0))⟩] [1, 2, 3, 4, 5, 6]) (.block 2 (.loop (.seq (.seq
    (.region none [ ⟨some 19, none, .mv (.t 6)⟩, ⟨some 20, none, .mv (.t 3)⟩, ⟨some 21, none, .bin .lss (.t 19) (.t 20)⟩] [1, 2, 3, 4, 5, 6, 21]) (.cond (.t 21) .skip (.exit 2))) (.seq (.block 3 (.seq
    (.region (some [7, 24, 25, 26, 27, 28, 29, 30, 31, 32, 33, 34, 35, 36, 37, 38, 39, 40, 41, 42, 43, 44, 45, 46, 47]) [ ⟨some 24, none, .fld 0 (.t 4)⟩, ⟨some 25, none, .ld none (.t 24)⟩, ⟨some 26, none, .fld 0 (.t 1)⟩, ⟨some 27, none, .ld none (.t 26)⟩, ⟨some 28, none, .mv (.t 5)⟩, ⟨some 29, none, .idx 1 (.t 27) (.t 28)⟩, ⟨some 30, none, .ld none (.t 29)⟩, ⟨some 31, none, .mv (.t 6)⟩, ⟨some 32, none, .idx 1 (.t 30) (.t 31)⟩, ⟨some 33, none, .ld none (.t 32)⟩, ⟨some 34, none, .idx 1 (.t 25) (.t 33)⟩, ⟨some 35, none, .ld none (.t 34)⟩, ⟨some 36, none, .fld 1 (.t 4)⟩, ⟨some 37, none, .ld none (.t 36)⟩, ⟨some 38, none, .fld 0 (.t 1)⟩, ⟨some 39, none, .ld none (.t 38)⟩, ⟨some 40, none, .mv (.t 5)⟩, ⟨some 41, none, .idx 1 (.t 39) (.t 40)⟩, ⟨some 42, none, .ld none (.t 41)⟩, ⟨some 43, none, .mv (.t 6)⟩, ⟨some 44, none, .idx 1 (.t 42) (.t 43)⟩, ⟨some 45, none, .ld none (.t 44)⟩, ⟨some 46, none, .idx 1 (.t 37) (.t 45)⟩, ⟨some 47, none, .ld none (.t 46)⟩, ⟨some 7, none, .mv (.t 35)⟩, ⟨some 8, none, .mv (.t 47)⟩] [1, 2, 3, 4, 5, 6, 7, 8]) (.seq
    (.region none [ ⟨some 48, none, .mv (.t 7)⟩, ⟨some 49, none, .fld 1 (.t 1)⟩, ⟨some 50, none, .ld none (.t 49)⟩, ⟨some 51, none, .mv (.t 5)⟩, ⟨some 52, none, .idx 1 (.t 50) (.t 51)⟩, ⟨some 53, none, .ld none (.t 52)⟩, ⟨some 54, none, .mv (.t 6)⟩, ⟨some 55, none, .idx 1 (.t 53) (.t 54)⟩, ⟨some 56, none, .ld none (.t 55)⟩, ⟨some 57, none, .mv (.t 5)⟩, ⟨some 58, none, .idx 1 (.t 48) (.t 56)⟩, ⟨none, none, .st none (.t 58) (.t 57)⟩] [1, 2, 3, 4, 5, 6, 8])
    (.region none [ ⟨some 59, none, .mv (.t 8)⟩, ⟨some 60, none, .fld 1 (.t 1)⟩, ⟨some 61, none, .ld none (.t 60)⟩, ⟨some 62, none, .mv (.t 5)⟩, ⟨some 63, none, .idx 1 (.t 61) (.t 62)⟩, ⟨some 64, none, .ld none (.t 63)⟩, ⟨some 65, none, .mv (.t 6)⟩, ⟨some 66, none, .idx 1 (.t 64) (.t 65)⟩, ⟨some 67, none, .ld none (.t 66)⟩, ⟨some 68, none, .mv (.t 6)⟩, ⟨some 69, none, .idx 1 (.t 59) (.t 67)⟩, ⟨none, none, .st none (.t 69) (.t 68)⟩] [1, 2, 3, 4, 5, 6]))))
    (.region none [ ⟨some 22, none, .mv (.t 6)⟩, ⟨some 23, none, .bin .add (.t 22) (.c (.int .i64 1))⟩, ⟨some 6, none, .mv (.t 23)⟩] [1, 2, 3, 4, 5, 6])))))))
    (.region none [ ⟨some 17, none, .mv (.t 5)⟩, ⟨some 18, none, .bin .add (.t 17) (.c (.int .i64 1))⟩, ⟨some 5, none, .mv (.t 18)⟩] [1, 2, 3, 4, 5])))))) (.seq
    (.region none [ ⟨some 70, none, .ld (some 2) (.t 4)⟩, ⟨none, none, .st (some 2) (.t 2) (.t 70)⟩] [2]) .ret)))))

/-- impl.wordClass -/
def c_impl_wordClass : F where
  np := 3
  rs := [.t 6, .t 7]
  body :=
    (.seq
    (.region none [ ⟨some 3, none, .box (.t 0)⟩, ⟨some 6, none, .asg (.c (.slice none 0 0))⟩, ⟨some 7, none, .mv (.c (.bool false))⟩] [1, 2, 3]) (.seq
    (.region none [ ⟨some 19, none, .ld (some 2) (.t 3)⟩, ⟨some 20, none, .call (.f 411) [((.t 19), .r)]⟩, ⟨none, none, .freeze 20⟩, ⟨some 18, none, .mv (.t 20)⟩, ⟨some 21, none, .ext (.t 18) 0⟩, ⟨some 22, none, .ext (.t 18) 1⟩, ⟨some 8, none, .alloc [(.slice none 0 0), (.slice none 0 0)]⟩, ⟨none, none, .st (some 2) (.t 8) (.t 21)⟩, ⟨some 9, none, .mv (.t 22)⟩] [1, 2, 3, 8]) (.seq
    (.region none [ ⟨some 23, none, .mv (.t 1)⟩, ⟨some 24, none, .call (.f 36) [((.t 23), .r)]⟩, ⟨some 25, none, .bsl [(.t 24)]⟩, ⟨some 10, none, .asg (.t 25)⟩] [1, 2, 3, 8, 10]) (.seq
    (.region none [ ⟨some 26, none, .mkset⟩, ⟨some 27, none, .mv (.t 1)⟩, ⟨some 28, none, .call (.f 312) [((.t 27), .r)]⟩, ⟨none, none, .upd (.t 26) (.t 28)⟩, ⟨some 29, none, .mv (.t 26)⟩, ⟨some 11, none, .asg (.t 29)⟩] [1, 2, 3, 8, 10, 11]) (.seq (.seq
    (.region none [ ⟨some 12, none, .mv (.c (.int .i64 0))⟩] [1, 2, 3, 8, 10, 11, 12]) (.block 0 (.loop (.seq (.seq
    (.region none [ ⟨some 30, none, .mv (.t 12)⟩, ⟨some 31, none, .mv (.t 10)⟩, ⟨some 32, none, .len (.t 31)⟩, ⟨some 33, none, .bin .lss (.t 30) (.t 32)⟩] [1, 2, 3, 8, 10, 11, 12, 33]) (.cond (.t 33) .skip (.exit 0))) (.seq (.block 1 (.seq
    (.region none [ ⟨some 36, none, .mv (.t 1)⟩, ⟨some 37, none, .len (.t 36)⟩, ⟨some 38, none, .bin .sub (.t 37) (.c (.int .i64 1))⟩, ⟨some 39, none, .mv (.c (.int .i64 0))⟩] [1, 2, 3, 8, 10, 11, 12, 38, 39]) (.block 2 (.loop (.seq
    (.region none [ ⟨some 40, none, .bin .lss (.t 39) (.t 38)⟩] [1, 2, 3, 8, 10, 11, 12, 38, 39, 40]) (.seq (.cond (.t 40) .skip (.exit 2)) (.seq (.block 3 (.seq
    (.region none [ ⟨some 41, none, .mv (.t 39)⟩, ⟨some 13, none, .mv (.t 41)⟩] [1, 2, 3, 8, 10, 11, 12, 13, 38, 39]) (.seq
    (.region none [ ⟨some 42, none, .ld (some 2) (.t 3)⟩, ⟨some 43, none, .ld (some 2) (.t 8)⟩, ⟨some 44, none, .build [(.slice none 0 0), (.slice none 0 0), (.slice none 0 0), (.slice none 0 0)] [(0, 2, (.t 42)), (2, 2, (.t 43))]⟩, ⟨some 45, none, .mv (.c (.int .i64 0))⟩] [1, 2, 3, 8, 10, 11, 12, 13, 38, 39, 44, 45]) (.block 4 (.loop (.seq
    (.region none [ ⟨some 46, none, .bin .lss (.t 45) (.c (.int .i64 2))⟩] [1, 2, 3, 8, 10, 11, 12, 13, 38, 39, 44, 45, 46]) (.seq (.cond (.t 46) .skip (.exit 4)) (.seq (.block 5 (.seq
    (.region none [ ⟨some 47, none, .arr 2 2 (.t 44) (.t 45)⟩, ⟨some 15, none, .alloc [(.slice none 0 0), (.slice none 0 0)]⟩, ⟨none, none, .st (some 2) (.t 15) (.t 47)⟩] [1, 2, 3, 8, 10, 11, 12, 13, 15, 38, 39, 44, 45]) (.seq
    (.region (some [48, 49, 50, 51, 52, 53]) [ ⟨some 48, none, .ld (some 2) (.t 15)⟩, ⟨some 49, none, .mv (.t 10)⟩, ⟨some 50, none, .mv (.t 12)⟩, ⟨some 51, none, .idx 1 (.t 49) (.t 50)⟩, ⟨some 52, none, .ld none (.t 51)⟩, ⟨some 53, none, .mv (.t 13)⟩, ⟨some 54, none, .call (.f 44) [((.t 48), .r), ((.t 52), .r), ((.t 53), .r)]⟩, ⟨some 16, none, .asg (.t 54)⟩] [1, 2, 3, 8, 10, 11, 12, 13, 16, 38, 39, 44, 45]) (.seq
    (.region none [ ⟨some 55, none, .mv (.t 16)⟩, ⟨some 56, none, .call (.f 312) [((.t 55), .r)]⟩, ⟨some 17, none, .mv (.t 56)⟩] [1, 2, 3, 8, 10, 11, 12, 13, 16, 17, 38, 39, 44, 45]) (.seq (.seq
    (.region none [ ⟨some 57, none, .mv (.t 11)⟩, ⟨some 58, none, .mv (.t 17)⟩, ⟨some 59, none, .look (.t 57) (.t 58)⟩] [1, 2, 3, 8, 10, 11, 12, 13, 16, 17, 38, 39, 44, 45, 59]) (.cond (.t 59) (.exit 5) .skip)) (.seq (.seq
    (.region none [ ⟨some 60, none, .mv (.t 10)⟩, ⟨some 61, none, .len (.t 60)⟩, ⟨some 62, none, .mv (.t 2)⟩, ⟨some 63, none, .bin .eql (.t 61) (.t 62)⟩] [1, 2, 3, 8, 10, 11, 12, 13, 16, 17, 38, 39, 44, 45, 63]) (.cond (.t 63) (.seq
    (.region none [ ⟨some 6, none, .asg (.c (.slice none 0 0))⟩, ⟨some 7, none, .mv (.c (.bool false))⟩] [6, 7]) .ret) .skip)) (.seq
    (.region none [ ⟨some 64, none, .mv (.t 11)⟩, ⟨some 65, none, .mv (.t 17)⟩, ⟨none, none, .upd (.t 64) (.t 65)⟩] [1, 2, 3, 8, 10, 11, 12, 13, 16, 38, 39, 44, 45])
    (.region none [ ⟨some 66, none, .mv (.t 10)⟩, ⟨some 67, none, .mv (.t 16)⟩, ⟨some 68, none, .bsl [(.t 67)]⟩, ⟨some 69, none, .app true 1 (.t 66) (.t 68)⟩, ⟨some 10, none, .asg (.t 69)⟩] [1, 2, 3, 8, 10, 11, 12, 13, 38, 39, 44, 45]))))))))
    (.region none [ ⟨some 70, none, .bin .add (.t 45) (.c (.int .i64 1))⟩, ⟨some 45, none, .mv (.t 70)⟩] [1, 2, 3, 8, 10, 11, 12, 13, 38, 39, 44, 45])))))))))
    (.region none [ ⟨some 71, none, .bin .add (.t 39) (.c (.int .i64 1))⟩, ⟨some 39, none, .mv (.t 71)⟩] [1, 2, 3, 8, 10, 11, 12, 38, 39]))))))))
    (.region none [ ⟨some 34, none, .mv (.t 12)⟩, ⟨some 35, none, .bin .add (.t 34) (.c (.int .i64 1))⟩, ⟨some 12, none, .mv (.t 35)⟩] [1, 2, 3, 8, 10, 11, 12])))))) (.seq
    (.region none [ ⟨some 72, none, .mv (.t 10)⟩, ⟨some 73, none, .callm (.f 313) [((.t 72), true), ((.f 314), false)] []⟩] [10]) (.seq
    (.region none [ ⟨some 74, none, .mv (.t 10)⟩, ⟨some 6, none, .asg (.t 74)⟩, ⟨some 7, none, .mv (.c (.bool true))⟩] [6, 7]) .ret)))))))

/-- impl.InverseSolution -/
def c_impl_InverseSolution : F where
  np := 1
  rs := [.cell 2 (some 2), .t 3]
  body :=
    (.seq
    (.region none [ ⟨some 1, none, .box (.t 0)⟩, ⟨some 2, none, .alloc [(.slice none 0 0), (.slice none 0 0)]⟩, ⟨some 3, none, .mv (.c (.int .i64 0))⟩] [1, 2]) (.seq (.seq
    (.region none [ ⟨some 10, none, .ld (some 2) (.t 1)⟩, ⟨some 11, none, .call (.f 42) [((.t 10), .r)]⟩, ⟨some 12, none, .un .not (.t 11)⟩] [1, 2, 12]) (.cond (.t 12) (.seq
    (.region none [ ⟨some 13, none, .build [(.slice none 0 0), (.slice none 0 0)] []⟩, ⟨none, none, .st (some 2) (.t 2) (.t 13)⟩, ⟨some 3, none, .mv (.c (.int .i64 1))⟩] [2, 3]) .ret) .skip)) (.seq
    (.region (some [4, 14, 15, 16, 17, 18, 19, 20]) [ ⟨some 14, none, .fld 0 (.t 1)⟩, ⟨some 15, none, .ld none (.t 14)⟩, ⟨some 16, none, .call (.f 275) [((.t 15), .r)]⟩, ⟨some 17, none, .fld 1 (.t 1)⟩, ⟨some 18, none, .ld none (.t 17)⟩, ⟨some 19, none, .call (.f 275) [((.t 18), .r)]⟩, ⟨some 20, none, .build [(.slice none 0 0), (.slice none 0 0)] [(0, 1, (.t 16)), (1, 1, (.t 19))]⟩, ⟨some 4, none, .alloc [(.slice none 0 0), (.slice none 0 0)]⟩, ⟨none, none, .st (some 2) (.t 4) (.t 20)⟩] [1, 2, 4]) (.seq (.seq
    (.region none [ ⟨some 21, none, .fld 0 (.t 1)⟩, ⟨some 22, none, .ld none (.t 21)⟩, ⟨some 23, none, .len (.t 22)⟩, ⟨some 24, none, .mv (.c (.int .i64 0))⟩] [1, 2, 4, 22, 23, 24]) (.block 0 (.loop (.seq
    (.region none [ ⟨some 25, none, .bin .lss (.t 24) (.t 23)⟩] [1, 2, 4, 22, 23, 24, 25]) (.seq (.cond (.t 25) .skip (.exit 0)) (.seq (.block 1 (.seq
    (.region none [ ⟨some 26, none, .mv (.t 24)⟩, ⟨some 27, none, .idx 1 (.t 22) (.t 24)⟩, ⟨some 28, none, .ld none (.t 27)⟩, ⟨some 5, none, .mv (.t 26)⟩, ⟨some 6, none, .asg (.t 28)⟩] [1, 2, 4, 5, 6, 22, 23, 24]) (.seq
    (.region none [ ⟨some 29, none, .mv (.t 6)⟩, ⟨some 30, none, .len (.t 29)⟩, ⟨some 31, none, .mv (.c (.int .i64 0))⟩] [1, 2, 4, 5, 22, 23, 24, 29, 30, 31]) (.block 2 (.loop (.seq
    (.region none [ ⟨some 32, none, .bin .lss (.t 31) (.t 30)⟩] [1, 2, 4, 5, 22, 23, 24, 29, 30, 31, 32]) (.seq (.cond (.t 32) .skip (.exit 2)) (.seq (.block 3 (.seq
    (.region none [ ⟨some 33, none, .mv (.t 31)⟩, ⟨some 34, none, .idx 1 (.t 29) (.t 31)⟩, ⟨some 35, none, .ld none (.t 34)⟩, ⟨some 7, none, .mv (.t 33)⟩, ⟨some 8, none, .mv (.t 35)⟩] [1, 2, 4, 5, 7, 8, 22, 23, 24, 29, 30, 31]) (.seq
    (.region none [ ⟨some 36, none, .fld 1 (.t 1)⟩, ⟨some 37, none, .ld none (.t 36)⟩, ⟨some 38, none, .mv (.t 5)⟩, ⟨some 39, none, .idx 1 (.t 37) (.t 38)⟩, ⟨some 40, none, .ld none (.t 39)⟩, ⟨some 41, none, .mv (.t 7)⟩, ⟨some 42, none, .idx 1 (.t 40) (.t 41)⟩, ⟨some 43, none, .ld none (.t 42)⟩, ⟨some 9, none, .mv (.t 43)⟩] [1, 2, 4, 5, 7, 8, 9, 22, 23, 24, 29, 30, 31])
    (.region (some [44, 45, 46, 47, 48, 49, 50, 51, 52, 53, 54, 55, 56, 57, 58]) [ ⟨some 44, none, .fld 0 (.t 4)⟩, ⟨some 45, none, .ld none (.t 44)⟩, ⟨some 46, none, .mv (.t 8)⟩, ⟨some 47, none, .idx 1 (.t 45) (.t 46)⟩, ⟨some 48, none, .ld none (.t 47)⟩, ⟨some 49, none, .mv (.t 9)⟩, ⟨some 50, none, .fld 1 (.t 4)⟩, ⟨some 51, none, .ld none (.t 50)⟩, ⟨some 52, none, .mv (.t 8)⟩, ⟨some 53, none, .idx 1 (.t 51) (.t 52)⟩, ⟨some 54, none, .ld none (.t 53)⟩, ⟨some 55, none, .mvw (.t 9)⟩, ⟨some 56, none, .mv (.t 5)⟩, ⟨some 57, none, .mvw (.t 7)⟩, ⟨some 58, none, .idx 1 (.t 48) (.t 49)⟩, ⟨none, none, .sts (.t 58) (.t 56)⟩, ⟨some 59, none, .idx 1 (.t 54) (.t 55)⟩, ⟨none, none, .st none (.t 59) (.t 57)⟩] [1, 2, 4, 5, 22, 23, 24, 29, 30, 31]))))
    (.region none [ ⟨some 60, none, .bin .add (.t 31) (.c (.int .i64 1))⟩, ⟨some 31, none, .mv (.t 60)⟩] [1, 2, 4, 5, 22, 23, 24, 29, 30, 31])))))))))
    (.region none [ ⟨some 61, none, .bin .add (.t 24) (.c (.int .i64 1))⟩, ⟨some 24, none, .mv (.t 61)⟩] [1, 2, 4, 22, 23, 24]))))))) (.seq
    (.region none [ ⟨some 62, none, .ld (some 2) (.t 4)⟩, ⟨none, none, .st (some 2) (.t 2) (.t 62)⟩, ⟨some 3, none, .mv (.c (.int .i64 0))⟩] [2, 3]) .ret)))))

/-- spec.l09Normals -/
def c_spec_l09Normals : F where
  np := 2
  rs := [.t 4]
  body :=
    (.seq
    (.region none [ ⟨some 2, none, .box (.t 0)⟩, ⟨some 4, none, .asg (.c (.slice none 0 0))⟩] [1, 2]) (.seq
    (.region none [ ⟨some 19, none, .fld 0 (.t 2)⟩, ⟨some 20, none, .ld none (.t 19)⟩, ⟨some 21, none, .len (.t 20)⟩, ⟨some 5, none, .mv (.t 21)⟩] [1, 2, 5]) (.seq
    (.region none [ ⟨some 6, none, .mv (.c (.int .i64 1))⟩] [1, 2, 5, 6]) (.seq (.seq
    (.region none [ ⟨some 7, none, .mv (.c (.int .i64 0))⟩] [1, 2, 5, 6, 7]) (.block 0 (.loop (.seq (.seq
    (.region none [ ⟨some 22, none, .mv (.t 7)⟩, ⟨some 23, none, .mv (.t 1)⟩, ⟨some 24, none, .bin .lss (.t 22) (.t 23)⟩] [1, 2, 5, 6, 7, 24]) (.cond (.t 24) .skip (.exit 0))) (.seq (.block 1
    (.region none [ ⟨some 27, none, .mv (.t 6)⟩, ⟨some 28, none, .mv (.t 5)⟩, ⟨some 29, none, .bin .mul (.t 27) (.t 28)⟩, ⟨some 6, none, .mv (.t 29)⟩] [1, 2, 5, 6, 7]))
    (.region none [ ⟨some 25, none, .mv (.t 7)⟩, ⟨some 26, none, .bin .add (.t 25) (.c (.int .i64 1))⟩, ⟨some 7, none, .mv (.t 26)⟩] [1, 2, 5, 6, 7])))))) (.seq
    (.region none [ ⟨some 30, none, .mv (.t 6)⟩, ⟨some 31, none, .mks (.bool false) (.t 30)⟩, ⟨some 32, none, .bsl []⟩, ⟨some 8, none, .asg (.t 31)⟩, ⟨some 9, none, .asg (.t 32)⟩] [1, 2, 5, 6, 8, 9]) (.seq (.seq
    (.region none [ ⟨some 10, none, .mv (.c (.int .i64 0))⟩] [1, 2, 5, 6, 8, 9, 10]) (.block 2 (.loop (.seq (.seq
    (.region none [ ⟨some 33, none, .mv (.t 10)⟩, ⟨some 34, none, .mv (.t 6)⟩, ⟨some 35, none, .bin .lss (.t 33) (.t 34)⟩] [1, 2, 5, 6, 8, 9, 10, 35]) (.cond (.t 35) .skip (.exit 2))) (.seq (.block 3 (.seq (.seq
    (.region none [ ⟨some 38, none, .mv (.t 8)⟩, ⟨some 39, none, .mv (.t 10)⟩, ⟨some 40, none, .idx 1 (.t 38) (.t 39)⟩, ⟨some 41, none, .ld none (.t 40)⟩] [1, 2, 5, 6, 8, 9, 10, 41]) (.cond (.t 41) (.exit 3) .skip)) (.seq
    (.region none [ ⟨some 42, none, .mv (.t 1)⟩, ⟨some 43, none, .mks (.int .i64 0) (.t 42)⟩, ⟨some 44, none, .mv (.t 10)⟩, ⟨some 11, none, .asg (.t 43)⟩, ⟨some 12, none, .mv (.t 44)⟩] [1, 2, 5, 6, 8, 9, 10, 11, 12]) (.seq (.seq
    (.region none [ ⟨some 45, none, .mv (.t 1)⟩, ⟨some 46, none, .bin .sub (.t 45) (.c (.int .i64 1))⟩, ⟨some 13, none, .mv (.t 46)⟩] [1, 2, 5, 6, 8, 9, 10, 11, 12, 13]) (.block 4 (.loop (.seq (.seq
    (.region none [ ⟨some 47, none, .mv (.t 13)⟩, ⟨some 48, none, .bin .geq (.t 47) (.c (.int .i64 0))⟩] [1, 2, 5, 6, 8, 9, 10, 11, 12, 13, 48]) (.cond (.t 48) .skip (.exit 4))) (.seq (.block 5 (.seq
    (.region none [ ⟨some 51, none, .mv (.t 11)⟩, ⟨some 52, none, .mv (.t 13)⟩, ⟨some 53, none, .mv (.t 12)⟩, ⟨some 54, none, .mv (.t 5)⟩, ⟨some 55, none, .bin .rem (.t 53) (.t 54)⟩, ⟨some 56, none, .idx 1 (.t 51) (.t 52)⟩, ⟨none, none, .st none (.t 56) (.t 55)⟩] [1, 2, 5, 6, 8, 9, 10, 11, 12, 13])
    (.region none [ ⟨some 57, none, .mv (.t 12)⟩, ⟨some 58, none, .mv (.t 5)⟩, ⟨some 59, none, .bin .quo (.t 57) (.t 58)⟩, ⟨some 12, none, .mv (.t 59)⟩] [1, 2, 5, 6, 8, 9, 10, 11, 12, 13])))
    (.region none [ ⟨some 49, none, .mv (.t 13)⟩, ⟨some 50, none, .bin .sub (.t 49) (.c (.int .i64 1))⟩, ⟨some 13, none, .mv (.t 50)⟩] [1, 2, 5, 6, 8, 9, 10, 11, 12, 13])))))) (.seq
    (.region none [ ⟨some 60, none, .mv (.t 9)⟩, ⟨none, none, .freeze 11⟩, ⟨some 61, none, .mv (.t 11)⟩, ⟨some 62, none, .bsl [(.t 61)]⟩, ⟨some 63, none, .app true 1 (.t 60) (.t 62)⟩, ⟨some 9, none, .asg (.t 63)⟩] [1, 2, 5, 6, 8, 9, 10, 11]) (.seq
    (.region none [ ⟨some 65, none, .ld (some 2) (.t 2)⟩, ⟨some 66, none, .mv (.t 11)⟩, ⟨some 67, none, .call (.f 339) [((.t 65), .r), ((.t 66), .r), ((.c (.int .i64 5000)), .r)]⟩, ⟨some 64, none, .mv (.t 67)⟩, ⟨some 68, none, .ext (.t 64) 0⟩, ⟨some 69, none, .ext (.t 64) 1⟩, ⟨some 14, none, .asg (.t 68)⟩, ⟨some 15, none, .mv (.t 69)⟩] [1, 2, 5, 6, 8, 9, 10, 14]) (.seq
    (.region none [ ⟨some 16, none, .mv (.c (.int .i64 0))⟩] [1, 2, 5, 6, 8, 9, 10, 14, 16]) (.block 6 (.loop (.seq (.seq
    (.region none [ ⟨some 70, none, .mv (.t 16)⟩, ⟨some 71, none, .mv (.t 14)⟩, ⟨some 72, none, .len (.t 71)⟩, ⟨some 73, none, .bin .lss (.t 70) (.t 72)⟩] [1, 2, 5, 6, 8, 9, 10, 14, 16, 73]) (.cond (.t 73) .skip (.exit 6))) (.seq (.block 7 (.seq
    (.region none [ ⟨some 17, none, .mv (.c (.int .i64 0))⟩] [1, 2, 5, 6, 8, 9, 10, 14, 16, 17]) (.seq (.seq
    (.region none [ ⟨some 18, none, .mv (.c (.int .i64 0))⟩] [1, 2, 5, 6, 8, 9, 10, 14, 16, 17, 18]) (.block 8 (.loop (.seq (.seq
    (.region none [ ⟨some 76, none, .mv (.t 18)⟩, ⟨some 77, none, .mv (.t 14)⟩, ⟨some 78, none, .mv (.t 16)⟩, ⟨some 79, none, .idx 1 (.t 77) (.t 78)⟩, ⟨some 80, none, .ld none (.t 79)⟩, ⟨some 81, none, .len (.t 80)⟩, ⟨some 82, none, .bin .lss (.t 76) (.t 81)⟩] [1, 2, 5, 6, 8, 9, 10, 14, 16, 17, 18, 82]) (.cond (.t 82) .skip (.exit 8))) (.seq (.block 9
    (.region none [ ⟨some 85, none, .mv (.t 17)⟩, ⟨some 86, none, .mv (.t 5)⟩, ⟨some 87, none, .bin .mul (.t 85) (.t 86)⟩, ⟨some 88, none, .mv (.t 14)⟩, ⟨some 89, none, .mv (.t 16)⟩, ⟨some 90, none, .idx 1 (.t 88) (.t 89)⟩, ⟨some 91, none, .ld none (.t 90)⟩, ⟨some 92, none, .mv (.t 18)⟩, ⟨some 93, none, .idx 1 (.t 91) (.t 92)⟩, ⟨some 94, none, .ld none (.t 93)⟩, ⟨some 95, none, .bin .add (.t 87) (.t 94)⟩, ⟨some 17, none, .mv (.t 95)⟩] [1, 2, 5, 6, 8, 9, 10, 14, 16, 17, 18]))
    (.region none [ ⟨some 83, none, .mv (.t 18)⟩, ⟨some 84, none, .bin .add (.t 83) (.c (.int .i64 1))⟩, ⟨some 18, none, .mv (.t 84)⟩] [1, 2, 5, 6, 8, 9, 10, 14, 16, 17, 18]))))))
    (.region none [ ⟨some 96, none, .mv (.t 8)⟩, ⟨some 97, none, .mv (.t 17)⟩, ⟨some 98, none, .idx 1 (.t 96) (.t 97)⟩, ⟨none, none, .st none (.t 98) (.c (.bool true))⟩] [1, 2, 5, 6, 8, 9, 10, 14, 16]))))
    (.region none [ ⟨some 74, none, .mv (.t 16)⟩, ⟨some 75, none, .bin .add (.t 74) (.c (.int .i64 1))⟩, ⟨some 16, none, .mv (.t 75)⟩] [1, 2, 5, 6, 8, 9, 10, 14, 16]))))))))))))
    (.region none [ ⟨some 36, none, .mv (.t 10)⟩, ⟨some 37, none, .bin .add (.t 36) (.c (.int .i64 1))⟩, ⟨some 10, none, .mv (.t 37)⟩] [1, 2, 5, 6, 8, 9, 10])))))) (.seq
    (.region none [ ⟨some 99, none, .mv (.t 9)⟩, ⟨some 4, none, .asg (.t 99)⟩] [4]) .ret)))))))

/-- impl.normalWords -/
def c_impl_normalWords : F where
  np := 3
  rs := [.t 6]
  body :=
    (.seq
    (.region none [ ⟨some 3, none, .box (.t 0)⟩, ⟨some 6, none, .asg (.c (.slice none 0 0))⟩] [1, 2, 3]) (.seq
    (.region none [ ⟨some 16, none, .fld 0 (.t 3)⟩, ⟨some 17, none, .ld none (.t 16)⟩, ⟨some 18, none, .len (.t 17)⟩, ⟨some 7, none, .mv (.t 18)⟩] [1, 2, 3, 7]) (.seq
    (.region none [ ⟨some 19, none, .mv (.t 2)⟩, ⟨some 20, none, .mks (.bool false) (.t 19)⟩, ⟨some 8, none, .asg (.t 20)⟩] [1, 3, 7, 8]) (.seq
    (.region none [ ⟨some 9, none, .asg (.c (.slice none 0 0))⟩] [1, 3, 7, 8, 9]) (.seq (.seq
    (.region none [ ⟨some 21, none, .mv (.t 8)⟩, ⟨some 22, none, .len (.t 21)⟩, ⟨some 23, none, .mv (.c (.int .i64 0))⟩] [1, 3, 7, 8, 9, 22, 23]) (.block 0 (.loop (.seq
    (.region none [ ⟨some 24, none, .bin .lss (.t 23) (.t 22)⟩] [1, 3, 7, 8, 9, 22, 23, 24]) (.seq (.cond (.t 24) .skip (.exit 0)) (.seq (.block 1 (.seq
    (.region none [ ⟨some 25, none, .mv (.t 23)⟩, ⟨some 10, none, .mv (.t 25)⟩] [1, 3, 7, 8, 9, 10, 22, 23]) (.seq (.seq
    (.region none [ ⟨some 26, none, .mv (.t 8)⟩, ⟨some 27, none, .mv (.t 10)⟩, ⟨some 28, none, .idx 1 (.t 26) (.t 27)⟩, ⟨some 29, none, .ld none (.t 28)⟩] [1, 3, 7, 8, 9, 10, 22, 23, 29]) (.cond (.t 29) (.exit 1) .skip)) (.seq
    (.region none [ ⟨some 30, none, .mv (.t 7)⟩, ⟨some 31, none, .mv (.t 1)⟩, ⟨some 32, none, .mv (.t 10)⟩, ⟨some 33, none, .call (.f 262) [((.t 30), .r), ((.t 31), .r), ((.t 32), .r)]⟩, ⟨some 11, none, .asg (.t 33)⟩] [1, 3, 7, 8, 9, 11, 22, 23]) (.seq
    (.region none [ ⟨some 34, none, .mv (.t 9)⟩, ⟨some 35, none, .mv (.t 11)⟩, ⟨some 36, none, .bslk (.t 35) 11⟩, ⟨some 37, none, .appk (.t 34) (.t 36) 11⟩, ⟨some 9, none, .mv (.t 37)⟩] [1, 3, 7, 8, 9, 11, 22, 23, 37]) (.seq
    (.region none [ ⟨some 39, none, .ld (some 2) (.t 3)⟩, ⟨some 40, none, .mv (.t 11)⟩, ⟨some 41, none, .call (.f 352) [((.t 39), .r), ((.t 40), .r), ((.c (.int .i64 5000)), .r)]⟩, ⟨none, none, .freeze 41⟩, ⟨some 38, none, .mv (.t 41)⟩, ⟨some 42, none, .ext (.t 38) 0⟩, ⟨some 43, none, .ext (.t 38) 1⟩, ⟨some 12, none, .asg (.t 42)⟩, ⟨some 13, none, .mv (.t 43)⟩] [1, 3, 7, 8, 9, 12, 22, 23, 37]) (.seq
    (.region none [ ⟨none, none, .settle 9⟩, ⟨some 44, none, .mv (.t 12)⟩, ⟨some 45, none, .len (.t 44)⟩, ⟨some 46, none, .mv (.c (.int .i64 0))⟩] [1, 3, 7, 8, 9, 22, 23, 44, 45, 46]) (.block 2 (.loop (.seq
    (.region none [ ⟨some 47, none, .bin .lss (.t 46) (.t 45)⟩] [1, 3, 7, 8, 9, 22, 23, 44, 45, 46, 47]) (.seq (.cond (.t 47) .skip (.exit 2)) (.seq (.block 3 (.seq
    (.region none [ ⟨some 48, none, .idx 1 (.t 44) (.t 46)⟩, ⟨some 49, none, .ld none (.t 48)⟩, ⟨some 15, none, .asg (.t 49)⟩] [1, 3, 7, 8, 9, 15, 22, 23, 44, 45, 46])
    (.region none [ ⟨some 50, none, .mv (.t 8)⟩, ⟨some 51, none, .mv (.t 7)⟩, ⟨some 52, none, .mv (.t 15)⟩, ⟨some 53, none, .call (.f 263) [((.t 51), .r), ((.t 52), .r)]⟩, ⟨some 54, none, .idx 1 (.t 50) (.t 53)⟩, ⟨none, none, .st none (.t 54) (.c (.bool true))⟩] [1, 3, 7, 8, 9, 22, 23, 44, 45, 46])))
    (.region none [ ⟨some 55, none, .bin .add (.t 46) (.c (.int .i64 1))⟩, ⟨some 46, none, .mv (.t 55)⟩] [1, 3, 7, 8, 9, 22, 23, 44, 45, 46])))))))))))))
    (.region none [ ⟨some 56, none, .bin .add (.t 23) (.c (.int .i64 1))⟩, ⟨some 23, none, .mv (.t 56)⟩] [1, 3, 7, 8, 9, 22, 23]))))))) (.seq
    (.region none [ ⟨some 57, none, .mv (.t 9)⟩, ⟨some 6, none, .asg (.t 57)⟩] [6]) .ret))))))

/-- spec.l02Twice -/
def c_spec_l02Twice : F where
  np := 1
  rs := [.t 2]
  body :=
    (.seq
    (.region none [ ⟨some 1, none, .box (.t 0)⟩, ⟨some 2, none, .mv (.c (.bool false))⟩] [1]) (.seq (.seq
    (.region none [ ⟨some 3, none, .mv (.c (.int .i64 0))⟩] [1, 3]) (.block 0 (.loop (.seq (.seq
    (.region none [ ⟨some 7, none, .mv (.t 3)⟩, ⟨some 8, none, .fld 0 (.t 1)⟩, ⟨some 9, none, .ld none (.t 8)⟩, ⟨some 10, none, .len (.t 9)⟩, ⟨some 11, none, .bin .lss (.t 7) (.t 10)⟩] [1, 3, 11]) (.cond (.t 11) .skip (.exit 0))) (.seq (.block 1 (.seq
    (.region none [ ⟨some 4, none, .mv (.c (.int .i64 0))⟩] [1, 3, 4]) (.block 2 (.loop (.seq (.seq
    (.region none [ ⟨some 14, none, .mv (.t 4)⟩, ⟨some 15, none, .fld 0 (.t 1)⟩, ⟨some 16, none, .ld none (.t 15)⟩, ⟨some 17, none, .len (.t 16)⟩, ⟨some 18, none, .bin .lss (.t 14) (.t 17)⟩] [1, 3, 4, 18]) (.cond (.t 18) .skip (.exit 2))) (.seq (.block 3 (.seq
    (.region (some [5, 21, 22, 23, 24, 25, 26, 27, 28, 29, 30, 31, 32, 33, 34, 35, 36]) [ ⟨some 21, none, .fld 0 (.t 1)⟩, ⟨some 22, none, .ld none (.t 21)⟩, ⟨some 23, none, .mv (.t 3)⟩, ⟨some 24, none, .idx 1 (.t 22) (.t 23)⟩, ⟨some 25, none, .ld none (.t 24)⟩, ⟨some 26, none, .mv (.t 4)⟩, ⟨some 27, none, .idx 1 (.t 25) (.t 26)⟩, ⟨some 28, none, .ld none (.t 27)⟩, ⟨some 29, none, .fld 1 (.t 1)⟩, ⟨some 30, none, .ld none (.t 29)⟩, ⟨some 31, none, .mv (.t 3)⟩, ⟨some 32, none, .idx 1 (.t 30) (.t 31)⟩, ⟨some 33, none, .ld none (.t 32)⟩, ⟨some 34, none, .mv (.t 4)⟩, ⟨some 35, none, .idx 1 (.t 33) (.t 34)⟩, ⟨some 36, none, .ld none (.t 35)⟩, ⟨some 5, none, .mv (.t 28)⟩, ⟨some 6, none, .mv (.t 36)⟩] [1, 3, 4, 5, 6]) (.seq
    (.region none [ ⟨some 37, none, .fld 0 (.t 1)⟩, ⟨some 38, none, .ld none (.t 37)⟩, ⟨some 39, none, .mv (.t 5)⟩, ⟨some 40, none, .idx 1 (.t 38) (.t 39)⟩, ⟨some 41, none, .ld none (.t 40)⟩, ⟨some 42, none, .mv (.t 6)⟩, ⟨some 43, none, .idx 1 (.t 41) (.t 42)⟩, ⟨some 44, none, .ld none (.t 43)⟩, ⟨some 45, none, .mv (.t 3)⟩, ⟨some 46, none, .bin .neq (.t 44) (.t 45)⟩, ⟨some 47, none, .mv (.t 46)⟩, ⟨some 48, (some (47, false)), .fld 1 (.t 1)⟩, ⟨some 49, (some (47, false)), .ld none (.t 48)⟩, ⟨some 50, (some (47, false)), .mv (.t 5)⟩, ⟨some 51, (some (47, false)), .idx 1 (.t 49) (.t 50)⟩, ⟨some 52, (some (47, false)), .ld none (.t 51)⟩, ⟨some 53, (some (47, false)), .mv (.t 6)⟩, ⟨some 54, (some (47, false)), .idx 1 (.t 52) (.t 53)⟩, ⟨some 55, (some (47, false)), .ld none (.t 54)⟩, ⟨some 56, (some (47, false)), .mv (.t 4)⟩, ⟨some 57, (some (47, false)), .bin .neq (.t 55) (.t 56)⟩, ⟨some 58, none, .pick (.t 47) (.c (.bool true)) (.t 57)⟩] [1, 3, 4, 58]) (.cond (.t 58) (.seq
    (.region none [ ⟨some 2, none, .mv (.c (.bool false))⟩] [2]) .ret) .skip))))
    (.region none [ ⟨some 19, none, .mv (.t 4)⟩, ⟨some 20, none, .bin .add (.t 19) (.c (.int .i64 1))⟩, ⟨some 4, none, .mv (.t 20)⟩] [1, 3, 4])))))))
    (.region none [ ⟨some 12, none, .mv (.t 3)⟩, ⟨some 13, none, .bin .add (.t 12) (.c (.int .i64 1))⟩, ⟨some 3, none, .mv (.t 13)⟩] [1, 3])))))) (.seq
    (.region none [ ⟨some 2, none, .mv (.c (.bool true))⟩] [2]) .ret)))

/-- impl.isInvolutive -/
def c_impl_isInvolutive : F where
  np := 1
  rs := [.t 2]
  body :=
    (.seq
    (.region none [ ⟨some 1, none, .box (.t 0)⟩, ⟨some 2, none, .mv (.c (.bool false))⟩] [1]) (.seq (.seq
    (.region none [ ⟨some 8, none, .fld 0 (.t 1)⟩, ⟨some 9, none, .ld none (.t 8)⟩, ⟨some 10, none, .len (.t 9)⟩, ⟨some 11, none, .mv (.c (.int .i64 0))⟩] [1, 9, 10, 11]) (.block 0 (.loop (.seq
    (.region none [ ⟨some 12, none, .bin .lss (.t 11) (.t 10)⟩] [1, 9, 10, 11, 12]) (.seq (.cond (.t 12) .skip (.exit 0)) (.seq (.block 1 (.seq
    (.region none [ ⟨some 13, none, .mv (.t 11)⟩, ⟨some 14, none, .idx 1 (.t 9) (.t 11)⟩, ⟨some 15, none, .ld none (.t 14)⟩, ⟨some 3, none, .mv (.t 13)⟩, ⟨some 4, none, .asg (.t 15)⟩] [1, 3, 4, 9, 10, 11]) (.seq
    (.region none [ ⟨some 16, none, .mv (.t 4)⟩, ⟨some 17, none, .len (.t 16)⟩, ⟨some 18, none, .mv (.c (.int .i64 0))⟩] [1, 3, 9, 10, 11, 16, 17, 18]) (.block 2 (.loop (.seq
    (.region none [ ⟨some 19, none, .bin .lss (.t 18) (.t 17)⟩] [1, 3, 9, 10, 11, 16, 17, 18, 19]) (.seq (.cond (.t 19) .skip (.exit 2)) (.seq (.block 3 (.seq
    (.region none [ ⟨some 20, none, .mv (.t 18)⟩, ⟨some 21, none, .idx 1 (.t 16) (.t 18)⟩, ⟨some 22, none, .ld none (.t 21)⟩, ⟨some 5, none, .mv (.t 20)⟩, ⟨some 6, none, .mv (.t 22)⟩] [1, 3, 5, 6, 9, 10, 11, 16, 17, 18]) (.seq
    (.region none [ ⟨some 23, none, .fld 1 (.t 1)⟩, ⟨some 24, none, .ld none (.t 23)⟩, ⟨some 25, none, .mv (.t 3)⟩, ⟨some 26, none, .idx 1 (.t 24) (.t 25)⟩, ⟨some 27, none, .ld none (.t 26)⟩, ⟨some 28, none, .mv (.t 5)⟩, ⟨some 29, none, .idx 1 (.t 27) (.t 28)⟩, ⟨some 30, none, .ld none (.t 29)⟩, ⟨some 7, none, .mv (.t 30)⟩] [1, 3, 5, 6, 7, 9, 10, 11, 16, 17, 18]) (.seq
    (.region none [ ⟨some 31, none, .fld 0 (.t 1)⟩, ⟨some 32, none, .ld none (.t 31)⟩, ⟨some 33, none, .mv (.t 6)⟩, ⟨some 34, none, .idx 1 (.t 32) (.t 33)⟩, ⟨some 35, none, .ld none (.t 34)⟩, ⟨some 36, none, .mv (.t 7)⟩, ⟨some 37, none, .idx 1 (.t 35) (.t 36)⟩, ⟨some 38, none, .ld none (.t 37)⟩, ⟨some 39, none, .mv (.t 3)⟩, ⟨some 40, none, .bin .neq (.t 38) (.t 39)⟩, ⟨some 41, none, .mv (.t 40)⟩, ⟨some 42, (some (41, false)), .fld 1 (.t 1)⟩, ⟨some 43, (some (41, false)), .ld none (.t 42)⟩, ⟨some 44, (some (41, false)), .mv (.t 6)⟩, ⟨some 45, (some (41, false)), .idx 1 (.t 43) (.t 44)⟩, ⟨some 46, (some (41, false)), .ld none (.t 45)⟩, ⟨some 47, (some (41, false)), .mv (.t 7)⟩, ⟨some 48, (some (41, false)), .idx 1 (.t 46) (.t 47)⟩, ⟨some 49, (some (41, false)), .ld none (.t 48)⟩, ⟨some 50, (some (41, false)), .mv (.t 5)⟩, ⟨some 51, (some (41, false)), .bin .neq (.t 49) (.t 50)⟩, ⟨some 52, none, .pick (.t 41) (.c (.bool true)) (.t 51)⟩] [1, 3, 9, 10, 11, 16, 17, 18, 52]) (.cond (.t 52) (.seq
    (.region none [ ⟨some 2, none, .mv (.c (.bool false))⟩] [2]) .ret) .skip)))))
    (.region none [ ⟨some 53, none, .bin .add (.t 18) (.c (.int .i64 1))⟩, ⟨some 18, none, .mv (.t 53)⟩] [1, 3, 9, 10, 11, 16, 17, 18])))))))))
    (.region none [ ⟨some 54, none, .bin .add (.t 11) (.c (.int .i64 1))⟩, ⟨some 11, none, .mv (.t 54)⟩] [1, 9, 10, 11]))))))) (.seq
    (.region none [ ⟨some 2, none, .mv (.c (.bool true))⟩] [2]) .ret)))

/-- spec.GarsideWord -/
def c_spec_GarsideWord : F where
  np := 1
  rs := [.t 2, .t 3]
  body :=
    (.seq
    (.region none [ ⟨some 1, none, .box (.t 0)⟩, ⟨some 2, none, .asg (.c (.slice none 0 0))⟩, ⟨some 3, none, .mv (.c (.int .i64 0))⟩] [1]) (.seq (.seq
    (.region none [ ⟨some 11, none, .ld (some 2) (.t 1)⟩, ⟨some 12, none, .call (.f 41) [((.t 11), .r)]⟩, ⟨some 13, none, .un .not (.t 12)⟩] [1, 13]) (.cond (.t 13) (.seq
    (.region none [ ⟨some 2, none, .asg (.c (.slice none 0 0))⟩, ⟨some 3, none, .mv (.c (.int .i64 1))⟩] [2, 3]) .ret) .skip)) (.seq (.seq
    (.region none [ ⟨some 14, none, .ld (some 2) (.t 1)⟩, ⟨some 15, none, .call (.f 350) [((.t 14), .r)]⟩, ⟨some 16, none, .un .not (.t 15)⟩, ⟨some 17, none, .mv (.t 16)⟩, ⟨some 18, (some (17, false)), .ld (some 2) (.t 1)⟩, ⟨some 19, (some (17, false)), .call (.f 351) [((.t 18), .r)]⟩, ⟨some 20, (some (17, false)), .un .not (.t 19)⟩, ⟨some 21, none, .pick (.t 17) (.c (.bool true)) (.t 20)⟩] [1, 21]) (.cond (.t 21) (.seq
    (.region none [ ⟨some 2, none, .asg (.c (.slice none 0 0))⟩, ⟨some 3, none, .mv (.c (.int .i64 5))⟩] [2, 3]) .ret) .skip)) (.seq
    (.region none [ ⟨some 22, none, .fld 0 (.t 1)⟩, ⟨some 23, none, .ld none (.t 22)⟩, ⟨some 24, none, .len (.t 23)⟩, ⟨some 4, none, .mv (.t 24)⟩] [1, 4]) (.seq (.seq
    (.region none [ ⟨some 25, none, .mv (.t 4)⟩, ⟨some 26, none, .bin .gtr (.t 25) (.c (.int .i64 5))⟩] [1, 4, 26]) (.cond (.t 26) (.seq
    (.region none [ ⟨some 2, none, .asg (.c (.slice none 0 0))⟩, ⟨some 3, none, .mv (.c (.int .i64 3))⟩] [2, 3]) .ret) .skip)) (.seq
    (.region none [ ⟨some 27, none, .ld (some 2) (.t 1)⟩, ⟨some 28, none, .mv (.t 4)⟩, ⟨some 29, none, .call (.f 296) [((.t 27), .r), ((.t 28), .r)]⟩, ⟨some 5, none, .asg (.t 29)⟩] [1, 4, 5]) (.seq (.seq
    (.region none [ ⟨some 6, none, .mv (.c (.int .i64 0))⟩] [1, 4, 5, 6]) (.block 0 (.loop (.seq (.seq
    (.region none [ ⟨some 30, none, .mv (.t 6)⟩, ⟨some 31, none, .mv (.t 5)⟩, ⟨some 32, none, .len (.t 31)⟩, ⟨some 33, none, .bin .lss (.t 30) (.t 32)⟩] [1, 4, 5, 6, 33]) (.cond (.t 33) .skip (.exit 0))) (.seq (.block 1 (.seq
    (.region (some [7, 37, 38, 39, 40, 41, 43, 44]) [ ⟨some 37, none, .ld (some 2) (.t 1)⟩, ⟨some 38, none, .mv (.t 5)⟩, ⟨some 39, none, .mv (.t 6)⟩, ⟨some 40, none, .idx 1 (.t 38) (.t 39)⟩, ⟨some 41, none, .ld none (.t 40)⟩, ⟨some 42, none, .call (.f 339) [((.t 37), .r), ((.t 41), .r), ((.c (.int .i64 5000)), .r)]⟩, ⟨some 36, none, .mv (.t 42)⟩, ⟨some 43, none, .ext (.t 36) 0⟩, ⟨some 44, none, .ext (.t 36) 1⟩, ⟨some 7, none, .mv (.t 43)⟩, ⟨some 8, none, .mv (.t 44)⟩] [1, 4, 5, 6, 7, 42]) (.seq
    (.region none [ ⟨some 45, none, .bsl []⟩, ⟨some 9, none, .asg (.t 45)⟩] [1, 4, 5, 6, 7, 9, 42]) (.seq (.seq
    (.region none [ ⟨some 10, none, .mv (.c (.int .i64 0))⟩] [1, 4, 5, 6, 7, 9, 10, 42]) (.block 2 (.loop (.seq (.seq
    (.region none [ ⟨some 46, none, .mv (.t 10)⟩, ⟨some 47, none, .mv (.t 7)⟩, ⟨some 48, none, .len (.t 47)⟩, ⟨some 49, none, .bin .lss (.t 46) (.t 48)⟩] [1, 4, 5, 6, 7, 9, 10, 42, 49]) (.cond (.t 49) .skip (.exit 2))) (.seq (.block 3 (.seq
    (.region none [ ⟨some 52, none, .mv (.t 9)⟩, ⟨some 53, none, .mv (.t 7)⟩, ⟨some 54, none, .mv (.t 10)⟩, ⟨some 55, none, .idx 1 (.t 53) (.t 54)⟩, ⟨some 56, none, .ld none (.t 55)⟩, ⟨some 57, none, .idx 1 (.t 56) (.c (.int .i64 0))⟩, ⟨some 58, none, .ld none (.t 57)⟩, ⟨some 59, none, .call (.f 62) [((.t 52), .r), ((.t 58), .r)]⟩, ⟨some 60, none, .un .not (.t 59)⟩] [1, 4, 5, 6, 7, 9, 10, 42, 60]) (.cond (.t 60)
    (.region none [ ⟨some 61, none, .mv (.t 9)⟩, ⟨some 62, none, .mv (.t 7)⟩, ⟨some 63, none, .mv (.t 10)⟩, ⟨some 64, none, .idx 1 (.t 62) (.t 63)⟩, ⟨some 65, none, .ld none (.t 64)⟩, ⟨some 66, none, .idx 1 (.t 65) (.c (.int .i64 0))⟩, ⟨some 67, none, .ld none (.t 66)⟩, ⟨some 68, none, .bsl [(.t 67)]⟩, ⟨some 69, none, .app true 1 (.t 61) (.t 68)⟩, ⟨some 9, none, .asg (.t 69)⟩] [1, 4, 5, 6, 7, 9, 10, 42]) .skip)))
    (.region none [ ⟨some 50, none, .mv (.t 10)⟩, ⟨some 51, none, .bin .add (.t 50) (.c (.int .i64 1))⟩, ⟨some 10, none, .mv (.t 51)⟩] [1, 4, 5, 6, 7, 9, 10, 42])))))) (.seq
    (.region none [ ⟨some 70, none, .mv (.t 9)⟩, ⟨some 71, none, .len (.t 70)⟩, ⟨some 72, none, .mv (.t 4)⟩, ⟨some 73, none, .bin .eql (.t 71) (.t 72)⟩] [1, 4, 5, 6, 73]) (.cond (.t 73) (.seq
    (.region none [ ⟨some 74, none, .mv (.t 5)⟩, ⟨some 75, none, .mv (.t 6)⟩, ⟨some 76, none, .idx 1 (.t 74) (.t 75)⟩, ⟨some 77, none, .ld none (.t 76)⟩, ⟨some 2, none, .asg (.t 77)⟩, ⟨some 3, none, .mv (.c (.int .i64 0))⟩] [2, 3]) .ret) .skip))))))
    (.region none [ ⟨some 34, none, .mv (.t 6)⟩, ⟨some 35, none, .bin .add (.t 34) (.c (.int .i64 1))⟩, ⟨some 6, none, .mv (.t 35)⟩] [1, 4, 5, 6])))))) (.seq
    (.region none [ ⟨some 2, none, .asg (.c (.slice none 0 0))⟩, ⟨some 3, none, .mv (.c (.int .i64 4))⟩] [2, 3]) .ret))))))))

/-- impl.GarsideWord -/
def c_impl_GarsideWord : F where
  np := 1
  rs := [.t 2, .t 3]
  body :=
    (.seq
    (.region none [ ⟨some 1, none, .box (.t 0)⟩, ⟨some 2, none, .asg (.c (.slice none 0 0))⟩, ⟨some 3, none, .mv (.c (.int .i64 0))⟩] [1]) (.seq (.seq
    (.region none [ ⟨some 13, none, .ld (some 2) (.t 1)⟩, ⟨some 14, none, .call (.f 42) [((.t 13), .r)]⟩, ⟨some 15, none, .un .not (.t 14)⟩] [1, 15]) (.cond (.t 15) (.seq
    (.region none [ ⟨some 2, none, .asg (.c (.slice none 0 0))⟩, ⟨some 3, none, .mv (.c (.int .i64 1))⟩] [2, 3]) .ret) .skip)) (.seq (.seq
    (.region none [ ⟨some 16, none, .ld (some 2) (.t 1)⟩, ⟨some 17, none, .call (.f 285) [((.t 16), .r)]⟩, ⟨some 18, none, .un .not (.t 17)⟩, ⟨some 19, none, .mv (.t 18)⟩, ⟨some 20, (some (19, false)), .ld (some 2) (.t 1)⟩, ⟨some 21, (some (19, false)), .call (.f 298) [((.t 20), .r)]⟩, ⟨some 22, (some (19, false)), .un .not (.t 21)⟩, ⟨some 23, none, .pick (.t 19) (.c (.bool true)) (.t 22)⟩] [1, 23]) (.cond (.t 23) (.seq
    (.region none [ ⟨some 2, none, .asg (.c (.slice none 0 0))⟩, ⟨some 3, none, .mv (.c (.int .i64 5))⟩] [2, 3]) .ret) .skip)) (.seq
    (.region none [ ⟨some 24, none, .fld 0 (.t 1)⟩, ⟨some 25, none, .ld none (.t 24)⟩, ⟨some 26, none, .len (.t 25)⟩, ⟨some 4, none, .mv (.t 26)⟩] [1, 4]) (.seq (.seq
    (.region none [ ⟨some 27, none, .mv (.t 4)⟩, ⟨some 28, none, .bin .gtr (.t 27) (.c (.int .i64 5))⟩] [1, 4, 28]) (.cond (.t 28) (.seq
    (.region none [ ⟨some 2, none, .asg (.c (.slice none 0 0))⟩, ⟨some 3, none, .mv (.c (.int .i64 3))⟩] [2, 3]) .ret) .skip)) (.seq
    (.region none [ ⟨some 5, none, .mv (.c (.int .i64 1))⟩] [1, 4, 5]) (.seq (.seq
    (.region none [ ⟨some 29, none, .mv (.t 4)⟩, ⟨some 30, none, .mv (.c (.int .i64 0))⟩] [1, 4, 5, 29, 30]) (.block 0 (.loop (.seq
    (.region none [ ⟨some 31, none, .bin .lss (.t 30) (.t 29)⟩] [1, 4, 5, 29, 30, 31]) (.seq (.cond (.t 31) .skip (.exit 0)) (.seq (.block 1
    (.region none [ ⟨some 32, none, .mv (.t 5)⟩, ⟨some 33, none, .mv (.t 4)⟩, ⟨some 34, none, .bin .mul (.t 32) (.t 33)⟩, ⟨some 5, none, .mv (.t 34)⟩] [1, 4, 5, 29, 30]))
    (.region none [ ⟨some 35, none, .bin .add (.t 30) (.c (.int .i64 1))⟩, ⟨some 30, none, .mv (.t 35)⟩] [1, 4, 5, 29, 30]))))))) (.seq (.seq
    (.region none [ ⟨some 36, none, .ld (some 2) (.t 1)⟩, ⟨some 37, none, .mv (.t 4)⟩, ⟨some 38, none, .mv (.t 5)⟩, ⟨some 39, none, .call (.f 294) [((.t 36), .r), ((.t 37), .r), ((.t 38), .r)]⟩, ⟨some 40, none, .len (.t 39)⟩, ⟨some 41, none, .mv (.c (.int .i64 0))⟩] [1, 4, 39, 40, 41]) (.block 2 (.loop (.seq
    (.region none [ ⟨some 42, none, .bin .lss (.t 41) (.t 40)⟩] [1, 4, 39, 40, 41, 42]) (.seq (.cond (.t 42) .skip (.exit 2)) (.seq (.block 3 (.seq
    (.region none [ ⟨some 43, none, .idx 1 (.t 39) (.t 41)⟩, ⟨some 44, none, .ld none (.t 43)⟩, ⟨some 7, none, .asg (.t 44)⟩] [1, 4, 7, 39, 40, 41]) (.seq
    (.region none [ ⟨some 46, none, .ld (some 2) (.t 1)⟩, ⟨some 47, none, .mv (.t 7)⟩, ⟨some 48, none, .call (.f 352) [((.t 46), .r), ((.t 47), .r), ((.c (.int .i64 5000)), .r)]⟩, ⟨none, none, .freeze 48⟩, ⟨some 45, none, .mv (.t 48)⟩, ⟨some 49, none, .ext (.t 45) 0⟩, ⟨some 50, none, .ext (.t 45) 1⟩, ⟨some 8, none, .asg (.t 49)⟩, ⟨some 9, none, .mv (.t 50)⟩] [1, 4, 7, 8, 39, 40, 41]) (.seq
    (.region none [ ⟨some 51, none, .mv (.t 4)⟩, ⟨some 52, none, .mks (.bool false) (.t 51)⟩, ⟨some 10, none, .asg (.t 52)⟩] [1, 4, 7, 8, 10, 39, 40, 41]) (.seq (.seq
    (.region none [ ⟨some 53, none, .mv (.t 8)⟩, ⟨some 54, none, .len (.t 53)⟩, ⟨some 55, none, .mv (.c (.int .i64 0))⟩] [1, 4, 7, 10, 39, 40, 41, 53, 54, 55]) (.block 4 (.loop (.seq
    (.region none [ ⟨some 56, none, .bin .lss (.t 55) (.t 54)⟩] [1, 4, 7, 10, 39, 40, 41, 53, 54, 55, 56]) (.seq (.cond (.t 56) .skip (.exit 4)) (.seq (.block 5 (.seq
    (.region none [ ⟨some 57, none, .idx 1 (.t 53) (.t 55)⟩, ⟨some 58, none, .ld none (.t 57)⟩, ⟨some 12, none, .asg (.t 58)⟩] [1, 4, 7, 10, 12, 39, 40, 41, 53, 54, 55])
    (.region none [ ⟨some 59, none, .mv (.t 10)⟩, ⟨some 60, none, .mv (.t 12)⟩, ⟨some 61, none, .idx 1 (.t 60) (.c (.int .i64 0))⟩, ⟨some 62, none, .ld none (.t 61)⟩, ⟨some 63, none, .idx 1 (.t 59) (.t 62)⟩, ⟨none, none, .st none (.t 63) (.c (.bool true))⟩] [1, 4, 7, 10, 39, 40, 41, 53, 54, 55])))
    (.region none [ ⟨some 64, none, .bin .add (.t 55) (.c (.int .i64 1))⟩, ⟨some 55, none, .mv (.t 64)⟩] [1, 4, 7, 10, 39, 40, 41, 53, 54, 55]))))))) (.seq
    (.region none [ ⟨some 65, none, .mv (.t 10)⟩, ⟨some 66, none, .call (.f 372) [((.t 65), .r), ((.c (.bool false)), .r)]⟩, ⟨some 67, none, .un .not (.t 66)⟩] [1, 4, 7, 39, 40, 41, 67]) (.cond (.t 67) (.seq
    (.region none [ ⟨some 68, none, .mv (.t 7)⟩, ⟨some 2, none, .asg (.t 68)⟩, ⟨some 3, none, .mv (.c (.int .i64 0))⟩] [2, 3]) .ret) .skip)))))))
    (.region none [ ⟨some 69, none, .bin .add (.t 41) (.c (.int .i64 1))⟩, ⟨some 41, none, .mv (.t 69)⟩] [1, 4, 39, 40, 41]))))))) (.seq
    (.region none [ ⟨some 2, none, .asg (.c (.slice none 0 0))⟩, ⟨some 3, none, .mv (.c (.int .i64 4))⟩] [2, 3]) .ret)))))))))

/-- slices.Contains[[]bool,bool] -/
def c_slices_Contains___bool_bool_ : F where
  np := 2
  rs := [.t 4]
  body :=
    (.seq
    (.region none [ ⟨some 4, none, .mv (.c (.bool false))⟩] [0, 1]) (.seq
    (.region none [ ⟨some 5, none, .mv (.t 0)⟩, ⟨some 6, none, .mv (.t 1)⟩, ⟨some 7, none, .call (.f 426) [((.t 5), .r), ((.t 6), .r)]⟩, ⟨some 8, none, .bin .geq (.t 7) (.c (.int .i64 0))⟩, ⟨some 4, none, .mv (.t 8)⟩] [4]) .ret))

/-- slices.Index[[]bool,bool] -/
def c_slices_Index___bool_bool_ : F where
  np := 2
  rs := [.t 4]
  body :=
    (.seq
    (.region none [ ⟨some 4, none, .mv (.c (.int .i64 0))⟩] [0, 1]) (.seq (.seq
    (.region none [ ⟨some 6, none, .mv (.t 0)⟩, ⟨some 7, none, .len (.t 6)⟩, ⟨some 8, none, .mv (.c (.int .i64 0))⟩] [0, 1, 7, 8]) (.block 0 (.loop (.seq
    (.region none [ ⟨some 9, none, .bin .lss (.t 8) (.t 7)⟩] [0, 1, 7, 8, 9]) (.seq (.cond (.t 9) .skip (.exit 0)) (.seq (.block 1 (.seq
    (.region none [ ⟨some 10, none, .mv (.t 8)⟩, ⟨some 5, none, .mv (.t 10)⟩] [0, 1, 5, 7, 8]) (.seq
    (.region none [ ⟨some 11, none, .mv (.t 1)⟩, ⟨some 12, none, .mv (.t 0)⟩, ⟨some 13, none, .mv (.t 5)⟩, ⟨some 14, none, .idx 1 (.t 12) (.t 13)⟩, ⟨some 15, none, .ld none (.t 14)⟩, ⟨some 16, none, .beq false (.t 11) (.t 15)⟩] [0, 1, 5, 7, 8, 16]) (.cond (.t 16) (.seq
    (.region none [ ⟨some 17, none, .mv (.t 5)⟩, ⟨some 4, none, .mv (.t 17)⟩] [4]) .ret) .skip))))
    (.region none [ ⟨some 18, none, .bin .add (.t 8) (.c (.int .i64 1))⟩, ⟨some 8, none, .mv (.t 18)⟩] [0, 1, 7, 8]))))))) (.seq
    (.region none [ ⟨some 4, none, .mv (.c (.int .i64 (-1)))⟩] [4]) .ret)))

end Go.Mch
