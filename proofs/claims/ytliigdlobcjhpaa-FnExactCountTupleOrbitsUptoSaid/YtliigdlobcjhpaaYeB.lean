/- Compact code of the functions that statements 5, 6 and 8 to 12 reach further. -/
import Derived.Test.YtliigdlobcjhpaaM1
namespace Go.Mch

/-- spec.CountTupleOrbits -/
def c_spec_CountTupleOrbits : F where
  np := 2
  rs := [.t 4, .t 5]
  body :=
    (.seq
    (.region none [ ⟨some 2, none, .box (.t 0)⟩, ⟨some 4, none, .mv (.c (.int .i64 0))⟩, ⟨some 5, none, .mv (.c (.int .i64 0))⟩] [1, 2]) (.seq (.block 0 (.seq
    (.region none [ ⟨some 18, none, .ld (some 2) (.t 2)⟩, ⟨some 19, none, .call (.f 41) [((.t 18), .r)]⟩, ⟨some 20, none, .un .not (.t 19)⟩, ⟨some 17, none, .mv (.t 20)⟩] [1, 2, 17]) (.cond (.t 17) (.seq
    (.region none [ ⟨some 4, none, .mv (.c (.int .i64 0))⟩, ⟨some 5, none, .mv (.c (.int .i64 1))⟩] [4, 5]) .ret) (.seq
    (.region none [ ⟨some 22, none, .mv (.t 1)⟩, ⟨some 23, none, .call (.f 30) [((.t 22), .r), ((.c (.int .i64 0)), .r), ((.c (.int .i64 12)), .r)]⟩, ⟨some 24, none, .un .not (.t 23)⟩, ⟨some 21, none, .mv (.t 24)⟩] [1, 2, 21]) (.cond (.t 21) (.seq
    (.region none [ ⟨some 4, none, .mv (.c (.int .i64 0))⟩, ⟨some 5, none, .mv (.c (.int .i64 2))⟩] [4, 5]) .ret) .skip))))) (.seq
    (.region none [ ⟨some 25, none, .fld 0 (.t 2)⟩, ⟨some 26, none, .ld none (.t 25)⟩, ⟨some 27, none, .len (.t 26)⟩, ⟨some 6, none, .mv (.t 27)⟩, ⟨some 7, none, .mv (.c (.int .i64 1))⟩] [1, 2, 6, 7]) (.seq (.seq
    (.region none [ ⟨some 8, none, .mv (.c (.int .i64 0))⟩] [1, 2, 6, 7, 8]) (.block 1 (.loop (.seq (.seq
    (.region none [ ⟨some 28, none, .mv (.t 8)⟩, ⟨some 29, none, .mv (.t 1)⟩, ⟨some 30, none, .bin .lss (.t 28) (.t 29)⟩] [1, 2, 6, 7, 8, 30]) (.cond (.t 30) .skip (.exit 1))) (.seq (.block 2 (.seq
    (.region none [ ⟨some 33, none, .mv (.t 7)⟩, ⟨some 34, none, .mv (.t 6)⟩, ⟨some 35, none, .bin .mul (.t 33) (.t 34)⟩, ⟨some 7, none, .mv (.t 35)⟩] [1, 2, 6, 7, 8]) (.seq
    (.region none [ ⟨some 36, none, .mv (.t 7)⟩, ⟨some 37, none, .bin .gtr (.t 36) (.c (.int .i64 5000))⟩] [1, 2, 6, 7, 8, 37]) (.cond (.t 37) (.seq
    (.region none [ ⟨some 4, none, .mv (.c (.int .i64 0))⟩, ⟨some 5, none, .mv (.c (.int .i64 3))⟩] [4, 5]) .ret) .skip))))
    (.region none [ ⟨some 31, none, .mv (.t 8)⟩, ⟨some 32, none, .bin .add (.t 31) (.c (.int .i64 1))⟩, ⟨some 8, none, .mv (.t 32)⟩] [1, 2, 6, 7, 8])))))) (.seq
    (.region none [ ⟨some 38, none, .mv (.t 7)⟩, ⟨some 39, none, .mks (.bool false) (.t 38)⟩, ⟨some 9, none, .asg (.t 39)⟩, ⟨some 10, none, .mv (.c (.int .i64 0))⟩] [1, 2, 6, 7, 9, 10]) (.seq (.seq
    (.region none [ ⟨some 11, none, .mv (.c (.int .i64 0))⟩] [1, 2, 6, 7, 9, 10, 11]) (.block 3 (.loop (.seq (.seq
    (.region none [ ⟨some 40, none, .mv (.t 11)⟩, ⟨some 41, none, .mv (.t 7)⟩, ⟨some 42, none, .bin .lss (.t 40) (.t 41)⟩] [1, 2, 6, 7, 9, 10, 11, 42]) (.cond (.t 42) .skip (.exit 3))) (.seq (.block 4 (.seq (.seq
    (.region none [ ⟨some 45, none, .mv (.t 9)⟩, ⟨some 46, none, .mv (.t 11)⟩, ⟨some 47, none, .idx 1 (.t 45) (.t 46)⟩, ⟨some 48, none, .ld none (.t 47)⟩] [1, 2, 6, 7, 9, 10, 11, 48]) (.cond (.t 48) (.exit 4) .skip)) (.seq
    (.region none [ ⟨some 49, none, .mv (.t 10)⟩, ⟨some 50, none, .bin .add (.t 49) (.c (.int .i64 1))⟩, ⟨some 10, none, .mv (.t 50)⟩] [1, 2, 6, 7, 9, 10, 11]) (.seq
    (.region none [ ⟨some 51, none, .mv (.t 9)⟩, ⟨some 52, none, .mv (.t 11)⟩, ⟨some 53, none, .idx 1 (.t 51) (.t 52)⟩, ⟨none, none, .st none (.t 53) (.c (.bool true))⟩] [1, 2, 6, 7, 9, 10, 11]) (.seq
    (.region none [ ⟨some 54, none, .mv (.t 11)⟩, ⟨some 55, none, .bsl [(.t 54)]⟩, ⟨some 12, none, .asg (.t 55)⟩] [1, 2, 6, 7, 9, 10, 11, 12]) (.seq
    (.region none [ ⟨some 13, none, .mv (.c (.int .i64 0))⟩] [1, 2, 6, 7, 9, 10, 11, 12, 13]) (.block 5 (.loop (.seq (.seq
    (.region none [ ⟨some 56, none, .mv (.t 13)⟩, ⟨some 57, none, .mv (.t 12)⟩, ⟨some 58, none, .len (.t 57)⟩, ⟨some 59, none, .bin .lss (.t 56) (.t 58)⟩] [1, 2, 6, 7, 9, 10, 11, 12, 13, 59]) (.cond (.t 59) .skip (.exit 5))) (.seq (.block 6 (.seq
    (.region none [ ⟨some 62, none, .mv (.t 12)⟩, ⟨some 63, none, .mv (.t 13)⟩, ⟨some 64, none, .idx 1 (.t 62) (.t 63)⟩, ⟨some 65, none, .ld none (.t 64)⟩, ⟨some 66, none, .mv (.t 6)⟩, ⟨some 67, none, .mv (.t 1)⟩, ⟨some 68, none, .call (.f 260) [((.t 65), .r), ((.t 66), .r), ((.t 67), .r)]⟩, ⟨some 14, none, .asg (.t 68)⟩] [1, 2, 6, 7, 9, 10, 11, 12, 13, 14]) (.seq
    (.region none [ ⟨some 15, none, .mv (.c (.int .i64 0))⟩] [1, 2, 6, 7, 9, 10, 11, 12, 13, 14, 15]) (.block 7 (.loop (.seq (.seq
    (.region none [ ⟨some 69, none, .mv (.t 15)⟩, ⟨some 70, none, .bin .add (.t 69) (.c (.int .i64 1))⟩, ⟨some 71, none, .mv (.t 1)⟩, ⟨some 72, none, .bin .lss (.t 70) (.t 71)⟩] [1, 2, 6, 7, 9, 10, 11, 12, 13, 14, 15, 72]) (.cond (.t 72) .skip (.exit 7))) (.seq (.block 8 (.seq
    (.region none [ ⟨some 75, none, .ld (some 2) (.t 2)⟩, ⟨some 76, none, .mv (.t 14)⟩, ⟨some 77, none, .mv (.t 15)⟩, ⟨some 78, none, .call (.f 43) [((.t 75), .r), ((.t 76), .r), ((.t 77), .r)]⟩, ⟨some 79, none, .mv (.t 6)⟩, ⟨some 80, none, .call (.f 261) [((.t 78), .r), ((.t 79), .r)]⟩, ⟨some 16, none, .mv (.t 80)⟩] [1, 2, 6, 7, 9, 10, 11, 12, 13, 14, 15, 16]) (.seq
    (.region none [ ⟨some 81, none, .mv (.t 9)⟩, ⟨some 82, none, .mv (.t 16)⟩, ⟨some 83, none, .idx 1 (.t 81) (.t 82)⟩, ⟨some 84, none, .ld none (.t 83)⟩, ⟨some 85, none, .un .not (.t 84)⟩] [1, 2, 6, 7, 9, 10, 11, 12, 13, 14, 15, 16, 85]) (.cond (.t 85) (.seq
    (.region none [ ⟨some 86, none, .mv (.t 9)⟩, ⟨some 87, none, .mv (.t 16)⟩, ⟨some 88, none, .idx 1 (.t 86) (.t 87)⟩, ⟨none, none, .st none (.t 88) (.c (.bool true))⟩] [1, 2, 6, 7, 9, 10, 11, 12, 13, 14, 15, 16])
    (.region none [ ⟨some 89, none, .mv (.t 12)⟩, ⟨some 90, none, .mv (.t 16)⟩, ⟨some 91, none, .bsl [(.t 90)]⟩, ⟨some 92, none, .app true 1 (.t 89) (.t 91)⟩, ⟨some 12, none, .asg (.t 92)⟩] [1, 2, 6, 7, 9, 10, 11, 12, 13, 14, 15])) .skip))))
    (.region none [ ⟨some 73, none, .mv (.t 15)⟩, ⟨some 74, none, .bin .add (.t 73) (.c (.int .i64 1))⟩, ⟨some 15, none, .mv (.t 74)⟩] [1, 2, 6, 7, 9, 10, 11, 12, 13, 14, 15]))))))))
    (.region none [ ⟨some 60, none, .mv (.t 13)⟩, ⟨some 61, none, .bin .add (.t 60) (.c (.int .i64 1))⟩, ⟨some 13, none, .mv (.t 61)⟩] [1, 2, 6, 7, 9, 10, 11, 12, 13])))))))))))
    (.region none [ ⟨some 43, none, .mv (.t 11)⟩, ⟨some 44, none, .bin .add (.t 43) (.c (.int .i64 1))⟩, ⟨some 11, none, .mv (.t 44)⟩] [1, 2, 6, 7, 9, 10, 11])))))) (.seq
    (.region none [ ⟨some 93, none, .mv (.t 10)⟩, ⟨some 4, none, .mv (.t 93)⟩, ⟨some 5, none, .mv (.c (.int .i64 0))⟩] [4, 5]) .ret)))))))

/-- spec.l06Digits -/
def c_spec_l06Digits : F where
  np := 3
  rs := [.t 6]
  body :=
    (.seq
    (.region none [ ⟨some 6, none, .asg (.c (.slice none 0 0))⟩] [0, 1, 2]) (.seq
    (.region none [ ⟨some 9, none, .mv (.t 2)⟩, ⟨some 10, none, .mks (.int .i64 0) (.t 9)⟩, ⟨some 7, none, .asg (.t 10)⟩] [0, 1, 2, 7]) (.seq (.seq
    (.region none [ ⟨some 11, none, .mv (.t 2)⟩, ⟨some 12, none, .bin .sub (.t 11) (.c (.int .i64 1))⟩, ⟨some 8, none, .mv (.t 12)⟩] [0, 1, 7, 8]) (.block 0 (.loop (.seq (.seq
    (.region none [ ⟨some 13, none, .mv (.t 8)⟩, ⟨some 14, none, .bin .geq (.t 13) (.c (.int .i64 0))⟩] [0, 1, 7, 8, 14]) (.cond (.t 14) .skip (.exit 0))) (.seq (.block 1 (.seq
    (.region none [ ⟨some 17, none, .mv (.t 7)⟩, ⟨some 18, none, .mv (.t 8)⟩, ⟨some 19, none, .mv (.t 0)⟩, ⟨some 20, none, .mv (.t 1)⟩, ⟨some 21, none, .bin .rem (.t 19) (.t 20)⟩, ⟨some 22, none, .idx 1 (.t 17) (.t 18)⟩, ⟨none, none, .st none (.t 22) (.t 21)⟩] [0, 1, 7, 8])
    (.region none [ ⟨some 23, none, .mv (.t 0)⟩, ⟨some 24, none, .mv (.t 1)⟩, ⟨some 25, none, .bin .quo (.t 23) (.t 24)⟩, ⟨some 0, none, .mv (.t 25)⟩] [0, 1, 7, 8])))
    (.region none [ ⟨some 15, none, .mv (.t 8)⟩, ⟨some 16, none, .bin .sub (.t 15) (.c (.int .i64 1))⟩, ⟨some 8, none, .mv (.t 16)⟩] [0, 1, 7, 8])))))) (.seq
    (.region none [ ⟨some 26, none, .mv (.t 7)⟩, ⟨some 6, none, .asg (.t 26)⟩] [6]) .ret))))

/-- spec.l06Number -/
def c_spec_l06Number : F where
  np := 2
  rs := [.t 4]
  body :=
    (.seq
    (.region none [ ⟨some 4, none, .mv (.c (.int .i64 0))⟩] [0, 1]) (.seq
    (.region none [ ⟨some 5, none, .mv (.c (.int .i64 0))⟩] [0, 1, 5]) (.seq (.seq
    (.region none [ ⟨some 6, none, .mv (.c (.int .i64 0))⟩] [0, 1, 5, 6]) (.block 0 (.loop (.seq (.seq
    (.region none [ ⟨some 7, none, .mv (.t 6)⟩, ⟨some 8, none, .mv (.t 0)⟩, ⟨some 9, none, .len (.t 8)⟩, ⟨some 10, none, .bin .lss (.t 7) (.t 9)⟩] [0, 1, 5, 6, 10]) (.cond (.t 10) .skip (.exit 0))) (.seq (.block 1
    (.region none [ ⟨some 13, none, .mv (.t 5)⟩, ⟨some 14, none, .mv (.t 1)⟩, ⟨some 15, none, .bin .mul (.t 13) (.t 14)⟩, ⟨some 16, none, .mv (.t 0)⟩, ⟨some 17, none, .mv (.t 6)⟩, ⟨some 18, none, .idx 1 (.t 16) (.t 17)⟩, ⟨some 19, none, .ld none (.t 18)⟩, ⟨some 20, none, .bin .add (.t 15) (.t 19)⟩, ⟨some 5, none, .mv (.t 20)⟩] [0, 1, 5, 6]))
    (.region none [ ⟨some 11, none, .mv (.t 6)⟩, ⟨some 12, none, .bin .add (.t 11) (.c (.int .i64 1))⟩, ⟨some 6, none, .mv (.t 12)⟩] [0, 1, 5, 6])))))) (.seq
    (.region none [ ⟨some 21, none, .mv (.t 5)⟩, ⟨some 4, none, .mv (.t 21)⟩] [4]) .ret))))

/-- impl.CountTupleOrbits -/
def c_impl_CountTupleOrbits : F where
  np := 2
  rs := [.t 4, .t 5]
  body :=
    (.seq
    (.region none [ ⟨some 2, none, .box (.t 0)⟩, ⟨some 4, none, .mv (.c (.int .i64 0))⟩, ⟨some 5, none, .mv (.c (.int .i64 0))⟩] [1, 2]) (.seq (.seq
    (.region none [ ⟨some 15, none, .ld (some 2) (.t 2)⟩, ⟨some 16, none, .call (.f 42) [((.t 15), .r)]⟩, ⟨some 17, none, .un .not (.t 16)⟩] [1, 2, 17]) (.cond (.t 17) (.seq
    (.region none [ ⟨some 4, none, .mv (.c (.int .i64 0))⟩, ⟨some 5, none, .mv (.c (.int .i64 1))⟩] [4, 5]) .ret) .skip)) (.seq (.seq
    (.region none [ ⟨some 18, none, .mv (.t 1)⟩, ⟨some 19, none, .call (.f 35) [((.t 18), .r), ((.c (.int .i64 0)), .r), ((.c (.int .i64 12)), .r)]⟩, ⟨some 20, none, .un .not (.t 19)⟩] [1, 2, 20]) (.cond (.t 20) (.seq
    (.region none [ ⟨some 4, none, .mv (.c (.int .i64 0))⟩, ⟨some 5, none, .mv (.c (.int .i64 2))⟩] [4, 5]) .ret) .skip)) (.seq
    (.region none [ ⟨some 21, none, .fld 0 (.t 2)⟩, ⟨some 22, none, .ld none (.t 21)⟩, ⟨some 23, none, .len (.t 22)⟩, ⟨some 6, none, .mv (.t 23)⟩, ⟨some 7, none, .mv (.c (.int .i64 1))⟩] [1, 2, 6, 7]) (.seq (.seq
    (.region none [ ⟨some 24, none, .mv (.t 1)⟩, ⟨some 25, none, .mv (.c (.int .i64 0))⟩] [1, 2, 6, 7, 24, 25]) (.block 0 (.loop (.seq
    (.region none [ ⟨some 26, none, .bin .lss (.t 25) (.t 24)⟩] [1, 2, 6, 7, 24, 25, 26]) (.seq (.cond (.t 26) .skip (.exit 0)) (.seq (.block 1 (.seq
    (.region none [ ⟨some 27, none, .mv (.t 7)⟩, ⟨some 28, none, .mv (.t 6)⟩, ⟨some 29, none, .bin .mul (.t 27) (.t 28)⟩, ⟨some 7, none, .mv (.t 29)⟩] [1, 2, 6, 7, 24, 25]) (.seq
    (.region none [ ⟨some 30, none, .mv (.t 7)⟩, ⟨some 31, none, .bin .gtr (.t 30) (.c (.int .i64 5000))⟩] [1, 2, 6, 7, 24, 25, 31]) (.cond (.t 31) (.seq
    (.region none [ ⟨some 4, none, .mv (.c (.int .i64 0))⟩, ⟨some 5, none, .mv (.c (.int .i64 3))⟩] [4, 5]) .ret) .skip))))
    (.region none [ ⟨some 32, none, .bin .add (.t 25) (.c (.int .i64 1))⟩, ⟨some 25, none, .mv (.t 32)⟩] [1, 2, 6, 7, 24, 25]))))))) (.seq
    (.region none [ ⟨some 33, none, .mv (.t 7)⟩, ⟨some 34, none, .mks (.bool false) (.t 33)⟩, ⟨some 8, none, .asg (.t 34)⟩] [1, 2, 6, 8]) (.seq
    (.region none [ ⟨some 9, none, .mv (.c (.int .i64 0))⟩] [1, 2, 6, 8, 9]) (.seq (.seq
    (.region none [ ⟨some 35, none, .mv (.t 8)⟩, ⟨some 36, none, .len (.t 35)⟩, ⟨some 37, none, .mv (.c (.int .i64 0))⟩] [1, 2, 6, 8, 9, 36, 37]) (.block 2 (.loop (.seq
    (.region none [ ⟨some 38, none, .bin .lss (.t 37) (.t 36)⟩] [1, 2, 6, 8, 9, 36, 37, 38]) (.seq (.cond (.t 38) .skip (.exit 2)) (.seq (.block 3 (.seq
    (.region none [ ⟨some 39, none, .mv (.t 37)⟩, ⟨some 10, none, .mv (.t 39)⟩] [1, 2, 6, 8, 9, 10, 36, 37]) (.seq (.seq
    (.region none [ ⟨some 40, none, .mv (.t 8)⟩, ⟨some 41, none, .mv (.t 10)⟩, ⟨some 42, none, .idx 1 (.t 40) (.t 41)⟩, ⟨some 43, none, .ld none (.t 42)⟩] [1, 2, 6, 8, 9, 10, 36, 37, 43]) (.cond (.t 43) (.exit 3) .skip)) (.seq
    (.region none [ ⟨some 44, none, .mv (.t 9)⟩, ⟨some 45, none, .bin .add (.t 44) (.c (.int .i64 1))⟩, ⟨some 9, none, .mv (.t 45)⟩] [1, 2, 6, 8, 9, 10, 36, 37]) (.seq
    (.region none [ ⟨some 46, none, .mv (.t 8)⟩, ⟨some 47, none, .mv (.t 10)⟩, ⟨some 48, none, .idx 1 (.t 46) (.t 47)⟩, ⟨none, none, .st none (.t 48) (.c (.bool true))⟩] [1, 2, 6, 8, 9, 10, 36, 37]) (.seq
    (.region none [ ⟨some 49, none, .mv (.t 10)⟩, ⟨some 50, none, .bsl [(.t 49)]⟩, ⟨some 11, none, .asg (.t 50)⟩] [1, 2, 6, 8, 9, 11, 36, 37]) (.block 4 (.loop (.seq (.seq
    (.region none [ ⟨some 51, none, .mv (.t 11)⟩, ⟨some 52, none, .len (.t 51)⟩, ⟨some 53, none, .bin .gtr (.t 52) (.c (.int .i64 0))⟩] [1, 2, 6, 8, 9, 11, 36, 37, 53]) (.cond (.t 53) .skip (.exit 4))) (.seq (.block 5 (.seq
    (.region none [ ⟨some 56, none, .mv (.t 6)⟩, ⟨some 57, none, .mv (.t 1)⟩, ⟨some 58, none, .mv (.t 11)⟩, ⟨some 59, none, .idx 1 (.t 58) (.c (.int .i64 0))⟩, ⟨some 60, none, .ld none (.t 59)⟩, ⟨some 61, none, .call (.f 262) [((.t 56), .r), ((.t 57), .r), ((.t 60), .r)]⟩, ⟨some 12, none, .asg (.t 61)⟩] [1, 2, 6, 8, 9, 11, 12, 36, 37]) (.seq
    (.region none [ ⟨some 62, none, .mv (.t 12)⟩, ⟨some 63, none, .len (.t 62)⟩, ⟨some 64, none, .bin .sub (.t 63) (.c (.int .i64 1))⟩, ⟨some 65, none, .mv (.c (.int .i64 0))⟩] [1, 2, 6, 8, 9, 11, 12, 36, 37, 64, 65]) (.block 6 (.loop (.seq
    (.region none [ ⟨some 66, none, .bin .lss (.t 65) (.t 64)⟩] [1, 2, 6, 8, 9, 11, 12, 36, 37, 64, 65, 66]) (.seq (.cond (.t 66) .skip (.exit 6)) (.seq (.block 7 (.seq
    (.region none [ ⟨some 67, none, .mv (.t 65)⟩, ⟨some 13, none, .mv (.t 67)⟩] [1, 2, 6, 8, 9, 11, 12, 13, 36, 37, 64, 65]) (.seq
    (.region none [ ⟨some 68, none, .mv (.t 6)⟩, ⟨some 69, none, .ld (some 2) (.t 2)⟩, ⟨some 70, none, .mv (.t 12)⟩, ⟨some 71, none, .mv (.t 13)⟩, ⟨some 72, none, .call (.f 44) [((.t 69), .r), ((.t 70), .r), ((.t 71), .r)]⟩, ⟨some 73, none, .call (.f 263) [((.t 68), .r), ((.t 72), .r)]⟩, ⟨some 14, none, .mv (.t 73)⟩] [1, 2, 6, 8, 9, 11, 12, 14, 36, 37, 64, 65]) (.seq
    (.region none [ ⟨some 74, none, .mv (.t 8)⟩, ⟨some 75, none, .mv (.t 14)⟩, ⟨some 76, none, .idx 1 (.t 74) (.t 75)⟩, ⟨some 77, none, .ld none (.t 76)⟩, ⟨some 78, none, .un .not (.t 77)⟩] [1, 2, 6, 8, 9, 11, 12, 14, 36, 37, 64, 65, 78]) (.cond (.t 78) (.seq
    (.region none [ ⟨some 79, none, .mv (.t 8)⟩, ⟨some 80, none, .mv (.t 14)⟩, ⟨some 81, none, .idx 1 (.t 79) (.t 80)⟩, ⟨none, none, .st none (.t 81) (.c (.bool true))⟩] [1, 2, 6, 8, 9, 11, 12, 14, 36, 37, 64, 65])
    (.region none [ ⟨some 82, none, .mv (.t 11)⟩, ⟨some 83, none, .mv (.t 14)⟩, ⟨some 84, none, .bsl [(.t 83)]⟩, ⟨some 85, none, .app true 1 (.t 82) (.t 84)⟩, ⟨some 11, none, .asg (.t 85)⟩] [1, 2, 6, 8, 9, 11, 12, 36, 37, 64, 65])) .skip)))))
    (.region none [ ⟨some 86, none, .bin .add (.t 65) (.c (.int .i64 1))⟩, ⟨some 65, none, .mv (.t 86)⟩] [1, 2, 6, 8, 9, 11, 12, 36, 37, 64, 65])))))))))
    (.region none [ ⟨some 54, none, .mv (.t 11)⟩, ⟨some 55, none, .sl 1 (.t 54) (some (.c (.int .i64 1))) none⟩, ⟨some 11, none, .asg (.t 55)⟩] [1, 2, 6, 8, 9, 11, 36, 37])))))))))))
    (.region none [ ⟨some 87, none, .bin .add (.t 37) (.c (.int .i64 1))⟩, ⟨some 37, none, .mv (.t 87)⟩] [1, 2, 6, 8, 9, 36, 37]))))))) (.seq
    (.region none [ ⟨some 88, none, .mv (.t 9)⟩, ⟨some 4, none, .mv (.t 88)⟩, ⟨some 5, none, .mv (.c (.int .i64 0))⟩] [4, 5]) .ret)))))))))

/-- impl.tupleOf -/
def c_impl_tupleOf : F where
  np := 3
  rs := [.t 6]
  body :=
    (.seq
    (.region none [ ⟨some 6, none, .asg (.c (.slice none 0 0))⟩] [0, 1, 2]) (.seq
    (.region none [ ⟨some 9, none, .mv (.t 1)⟩, ⟨some 10, none, .mks (.int .i64 0) (.t 9)⟩, ⟨some 7, none, .asg (.t 10)⟩] [0, 1, 2, 7]) (.seq (.seq
    (.region none [ ⟨some 11, none, .mv (.t 1)⟩, ⟨some 12, none, .bin .sub (.t 11) (.c (.int .i64 1))⟩, ⟨some 8, none, .mv (.t 12)⟩] [0, 2, 7, 8]) (.block 0 (.loop (.seq (.seq
    (.region none [ ⟨some 13, none, .mv (.t 8)⟩, ⟨some 14, none, .bin .geq (.t 13) (.c (.int .i64 0))⟩] [0, 2, 7, 8, 14]) (.cond (.t 14) .skip (.exit 0))) (.seq (.block 1 (.seq
    (.region none [ ⟨some 17, none, .mv (.t 7)⟩, ⟨some 18, none, .mv (.t 8)⟩, ⟨some 19, none, .mv (.t 2)⟩, ⟨some 20, none, .mv (.t 0)⟩, ⟨some 21, none, .bin .rem (.t 19) (.t 20)⟩, ⟨some 22, none, .idx 1 (.t 17) (.t 18)⟩, ⟨none, none, .st none (.t 22) (.t 21)⟩] [0, 2, 7, 8])
    (.region none [ ⟨some 23, none, .mv (.t 2)⟩, ⟨some 24, none, .mv (.t 0)⟩, ⟨some 25, none, .bin .quo (.t 23) (.t 24)⟩, ⟨some 2, none, .mv (.t 25)⟩] [0, 2, 7, 8])))
    (.region none [ ⟨some 15, none, .mv (.t 8)⟩, ⟨some 16, none, .bin .sub (.t 15) (.c (.int .i64 1))⟩, ⟨some 8, none, .mv (.t 16)⟩] [0, 2, 7, 8])))))) (.seq
    (.region none [ ⟨some 26, none, .mv (.t 7)⟩, ⟨some 6, none, .asg (.t 26)⟩] [6]) .ret))))

/-- impl.numberOf -/
def c_impl_numberOf : F where
  np := 2
  rs := [.t 4]
  body :=
    (.seq
    (.region none [ ⟨some 4, none, .mv (.c (.int .i64 0))⟩] [0, 1]) (.seq
    (.region none [ ⟨some 5, none, .mv (.c (.int .i64 0))⟩] [0, 1, 5]) (.seq (.seq
    (.region none [ ⟨some 8, none, .mv (.t 1)⟩, ⟨some 9, none, .len (.t 8)⟩, ⟨some 10, none, .mv (.c (.int .i64 0))⟩] [0, 5, 8, 9, 10]) (.block 0 (.loop (.seq
    (.region none [ ⟨some 11, none, .bin .lss (.t 10) (.t 9)⟩] [0, 5, 8, 9, 10, 11]) (.seq (.cond (.t 11) .skip (.exit 0)) (.seq (.block 1 (.seq
    (.region none [ ⟨some 12, none, .idx 1 (.t 8) (.t 10)⟩, ⟨some 13, none, .ld none (.t 12)⟩, ⟨some 7, none, .mv (.t 13)⟩] [0, 5, 7, 8, 9, 10])
    (.region none [ ⟨some 14, none, .mv (.t 5)⟩, ⟨some 15, none, .mv (.t 0)⟩, ⟨some 16, none, .bin .mul (.t 14) (.t 15)⟩, ⟨some 17, none, .mv (.t 7)⟩, ⟨some 18, none, .bin .add (.t 16) (.t 17)⟩, ⟨some 5, none, .mv (.t 18)⟩] [0, 5, 8, 9, 10])))
    (.region none [ ⟨some 19, none, .bin .add (.t 10) (.c (.int .i64 1))⟩, ⟨some 10, none, .mv (.t 19)⟩] [0, 5, 8, 9, 10]))))))) (.seq
    (.region none [ ⟨some 20, none, .mv (.t 5)⟩, ⟨some 4, none, .mv (.t 20)⟩] [4]) .ret))))

end Go.Mch
