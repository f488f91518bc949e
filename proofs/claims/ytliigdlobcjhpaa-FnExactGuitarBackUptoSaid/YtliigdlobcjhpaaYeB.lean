/- Compact code of the functions that statements 5, 6 and 8 to 12 reach further. -/
import Derived.Test.YtliigdlobcjhpaaM1
namespace Go.Mch

/-- spec.CountTupleOrbits -/
def c_spec_CountTupleOrbits : F where
  np := 2
  rs := [.t 4, .t 5]
  body :=
    (.seq
    (.region none [ ⟨some 2, none, .box (.t 0)⟩, ⟨some 4, none, .mv (.c (.int .i64 0))⟩, ⟨some 5, none, .mv (.c (.int .i64 0))⟩] [1, 2]) (.seq (.block 0 (.seq
    (.region none [ ⟨some 18, none, .ld (some 2) (.t 2)⟩, ⟨some 19, none, .call (.f 41) [((.t 18), .r)]⟩, ⟨some 20, none, .un .not (.t 19)⟩, ⟨some 17, none, .mv (.t 20)⟩] [1, 2, 17]) (.cond (.t 17) (.seq
    (.region none [ ⟨some 4, none, .mv (.c (.int .i64 0))⟩, ⟨some 5, none, .mv (.c (.int .i64 1))⟩] [4, 5]) .ret) (.seq
    (.region none [ ⟨some 22, none, .mv (.t 1)⟩, ⟨some 23, none, .call (.f 30) [((.t 22), .r), ((.c (.int .i64 0)), .r), ((.c (.int .i64 12)), .r)]⟩, ⟨some 24, none, .un .not (.t 23)⟩, ⟨some 21, none, .mv (.t 24)⟩] [1, 2, 21]) (.cond (.t 21) (.seq
    (.region none [ ⟨some 4, none, .mv (.c (.int .i64 0))⟩, ⟨some 5, none, .mv (.c (.int .i64 2))⟩] [4, 5]) .ret) .skip))))) (.seq
    (.region none [ ⟨some 25, none, .fld 0 (.t 2)⟩, ⟨some 26, none, .ld none (.t 25)⟩, ⟨some 27, none, .len (.t 26)⟩, ⟨some 6, none, .mv (.t 27)⟩, ⟨some 7, none, .mv (.c (.int .i64 1))⟩] [1, 2, 6, 7]) (.seq (.seq
    (.region none [ ⟨some 8, none, .mv (.c (.int .i64 0))⟩] [1, 2, 6, 7, 8]) (.block 1 (.loop (.seq (.seq
    (.region none [ ⟨some 28, none, .mv (.t 8)⟩, ⟨some 29, none, .mv (.t 1)⟩, ⟨some 30, none, .bin .lss (.t 28) (.t 29)⟩] [1, 2, 6, 7, 8, 30]) (.cond (.t 30) .skip (.exit 1))) (.seq (.block 2 (.seq
    (.region none [ ⟨some 33, none, .mv (.t 7)⟩, ⟨some 34, none, .mv (.t 6)⟩, ⟨some 35, none, .bin .mul (.t 33) (.t 34)⟩, ⟨some 7, none, .mv (.t 35)⟩] [1, 2, 6, 7, 8]) (.seq
    (.region none [ ⟨some 36, none, .mv (.t 7)⟩, ⟨some 37, none, .bin .gtr (.t 36) (.c (.int .i64 5000))⟩] [1, 2, 6, 7, 8, 37]) (.cond (.t 37) (.seq
    (.region none [ ⟨some 4, none, .mv (.c (.int .i64 0))⟩, ⟨some 5, none, .mv (.c (.int .i64 3))⟩] [4, 5]) .ret) .skip))))
    (.region none [ ⟨some 31, none, .mv (.t 8)⟩, ⟨some 32, none, .bin .add (.t 31) (.c (.int .i64 1))⟩, ⟨some 8, none, .mv (.t 32)⟩] [1, 2, 6, 7, 8])))))) (.seq
    (.region none [ ⟨some 38, none, .mv (.t 7)⟩, ⟨some 39, none, .mks (.bool false) (.t 38)⟩, ⟨some 9, none, .asg (.t 39)⟩, ⟨some 10, none, .mv (.c (.int .i64 0))⟩] [1, 2, 6, 7, 9, 10]) (.seq (.seq
    (.region none [ ⟨some 11, none, .mv (.c (.int .i64 0))⟩] [1, 2, 6, 7, 9, 10, 11]) (.block 3 (.loop (.seq (.seq
    (.region none [ ⟨some 40, none, .mv (.t 11)⟩, ⟨some 41, none, .mv (.t 7)⟩, ⟨some 42, none, .bin .lss (.t 40) (.t 41)⟩] [1, 2, 6, 7, 9, 10, 11, 42]) (.cond (.t 42) .skip (.exit 3))) (.seq (.block 4 (.seq (.seq
    (.region none [ ⟨some 45, none, .mv (.t 9)⟩, ⟨some 46, none, .mv (.t 11)⟩, ⟨some 47, none, .idx 1 (.t 45) (.t 46)⟩, ⟨some 48, none, .ld none (.t 47)⟩] [1, 2, 6, 7, 9, 10, 11, 48]) (.cond (.t 48) (.exit 4) .skip)) (.seq
    (.region none [ ⟨some 49, none, .mv (.t 10)⟩, ⟨some 50, none, .bin .add (.t 49) (.c (.int .i64 1))⟩, ⟨some 10, none, .mv (.t 50)⟩] [1, 2, 6, 7, 9, 10, 11]) (.seq
    (.region none [ ⟨some 51, none, .mv (.t 9)⟩, ⟨some 52, none, .mv (.t 11)⟩, ⟨some 53, none, .idx 1 (.t 51) (.t 52)⟩, ⟨none, none, .st none (.t 53) (.c (.bool true))⟩] [1, 2, 6, 7, 9, 10, 11]) (.seq
    (.region none [ ⟨some 54, none, .mv (.t 11)⟩, ⟨some 55, none, .bsl [(.t 54)]⟩, ⟨some 12, none, .asg (.t 55)⟩] [1, 2, 6, 7, 9, 10, 11, 12]) (.seq
    (.region none [ ⟨some 13, none, .mv (.c (.int .i64 0))⟩] [1, 2, 6, 7, 9, 10, 11, 12, 13]) (.block 5 (.loop (.seq (.seq
    (.region none [ ⟨some 56, none, .mv (.t 13)⟩, ⟨some 57, none, .mv (.t 12)⟩, ⟨some 58, none, .len (.t 57)⟩, ⟨some 59, none, .bin .lss (.t 56) (.t 58)⟩] [1, 2, 6, 7, 9, 10, 11, 12, 13, 59]) (.cond (.t 59) .skip (.exit 5))) (.seq (.block 6 (.seq
    (.region none [ ⟨some 62, none, .mv (.t 12)⟩, ⟨some 63, none, .mv (.t 13)⟩, ⟨some 64, none, .idx 1 (.t 62) (.t 63)⟩, ⟨some 65, none, .ld none (.t 64)⟩, ⟨some 66, none, .mv (.t 6)⟩, ⟨some 67, none, .mv (.t 1)⟩, ⟨some 68, none, .call (.f 260) [((.t 65), .r), ((.t 66), .r), ((.t 67), .r)]⟩, ⟨some 14, none, .asg (.t 68)⟩] [1, 2, 6, 7, 9, 10, 11, 12, 13, 14]) (.seq
    (.region none [ ⟨some 15, none, .mv (.c (.int .i64 0))⟩] [1, 2, 6, 7, 9, 10, 11, 12, 13, 14, 15]) (.block 7 (.loop (.seq (.seq
    (.region none [ ⟨some 69, none, .mv (.t 15)⟩, ⟨some 70, none, .bin .add (.t 69) (.c (.int .i64 1))⟩, ⟨some 71, none, .mv (.t 1)⟩, ⟨some 72, none, .bin .lss (.t 70) (.t 71)⟩] [1, 2, 6, 7, 9, 10, 11, 12, 13, 14, 15, 72]) (.cond (.t 72) .skip (.exit 7))) (.seq (.block 8 (.seq
    (.region none [ ⟨some 75, none, .ld (some 2) (.t 2)⟩, ⟨some 76, none, .mv (.t 14)⟩, ⟨some 77, none, .mv (.t 15)⟩, ⟨some 78, none, .call (.f 43) [((.t 75), .r), ((.t 76), .r), ((.t 77), .r)]⟩, ⟨some 79, none, .mv (.t 6)⟩, ⟨some 80, none, .call (.f 261) [((.t 78), .r), ((.t 79), .r)]⟩, ⟨some 16, none, .mv (.t 80)⟩] [1, 2, 6, 7, 9, 10, 11, 12, 13, 14, 15, 16]) (.seq
    (.region none [ ⟨some 81, none, .mv (.t 9)⟩, ⟨some 82, none, .mv (.t 16)⟩, ⟨some 83, none, .idx 1 (.t 81) (.t 82)⟩, ⟨some 84, none, .ld none (.t 83)⟩, ⟨some 85, none, .un .not (.t 84)⟩] [1, 2, 6, 7, 9, 10, 11, 12, 13, 14, 15, 16, 85]) (.cond (.t 85) (.seq
    (.region none [ ⟨some 86, none, .mv (.t 9)⟩, ⟨some 87, none, .mv (.t 16)⟩, ⟨some 88, none, .idx 1 (.t 86) (.t 87)⟩, ⟨none, none, .st none (.t 88) (.c (.bool true))⟩] [1, 2, 6, 7, 9, 10, 11, 12, 13, 14, 15, 16])
    (.region none [ ⟨some 89, none, .mv (.t 12)⟩, ⟨some 90, none, .mv (.t 16)⟩, ⟨some 91, none, .bsl [(.t 90)]⟩, ⟨some 92, none, .app true 1 (.t 89) (.t 91)⟩, ⟨some 12, none, .asg (.t 92)⟩] [1, 2, 6, 7, 9, 10, 11, 12, 13, 14, 15])) .skip))))
    (.region none [ ⟨some 73, none, .mv (.t 15)⟩, ⟨some 74, none, .bin .add (.t 73) (.c (.int .i64 1))⟩, ⟨some 15, none, .mv (.t 74)⟩] [1, 2, 6, 7, 9, 10, 11, 12, 13, 14, 15]))))))))
    (.region none [ ⟨some 60, none, .mv (.t 13)⟩, ⟨some 61, none, .bin .add (.t 60) (.c (.int .i64 1))⟩, ⟨some 13, none, .mv (.t 61)⟩] [1, 2, 6, 7, 9, 10, 11, 12, 13])))))))))))
    (.region none [ ⟨some 43, none, .mv (.t 11)⟩, ⟨some 44, none, .bin .add (.t 43) (.c (.int .i64 1))⟩, ⟨some 11, none, .mv (.t 44)⟩] [1, 2, 6, 7, 9, 10, 11])))))) (.seq
    (.region none [ ⟨some 93, none, .mv (.t 10)⟩, ⟨some 4, none, .mv (.t 93)⟩, ⟨some 5, none, .mv (.c (.int .i64 0))⟩] [4, 5]) .ret)))))))

/-- spec.l06Digits -/
def c_spec_l06Digits : F where
  np := 3
  rs := [.t 6]
  body :=
    (.seq
    (.region none [ ⟨some 6, none, .asg (.c (.slice none 0 0))⟩] [0, 1, 2]) (.seq
    (.region none [ ⟨some 9, none, .mv (.t 2)⟩, ⟨some 10, none, .mks (.int .i64 0) (.t 9)⟩, ⟨some 7, none, .asg (.t 10)⟩] [0, 1, 2, 7]) (.seq (.seq
    (.region none [ ⟨some 11, none, .mv (.t 2)⟩, ⟨some 12, none, .bin .sub (.t 11) (.c (.int .i64 1))⟩, ⟨some 8, none, .mv (.t 12)⟩] [0, 1, 7, 8]) (.block 0 (.loop (.seq (.seq
    (.region none [ ⟨some 13, none, .mv (.t 8)⟩, ⟨some 14, none, .bin .geq (.t 13) (.c (.int .i64 0))⟩] [0, 1, 7, 8, 14]) (.cond (.t 14) .skip (.exit 0))) (.seq (.block 1 (.seq
    (.region none [ ⟨some 17, none, .mv (.t 7)⟩, ⟨some 18, none, .mv (.t 8)⟩, ⟨some 19, none, .mv (.t 0)⟩, ⟨some 20, none, .mv (.t 1)⟩, ⟨some 21, none, .bin .rem (.t 19) (.t 20)⟩, ⟨some 22, none, .idx 1 (.t 17) (.t 18)⟩, ⟨none, none, .st none (.t 22) (.t 21)⟩] [0, 1, 7, 8])
    (.region none [ ⟨some 23, none, .mv (.t 0)⟩, ⟨some 24, none, .mv (.t 1)⟩, ⟨some 25, none, .bin .quo (.t 23) (.t 24)⟩, ⟨some 0, none, .mv (.t 25)⟩] [0, 1, 7, 8])))
    (.region none [ ⟨some 15, none, .mv (.t 8)⟩, ⟨some 16, none, .bin .sub (.t 15) (.c (.int .i64 1))⟩, ⟨some 8, none, .mv (.t 16)⟩] [0, 1, 7, 8])))))) (.seq
    (.region none [ ⟨some 26, none, .mv (.t 7)⟩, ⟨some 6, none, .asg (.t 26)⟩] [6]) .ret))))

/-- spec.l06Number -/
def c_spec_l06Number : F where
  np := 2
  rs := [.t 4]
  body :=
    (.seq
    (.region none [ ⟨some 4, none, .mv (.c (.int .i64 0))⟩] [0, 1]) (.seq
    (.region none [ ⟨some 5, none, .mv (.c (.int .i64 0))⟩] [0, 1, 5]) (.seq (.seq
    (.region none [ ⟨some 6, none, .mv (.c (.int .i64 0))⟩] [0, 1, 5, 6]) (.block 0 (.loop (.seq (.seq
    (.region none [ ⟨some 7, none, .mv (.t 6)⟩, ⟨some 8, none, .mv (.t 0)⟩, ⟨some 9, none, .len (.t 8)⟩, ⟨some 10, none, .bin .lss (.t 7) (.t 9)⟩] [0, 1, 5, 6, 10]) (.cond (.t 10) .skip (.exit 0))) (.seq (.block 1
    (.region none [ ⟨some 13, none, .mv (.t 5)⟩, ⟨some 14, none, .mv (.t 1)⟩, ⟨some 15, none, .bin .mul (.t 13) (.t 14)⟩, ⟨some 16, none, .mv (.t 0)⟩, ⟨some 17, none, .mv (.t 6)⟩, ⟨some 18, none, .idx 1 (.t 16) (.t 17)⟩, ⟨some 19, none, .ld none (.t 18)⟩, ⟨some 20, none, .bin .add (.t 15) (.t 19)⟩, ⟨some 5, none, .mv (.t 20)⟩] [0, 1, 5, 6]))
    (.region none [ ⟨some 11, none, .mv (.t 6)⟩, ⟨some 12, none, .bin .add (.t 11) (.c (.int .i64 1))⟩, ⟨some 6, none, .mv (.t 12)⟩] [0, 1, 5, 6])))))) (.seq
    (.region none [ ⟨some 21, none, .mv (.t 5)⟩, ⟨some 4, none, .mv (.t 21)⟩] [4]) .ret))))

/-- impl.CountTupleOrbits -/
def c_impl_CountTupleOrbits : F where
  np := 2
  rs := [.t 4, .t 5]
  body :=
    (.seq
    (.region none [ ⟨some 2, none, .box (.t 0)⟩, ⟨some 4, none, .mv (.c (.int .i64 0))⟩, ⟨some 5, none, .mv (.c (.int .i64 0))⟩] [1, 2]) (.seq (.seq
    (.region none [ ⟨some 15, none, .ld (some 2) (.t 2)⟩, ⟨some 16, none, .call (.f 42) [((.t 15), .r)]⟩, ⟨some 17, none, .un .not (.t 16)⟩] [1, 2, 17]) (.cond (.t 17) (.seq
    (.region none [ ⟨some 4, none, .mv (.c (.int .i64 0))⟩, ⟨some 5, none, .mv (.c (.int .i64 1))⟩] [4, 5]) .ret) .skip)) (.seq (.seq
    (.region none [ ⟨some 18, none, .mv (.t 1)⟩, ⟨some 19, none, .call (.f 35) [((.t 18), .r), ((.c (.int .i64 0)), .r), ((.c (.int .i64 12)), .r)]⟩, ⟨some 20, none, .un .not (.t 19)⟩] [1, 2, 20]) (.cond (.t 20) (.seq
    (.region none [ ⟨some 4, none, .mv (.c (.int .i64 0))⟩, ⟨some 5, none, .mv (.c (.int .i64 2))⟩] [4, 5]) .ret) .skip)) (.seq
    (.region none [ ⟨some 21, none, .fld 0 (.t 2)⟩, ⟨some 22, none, .ld none (.t 21)⟩, ⟨some 23, none, .len (.t 22)⟩, ⟨some 6, none, .mv (.t 23)⟩, ⟨some 7, none, .mv (.c (.int .i64 1))⟩] [1, 2, 6, 7]) (.seq (.seq
    (.region none [ ⟨some 24, none, .mv (.t 1)⟩, ⟨some 25, none, .mv (.c (.int .i64 0))⟩] [1, 2, 6, 7, 24, 25]) (.block 0 (.loop (.seq
    (.region none [ ⟨some 26, none, .bin .lss (.t 25) (.t 24)⟩] [1, 2, 6, 7, 24, 25, 26]) (.seq (.cond (.t 26) .skip (.exit 0)) (.seq (.block 1 (.seq
    (.region none [ ⟨some 27, none, .mv (.t 7)⟩, ⟨some 28, none, .mv (.t 6)⟩, ⟨some 29, none, .bin .mul (.t 27) (.t 28)⟩, ⟨some 7, none, .mv (.t 29)⟩] [1, 2, 6, 7, 24, 25]) (.seq
    (.region none [ ⟨some 30, none, .mv (.t 7)⟩, ⟨some 31, none, .bin .gtr (.t 30) (.c (.int .i64 5000))⟩] [1, 2, 6, 7, 24, 25, 31]) (.cond (.t 31) (.seq
    (.region none [ ⟨some 4, none, .mv (.c (.int .i64 0))⟩, ⟨some 5, none, .mv (.c (.int .i64 3))⟩] [4, 5]) .ret) .skip))))
    (.region none [ ⟨some 32, none, .bin .add (.t 25) (.c (.int .i64 1))⟩, ⟨some 25, none, .mv (.t 32)⟩] [1, 2, 6, 7, 24, 25]))))))) (.seq
    (.region none [ ⟨some 33, none, .mv (.t 7)⟩, ⟨some 34, none, .mks (.bool false) (.t 33)⟩, ⟨some 8, none, .asg (.t 34)⟩] [1, 2, 6, 8]) (.seq
    (.region none [ ⟨some 9, none, .mv (.c (.int .i64 0))⟩] [1, 2, 6, 8, 9]) (.seq (.seq
    (.region none [ ⟨some 35, none, .mv (.t 8)⟩, ⟨some 36, none, .len (.t 35)⟩, ⟨some 37, none, .mv (.c (.int .i64 0))⟩] [1, 2, 6, 8, 9, 36, 37]) (.block 2 (.loop (.seq
    (.region none [ ⟨some 38, none, .bin .lss (.t 37) (.t 36)⟩] [1, 2, 6, 8, 9, 36, 37, 38]) (.seq (.cond (.t 38) .skip (.exit 2)) (.seq (.block 3 (.seq
    (.region none [ ⟨some 39, none, .mv (.t 37)⟩, ⟨some 10, none, .mv (.t 39)⟩] [1, 2, 6, 8, 9, 10, 36, 37]) (.seq (.seq
    (.region none [ ⟨some 40, none, .mv (.t 8)⟩, ⟨some 41, none, .mv (.t 10)⟩, ⟨some 42, none, .idx 1 (.t 40) (.t 41)⟩, ⟨some 43, none, .ld none (.t 42)⟩] [1, 2, 6, 8, 9, 10, 36, 37, 43]) (.cond (.t 43) (.exit 3) .skip)) (.seq
    (.region none [ ⟨some 44, none, .mv (.t 9)⟩, ⟨some 45, none, .bin .add (.t 44) (.c (.int .i64 1))⟩, ⟨some 9, none, .mv (.t 45)⟩] [1, 2, 6, 8, 9, 10, 36, 37]) (.seq
    (.region none [ ⟨some 46, none, .mv (.t 8)⟩, ⟨some 47, none, .mv (.t 10)⟩, ⟨some 48, none, .idx 1 (.t 46) (.t 47)⟩, ⟨none, none, .st none (.t 48) (.c (.bool true))⟩] [1, 2, 6, 8, 9, 10, 36, 37]) (.seq
    (.region none [ ⟨some 49, none, .mv (.t 10)⟩, ⟨some 50, none, .bsl [(.t 49)]⟩, ⟨some 11, none, .asg (.t 50)⟩] [1, 2, 6, 8, 9, 11, 36, 37]) (.block 4 (.loop (.seq (.seq
    (.region none [ ⟨some 51, none, .mv (.t 11)⟩, ⟨some 52, none, .len (.t 51)⟩, ⟨some 53, none, .bin .gtr (.t 52) (.c (.int .i64 0))⟩] [1, 2, 6, 8, 9, 11, 36, 37, 53]) (.cond (.t 53) .skip (.exit 4))) (.seq (.block 5 (.seq
    (.region none [ ⟨some 56, none, .mv (.t 6)⟩, ⟨some 57, none, .mv (.t 1)⟩, ⟨some 58, none, .mv (.t 11)⟩, ⟨some 59, none, .idx 1 (.t 58) (.c (.int .i64 0))⟩, ⟨some 60, none, .ld none (.t 59)⟩, ⟨some 61, none, .call (.f 262) [((.t 56), .r), ((.t 57), .r), ((.t 60), .r)]⟩, ⟨some 12, none, .asg (.t 61)⟩] [1, 2, 6, 8, 9, 11, 12, 36, 37]) (.seq
    (.region none [ ⟨some 62, none, .mv (.t 12)⟩, ⟨some 63, none, .len (.t 62)⟩, ⟨some 64, none, .bin .sub (.t 63) (.c (.int .i64 1))⟩, ⟨some 65, none, .mv (.c (.int .i64 0))⟩] [1, 2, 6, 8, 9, 11, 12, 36, 37, 64, 65]) (.block 6 (.loop (.seq
    (.region none [ ⟨some 66, none, .bin .lss (.t 65) (.t 64)⟩] [1, 2, 6, 8, 9, 11, 12, 36, 37, 64, 65, 66]) (.seq (.cond (.t 66) .skip (.exit 6)) (.seq (.block 7 (.seq
    (.region none [ ⟨some 67, none, .mv (.t 65)⟩, ⟨some 13, none, .mv (.t 67)⟩] [1, 2, 6, 8, 9, 11, 12, 13, 36, 37, 64, 65]) (.seq
    (.region none [ ⟨some 68, none, .mv (.t 6)⟩, ⟨some 69, none, .ld (some 2) (.t 2)⟩, ⟨some 70, none, .mv (.t 12)⟩, ⟨some 71, none, .mv (.t 13)⟩, ⟨some 72, none, .call (.f 44) [((.t 69), .r), ((.t 70), .r), ((.t 71), .r)]⟩, ⟨some 73, none, .call (.f 263) [((.t 68), .r), ((.t 72), .r)]⟩, ⟨some 14, none, .mv (.t 73)⟩] [1, 2, 6, 8, 9, 11, 12, 14, 36, 37, 64, 65]) (.seq
    (.region none [ ⟨some 74, none, .mv (.t 8)⟩, ⟨some 75, none, .mv (.t 14)⟩, ⟨some 76, none, .idx 1 (.t 74) (.t 75)⟩, ⟨some 77, none, .ld none (.t 76)⟩, ⟨some 78, none, .un .not (.t 77)⟩] [1, 2, 6, 8, 9, 11, 12, 14, 36, 37, 64, 65, 78]) (.cond (.t 78) (.seq
    (.region none [ ⟨some 79, none, .mv (.t 8)⟩, ⟨some 80, none, .mv (.t 14)⟩, ⟨some 81, none, .idx 1 (.t 79) (.t 80)⟩, ⟨none, none, .st none (.t 81) (.c (.bool true))⟩] [1, 2, 6, 8, 9, 11, 12, 14, 36, 37, 64, 65])
    (.region none [ ⟨some 82, none, .mv (.t 11)⟩, ⟨some 83, none, .mv (.t 14)⟩, ⟨some 84, none, .bsl [(.t 83)]⟩, ⟨some 85, none, .app true 1 (.t 82) (.t 84)⟩, ⟨some 11, none, .asg (.t 85)⟩] [1, 2, 6, 8, 9, 11, 12, 36, 37, 64, 65])) .skip)))))
    (.region none [ ⟨some 86, none, .bin .add (.t 65) (.c (.int .i64 1))⟩, ⟨some 65, none, .mv (.t 86)⟩] [1, 2, 6, 8, 9, 11, 12, 36, 37, 64, 65])))))))))
    (.region none [ ⟨some 54, none, .mv (.t 11)⟩, ⟨some 55, none, .sl 1 (.t 54) (some (.c (.int .i64 1))) none⟩, ⟨some 11, none, .asg (.t 55)⟩] [1, 2, 6, 8, 9, 11, 36, 37])))))))))))
    (.region none [ ⟨some 87, none, .bin .add (.t 37) (.c (.int .i64 1))⟩, ⟨some 37, none, .mv (.t 87)⟩] [1, 2, 6, 8, 9, 36, 37]))))))) (.seq
    (.region none [ ⟨some 88, none, .mv (.t 9)⟩, ⟨some 4, none, .mv (.t 88)⟩, ⟨some 5, none, .mv (.c (.int .i64 0))⟩] [4, 5]) .ret)))))))))

/-- impl.tupleOf -/
def c_impl_tupleOf : F where
  np := 3
  rs := [.t 6]
  body :=
    (.seq
    (.region none [ ⟨some 6, none, .asg (.c (.slice none 0 0))⟩] [0, 1, 2]) (.seq
    (.region none [ ⟨some 9, none, .mv (.t 1)⟩, ⟨some 10, none, .mks (.int .i64 0) (.t 9)⟩, ⟨some 7, none, .asg (.t 10)⟩] [0, 1, 2, 7]) (.seq (.seq
    (.region none [ ⟨some 11, none, .mv (.t 1)⟩, ⟨some 12, none, .bin .sub (.t 11) (.c (.int .i64 1))⟩, ⟨some 8, none, .mv (.t 12)⟩] [0, 2, 7, 8]) (.block 0 (.loop (.seq (.seq
    (.region none [ ⟨some 13, none, .mv (.t 8)⟩, ⟨some 14, none, .bin .geq (.t 13) (.c (.int .i64 0))⟩] [0, 2, 7, 8, 14]) (.cond (.t 14) .skip (.exit 0))) (.seq (.block 1 (.seq
    (.region none [ ⟨some 17, none, .mv (.t 7)⟩, ⟨some 18, none, .mv (.t 8)⟩, ⟨some 19, none, .mv (.t 2)⟩, ⟨some 20, none, .mv (.t 0)⟩, ⟨some 21, none, .bin .rem (.t 19) (.t 20)⟩, ⟨some 22, none, .idx 1 (.t 17) (.t 18)⟩, ⟨none, none, .st none (.t 22) (.t 21)⟩] [0, 2, 7, 8])
    (.region none [ ⟨some 23, none, .mv (.t 2)⟩, ⟨some 24, none, .mv (.t 0)⟩, ⟨some 25, none, .bin .quo (.t 23) (.t 24)⟩, ⟨some 2, none, .mv (.t 25)⟩] [0, 2, 7, 8])))
    (.region none [ ⟨some 15, none, .mv (.t 8)⟩, ⟨some 16, none, .bin .sub (.t 15) (.c (.int .i64 1))⟩, ⟨some 8, none, .mv (.t 16)⟩] [0, 2, 7, 8])))))) (.seq
    (.region none [ ⟨some 26, none, .mv (.t 7)⟩, ⟨some 6, none, .asg (.t 26)⟩] [6]) .ret))))

/-- impl.numberOf -/
def c_impl_numberOf : F where
  np := 2
  rs := [.t 4]
  body :=
    (.seq
    (.region none [ ⟨some 4, none, .mv (.c (.int .i64 0))⟩] [0, 1]) (.seq
    (.region none [ ⟨some 5, none, .mv (.c (.int .i64 0))⟩] [0, 1, 5]) (.seq (.seq
    (.region none [ ⟨some 8, none, .mv (.t 1)⟩, ⟨some 9, none, .len (.t 8)⟩, ⟨some 10, none, .mv (.c (.int .i64 0))⟩] [0, 5, 8, 9, 10]) (.block 0 (.loop (.seq
    (.region none [ ⟨some 11, none, .bin .lss (.t 10) (.t 9)⟩] [0, 5, 8, 9, 10, 11]) (.seq (.cond (.t 11) .skip (.exit 0)) (.seq (.block 1 (.seq
    (.region none [ ⟨some 12, none, .idx 1 (.t 8) (.t 10)⟩, ⟨some 13, none, .ld none (.t 12)⟩, ⟨some 7, none, .mv (.t 13)⟩] [0, 5, 7, 8, 9, 10])
    (.region none [ ⟨some 14, none, .mv (.t 5)⟩, ⟨some 15, none, .mv (.t 0)⟩, ⟨some 16, none, .bin .mul (.t 14) (.t 15)⟩, ⟨some 17, none, .mv (.t 7)⟩, ⟨some 18, none, .bin .add (.t 16) (.t 17)⟩, ⟨some 5, none, .mv (.t 18)⟩] [0, 5, 8, 9, 10])))
    (.region none [ ⟨some 19, none, .bin .add (.t 10) (.c (.int .i64 1))⟩, ⟨some 10, none, .mv (.t 19)⟩] [0, 5, 8, 9, 10]))))))) (.seq
    (.region none [ ⟨some 20, none, .mv (.t 5)⟩, ⟨some 4, none, .mv (.t 20)⟩] [4]) .ret))))

/-- spec.RhoMaps -/
def c_spec_RhoMaps : F where
  np := 1
  rs := [.t 2, .t 3]
  body :=
    (.seq
    (.region none [ ⟨some 1, none, .box (.t 0)⟩, ⟨some 2, none, .asg (.c (.slice none 0 0))⟩, ⟨some 3, none, .mv (.c (.int .i64 0))⟩] [1]) (.seq (.seq
    (.region none [ ⟨some 4, none, .ld (some 2) (.t 1)⟩, ⟨some 5, none, .call (.f 264) [((.t 4), .r)]⟩, ⟨some 6, none, .un .not (.t 5)⟩] [1, 6]) (.cond (.t 6) (.seq
    (.region none [ ⟨some 2, none, .asg (.c (.slice none 0 0))⟩, ⟨some 3, none, .mv (.c (.int .i64 1))⟩] [2, 3]) .ret) .skip)) (.seq
    (.region none [ ⟨some 7, none, .fld 1 (.t 1)⟩, ⟨some 8, none, .ld none (.t 7)⟩, ⟨some 9, none, .call (.f 265) [((.t 8), .r)]⟩, ⟨some 2, none, .asg (.t 9)⟩, ⟨some 3, none, .mv (.c (.int .i64 0))⟩] [2, 3]) .ret)))

/-- spec.l07Is -/
def c_spec_l07Is : F where
  np := 1
  rs := [.t 2]
  body :=
    (.seq
    (.region none [ ⟨some 1, none, .box (.t 0)⟩, ⟨some 2, none, .mv (.c (.bool false))⟩] [1]) (.seq
    (.region none [ ⟨some 3, none, .ld (some 2) (.t 1)⟩, ⟨some 4, none, .call (.f 41) [((.t 3), .r)]⟩, ⟨some 5, none, .mv (.t 4)⟩, ⟨some 6, (some (5, true)), .ld (some 2) (.t 1)⟩, ⟨some 7, (some (5, true)), .call (.f 350) [((.t 6), .r)]⟩, ⟨some 8, none, .pick (.t 5) (.t 7) (.c (.bool false))⟩, ⟨some 2, none, .mv (.t 8)⟩] [2]) .ret))

/-- spec.l02Good -/
def c_spec_l02Good : F where
  np := 1
  rs := [.t 2]
  body :=
    (.seq
    (.region none [ ⟨some 1, none, .box (.t 0)⟩, ⟨some 2, none, .mv (.c (.bool false))⟩] [1]) (.seq
    (.region none [ ⟨some 3, none, .fld 0 (.t 1)⟩, ⟨some 4, none, .ld none (.t 3)⟩, ⟨some 5, none, .call (.f 410) [((.t 4), .r)]⟩, ⟨some 6, none, .mv (.t 5)⟩, ⟨some 7, (some (6, true)), .fld 1 (.t 1)⟩, ⟨some 8, (some (6, true)), .ld none (.t 7)⟩, ⟨some 9, (some (6, true)), .call (.f 265) [((.t 8), .r)]⟩, ⟨some 10, (some (6, true)), .call (.f 410) [((.t 9), .r)]⟩, ⟨some 11, none, .pick (.t 6) (.t 10) (.c (.bool false))⟩, ⟨some 2, none, .mv (.t 11)⟩] [2]) .ret))

/-- spec.l01Rows -/
def c_spec_l01Rows : F where
  np := 1
  rs := [.t 2]
  body :=
    (.seq
    (.region none [ ⟨some 2, none, .mv (.c (.bool false))⟩] [0]) (.seq (.seq
    (.region none [ ⟨some 3, none, .mv (.c (.int .i64 0))⟩] [0, 3]) (.block 0 (.loop (.seq (.seq
    (.region none [ ⟨some 4, none, .mv (.t 3)⟩, ⟨some 5, none, .mv (.t 0)⟩, ⟨some 6, none, .len (.t 5)⟩, ⟨some 7, none, .bin .lss (.t 4) (.t 6)⟩] [0, 3, 7]) (.cond (.t 7) .skip (.exit 0))) (.seq (.block 1 (.seq
    (.region none [ ⟨some 10, none, .mv (.t 0)⟩, ⟨some 11, none, .mv (.t 3)⟩, ⟨some 12, none, .idx 1 (.t 10) (.t 11)⟩, ⟨some 13, none, .ld none (.t 12)⟩, ⟨some 14, none, .call (.f 47) [((.t 13), .r)]⟩, ⟨some 15, none, .un .not (.t 14)⟩] [0, 3, 15]) (.cond (.t 15) (.seq
    (.region none [ ⟨some 2, none, .mv (.c (.bool false))⟩] [2]) .ret) .skip)))
    (.region none [ ⟨some 8, none, .mv (.t 3)⟩, ⟨some 9, none, .bin .add (.t 8) (.c (.int .i64 1))⟩, ⟨some 3, none, .mv (.t 9)⟩] [0, 3])))))) (.seq
    (.region none [ ⟨some 2, none, .mv (.c (.bool true))⟩] [2]) .ret)))

/-- spec.l01Turn -/
def c_spec_l01Turn : F where
  np := 1
  rs := [.t 2]
  body :=
    (.seq
    (.region none [ ⟨some 2, none, .asg (.c (.slice none 0 0))⟩] [0]) (.seq
    (.region none [ ⟨some 5, none, .bsl []⟩, ⟨some 3, none, .asg (.t 5)⟩] [0, 3]) (.seq (.seq
    (.region none [ ⟨some 4, none, .mv (.c (.int .i64 0))⟩] [0, 3, 4]) (.block 0 (.loop (.seq (.seq
    (.region none [ ⟨some 6, none, .mv (.t 4)⟩, ⟨some 7, none, .mv (.t 0)⟩, ⟨some 8, none, .len (.t 7)⟩, ⟨some 9, none, .bin .lss (.t 6) (.t 8)⟩] [0, 3, 4, 9]) (.cond (.t 9) .skip (.exit 0))) (.seq (.block 1
    (.region none [ ⟨some 12, none, .mv (.t 3)⟩, ⟨some 13, none, .mv (.t 0)⟩, ⟨some 14, none, .mv (.t 4)⟩, ⟨some 15, none, .call (.f 375) [((.t 13), .r), ((.t 14), .r)]⟩, ⟨some 16, none, .bsl [(.t 15)]⟩, ⟨some 17, none, .app true 1 (.t 12) (.t 16)⟩, ⟨some 3, none, .asg (.t 17)⟩] [0, 3, 4]))
    (.region none [ ⟨some 10, none, .mv (.t 4)⟩, ⟨some 11, none, .bin .add (.t 10) (.c (.int .i64 1))⟩, ⟨some 4, none, .mv (.t 11)⟩] [0, 3, 4])))))) (.seq
    (.region none [ ⟨some 18, none, .mv (.t 3)⟩, ⟨some 2, none, .asg (.t 18)⟩] [2]) .ret))))

/-- spec.l01Column -/
def c_spec_l01Column : F where
  np := 2
  rs := [.t 4]
  body :=
    (.seq
    (.region none [ ⟨some 4, none, .asg (.c (.slice none 0 0))⟩] [0, 1]) (.seq
    (.region none [ ⟨some 7, none, .bsl []⟩, ⟨some 5, none, .asg (.t 7)⟩] [0, 1, 5]) (.seq (.seq
    (.region none [ ⟨some 6, none, .mv (.c (.int .i64 0))⟩] [0, 1, 5, 6]) (.block 0 (.loop (.seq (.seq
    (.region none [ ⟨some 8, none, .mv (.t 6)⟩, ⟨some 9, none, .mv (.t 0)⟩, ⟨some 10, none, .len (.t 9)⟩, ⟨some 11, none, .bin .lss (.t 8) (.t 10)⟩] [0, 1, 5, 6, 11]) (.cond (.t 11) .skip (.exit 0))) (.seq (.block 1
    (.region none [ ⟨some 14, none, .mv (.t 5)⟩, ⟨some 15, none, .mv (.t 0)⟩, ⟨some 16, none, .mv (.t 6)⟩, ⟨some 17, none, .idx 1 (.t 15) (.t 16)⟩, ⟨some 18, none, .ld none (.t 17)⟩, ⟨some 19, none, .mv (.t 1)⟩, ⟨some 20, none, .idx 1 (.t 18) (.t 19)⟩, ⟨some 21, none, .ld none (.t 20)⟩, ⟨some 22, none, .bsl [(.t 21)]⟩, ⟨some 23, none, .app true 1 (.t 14) (.t 22)⟩, ⟨some 5, none, .asg (.t 23)⟩] [0, 1, 5, 6]))
    (.region none [ ⟨some 12, none, .mv (.t 6)⟩, ⟨some 13, none, .bin .add (.t 12) (.c (.int .i64 1))⟩, ⟨some 6, none, .mv (.t 13)⟩] [0, 1, 5, 6])))))) (.seq
    (.region none [ ⟨some 24, none, .mv (.t 5)⟩, ⟨some 4, none, .asg (.t 24)⟩] [4]) .ret))))

/-- impl.RhoMaps -/
def c_impl_RhoMaps : F where
  np := 1
  rs := [.t 2, .t 3]
  body :=
    (.seq
    (.region none [ ⟨some 1, none, .box (.t 0)⟩, ⟨some 2, none, .asg (.c (.slice none 0 0))⟩, ⟨some 3, none, .mv (.c (.int .i64 0))⟩] [1]) (.seq (.seq
    (.region none [ ⟨some 4, none, .ld (some 2) (.t 1)⟩, ⟨some 5, none, .call (.f 266) [((.t 4), .r)]⟩, ⟨some 6, none, .un .not (.t 5)⟩] [1, 6]) (.cond (.t 6) (.seq
    (.region none [ ⟨some 2, none, .asg (.c (.slice none 0 0))⟩, ⟨some 3, none, .mv (.c (.int .i64 1))⟩] [2, 3]) .ret) .skip)) (.seq
    (.region none [ ⟨some 7, none, .fld 1 (.t 1)⟩, ⟨some 8, none, .ld none (.t 7)⟩, ⟨some 9, none, .call (.f 267) [((.t 8), .r)]⟩, ⟨some 2, none, .asg (.t 9)⟩, ⟨some 3, none, .mv (.c (.int .i64 0))⟩] [2, 3]) .ret)))

/-- impl.isRegular -/
def c_impl_isRegular : F where
  np := 1
  rs := [.t 2]
  body :=
    (.seq
    (.region none [ ⟨some 1, none, .box (.t 0)⟩, ⟨some 2, none, .mv (.c (.bool false))⟩] [1]) (.seq
    (.region none [ ⟨some 3, none, .ld (some 2) (.t 1)⟩, ⟨some 4, none, .call (.f 42) [((.t 3), .r)]⟩, ⟨some 5, none, .mv (.t 4)⟩, ⟨some 6, (some (5, true)), .ld (some 2) (.t 1)⟩, ⟨some 7, (some (5, true)), .call (.f 285) [((.t 6), .r)]⟩, ⟨some 8, none, .pick (.t 5) (.t 7) (.c (.bool false))⟩, ⟨some 2, none, .mv (.t 8)⟩] [2]) .ret))

/-- impl.isNondegenerate -/
def c_impl_isNondegenerate : F where
  np := 1
  rs := [.t 2]
  body :=
    (.seq
    (.region none [ ⟨some 1, none, .box (.t 0)⟩, ⟨some 2, none, .mv (.c (.bool false))⟩] [1]) (.seq
    (.region none [ ⟨some 3, none, .fld 0 (.t 1)⟩, ⟨some 4, none, .ld none (.t 3)⟩, ⟨some 5, none, .call (.f 51) [((.t 4), .r)]⟩, ⟨some 6, none, .mv (.t 5)⟩, ⟨some 7, (some (6, true)), .fld 1 (.t 1)⟩, ⟨some 8, (some (6, true)), .ld none (.t 7)⟩, ⟨some 9, (some (6, true)), .call (.f 267) [((.t 8), .r)]⟩, ⟨some 10, (some (6, true)), .call (.f 51) [((.t 9), .r)]⟩, ⟨some 11, none, .pick (.t 6) (.t 10) (.c (.bool false))⟩, ⟨some 2, none, .mv (.t 11)⟩] [2]) .ret))

/-- impl.transposed -/
def c_impl_transposed : F where
  np := 1
  rs := [.t 2]
  body :=
    (.seq
    (.region none [ ⟨some 1, none, .box (.t 0)⟩, ⟨some 2, none, .asg (.c (.slice none 0 0))⟩] [1]) (.seq
    (.region none [ ⟨some 3, none, .ld none (.t 1)⟩, ⟨some 4, none, .len (.t 3)⟩, ⟨some 5, none, .fnc 377 [(.t 1)]⟩, ⟨some 6, none, .call (.f 376) [((.t 4), .r), ((.t 5), .r)]⟩, ⟨some 2, none, .asg (.t 6)⟩] [2]) .ret))

/-- impl.transposed$1 -/
def c_impl_transposed_1 : F where
  np := 3
  rs := [.t 5]
  body :=
    (.seq
    (.region none [ ⟨some 5, none, .mv (.c (.int .i64 0))⟩] [0, 1, 2]) (.seq
    (.region none [ ⟨some 6, none, .ld none (.t 2)⟩, ⟨some 7, none, .mv (.t 1)⟩, ⟨some 8, none, .idx 1 (.t 6) (.t 7)⟩, ⟨some 9, none, .ld none (.t 8)⟩, ⟨some 10, none, .mv (.t 0)⟩, ⟨some 11, none, .idx 1 (.t 9) (.t 10)⟩, ⟨some 12, none, .ld none (.t 11)⟩, ⟨some 5, none, .mv (.t 12)⟩] [5]) .ret))

/-- impl.tableBy -/
def c_impl_tableBy : F where
  np := 2
  rs := [.t 4]
  body :=
    (.seq
    (.region none [ ⟨some 4, none, .asg (.c (.slice none 0 0))⟩] [0, 1]) (.seq
    (.region none [ ⟨some 8, none, .mv (.t 0)⟩, ⟨some 9, none, .mks (.slice none 0 0) (.t 8)⟩, ⟨some 5, none, .asg (.t 9)⟩] [0, 1, 5]) (.seq (.seq
    (.region none [ ⟨some 10, none, .mv (.t 5)⟩, ⟨some 11, none, .len (.t 10)⟩, ⟨some 12, none, .mv (.c (.int .i64 0))⟩] [0, 1, 5, 11, 12]) (.block 0 (.loop (.seq
    (.region none [ ⟨some 13, none, .bin .lss (.t 12) (.t 11)⟩] [0, 1, 5, 11, 12, 13]) (.seq (.cond (.t 13) .skip (.exit 0)) (.seq (.block 1 (.seq
    (.region none [ ⟨some 14, none, .mv (.t 12)⟩, ⟨some 6, none, .mv (.t 14)⟩] [0, 1, 5, 6, 11, 12]) (.seq
    (.region none [ ⟨some 15, none, .mv (.t 5)⟩, ⟨some 16, none, .mv (.t 6)⟩, ⟨some 17, none, .mv (.t 0)⟩, ⟨some 18, none, .mks (.int .i64 0) (.t 17)⟩, ⟨some 19, none, .idx 1 (.t 15) (.t 16)⟩, ⟨none, none, .st none (.t 19) (.t 18)⟩] [0, 1, 5, 6, 11, 12]) (.seq
    (.region none [ ⟨some 20, none, .mv (.t 5)⟩, ⟨some 21, none, .mv (.t 6)⟩, ⟨some 22, none, .idx 1 (.t 20) (.t 21)⟩, ⟨some 23, none, .ld none (.t 22)⟩, ⟨some 24, none, .len (.t 23)⟩, ⟨some 25, none, .mv (.c (.int .i64 0))⟩] [0, 1, 5, 6, 11, 12, 24, 25]) (.block 2 (.loop (.seq
    (.region none [ ⟨some 26, none, .bin .lss (.t 25) (.t 24)⟩] [0, 1, 5, 6, 11, 12, 24, 25, 26]) (.seq (.cond (.t 26) .skip (.exit 2)) (.seq (.block 3 (.seq
    (.region none [ ⟨some 27, none, .mv (.t 25)⟩, ⟨some 7, none, .mv (.t 27)⟩] [0, 1, 5, 6, 7, 11, 12, 24, 25])
    (.region (some [28, 29, 30, 31, 32, 33, 34, 35, 36]) [ ⟨some 28, none, .mv (.t 5)⟩, ⟨some 29, none, .mv (.t 6)⟩, ⟨some 30, none, .idx 1 (.t 28) (.t 29)⟩, ⟨some 31, none, .ld none (.t 30)⟩, ⟨some 32, none, .mv (.t 7)⟩, ⟨some 33, none, .mv (.t 1)⟩, ⟨some 34, none, .mv (.t 6)⟩, ⟨some 35, none, .mv (.t 7)⟩, ⟨some 36, none, .call (.t 33) [((.t 34), .r), ((.t 35), .r)]⟩, ⟨some 37, none, .idx 1 (.t 31) (.t 32)⟩, ⟨none, none, .st none (.t 37) (.t 36)⟩] [0, 1, 5, 6, 11, 12, 24, 25])))
    (.region none [ ⟨some 38, none, .bin .add (.t 25) (.c (.int .i64 1))⟩, ⟨some 25, none, .mv (.t 38)⟩] [0, 1, 5, 6, 11, 12, 24, 25]))))))))))
    (.region none [ ⟨some 39, none, .bin .add (.t 12) (.c (.int .i64 1))⟩, ⟨some 12, none, .mv (.t 39)⟩] [0, 1, 5, 11, 12]))))))) (.seq
    (.region none [ ⟨some 40, none, .mv (.t 5)⟩, ⟨some 4, none, .asg (.t 40)⟩] [4]) .ret))))

/-- spec.IsAbelianLeft -/
def c_spec_IsAbelianLeft : F where
  np := 1
  rs := [.t 2, .t 3]
  body :=
    (.seq
    (.region none [ ⟨some 1, none, .box (.t 0)⟩, ⟨some 2, none, .mv (.c (.bool false))⟩, ⟨some 3, none, .mv (.c (.int .i64 0))⟩] [1]) (.seq (.seq
    (.region none [ ⟨some 6, none, .ld (some 2) (.t 1)⟩, ⟨some 7, none, .call (.f 264) [((.t 6), .r)]⟩, ⟨some 8, none, .un .not (.t 7)⟩] [1, 8]) (.cond (.t 8) (.seq
    (.region none [ ⟨some 2, none, .mv (.c (.bool false))⟩, ⟨some 3, none, .mv (.c (.int .i64 1))⟩] [2, 3]) .ret) .skip)) (.seq (.seq
    (.region none [ ⟨some 4, none, .mv (.c (.int .i64 0))⟩] [1, 4]) (.block 0 (.loop (.seq (.seq
    (.region none [ ⟨some 9, none, .mv (.t 4)⟩, ⟨some 10, none, .fld 0 (.t 1)⟩, ⟨some 11, none, .ld none (.t 10)⟩, ⟨some 12, none, .len (.t 11)⟩, ⟨some 13, none, .bin .lss (.t 9) (.t 12)⟩] [1, 4, 13]) (.cond (.t 13) .skip (.exit 0))) (.seq (.block 1 (.seq
    (.region none [ ⟨some 5, none, .mv (.c (.int .i64 0))⟩] [1, 4, 5]) (.block 2 (.loop (.seq (.seq
    (.region none [ ⟨some 16, none, .mv (.t 5)⟩, ⟨some 17, none, .mv (.t 4)⟩, ⟨some 18, none, .bin .lss (.t 16) (.t 17)⟩] [1, 4, 5, 18]) (.cond (.t 18) .skip (.exit 2))) (.seq (.block 3 (.seq
    (.region (some [21, 22, 23, 24, 25, 26, 27, 28, 29, 30, 31, 32, 33, 34, 35, 36, 37, 38, 39, 40, 41]) [ ⟨some 21, none, .fld 0 (.t 1)⟩, ⟨some 22, none, .ld none (.t 21)⟩, ⟨some 23, none, .mv (.t 4)⟩, ⟨some 24, none, .idx 1 (.t 22) (.t 23)⟩, ⟨some 25, none, .ld none (.t 24)⟩, ⟨some 26, none, .fld 0 (.t 1)⟩, ⟨some 27, none, .ld none (.t 26)⟩, ⟨some 28, none, .mv (.t 5)⟩, ⟨some 29, none, .idx 1 (.t 27) (.t 28)⟩, ⟨some 30, none, .ld none (.t 29)⟩, ⟨some 31, none, .call (.f 279) [((.t 25), .r), ((.t 30), .r)]⟩, ⟨some 32, none, .fld 0 (.t 1)⟩, ⟨some 33, none, .ld none (.t 32)⟩, ⟨some 34, none, .mv (.t 5)⟩, ⟨some 35, none, .idx 1 (.t 33) (.t 34)⟩, ⟨some 36, none, .ld none (.t 35)⟩, ⟨some 37, none, .fld 0 (.t 1)⟩, ⟨some 38, none, .ld none (.t 37)⟩, ⟨some 39, none, .mv (.t 4)⟩, ⟨some 40, none, .idx 1 (.t 38) (.t 39)⟩, ⟨some 41, none, .ld none (.t 40)⟩, ⟨some 42, none, .call (.f 279) [((.t 36), .r), ((.t 41), .r)]⟩, ⟨some 43, none, .call (.f 67) [((.t 31), .r), ((.t 42), .r)]⟩, ⟨some 44, none, .un .not (.t 43)⟩] [1, 4, 5, 44]) (.cond (.t 44) (.seq
    (.region none [ ⟨some 2, none, .mv (.c (.bool false))⟩, ⟨some 3, none, .mv (.c (.int .i64 0))⟩] [2, 3]) .ret) .skip)))
    (.region none [ ⟨some 19, none, .mv (.t 5)⟩, ⟨some 20, none, .bin .add (.t 19) (.c (.int .i64 1))⟩, ⟨some 5, none, .mv (.t 20)⟩] [1, 4, 5])))))))
    (.region none [ ⟨some 14, none, .mv (.t 4)⟩, ⟨some 15, none, .bin .add (.t 14) (.c (.int .i64 1))⟩, ⟨some 4, none, .mv (.t 15)⟩] [1, 4])))))) (.seq
    (.region none [ ⟨some 2, none, .mv (.c (.bool true))⟩, ⟨some 3, none, .mv (.c (.int .i64 0))⟩] [2, 3]) .ret))))

/-- spec.l01Then -/
def c_spec_l01Then : F where
  np := 2
  rs := [.t 4]
  body :=
    (.seq
    (.region none [ ⟨some 4, none, .asg (.c (.slice none 0 0))⟩] [0, 1]) (.seq
    (.region none [ ⟨some 7, none, .bsl []⟩, ⟨some 5, none, .asg (.t 7)⟩] [0, 1, 5]) (.seq (.seq
    (.region none [ ⟨some 6, none, .mv (.c (.int .i64 0))⟩] [0, 1, 5, 6]) (.block 0 (.loop (.seq (.seq
    (.region none [ ⟨some 8, none, .mv (.t 6)⟩, ⟨some 9, none, .mv (.t 0)⟩, ⟨some 10, none, .len (.t 9)⟩, ⟨some 11, none, .bin .lss (.t 8) (.t 10)⟩] [0, 1, 5, 6, 11]) (.cond (.t 11) .skip (.exit 0))) (.seq (.block 1
    (.region none [ ⟨some 14, none, .mv (.t 5)⟩, ⟨some 15, none, .mv (.t 1)⟩, ⟨some 16, none, .mv (.t 0)⟩, ⟨some 17, none, .mv (.t 6)⟩, ⟨some 18, none, .idx 1 (.t 16) (.t 17)⟩, ⟨some 19, none, .ld none (.t 18)⟩, ⟨some 20, none, .idx 1 (.t 15) (.t 19)⟩, ⟨some 21, none, .ld none (.t 20)⟩, ⟨some 22, none, .bsl [(.t 21)]⟩, ⟨some 23, none, .app true 1 (.t 14) (.t 22)⟩, ⟨some 5, none, .asg (.t 23)⟩] [0, 1, 5, 6]))
    (.region none [ ⟨some 12, none, .mv (.t 6)⟩, ⟨some 13, none, .bin .add (.t 12) (.c (.int .i64 1))⟩, ⟨some 6, none, .mv (.t 13)⟩] [0, 1, 5, 6])))))) (.seq
    (.region none [ ⟨some 24, none, .mv (.t 5)⟩, ⟨some 4, none, .asg (.t 24)⟩] [4]) .ret))))

/-- impl.IsAbelianLeft -/
def c_impl_IsAbelianLeft : F where
  np := 1
  rs := [.t 2, .t 3]
  body :=
    (.seq
    (.region none [ ⟨some 1, none, .box (.t 0)⟩, ⟨some 2, none, .mv (.c (.bool false))⟩, ⟨some 3, none, .mv (.c (.int .i64 0))⟩] [1]) (.seq (.seq
    (.region none [ ⟨some 8, none, .ld (some 2) (.t 1)⟩, ⟨some 9, none, .call (.f 266) [((.t 8), .r)]⟩, ⟨some 10, none, .un .not (.t 9)⟩] [1, 10]) (.cond (.t 10) (.seq
    (.region none [ ⟨some 2, none, .mv (.c (.bool false))⟩, ⟨some 3, none, .mv (.c (.int .i64 1))⟩] [2, 3]) .ret) .skip)) (.seq (.seq
    (.region none [ ⟨some 11, none, .fld 0 (.t 1)⟩, ⟨some 12, none, .ld none (.t 11)⟩, ⟨some 13, none, .len (.t 12)⟩, ⟨some 14, none, .mv (.c (.int .i64 0))⟩] [1, 12, 13, 14]) (.block 0 (.loop (.seq
    (.region none [ ⟨some 15, none, .bin .lss (.t 14) (.t 13)⟩] [1, 12, 13, 14, 15]) (.seq (.cond (.t 15) .skip (.exit 0)) (.seq (.block 1 (.seq
    (.region none [ ⟨some 16, none, .idx 1 (.t 12) (.t 14)⟩, ⟨some 17, none, .ld none (.t 16)⟩, ⟨some 5, none, .asg (.t 17)⟩] [1, 5, 12, 13, 14]) (.seq
    (.region none [ ⟨some 18, none, .fld 0 (.t 1)⟩, ⟨some 19, none, .ld none (.t 18)⟩, ⟨some 20, none, .len (.t 19)⟩, ⟨some 21, none, .mv (.c (.int .i64 0))⟩] [1, 5, 12, 13, 14, 19, 20, 21]) (.block 2 (.loop (.seq
    (.region none [ ⟨some 22, none, .bin .lss (.t 21) (.t 20)⟩] [1, 5, 12, 13, 14, 19, 20, 21, 22]) (.seq (.cond (.t 22) .skip (.exit 2)) (.seq (.block 3 (.seq
    (.region none [ ⟨some 23, none, .idx 1 (.t 19) (.t 21)⟩, ⟨some 24, none, .ld none (.t 23)⟩, ⟨some 7, none, .asg (.t 24)⟩] [1, 5, 7, 12, 13, 14, 19, 20, 21]) (.seq
    (.region none [ ⟨some 25, none, .mv (.t 5)⟩, ⟨some 26, none, .mv (.t 7)⟩, ⟨some 27, none, .call (.f 277) [((.t 25), .r), ((.t 26), .r)]⟩, ⟨some 28, none, .mv (.t 7)⟩, ⟨some 29, none, .mv (.t 5)⟩, ⟨some 30, none, .call (.f 277) [((.t 28), .r), ((.t 29), .r)]⟩, ⟨some 31, none, .call (.f 276) [((.t 27), .r), ((.t 30), .r)]⟩, ⟨some 32, none, .un .not (.t 31)⟩] [1, 5, 12, 13, 14, 19, 20, 21, 32]) (.cond (.t 32) (.seq
    (.region none [ ⟨some 2, none, .mv (.c (.bool false))⟩, ⟨some 3, none, .mv (.c (.int .i64 0))⟩] [2, 3]) .ret) .skip))))
    (.region none [ ⟨some 33, none, .bin .add (.t 21) (.c (.int .i64 1))⟩, ⟨some 21, none, .mv (.t 33)⟩] [1, 5, 12, 13, 14, 19, 20, 21])))))))))
    (.region none [ ⟨some 34, none, .bin .add (.t 14) (.c (.int .i64 1))⟩, ⟨some 14, none, .mv (.t 34)⟩] [1, 12, 13, 14]))))))) (.seq
    (.region none [ ⟨some 2, none, .mv (.c (.bool true))⟩, ⟨some 3, none, .mv (.c (.int .i64 0))⟩] [2, 3]) .ret))))

/-- impl.then -/
def c_impl_then : F where
  np := 2
  rs := [.t 4]
  body :=
    (.seq
    (.region none [ ⟨some 4, none, .asg (.c (.slice none 0 0))⟩] [0, 1]) (.seq
    (.region none [ ⟨some 8, none, .mv (.t 0)⟩, ⟨some 9, none, .len (.t 8)⟩, ⟨some 10, none, .mks (.int .i64 0) (.t 9)⟩, ⟨some 5, none, .asg (.t 10)⟩] [0, 1, 5]) (.seq (.seq
    (.region none [ ⟨some 11, none, .mv (.t 0)⟩, ⟨some 12, none, .len (.t 11)⟩, ⟨some 13, none, .mv (.c (.int .i64 0))⟩] [1, 5, 11, 12, 13]) (.block 0 (.loop (.seq
    (.region none [ ⟨some 14, none, .bin .lss (.t 13) (.t 12)⟩] [1, 5, 11, 12, 13, 14]) (.seq (.cond (.t 14) .skip (.exit 0)) (.seq (.block 1 (.seq
    (.region none [ ⟨some 15, none, .mv (.t 13)⟩, ⟨some 16, none, .idx 1 (.t 11) (.t 13)⟩, ⟨some 17, none, .ld none (.t 16)⟩, ⟨some 6, none, .mv (.t 15)⟩, ⟨some 7, none, .mv (.t 17)⟩] [1, 5, 6, 7, 11, 12, 13])
    (.region none [ ⟨some 18, none, .mv (.t 5)⟩, ⟨some 19, none, .mv (.t 6)⟩, ⟨some 20, none, .mv (.t 1)⟩, ⟨some 21, none, .mv (.t 7)⟩, ⟨some 22, none, .idx 1 (.t 20) (.t 21)⟩, ⟨some 23, none, .ld none (.t 22)⟩, ⟨some 24, none, .idx 1 (.t 18) (.t 19)⟩, ⟨none, none, .st none (.t 24) (.t 23)⟩] [1, 5, 11, 12, 13])))
    (.region none [ ⟨some 25, none, .bin .add (.t 13) (.c (.int .i64 1))⟩, ⟨some 13, none, .mv (.t 25)⟩] [1, 5, 11, 12, 13]))))))) (.seq
    (.region none [ ⟨some 26, none, .mv (.t 5)⟩, ⟨some 4, none, .asg (.t 26)⟩] [4]) .ret))))

/-- slices.Equal[[]int64,int64] -/
def c_slices_Equal___int64_int64_ : F where
  np := 2
  rs := [.t 4]
  body :=
    (.seq
    (.region none [ ⟨some 4, none, .mv (.c (.bool false))⟩] [0, 1]) (.seq (.seq
    (.region none [ ⟨some 6, none, .mv (.t 0)⟩, ⟨some 7, none, .len (.t 6)⟩, ⟨some 8, none, .mv (.t 1)⟩, ⟨some 9, none, .len (.t 8)⟩, ⟨some 10, none, .bin .neq (.t 7) (.t 9)⟩] [0, 1, 10]) (.cond (.t 10) (.seq
    (.region none [ ⟨some 4, none, .mv (.c (.bool false))⟩] [4]) .ret) .skip)) (.seq (.seq
    (.region none [ ⟨some 11, none, .mv (.t 0)⟩, ⟨some 12, none, .len (.t 11)⟩, ⟨some 13, none, .mv (.c (.int .i64 0))⟩] [0, 1, 12, 13]) (.block 0 (.loop (.seq
    (.region none [ ⟨some 14, none, .bin .lss (.t 13) (.t 12)⟩] [0, 1, 12, 13, 14]) (.seq (.cond (.t 14) .skip (.exit 0)) (.seq (.block 1 (.seq
    (.region none [ ⟨some 15, none, .mv (.t 13)⟩, ⟨some 5, none, .mv (.t 15)⟩] [0, 1, 5, 12, 13]) (.seq
    (.region (some [16, 17, 18, 19, 20, 21, 22, 23]) [ ⟨some 16, none, .mv (.t 0)⟩, ⟨some 17, none, .mv (.t 5)⟩, ⟨some 18, none, .idx 1 (.t 16) (.t 17)⟩, ⟨some 19, none, .ld none (.t 18)⟩, ⟨some 20, none, .mv (.t 1)⟩, ⟨some 21, none, .mv (.t 5)⟩, ⟨some 22, none, .idx 1 (.t 20) (.t 21)⟩, ⟨some 23, none, .ld none (.t 22)⟩, ⟨some 24, none, .bin .neq (.t 19) (.t 23)⟩] [0, 1, 12, 13, 24]) (.cond (.t 24) (.seq
    (.region none [ ⟨some 4, none, .mv (.c (.bool false))⟩] [4]) .ret) .skip))))
    (.region none [ ⟨some 25, none, .bin .add (.t 13) (.c (.int .i64 1))⟩, ⟨some 13, none, .mv (.t 25)⟩] [0, 1, 12, 13]))))))) (.seq
    (.region none [ ⟨some 4, none, .mv (.c (.bool true))⟩] [4]) .ret))))

/-- spec.LambdaMaps -/
def c_spec_LambdaMaps : F where
  np := 1
  rs := [.t 2, .t 3]
  body :=
    (.seq
    (.region none [ ⟨some 1, none, .box (.t 0)⟩, ⟨some 2, none, .asg (.c (.slice none 0 0))⟩, ⟨some 3, none, .mv (.c (.int .i64 0))⟩] [1]) (.seq (.seq
    (.region none [ ⟨some 4, none, .ld (some 2) (.t 1)⟩, ⟨some 5, none, .call (.f 264) [((.t 4), .r)]⟩, ⟨some 6, none, .un .not (.t 5)⟩] [1, 6]) (.cond (.t 6) (.seq
    (.region none [ ⟨some 2, none, .asg (.c (.slice none 0 0))⟩, ⟨some 3, none, .mv (.c (.int .i64 1))⟩] [2, 3]) .ret) .skip)) (.seq
    (.region none [ ⟨some 7, none, .fld 0 (.t 1)⟩, ⟨some 8, none, .ld none (.t 7)⟩, ⟨some 9, none, .call (.f 280) [((.t 8), .r)]⟩, ⟨some 2, none, .asg (.t 9)⟩, ⟨some 3, none, .mv (.c (.int .i64 0))⟩] [2, 3]) .ret)))

/-- spec.l01Own2 -/
def c_spec_l01Own2 : F where
  np := 1
  rs := [.t 2]
  body :=
    (.seq
    (.region none [ ⟨some 2, none, .asg (.c (.slice none 0 0))⟩] [0]) (.seq
    (.region none [ ⟨some 5, none, .bsl []⟩, ⟨some 3, none, .asg (.t 5)⟩] [0, 3]) (.seq (.seq
    (.region none [ ⟨some 4, none, .mv (.c (.int .i64 0))⟩] [0, 3, 4]) (.block 0 (.loop (.seq (.seq
    (.region none [ ⟨some 6, none, .mv (.t 4)⟩, ⟨some 7, none, .mv (.t 0)⟩, ⟨some 8, none, .len (.t 7)⟩, ⟨some 9, none, .bin .lss (.t 6) (.t 8)⟩] [0, 3, 4, 9]) (.cond (.t 9) .skip (.exit 0))) (.seq (.block 1
    (.region none [ ⟨some 12, none, .mv (.t 3)⟩, ⟨some 13, none, .mv (.t 0)⟩, ⟨some 14, none, .mv (.t 4)⟩, ⟨some 15, none, .idx 1 (.t 13) (.t 14)⟩, ⟨some 16, none, .ld none (.t 15)⟩, ⟨some 17, none, .call (.f 31) [((.t 16), .r)]⟩, ⟨some 18, none, .bsl [(.t 17)]⟩, ⟨some 19, none, .app true 1 (.t 12) (.t 18)⟩, ⟨some 3, none, .asg (.t 19)⟩] [0, 3, 4]))
    (.region none [ ⟨some 10, none, .mv (.t 4)⟩, ⟨some 11, none, .bin .add (.t 10) (.c (.int .i64 1))⟩, ⟨some 4, none, .mv (.t 11)⟩] [0, 3, 4])))))) (.seq
    (.region none [ ⟨some 20, none, .mv (.t 3)⟩, ⟨some 2, none, .asg (.t 20)⟩] [2]) .ret))))

/-- impl.LambdaMaps -/
def c_impl_LambdaMaps : F where
  np := 1
  rs := [.t 2, .t 3]
  body :=
    (.seq
    (.region none [ ⟨some 1, none, .box (.t 0)⟩, ⟨some 2, none, .asg (.c (.slice none 0 0))⟩, ⟨some 3, none, .mv (.c (.int .i64 0))⟩] [1]) (.seq (.seq
    (.region none [ ⟨some 4, none, .ld (some 2) (.t 1)⟩, ⟨some 5, none, .call (.f 266) [((.t 4), .r)]⟩, ⟨some 6, none, .un .not (.t 5)⟩] [1, 6]) (.cond (.t 6) (.seq
    (.region none [ ⟨some 2, none, .asg (.c (.slice none 0 0))⟩, ⟨some 3, none, .mv (.c (.int .i64 1))⟩] [2, 3]) .ret) .skip)) (.seq
    (.region none [ ⟨some 7, none, .fld 0 (.t 1)⟩, ⟨some 8, none, .ld none (.t 7)⟩, ⟨some 9, none, .call (.f 275) [((.t 8), .r)]⟩, ⟨some 2, none, .asg (.t 9)⟩, ⟨some 3, none, .mv (.c (.int .i64 0))⟩] [2, 3]) .ret)))

/-- impl.cloneTable -/
def c_impl_cloneTable : F where
  np := 1
  rs := [.t 2]
  body :=
    (.seq
    (.region none [ ⟨some 2, none, .asg (.c (.slice none 0 0))⟩] [0]) (.seq
    (.region none [ ⟨some 6, none, .mv (.t 0)⟩, ⟨some 7, none, .len (.t 6)⟩, ⟨some 8, none, .mks (.slice none 0 0) (.t 7)⟩, ⟨some 3, none, .asg (.t 8)⟩] [0, 3]) (.seq (.seq
    (.region none [ ⟨some 9, none, .mv (.t 0)⟩, ⟨some 10, none, .len (.t 9)⟩, ⟨some 11, none, .mv (.c (.int .i64 0))⟩] [3, 9, 10, 11]) (.block 0 (.loop (.seq
    (.region none [ ⟨some 12, none, .bin .lss (.t 11) (.t 10)⟩] [3, 9, 10, 11, 12]) (.seq (.cond (.t 12) .skip (.exit 0)) (.seq (.block 1 (.seq
    (.region none [ ⟨some 13, none, .mv (.t 11)⟩, ⟨some 14, none, .idx 1 (.t 9) (.t 11)⟩, ⟨some 15, none, .ld none (.t 14)⟩, ⟨some 4, none, .mv (.t 13)⟩, ⟨some 5, none, .asg (.t 15)⟩] [3, 4, 5, 9, 10, 11])
    (.region none [ ⟨some 16, none, .mv (.t 3)⟩, ⟨some 17, none, .mv (.t 4)⟩, ⟨some 18, none, .mv (.t 5)⟩, ⟨some 19, none, .call (.f 36) [((.t 18), .r)]⟩, ⟨some 20, none, .idx 1 (.t 16) (.t 17)⟩, ⟨none, none, .st none (.t 20) (.t 19)⟩] [3, 9, 10, 11])))
    (.region none [ ⟨some 21, none, .bin .add (.t 11) (.c (.int .i64 1))⟩, ⟨some 11, none, .mv (.t 21)⟩] [3, 9, 10, 11]))))))) (.seq
    (.region none [ ⟨some 22, none, .mv (.t 3)⟩, ⟨some 2, none, .asg (.t 22)⟩] [2]) .ret))))

/-- spec.GuitarMap -/
def c_spec_GuitarMap : F where
  np := 2
  rs := [.t 4, .t 5]
  body :=
    (.seq
    (.region none [ ⟨some 2, none, .box (.t 0)⟩, ⟨some 4, none, .asg (.c (.slice none 0 0))⟩, ⟨some 5, none, .mv (.c (.int .i64 0))⟩] [1, 2]) (.seq (.seq
    (.region none [ ⟨some 11, none, .ld (some 2) (.t 2)⟩, ⟨some 12, none, .mv (.t 1)⟩, ⟨some 13, none, .call (.f 281) [((.t 11), .r), ((.t 12), .r)]⟩, ⟨some 6, none, .mv (.t 13)⟩] [1, 2, 6]) (.seq
    (.region none [ ⟨some 14, none, .mv (.t 6)⟩, ⟨some 15, none, .bin .neq (.t 14) (.c (.int .i64 0))⟩] [1, 2, 6, 15]) (.cond (.t 15) (.seq
    (.region none [ ⟨some 16, none, .mv (.t 6)⟩, ⟨some 4, none, .asg (.c (.slice none 0 0))⟩, ⟨some 5, none, .mv (.t 16)⟩] [4, 5]) .ret) .skip))) (.seq
    (.region none [ ⟨some 17, none, .bsl []⟩, ⟨some 7, none, .asg (.t 17)⟩] [1, 2, 7]) (.seq (.seq
    (.region none [ ⟨some 8, none, .mv (.c (.int .i64 0))⟩] [1, 2, 7, 8]) (.block 0 (.loop (.seq (.seq
    (.region none [ ⟨some 18, none, .mv (.t 8)⟩, ⟨some 19, none, .mv (.t 1)⟩, ⟨some 20, none, .len (.t 19)⟩, ⟨some 21, none, .bin .lss (.t 18) (.t 20)⟩] [1, 2, 7, 8, 21]) (.cond (.t 21) .skip (.exit 0))) (.seq (.block 1 (.seq
    (.region none [ ⟨some 24, none, .mv (.t 1)⟩, ⟨some 25, none, .mv (.t 8)⟩, ⟨some 26, none, .idx 1 (.t 24) (.t 25)⟩, ⟨some 27, none, .ld none (.t 26)⟩, ⟨some 9, none, .mv (.t 27)⟩] [1, 2, 7, 8, 9]) (.seq (.seq
    (.region none [ ⟨some 28, none, .mv (.t 8)⟩, ⟨some 29, none, .bin .sub (.t 28) (.c (.int .i64 1))⟩, ⟨some 10, none, .mv (.t 29)⟩] [1, 2, 7, 8, 9, 10]) (.block 2 (.loop (.seq (.seq
    (.region none [ ⟨some 30, none, .mv (.t 10)⟩, ⟨some 31, none, .bin .geq (.t 30) (.c (.int .i64 0))⟩] [1, 2, 7, 8, 9, 10, 31]) (.cond (.t 31) .skip (.exit 2))) (.seq (.block 3
    (.region (some [34, 35, 36, 37, 38, 39, 40, 41, 42]) [ ⟨some 34, none, .fld 0 (.t 2)⟩, ⟨some 35, none, .ld none (.t 34)⟩, ⟨some 36, none, .mv (.t 1)⟩, ⟨some 37, none, .mv (.t 10)⟩, ⟨some 38, none, .idx 1 (.t 36) (.t 37)⟩, ⟨some 39, none, .ld none (.t 38)⟩, ⟨some 40, none, .idx 1 (.t 35) (.t 39)⟩, ⟨some 41, none, .ld none (.t 40)⟩, ⟨some 42, none, .mv (.t 9)⟩, ⟨some 43, none, .idx 1 (.t 41) (.t 42)⟩, ⟨some 44, none, .ld none (.t 43)⟩, ⟨some 9, none, .mv (.t 44)⟩] [1, 2, 7, 8, 9, 10]))
    (.region none [ ⟨some 32, none, .mv (.t 10)⟩, ⟨some 33, none, .bin .sub (.t 32) (.c (.int .i64 1))⟩, ⟨some 10, none, .mv (.t 33)⟩] [1, 2, 7, 8, 9, 10]))))))
    (.region none [ ⟨some 45, none, .mv (.t 7)⟩, ⟨some 46, none, .mv (.t 9)⟩, ⟨some 47, none, .bsl [(.t 46)]⟩, ⟨some 48, none, .app true 1 (.t 45) (.t 47)⟩, ⟨some 7, none, .asg (.t 48)⟩] [1, 2, 7, 8]))))
    (.region none [ ⟨some 22, none, .mv (.t 8)⟩, ⟨some 23, none, .bin .add (.t 22) (.c (.int .i64 1))⟩, ⟨some 8, none, .mv (.t 23)⟩] [1, 2, 7, 8])))))) (.seq
    (.region none [ ⟨some 49, none, .mv (.t 7)⟩, ⟨some 4, none, .asg (.t 49)⟩, ⟨some 5, none, .mv (.c (.int .i64 0))⟩] [4, 5]) .ret)))))

/-- spec.l06Code -/
def c_spec_l06Code : F where
  np := 2
  rs := [.t 4]
  body :=
    (.seq
    (.region none [ ⟨some 2, none, .box (.t 0)⟩, ⟨some 4, none, .mv (.c (.int .i64 0))⟩] [1, 2]) (.seq (.block 0 (.seq
    (.region none [ ⟨some 6, none, .ld (some 2) (.t 2)⟩, ⟨some 7, none, .call (.f 41) [((.t 6), .r)]⟩, ⟨some 8, none, .un .not (.t 7)⟩, ⟨some 5, none, .mv (.t 8)⟩] [1, 2, 5]) (.cond (.t 5) (.seq
    (.region none [ ⟨some 4, none, .mv (.c (.int .i64 1))⟩] [4]) .ret) (.seq
    (.region none [ ⟨some 10, none, .fld 0 (.t 2)⟩, ⟨some 11, none, .ld none (.t 10)⟩, ⟨some 12, none, .len (.t 11)⟩, ⟨some 13, none, .mv (.t 1)⟩, ⟨some 14, none, .call (.f 29) [((.t 12), .r), ((.t 13), .r)]⟩, ⟨some 15, none, .un .not (.t 14)⟩, ⟨some 9, none, .mv (.t 15)⟩] [2, 9]) (.cond (.t 9) (.seq
    (.region none [ ⟨some 4, none, .mv (.c (.int .i64 2))⟩] [4]) .ret) (.seq
    (.region none [ ⟨some 17, none, .ld (some 2) (.t 2)⟩, ⟨some 18, none, .call (.f 283) [((.t 17), .r)]⟩, ⟨some 19, none, .un .not (.t 18)⟩, ⟨some 16, none, .mv (.t 19)⟩] [16]) (.cond (.t 16) (.seq
    (.region none [ ⟨some 4, none, .mv (.c (.int .i64 5))⟩] [4]) .ret) .skip))))))) (.seq
    (.region none [ ⟨some 4, none, .mv (.c (.int .i64 0))⟩] [4]) .ret)))

/-- spec.l06Plain -/
def c_spec_l06Plain : F where
  np := 1
  rs := [.t 2]
  body :=
    (.seq
    (.region none [ ⟨some 1, none, .box (.t 0)⟩, ⟨some 2, none, .mv (.c (.bool false))⟩] [1]) (.seq (.seq
    (.region none [ ⟨some 3, none, .mv (.c (.int .i64 0))⟩] [1, 3]) (.block 0 (.loop (.seq (.seq
    (.region none [ ⟨some 4, none, .mv (.t 3)⟩, ⟨some 5, none, .fld 0 (.t 1)⟩, ⟨some 6, none, .ld none (.t 5)⟩, ⟨some 7, none, .len (.t 6)⟩, ⟨some 8, none, .bin .lss (.t 4) (.t 7)⟩] [1, 3, 8]) (.cond (.t 8) .skip (.exit 0))) (.seq (.block 1 (.seq
    (.region none [ ⟨some 11, none, .fld 0 (.t 1)⟩, ⟨some 12, none, .ld none (.t 11)⟩, ⟨some 13, none, .mv (.t 3)⟩, ⟨some 14, none, .idx 1 (.t 12) (.t 13)⟩, ⟨some 15, none, .ld none (.t 14)⟩, ⟨some 16, none, .call (.f 47) [((.t 15), .r)]⟩, ⟨some 17, none, .un .not (.t 16)⟩, ⟨some 18, none, .mv (.t 17)⟩, ⟨some 19, (some (18, false)), .fld 1 (.t 1)⟩, ⟨some 20, (some (18, false)), .ld none (.t 19)⟩, ⟨some 21, (some (18, false)), .mv (.t 3)⟩, ⟨some 22, (some (18, false)), .call (.f 375) [((.t 20), .r), ((.t 21), .r)]⟩, ⟨some 23, (some (18, false)), .call (.f 47) [((.t 22), .r)]⟩, ⟨some 24, (some (18, false)), .un .not (.t 23)⟩, ⟨some 25, none, .pick (.t 18) (.c (.bool true)) (.t 24)⟩] [1, 3, 25]) (.cond (.t 25) (.seq
    (.region none [ ⟨some 2, none, .mv (.c (.bool false))⟩] [2]) .ret) .skip)))
    (.region none [ ⟨some 9, none, .mv (.t 3)⟩, ⟨some 10, none, .bin .add (.t 9) (.c (.int .i64 1))⟩, ⟨some 3, none, .mv (.t 10)⟩] [1, 3])))))) (.seq
    (.region none [ ⟨some 2, none, .mv (.c (.bool true))⟩] [2]) .ret)))

/-- impl.GuitarMap -/
def c_impl_GuitarMap : F where
  np := 2
  rs := [.t 4, .t 5]
  body :=
    (.seq
    (.region none [ ⟨some 2, none, .box (.t 0)⟩, ⟨some 4, none, .asg (.c (.slice none 0 0))⟩, ⟨some 5, none, .mv (.c (.int .i64 0))⟩] [1, 2]) (.seq (.seq
    (.region none [ ⟨some 10, none, .ld (some 2) (.t 2)⟩, ⟨some 11, none, .mv (.t 1)⟩, ⟨some 12, none, .call (.f 282) [((.t 10), .r), ((.t 11), .r)]⟩, ⟨some 6, none, .mv (.t 12)⟩] [1, 2, 6]) (.seq
    (.region none [ ⟨some 13, none, .mv (.t 6)⟩, ⟨some 14, none, .bin .neq (.t 13) (.c (.int .i64 0))⟩] [1, 2, 6, 14]) (.cond (.t 14) (.seq
    (.region none [ ⟨some 15, none, .mv (.t 6)⟩, ⟨some 4, none, .asg (.c (.slice none 0 0))⟩, ⟨some 5, none, .mv (.t 15)⟩] [4, 5]) .ret) .skip))) (.seq
    (.region none [ ⟨some 16, none, .mv (.t 1)⟩, ⟨some 17, none, .call (.f 36) [((.t 16), .r)]⟩, ⟨some 7, none, .asg (.t 17)⟩] [1, 2, 7]) (.seq (.seq
    (.region none [ ⟨some 18, none, .mv (.t 7)⟩, ⟨some 19, none, .len (.t 18)⟩, ⟨some 20, none, .mv (.c (.int .i64 0))⟩] [1, 2, 7, 19, 20]) (.block 0 (.loop (.seq
    (.region none [ ⟨some 21, none, .bin .lss (.t 20) (.t 19)⟩] [1, 2, 7, 19, 20, 21]) (.seq (.cond (.t 21) .skip (.exit 0)) (.seq (.block 1 (.seq
    (.region none [ ⟨some 22, none, .mv (.t 20)⟩, ⟨some 8, none, .mv (.t 22)⟩] [1, 2, 7, 8, 19, 20]) (.seq
    (.region none [ ⟨some 23, none, .mv (.t 8)⟩, ⟨some 24, none, .bin .sub (.t 23) (.c (.int .i64 1))⟩, ⟨some 9, none, .mv (.t 24)⟩] [1, 2, 7, 8, 9, 19, 20]) (.block 2 (.loop (.seq (.seq
    (.region none [ ⟨some 25, none, .mv (.t 9)⟩, ⟨some 26, none, .bin .geq (.t 25) (.c (.int .i64 0))⟩] [1, 2, 7, 8, 9, 19, 20, 26]) (.cond (.t 26) .skip (.exit 2))) (.seq (.block 3
    (.region (some [29, 30, 31, 32, 33, 34, 35, 36, 37, 38, 39, 40, 41, 42, 43, 44]) [ ⟨some 29, none, .mv (.t 7)⟩, ⟨some 30, none, .mv (.t 8)⟩, ⟨some 31, none, .fld 0 (.t 2)⟩, ⟨some 32, none, .ld none (.t 31)⟩, ⟨some 33, none, .mv (.t 1)⟩, ⟨some 34, none, .mv (.t 9)⟩, ⟨some 35, none, .idx 1 (.t 33) (.t 34)⟩, ⟨some 36, none, .ld none (.t 35)⟩, ⟨some 37, none, .idx 1 (.t 32) (.t 36)⟩, ⟨some 38, none, .ld none (.t 37)⟩, ⟨some 39, none, .mv (.t 7)⟩, ⟨some 40, none, .mv (.t 8)⟩, ⟨some 41, none, .idx 1 (.t 39) (.t 40)⟩, ⟨some 42, none, .ld none (.t 41)⟩, ⟨some 43, none, .idx 1 (.t 38) (.t 42)⟩, ⟨some 44, none, .ld none (.t 43)⟩, ⟨some 45, none, .idx 1 (.t 29) (.t 30)⟩, ⟨none, none, .st none (.t 45) (.t 44)⟩] [1, 2, 7, 8, 9, 19, 20]))
    (.region none [ ⟨some 27, none, .mv (.t 9)⟩, ⟨some 28, none, .bin .sub (.t 27) (.c (.int .i64 1))⟩, ⟨some 9, none, .mv (.t 28)⟩] [1, 2, 7, 8, 9, 19, 20]))))))))
    (.region none [ ⟨some 46, none, .bin .add (.t 20) (.c (.int .i64 1))⟩, ⟨some 20, none, .mv (.t 46)⟩] [1, 2, 7, 19, 20]))))))) (.seq
    (.region none [ ⟨some 47, none, .mv (.t 7)⟩, ⟨some 4, none, .asg (.t 47)⟩, ⟨some 5, none, .mv (.c (.int .i64 0))⟩] [4, 5]) .ret)))))

/-- impl.checkGuitar -/
def c_impl_checkGuitar : F where
  np := 2
  rs := [.t 4]
  body :=
    (.seq
    (.region none [ ⟨some 2, none, .box (.t 0)⟩, ⟨some 4, none, .mv (.c (.int .i64 0))⟩] [1, 2]) (.seq (.block 0 (.seq
    (.region none [ ⟨some 6, none, .ld (some 2) (.t 2)⟩, ⟨some 7, none, .call (.f 42) [((.t 6), .r)]⟩, ⟨some 8, none, .un .not (.t 7)⟩, ⟨some 5, none, .mv (.t 8)⟩] [1, 2, 5]) (.cond (.t 5) (.seq
    (.region none [ ⟨some 4, none, .mv (.c (.int .i64 1))⟩] [4]) .ret) (.seq
    (.region none [ ⟨some 10, none, .fld 0 (.t 2)⟩, ⟨some 11, none, .ld none (.t 10)⟩, ⟨some 12, none, .len (.t 11)⟩, ⟨some 13, none, .mv (.t 1)⟩, ⟨some 14, none, .call (.f 34) [((.t 12), .r), ((.t 13), .r)]⟩, ⟨some 15, none, .un .not (.t 14)⟩, ⟨some 9, none, .mv (.t 15)⟩] [2, 9]) (.cond (.t 9) (.seq
    (.region none [ ⟨some 4, none, .mv (.c (.int .i64 2))⟩] [4]) .ret) (.seq
    (.region none [ ⟨some 17, none, .ld (some 2) (.t 2)⟩, ⟨some 18, none, .call (.f 285) [((.t 17), .r)]⟩, ⟨some 19, none, .un .not (.t 18)⟩, ⟨some 16, none, .mv (.t 19)⟩] [16]) (.cond (.t 16) (.seq
    (.region none [ ⟨some 4, none, .mv (.c (.int .i64 5))⟩] [4]) .ret) .skip))))))) (.seq
    (.region none [ ⟨some 4, none, .mv (.c (.int .i64 0))⟩] [4]) .ret)))

/-- spec.DerivedRack -/
def c_spec_DerivedRack : F where
  np := 1
  rs := [.cell 2 (some 1), .t 3]
  body :=
    (.seq
    (.region none [ ⟨some 1, none, .box (.t 0)⟩, ⟨some 2, none, .alloc [(.slice none 0 0)]⟩, ⟨some 3, none, .mv (.c (.int .i64 0))⟩] [1, 2]) (.seq (.block 0 (.seq
    (.region none [ ⟨some 5, none, .ld (some 2) (.t 1)⟩, ⟨some 6, none, .call (.f 41) [((.t 5), .r)]⟩, ⟨some 7, none, .un .not (.t 6)⟩, ⟨some 4, none, .mv (.t 7)⟩] [1, 2, 4]) (.cond (.t 4) (.seq
    (.region none [ ⟨some 8, none, .build [(.slice none 0 0)] []⟩, ⟨none, none, .st (some 1) (.t 2) (.t 8)⟩, ⟨some 3, none, .mv (.c (.int .i64 1))⟩] [2, 3]) .ret) (.seq
    (.region none [ ⟨some 10, none, .ld (some 2) (.t 1)⟩, ⟨some 11, none, .call (.f 283) [((.t 10), .r)]⟩, ⟨some 12, none, .un .not (.t 11)⟩, ⟨some 9, none, .mv (.t 12)⟩] [1, 2, 9]) (.cond (.t 9) (.seq
    (.region none [ ⟨some 13, none, .build [(.slice none 0 0)] []⟩, ⟨none, none, .st (some 1) (.t 2) (.t 13)⟩, ⟨some 3, none, .mv (.c (.int .i64 5))⟩] [2, 3]) .ret) .skip))))) (.seq
    (.region none [ ⟨some 14, none, .ld (some 2) (.t 1)⟩, ⟨some 15, none, .call (.f 284) [((.t 14), .r)]⟩, ⟨none, none, .st (some 1) (.t 2) (.t 15)⟩, ⟨some 3, none, .mv (.c (.int .i64 0))⟩] [2, 3]) .ret)))

/-- spec.l06Rack -/
def c_spec_l06Rack : F where
  np := 1
  rs := [.cell 2 (some 1)]
  body :=
    (.seq
    (.region none [ ⟨some 1, none, .box (.t 0)⟩, ⟨some 2, none, .alloc [(.slice none 0 0)]⟩] [1, 2]) (.seq
    (.region none [ ⟨some 9, none, .fld 0 (.t 1)⟩, ⟨some 10, none, .ld none (.t 9)⟩, ⟨some 11, none, .len (.t 10)⟩, ⟨some 3, none, .mv (.t 11)⟩] [1, 2, 3]) (.seq
    (.region none [ ⟨some 12, none, .build [(.slice none 0 0)] []⟩, ⟨some 4, none, .alloc [(.slice none 0 0)]⟩, ⟨none, none, .st (some 1) (.t 4) (.t 12)⟩] [1, 2, 3, 4]) (.seq (.seq
    (.region none [ ⟨some 5, none, .mv (.c (.int .i64 0))⟩] [1, 2, 3, 4, 5]) (.block 0 (.loop (.seq (.seq
    (.region none [ ⟨some 13, none, .mv (.t 5)⟩, ⟨some 14, none, .mv (.t 3)⟩, ⟨some 15, none, .bin .lss (.t 13) (.t 14)⟩] [1, 2, 3, 4, 5, 15]) (.cond (.t 15) .skip (.exit 0))) (.seq (.block 1 (.seq
    (.region none [ ⟨some 18, none, .bsl []⟩, ⟨some 6, none, .asg (.t 18)⟩] [1, 2, 3, 4, 5, 6]) (.seq (.seq
    (.region none [ ⟨some 7, none, .mv (.c (.int .i64 0))⟩] [1, 2, 3, 4, 5, 6, 7]) (.block 2 (.loop (.seq (.seq
    (.region none [ ⟨some 19, none, .mv (.t 7)⟩, ⟨some 20, none, .mv (.t 3)⟩, ⟨some 21, none, .bin .lss (.t 19) (.t 20)⟩] [1, 2, 3, 4, 5, 6, 7, 21]) (.cond (.t 21) .skip (.exit 2))) (.seq (.block 3 (.seq
    (.region none [ ⟨some 24, none, .fld 0 (.t 1)⟩, ⟨some 25, none, .ld none (.t 24)⟩, ⟨some 26, none, .mv (.t 7)⟩, ⟨some 27, none, .idx 1 (.t 25) (.t 26)⟩, ⟨some 28, none, .ld none (.t 27)⟩, ⟨some 29, none, .mv (.t 5)⟩, ⟨some 30, none, .call (.f 69) [((.t 28), .r), ((.t 29), .r)]⟩, ⟨some 8, none, .mv (.t 30)⟩] [1, 2, 3, 4, 5, 6, 7, 8])
    (.region (some [31, 32, 33, 34, 35, 36, 37, 38, 39, 40, 41, 42, 43, 44, 45, 46, 47]) [ ⟨some 31, none, .mv (.t 6)⟩, ⟨some 32, none, .fld 0 (.t 1)⟩, ⟨some 33, none, .ld none (.t 32)⟩, ⟨some 34, none, .mv (.t 5)⟩, ⟨some 35, none, .idx 1 (.t 33) (.t 34)⟩, ⟨some 36, none, .ld none (.t 35)⟩, ⟨some 37, none, .fld 1 (.t 1)⟩, ⟨some 38, none, .ld none (.t 37)⟩, ⟨some 39, none, .mv (.t 7)⟩, ⟨some 40, none, .idx 1 (.t 38) (.t 39)⟩, ⟨some 41, none, .ld none (.t 40)⟩, ⟨some 42, none, .mv (.t 8)⟩, ⟨some 43, none, .idx 1 (.t 41) (.t 42)⟩, ⟨some 44, none, .ld none (.t 43)⟩, ⟨some 45, none, .idx 1 (.t 36) (.t 44)⟩, ⟨some 46, none, .ld none (.t 45)⟩, ⟨some 47, none, .bsl [(.t 46)]⟩, ⟨some 48, none, .app true 1 (.t 31) (.t 47)⟩, ⟨some 6, none, .asg (.t 48)⟩] [1, 2, 3, 4, 5, 6, 7])))
    (.region none [ ⟨some 22, none, .mv (.t 7)⟩, ⟨some 23, none, .bin .add (.t 22) (.c (.int .i64 1))⟩, ⟨some 7, none, .mv (.t 23)⟩] [1, 2, 3, 4, 5, 6, 7]))))))
    (.region none [ ⟨some 49, none, .fld 0 (.t 4)⟩, ⟨some 50, none, .ld none (.t 49)⟩, ⟨some 51, none, .mv (.t 6)⟩, ⟨some 52, none, .bsl [(.t 51)]⟩, ⟨some 53, none, .app true 1 (.t 50) (.t 52)⟩, ⟨some 54, none, .fld 0 (.t 4)⟩, ⟨none, none, .st none (.t 54) (.t 53)⟩] [1, 2, 3, 4, 5]))))
    (.region none [ ⟨some 16, none, .mv (.t 5)⟩, ⟨some 17, none, .bin .add (.t 16) (.c (.int .i64 1))⟩, ⟨some 5, none, .mv (.t 17)⟩] [1, 2, 3, 4, 5])))))) (.seq
    (.region none [ ⟨some 55, none, .ld (some 1) (.t 4)⟩, ⟨none, none, .st (some 1) (.t 2) (.t 55)⟩] [2]) .ret)))))

/-- impl.DerivedRack -/
def c_impl_DerivedRack : F where
  np := 1
  rs := [.cell 2 (some 1), .t 3]
  body :=
    (.seq
    (.region none [ ⟨some 1, none, .box (.t 0)⟩, ⟨some 2, none, .alloc [(.slice none 0 0)]⟩, ⟨some 3, none, .mv (.c (.int .i64 0))⟩] [1, 2]) (.seq (.seq
    (.region none [ ⟨some 4, none, .ld (some 2) (.t 1)⟩, ⟨some 5, none, .call (.f 42) [((.t 4), .r)]⟩, ⟨some 6, none, .un .not (.t 5)⟩] [1, 2, 6]) (.cond (.t 6) (.seq
    (.region none [ ⟨some 7, none, .build [(.slice none 0 0)] []⟩, ⟨none, none, .st (some 1) (.t 2) (.t 7)⟩, ⟨some 3, none, .mv (.c (.int .i64 1))⟩] [2, 3]) .ret) .skip)) (.seq (.seq
    (.region none [ ⟨some 8, none, .ld (some 2) (.t 1)⟩, ⟨some 9, none, .call (.f 285) [((.t 8), .r)]⟩, ⟨some 10, none, .un .not (.t 9)⟩] [1, 2, 10]) (.cond (.t 10) (.seq
    (.region none [ ⟨some 11, none, .build [(.slice none 0 0)] []⟩, ⟨none, none, .st (some 1) (.t 2) (.t 11)⟩, ⟨some 3, none, .mv (.c (.int .i64 5))⟩] [2, 3]) .ret) .skip)) (.seq
    (.region none [ ⟨some 12, none, .ld (some 2) (.t 1)⟩, ⟨some 13, none, .call (.f 286) [((.t 12), .r)]⟩, ⟨none, none, .st (some 1) (.t 2) (.t 13)⟩, ⟨some 3, none, .mv (.c (.int .i64 0))⟩] [2, 3]) .ret))))

/-- impl.derivedRack -/
def c_impl_derivedRack : F where
  np := 1
  rs := [.cell 2 (some 1)]
  body :=
    (.seq
    (.region none [ ⟨some 1, none, .box (.t 0)⟩, ⟨some 2, none, .alloc [(.slice none 0 0)]⟩] [1, 2]) (.seq
    (.region none [ ⟨some 3, none, .fld 0 (.t 1)⟩, ⟨some 4, none, .ld none (.t 3)⟩, ⟨some 5, none, .len (.t 4)⟩, ⟨some 6, none, .fnc 383 [(.t 1)]⟩, ⟨some 7, none, .call (.f 376) [((.t 5), .r), ((.t 6), .r)]⟩, ⟨some 8, none, .build [(.slice none 0 0)] [(0, 1, (.t 7))]⟩, ⟨none, none, .st (some 1) (.t 2) (.t 8)⟩] [2]) .ret))

/-- impl.derivedRack$1 -/
def c_impl_derivedRack_1 : F where
  np := 3
  rs := [.t 5]
  body :=
    (.seq
    (.region none [ ⟨some 5, none, .mv (.c (.int .i64 0))⟩] [0, 1, 2]) (.seq
    (.region none [ ⟨some 7, none, .fld 0 (.t 2)⟩, ⟨some 8, none, .ld none (.t 7)⟩, ⟨some 9, none, .mv (.t 1)⟩, ⟨some 10, none, .idx 1 (.t 8) (.t 9)⟩, ⟨some 11, none, .ld none (.t 10)⟩, ⟨some 12, none, .mv (.t 0)⟩, ⟨some 13, none, .call (.f 287) [((.t 11), .r), ((.t 12), .r)]⟩, ⟨some 6, none, .mv (.t 13)⟩] [0, 1, 2, 6]) (.seq
    (.region (some [14, 15, 16, 17, 18, 19, 20, 21, 22, 23, 24, 25, 26]) [ ⟨some 14, none, .fld 0 (.t 2)⟩, ⟨some 15, none, .ld none (.t 14)⟩, ⟨some 16, none, .mv (.t 0)⟩, ⟨some 17, none, .idx 1 (.t 15) (.t 16)⟩, ⟨some 18, none, .ld none (.t 17)⟩, ⟨some 19, none, .fld 1 (.t 2)⟩, ⟨some 20, none, .ld none (.t 19)⟩, ⟨some 21, none, .mv (.t 1)⟩, ⟨some 22, none, .idx 1 (.t 20) (.t 21)⟩, ⟨some 23, none, .ld none (.t 22)⟩, ⟨some 24, none, .mv (.t 6)⟩, ⟨some 25, none, .idx 1 (.t 23) (.t 24)⟩, ⟨some 26, none, .ld none (.t 25)⟩, ⟨some 27, none, .idx 1 (.t 18) (.t 26)⟩, ⟨some 28, none, .ld none (.t 27)⟩, ⟨some 5, none, .mv (.t 28)⟩] [5]) .ret)))

/-- impl.indexIn -/
def c_impl_indexIn : F where
  np := 2
  rs := [.t 4]
  body :=
    (.seq
    (.region none [ ⟨some 4, none, .mv (.c (.int .i64 0))⟩] [0, 1]) (.seq
    (.region none [ ⟨some 5, none, .mv (.t 0)⟩, ⟨some 6, none, .mv (.t 1)⟩, ⟨some 7, none, .call (.f 384) [((.t 5), .r), ((.t 6), .r)]⟩, ⟨some 4, none, .mv (.t 7)⟩] [4]) .ret))

/-- slices.Index[[]int64,int64] -/
def c_slices_Index___int64_int64_ : F where
  np := 2
  rs := [.t 4]
  body :=
    (.seq
    (.region none [ ⟨some 4, none, .mv (.c (.int .i64 0))⟩] [0, 1]) (.seq (.seq
    (.region none [ ⟨some 6, none, .mv (.t 0)⟩, ⟨some 7, none, .len (.t 6)⟩, ⟨some 8, none, .mv (.c (.int .i64 0))⟩] [0, 1, 7, 8]) (.block 0 (.loop (.seq
    (.region none [ ⟨some 9, none, .bin .lss (.t 8) (.t 7)⟩] [0, 1, 7, 8, 9]) (.seq (.cond (.t 9) .skip (.exit 0)) (.seq (.block 1 (.seq
    (.region none [ ⟨some 10, none, .mv (.t 8)⟩, ⟨some 5, none, .mv (.t 10)⟩] [0, 1, 5, 7, 8]) (.seq
    (.region none [ ⟨some 11, none, .mv (.t 1)⟩, ⟨some 12, none, .mv (.t 0)⟩, ⟨some 13, none, .mv (.t 5)⟩, ⟨some 14, none, .idx 1 (.t 12) (.t 13)⟩, ⟨some 15, none, .ld none (.t 14)⟩, ⟨some 16, none, .bin .eql (.t 11) (.t 15)⟩] [0, 1, 5, 7, 8, 16]) (.cond (.t 16) (.seq
    (.region none [ ⟨some 17, none, .mv (.t 5)⟩, ⟨some 4, none, .mv (.t 17)⟩] [4]) .ret) .skip))))
    (.region none [ ⟨some 18, none, .bin .add (.t 8) (.c (.int .i64 1))⟩, ⟨some 8, none, .mv (.t 18)⟩] [0, 1, 7, 8]))))))) (.seq
    (.region none [ ⟨some 4, none, .mv (.c (.int .i64 (-1)))⟩] [4]) .ret)))

/-- laws.heldRack -/
def c_laws_heldRack : F where
  np := 2
  rs := [.t 4]
  body :=
    (.seq
    (.region none [ ⟨some 2, none, .box (.t 0)⟩, ⟨some 4, none, .mv (.c (.int .i64 0))⟩] [1, 2]) (.seq
    (.region none [ ⟨some 5, none, .fld 0 (.t 2)⟩, ⟨some 6, none, .ld none (.t 5)⟩, ⟨some 7, none, .mv (.t 1)⟩, ⟨some 8, none, .call (.f 24) [((.t 6), .r), ((.t 7), .r)]⟩, ⟨some 1, none, .mv (.t 8)⟩] [1]) (.seq (.seq
    (.region none [ ⟨some 9, none, .mv (.t 1)⟩, ⟨some 10, none, .bin .lss (.t 9) (.c (.int .i64 0))⟩] [1, 10]) (.cond (.t 10) (.seq
    (.region none [ ⟨some 4, none, .mv (.c (.int .i64 (-1)))⟩] [4]) .ret) .skip)) (.seq
    (.region none [ ⟨some 11, none, .mv (.t 1)⟩, ⟨some 4, none, .mv (.t 11)⟩] [4]) .ret))))

/-- spec.GuitarBack -/
def c_spec_GuitarBack : F where
  np := 2
  rs := [.t 4, .t 5]
  body :=
    (.seq
    (.region none [ ⟨some 2, none, .box (.t 0)⟩, ⟨some 4, none, .asg (.c (.slice none 0 0))⟩, ⟨some 5, none, .mv (.c (.int .i64 0))⟩] [1, 2]) (.seq (.seq
    (.region none [ ⟨some 11, none, .ld (some 2) (.t 2)⟩, ⟨some 12, none, .mv (.t 1)⟩, ⟨some 13, none, .call (.f 281) [((.t 11), .r), ((.t 12), .r)]⟩, ⟨some 6, none, .mv (.t 13)⟩] [1, 2, 6]) (.seq
    (.region none [ ⟨some 14, none, .mv (.t 6)⟩, ⟨some 15, none, .bin .neq (.t 14) (.c (.int .i64 0))⟩] [1, 2, 6, 15]) (.cond (.t 15) (.seq
    (.region none [ ⟨some 16, none, .mv (.t 6)⟩, ⟨some 4, none, .asg (.c (.slice none 0 0))⟩, ⟨some 5, none, .mv (.t 16)⟩] [4, 5]) .ret) .skip))) (.seq
    (.region none [ ⟨some 17, none, .bsl []⟩, ⟨some 7, none, .asg (.t 17)⟩] [1, 2, 7]) (.seq (.seq
    (.region none [ ⟨some 8, none, .mv (.c (.int .i64 0))⟩] [1, 2, 7, 8]) (.block 0 (.loop (.seq (.seq
    (.region none [ ⟨some 18, none, .mv (.t 8)⟩, ⟨some 19, none, .mv (.t 1)⟩, ⟨some 20, none, .len (.t 19)⟩, ⟨some 21, none, .bin .lss (.t 18) (.t 20)⟩] [1, 2, 7, 8, 21]) (.cond (.t 21) .skip (.exit 0))) (.seq (.block 1 (.seq
    (.region none [ ⟨some 24, none, .mv (.t 1)⟩, ⟨some 25, none, .mv (.t 8)⟩, ⟨some 26, none, .idx 1 (.t 24) (.t 25)⟩, ⟨some 27, none, .ld none (.t 26)⟩, ⟨some 9, none, .mv (.t 27)⟩] [1, 2, 7, 8, 9]) (.seq (.seq
    (.region none [ ⟨some 10, none, .mv (.c (.int .i64 0))⟩] [1, 2, 7, 8, 9, 10]) (.block 2 (.loop (.seq (.seq
    (.region none [ ⟨some 28, none, .mv (.t 10)⟩, ⟨some 29, none, .mv (.t 8)⟩, ⟨some 30, none, .bin .lss (.t 28) (.t 29)⟩] [1, 2, 7, 8, 9, 10, 30]) (.cond (.t 30) .skip (.exit 2))) (.seq (.block 3
    (.region (some [33, 34, 35, 36, 37, 38, 39, 40, 41]) [ ⟨some 33, none, .fld 0 (.t 2)⟩, ⟨some 34, none, .ld none (.t 33)⟩, ⟨some 35, none, .mv (.t 7)⟩, ⟨some 36, none, .mv (.t 10)⟩, ⟨some 37, none, .idx 1 (.t 35) (.t 36)⟩, ⟨some 38, none, .ld none (.t 37)⟩, ⟨some 39, none, .idx 1 (.t 34) (.t 38)⟩, ⟨some 40, none, .ld none (.t 39)⟩, ⟨some 41, none, .mv (.t 9)⟩, ⟨some 42, none, .call (.f 69) [((.t 40), .r), ((.t 41), .r)]⟩, ⟨some 9, none, .mv (.t 42)⟩] [1, 2, 7, 8, 9, 10]))
    (.region none [ ⟨some 31, none, .mv (.t 10)⟩, ⟨some 32, none, .bin .add (.t 31) (.c (.int .i64 1))⟩, ⟨some 10, none, .mv (.t 32)⟩] [1, 2, 7, 8, 9, 10]))))))
    (.region none [ ⟨some 43, none, .mv (.t 7)⟩, ⟨some 44, none, .mv (.t 9)⟩, ⟨some 45, none, .bsl [(.t 44)]⟩, ⟨some 46, none, .app true 1 (.t 43) (.t 45)⟩, ⟨some 7, none, .asg (.t 46)⟩] [1, 2, 7, 8]))))
    (.region none [ ⟨some 22, none, .mv (.t 8)⟩, ⟨some 23, none, .bin .add (.t 22) (.c (.int .i64 1))⟩, ⟨some 8, none, .mv (.t 23)⟩] [1, 2, 7, 8])))))) (.seq
    (.region none [ ⟨some 47, none, .mv (.t 7)⟩, ⟨some 4, none, .asg (.t 47)⟩, ⟨some 5, none, .mv (.c (.int .i64 0))⟩] [4, 5]) .ret)))))

/-- impl.GuitarBack -/
def c_impl_GuitarBack : F where
  np := 2
  rs := [.t 4, .t 5]
  body :=
    (.seq
    (.region none [ ⟨some 2, none, .box (.t 0)⟩, ⟨some 4, none, .asg (.c (.slice none 0 0))⟩, ⟨some 5, none, .mv (.c (.int .i64 0))⟩] [1, 2]) (.seq (.seq
    (.region none [ ⟨some 10, none, .ld (some 2) (.t 2)⟩, ⟨some 11, none, .mv (.t 1)⟩, ⟨some 12, none, .call (.f 282) [((.t 10), .r), ((.t 11), .r)]⟩, ⟨some 6, none, .mv (.t 12)⟩] [1, 2, 6]) (.seq
    (.region none [ ⟨some 13, none, .mv (.t 6)⟩, ⟨some 14, none, .bin .neq (.t 13) (.c (.int .i64 0))⟩] [1, 2, 6, 14]) (.cond (.t 14) (.seq
    (.region none [ ⟨some 15, none, .mv (.t 6)⟩, ⟨some 4, none, .asg (.c (.slice none 0 0))⟩, ⟨some 5, none, .mv (.t 15)⟩] [4, 5]) .ret) .skip))) (.seq
    (.region none [ ⟨some 16, none, .mv (.t 1)⟩, ⟨some 17, none, .call (.f 36) [((.t 16), .r)]⟩, ⟨some 7, none, .asg (.t 17)⟩] [2, 7]) (.seq (.seq
    (.region none [ ⟨some 18, none, .mv (.t 7)⟩, ⟨some 19, none, .len (.t 18)⟩, ⟨some 20, none, .mv (.c (.int .i64 0))⟩] [2, 7, 19, 20]) (.block 0 (.loop (.seq
    (.region none [ ⟨some 21, none, .bin .lss (.t 20) (.t 19)⟩] [2, 7, 19, 20, 21]) (.seq (.cond (.t 21) .skip (.exit 0)) (.seq (.block 1 (.seq
    (.region none [ ⟨some 22, none, .mv (.t 20)⟩, ⟨some 8, none, .mv (.t 22)⟩] [2, 7, 8, 19, 20]) (.seq
    (.region none [ ⟨some 23, none, .mv (.t 8)⟩, ⟨some 24, none, .mv (.c (.int .i64 0))⟩] [2, 7, 8, 19, 20, 23, 24]) (.block 2 (.loop (.seq
    (.region none [ ⟨some 25, none, .bin .lss (.t 24) (.t 23)⟩] [2, 7, 8, 19, 20, 23, 24, 25]) (.seq (.cond (.t 25) .skip (.exit 2)) (.seq (.block 3 (.seq
    (.region none [ ⟨some 26, none, .mv (.t 24)⟩, ⟨some 9, none, .mv (.t 26)⟩] [2, 7, 8, 9, 19, 20, 23, 24])
    (.region (some [27, 28, 29, 30, 31, 32, 33, 34, 35, 36, 37, 38, 39, 40, 41]) [ ⟨some 27, none, .mv (.t 7)⟩, ⟨some 28, none, .mv (.t 8)⟩, ⟨some 29, none, .fld 0 (.t 2)⟩, ⟨some 30, none, .ld none (.t 29)⟩, ⟨some 31, none, .mv (.t 7)⟩, ⟨some 32, none, .mv (.t 9)⟩, ⟨some 33, none, .idx 1 (.t 31) (.t 32)⟩, ⟨some 34, none, .ld none (.t 33)⟩, ⟨some 35, none, .idx 1 (.t 30) (.t 34)⟩, ⟨some 36, none, .ld none (.t 35)⟩, ⟨some 37, none, .mv (.t 7)⟩, ⟨some 38, none, .mv (.t 8)⟩, ⟨some 39, none, .idx 1 (.t 37) (.t 38)⟩, ⟨some 40, none, .ld none (.t 39)⟩, ⟨some 41, none, .call (.f 287) [((.t 36), .r), ((.t 40), .r)]⟩, ⟨some 42, none, .idx 1 (.t 27) (.t 28)⟩, ⟨none, none, .st none (.t 42) (.t 41)⟩] [2, 7, 8, 19, 20, 23, 24])))
    (.region none [ ⟨some 43, none, .bin .add (.t 24) (.c (.int .i64 1))⟩, ⟨some 24, none, .mv (.t 43)⟩] [2, 7, 8, 19, 20, 23, 24])))))))))
    (.region none [ ⟨some 44, none, .bin .add (.t 20) (.c (.int .i64 1))⟩, ⟨some 20, none, .mv (.t 44)⟩] [2, 7, 19, 20]))))))) (.seq
    (.region none [ ⟨some 45, none, .mv (.t 7)⟩, ⟨some 4, none, .asg (.t 45)⟩, ⟨some 5, none, .mv (.c (.int .i64 0))⟩] [4, 5]) .ret)))))

end Go.Mch
