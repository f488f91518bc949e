/- Compact code of the functions that statements 13 to 36 reach further. -/
import Derived.Test.YtmojfojdkolaiaaM1
namespace Go.Mch

/-- spec.l01Greatest -/
def c_spec_l01Greatest : F where
  np := 1
  rs := [.t 2]
  body :=
    (.seq
    (.region none [ ⟨some 2, none, .mv (.c (.int .i64 0))⟩] [0]) (.seq
    (.region none [ ⟨some 3, none, .mv (.c (.int .i64 0))⟩] [0, 3]) (.seq (.seq
    (.region none [ ⟨some 4, none, .mv (.c (.int .i64 0))⟩] [0, 3, 4]) (.block 0 (.loop (.seq (.seq
    (.region none [ ⟨some 5, none, .mv (.t 4)⟩, ⟨some 6, none, .mv (.t 0)⟩, ⟨some 7, none, .len (.t 6)⟩, ⟨some 8, none, .bin .lss (.t 5) (.t 7)⟩] [0, 3, 4, 8]) (.cond (.t 8) .skip (.exit 0))) (.seq (.block 1 (.seq
    (.region none [ ⟨some 11, none, .mv (.t 0)⟩, ⟨some 12, none, .mv (.t 4)⟩, ⟨some 13, none, .idx 1 (.t 11) (.t 12)⟩, ⟨some 14, none, .ld none (.t 13)⟩, ⟨some 15, none, .mv (.t 3)⟩, ⟨some 16, none, .bin .geq (.t 14) (.t 15)⟩] [0, 3, 4, 16]) (.cond (.t 16)
    (.region none [ ⟨some 17, none, .mv (.t 0)⟩, ⟨some 18, none, .mv (.t 4)⟩, ⟨some 19, none, .idx 1 (.t 17) (.t 18)⟩, ⟨some 20, none, .ld none (.t 19)⟩, ⟨some 21, none, .bin .add (.t 20) (.c (.int .i64 1))⟩, ⟨some 3, none, .mv (.t 21)⟩] [0, 3, 4]) .skip)))
    (.region none [ ⟨some 9, none, .mv (.t 4)⟩, ⟨some 10, none, .bin .add (.t 9) (.c (.int .i64 1))⟩, ⟨some 4, none, .mv (.t 10)⟩] [0, 3, 4])))))) (.seq
    (.region none [ ⟨some 22, none, .mv (.t 3)⟩, ⟨some 2, none, .mv (.t 22)⟩] [2]) .ret))))

/-- slices.Max[[]int64,int64] -/
def c_slices_Max___int64_int64_ : F where
  np := 1
  rs := [.t 2]
  body :=
    (.seq
    (.region none [ ⟨some 2, none, .mv (.c (.int .i64 0))⟩] [0]) (.seq (.seq
    (.region none [ ⟨some 5, none, .mv (.t 0)⟩, ⟨some 6, none, .len (.t 5)⟩, ⟨some 7, none, .bin .lss (.t 6) (.c (.int .i64 1))⟩] [0, 7]) (.cond (.t 7) .stuck .skip)) (.seq
    (.region none [ ⟨some 9, none, .mv (.t 0)⟩, ⟨some 10, none, .idx 1 (.t 9) (.c (.int .i64 0))⟩, ⟨some 11, none, .ld none (.t 10)⟩, ⟨some 3, none, .mv (.t 11)⟩] [0, 3]) (.seq (.seq
    (.region none [ ⟨some 4, none, .mv (.c (.int .i64 1))⟩] [0, 3, 4]) (.block 0 (.loop (.seq (.seq
    (.region none [ ⟨some 12, none, .mv (.t 4)⟩, ⟨some 13, none, .mv (.t 0)⟩, ⟨some 14, none, .len (.t 13)⟩, ⟨some 15, none, .bin .lss (.t 12) (.t 14)⟩] [0, 3, 4, 15]) (.cond (.t 15) .skip (.exit 0))) (.seq (.block 1
    (.region none [ ⟨some 18, none, .mv (.t 3)⟩, ⟨some 19, none, .mv (.t 0)⟩, ⟨some 20, none, .mv (.t 4)⟩, ⟨some 21, none, .idx 1 (.t 19) (.t 20)⟩, ⟨some 22, none, .ld none (.t 21)⟩, ⟨some 23, none, .mm true (.t 18) (.t 22)⟩, ⟨some 3, none, .mv (.t 23)⟩] [0, 3, 4]))
    (.region none [ ⟨some 16, none, .mv (.t 4)⟩, ⟨some 17, none, .bin .add (.t 16) (.c (.int .i64 1))⟩, ⟨some 4, none, .mv (.t 17)⟩] [0, 3, 4])))))) (.seq
    (.region none [ ⟨some 24, none, .mv (.t 3)⟩, ⟨some 2, none, .mv (.t 24)⟩] [2]) .ret)))))

/-- spec.l07Both -/
def c_spec_l07Both : F where
  np := 1
  rs := [.t 2]
  body :=
    (.seq
    (.region none [ ⟨some 1, none, .box (.t 0)⟩, ⟨some 2, none, .asg (.c (.slice none 0 0))⟩] [1]) (.seq
    (.region (some [3, 4, 5, 6, 7]) [ ⟨some 3, none, .fld 0 (.t 1)⟩, ⟨some 4, none, .ld none (.t 3)⟩, ⟨some 5, none, .call (.f 280) [((.t 4), .r)]⟩, ⟨some 6, none, .fld 1 (.t 1)⟩, ⟨some 7, none, .ld none (.t 6)⟩, ⟨some 8, none, .call (.f 265) [((.t 7), .r)]⟩, ⟨some 9, none, .app true 1 (.t 5) (.t 8)⟩, ⟨some 2, none, .asg (.t 9)⟩] [2]) .ret))

/-- spec.l01Orbit -/
def c_spec_l01Orbit : F where
  np := 2
  rs := [.t 4]
  body :=
    (.seq
    (.region none [ ⟨some 4, none, .asg (.c (.slice none 0 0))⟩] [0, 1]) (.seq
    (.region none [ ⟨some 8, none, .mv (.t 1)⟩, ⟨some 9, none, .bsl [(.t 8)]⟩, ⟨some 5, none, .asg (.t 9)⟩] [0, 5]) (.seq (.seq
    (.region none [ ⟨some 6, none, .mv (.c (.int .i64 0))⟩] [0, 5, 6]) (.block 0 (.loop (.seq (.seq
    (.region none [ ⟨some 10, none, .mv (.t 6)⟩, ⟨some 11, none, .mv (.t 5)⟩, ⟨some 12, none, .len (.t 11)⟩, ⟨some 13, none, .bin .lss (.t 10) (.t 12)⟩] [0, 5, 6, 13]) (.cond (.t 13) .skip (.exit 0))) (.seq (.block 1 (.seq
    (.region none [ ⟨some 7, none, .mv (.c (.int .i64 0))⟩] [0, 5, 6, 7]) (.block 2 (.loop (.seq (.seq
    (.region none [ ⟨some 16, none, .mv (.t 7)⟩, ⟨some 17, none, .mv (.t 0)⟩, ⟨some 18, none, .len (.t 17)⟩, ⟨some 19, none, .bin .lss (.t 16) (.t 18)⟩] [0, 5, 6, 7, 19]) (.cond (.t 19) .skip (.exit 2))) (.seq (.block 3 (.seq
    (.region (some [22, 23, 24, 25, 26, 27, 28, 29, 30, 31, 32]) [ ⟨some 22, none, .mv (.t 5)⟩, ⟨some 23, none, .mv (.t 0)⟩, ⟨some 24, none, .mv (.t 7)⟩, ⟨some 25, none, .idx 1 (.t 23) (.t 24)⟩, ⟨some 26, none, .ld none (.t 25)⟩, ⟨some 27, none, .mv (.t 5)⟩, ⟨some 28, none, .mv (.t 6)⟩, ⟨some 29, none, .idx 1 (.t 27) (.t 28)⟩, ⟨some 30, none, .ld none (.t 29)⟩, ⟨some 31, none, .idx 1 (.t 26) (.t 30)⟩, ⟨some 32, none, .ld none (.t 31)⟩, ⟨some 33, none, .call (.f 62) [((.t 22), .r), ((.t 32), .r)]⟩, ⟨some 34, none, .un .not (.t 33)⟩] [0, 5, 6, 7, 34]) (.cond (.t 34)
    (.region (some [35, 36, 37, 38, 39, 40, 41, 42, 43, 44, 45, 46]) [ ⟨some 35, none, .mv (.t 5)⟩, ⟨some 36, none, .mv (.t 0)⟩, ⟨some 37, none, .mv (.t 7)⟩, ⟨some 38, none, .idx 1 (.t 36) (.t 37)⟩, ⟨some 39, none, .ld none (.t 38)⟩, ⟨some 40, none, .mv (.t 5)⟩, ⟨some 41, none, .mv (.t 6)⟩, ⟨some 42, none, .idx 1 (.t 40) (.t 41)⟩, ⟨some 43, none, .ld none (.t 42)⟩, ⟨some 44, none, .idx 1 (.t 39) (.t 43)⟩, ⟨some 45, none, .ld none (.t 44)⟩, ⟨some 46, none, .bslv 1 [(.t 45)]⟩, ⟨some 47, none, .app true 1 (.t 35) (.t 46)⟩, ⟨some 5, none, .asg (.t 47)⟩] [0, 5, 6, 7]) .skip)))
    (.region none [ ⟨some 20, none, .mv (.t 7)⟩, ⟨some 21, none, .bin .add (.t 20) (.c (.int .i64 1))⟩, ⟨some 7, none, .mv (.t 21)⟩] [0, 5, 6, 7])))))))
    (.region none [ ⟨some 14, none, .mv (.t 6)⟩, ⟨some 15, none, .bin .add (.t 14) (.c (.int .i64 1))⟩, ⟨some 6, none, .mv (.t 15)⟩] [0, 5, 6])))))) (.seq
    (.region none [ ⟨some 48, none, .mv (.t 5)⟩, ⟨some 4, none, .asg (.t 48)⟩] [4]) .ret))))

/-- impl.wholeSystem -/
def c_impl_wholeSystem : F where
  np := 1
  rs := [.t 2]
  body :=
    (.seq
    (.region none [ ⟨some 1, none, .box (.t 0)⟩, ⟨some 2, none, .asg (.c (.slice none 0 0))⟩] [1]) (.seq
    (.region (some [3, 4, 5, 6, 7]) [ ⟨some 3, none, .fld 0 (.t 1)⟩, ⟨some 4, none, .ld none (.t 3)⟩, ⟨some 5, none, .fld 1 (.t 1)⟩, ⟨some 6, none, .ld none (.t 5)⟩, ⟨some 7, none, .call (.f 267) [((.t 6), .r)]⟩, ⟨some 8, none, .bsls 1 true true [(.t 4), (.t 7)]⟩, ⟨some 9, none, .call (.f 381) [((.t 8), .r)]⟩, ⟨some 2, none, .asg (.t 9)⟩] [2]) .ret))

/-- slices.Concat[[][]int64,[]int64] -/
def c_slices_Concat_____int64___int64_ : F where
  np := 1
  rs := [.t 2]
  body :=
    (.seq
    (.region none [ ⟨some 2, none, .asg (.c (.slice none 0 0))⟩] [0]) (.seq
    (.region none [ ⟨some 3, none, .mv (.c (.int .i64 0))⟩] [0, 3]) (.seq (.seq
    (.region none [ ⟨some 9, none, .mv (.t 0)⟩, ⟨some 10, none, .len (.t 9)⟩, ⟨some 11, none, .mv (.c (.int .i64 0))⟩] [0, 3, 9, 10, 11]) (.block 0 (.loop (.seq
    (.region none [ ⟨some 12, none, .bin .lss (.t 11) (.t 10)⟩] [0, 3, 9, 10, 11, 12]) (.seq (.cond (.t 12) .skip (.exit 0)) (.seq (.block 1 (.seq
    (.region none [ ⟨some 13, none, .idx 1 (.t 9) (.t 11)⟩, ⟨some 14, none, .ld none (.t 13)⟩, ⟨some 5, none, .asg (.t 14)⟩] [0, 3, 5, 9, 10, 11]) (.seq
    (.region none [ ⟨some 15, none, .mv (.t 3)⟩, ⟨some 16, none, .mv (.t 5)⟩, ⟨some 17, none, .len (.t 16)⟩, ⟨some 18, none, .bin .add (.t 15) (.t 17)⟩, ⟨some 3, none, .mv (.t 18)⟩] [0, 3, 9, 10, 11]) (.seq
    (.region none [ ⟨some 19, none, .mv (.t 3)⟩, ⟨some 20, none, .bin .lss (.t 19) (.c (.int .i64 0))⟩] [0, 3, 9, 10, 11, 20]) (.cond (.t 20) .stuck .skip)))))
    (.region none [ ⟨some 22, none, .bin .add (.t 11) (.c (.int .i64 1))⟩, ⟨some 11, none, .mv (.t 22)⟩] [0, 3, 9, 10, 11]))))))) (.seq
    (.region none [ ⟨some 23, none, .mv (.t 3)⟩, ⟨some 24, none, .call (.f 429) [((.c (.slice none 0 0)), .r), ((.t 23), .r)]⟩, ⟨some 6, none, .asg (.t 24)⟩] [0, 6]) (.seq (.seq
    (.region none [ ⟨some 25, none, .mv (.t 0)⟩, ⟨some 26, none, .len (.t 25)⟩, ⟨some 27, none, .mv (.c (.int .i64 0))⟩] [6, 25, 26, 27]) (.block 2 (.loop (.seq
    (.region none [ ⟨some 28, none, .bin .lss (.t 27) (.t 26)⟩] [6, 25, 26, 27, 28]) (.seq (.cond (.t 28) .skip (.exit 2)) (.seq (.block 3 (.seq
    (.region none [ ⟨some 29, none, .idx 1 (.t 25) (.t 27)⟩, ⟨some 30, none, .ld none (.t 29)⟩, ⟨some 8, none, .asg (.t 30)⟩] [6, 8, 25, 26, 27])
    (.region none [ ⟨some 31, none, .mv (.t 6)⟩, ⟨some 32, none, .mv (.t 8)⟩, ⟨some 33, none, .app false 1 (.t 31) (.t 32)⟩, ⟨some 6, none, .asg (.t 33)⟩] [6, 25, 26, 27])))
    (.region none [ ⟨some 34, none, .bin .add (.t 27) (.c (.int .i64 1))⟩, ⟨some 27, none, .mv (.t 34)⟩] [6, 25, 26, 27]))))))) (.seq
    (.region none [ ⟨some 35, none, .mv (.t 6)⟩, ⟨some 2, none, .asg (.t 35)⟩] [2]) .ret))))))

/-- slices.Grow[[][]int64,[]int64] -/
def c_slices_Grow_____int64___int64_ : F where
  np := 2
  rs := [.t 4]
  body :=
    (.seq
    (.region none [ ⟨some 4, none, .asg (.c (.slice none 0 0))⟩] [0, 1]) (.seq (.seq
    (.region none [ ⟨some 5, none, .mv (.t 1)⟩, ⟨some 6, none, .bin .lss (.t 5) (.c (.int .i64 0))⟩] [0, 1, 6]) (.cond (.t 6) .stuck .skip)) (.seq (.seq
    (.region none [ ⟨some 8, none, .mv (.t 1)⟩, ⟨some 9, none, .mv (.t 0)⟩, ⟨some 10, none, .cap0 (.t 9)⟩, ⟨some 11, none, .mv (.t 0)⟩, ⟨some 12, none, .len (.t 11)⟩, ⟨some 13, none, .bin .sub (.t 10) (.t 12)⟩, ⟨some 14, none, .bin .sub (.t 8) (.t 13)⟩, ⟨some 1, none, .mv (.t 14)⟩] [0, 1]) (.seq
    (.region none [ ⟨some 15, none, .mv (.t 1)⟩, ⟨some 16, none, .bin .gtr (.t 15) (.c (.int .i64 0))⟩] [0, 1, 16]) (.cond (.t 16)
    (.region none [ ⟨some 17, none, .mv (.t 0)⟩, ⟨some 18, none, .mv (.t 0)⟩, ⟨some 19, none, .cap0 (.t 18)⟩, ⟨some 20, none, .sl 1 (.t 17) none (some (.t 19))⟩, ⟨some 21, none, .mv (.t 1)⟩, ⟨some 22, none, .apz (.slice none 0 0) (.t 20) (.t 21)⟩, ⟨some 23, none, .mv (.t 0)⟩, ⟨some 24, none, .len (.t 23)⟩, ⟨some 25, none, .sl 1 (.t 22) none (some (.t 24))⟩, ⟨some 0, none, .asg (.t 25)⟩] [0]) .skip))) (.seq
    (.region none [ ⟨some 26, none, .mv (.t 0)⟩, ⟨some 4, none, .asg (.t 26)⟩] [4]) .ret))))

/-- impl.orbitLabels -/
def c_impl_orbitLabels : F where
  np := 2
  rs := [.t 4]
  body :=
    (.seq
    (.region none [ ⟨some 4, none, .asg (.c (.slice none 0 0))⟩] [0, 1]) (.seq
    (.region none [ ⟨some 13, none, .mv (.t 0)⟩, ⟨some 14, none, .mks (.int .i64 0) (.t 13)⟩, ⟨some 5, none, .asg (.t 14)⟩] [1, 5]) (.seq (.seq
    (.region none [ ⟨some 15, none, .mv (.t 5)⟩, ⟨some 16, none, .len (.t 15)⟩, ⟨some 17, none, .mv (.c (.int .i64 0))⟩] [1, 5, 16, 17]) (.block 0 (.loop (.seq
    (.region none [ ⟨some 18, none, .bin .lss (.t 17) (.t 16)⟩] [1, 5, 16, 17, 18]) (.seq (.cond (.t 18) .skip (.exit 0)) (.seq (.block 1 (.seq
    (.region none [ ⟨some 19, none, .mv (.t 17)⟩, ⟨some 6, none, .mv (.t 19)⟩] [1, 5, 6, 16, 17])
    (.region none [ ⟨some 20, none, .mv (.t 5)⟩, ⟨some 21, none, .mv (.t 6)⟩, ⟨some 22, none, .idx 1 (.t 20) (.t 21)⟩, ⟨none, none, .st none (.t 22) (.c (.int .i64 (-1)))⟩] [1, 5, 16, 17])))
    (.region none [ ⟨some 23, none, .bin .add (.t 17) (.c (.int .i64 1))⟩, ⟨some 17, none, .mv (.t 23)⟩] [1, 5, 16, 17]))))))) (.seq
    (.region none [ ⟨some 7, none, .mv (.c (.int .i64 0))⟩] [1, 5, 7]) (.seq (.seq
    (.region none [ ⟨some 24, none, .mv (.t 5)⟩, ⟨some 25, none, .len (.t 24)⟩, ⟨some 26, none, .mv (.c (.int .i64 0))⟩] [1, 5, 7, 25, 26]) (.block 2 (.loop (.seq
    (.region none [ ⟨some 27, none, .bin .lss (.t 26) (.t 25)⟩] [1, 5, 7, 25, 26, 27]) (.seq (.cond (.t 27) .skip (.exit 2)) (.seq (.block 3 (.seq
    (.region none [ ⟨some 28, none, .mv (.t 26)⟩, ⟨some 8, none, .mv (.t 28)⟩] [1, 5, 7, 8, 25, 26]) (.seq (.seq
    (.region none [ ⟨some 29, none, .mv (.t 5)⟩, ⟨some 30, none, .mv (.t 8)⟩, ⟨some 31, none, .idx 1 (.t 29) (.t 30)⟩, ⟨some 32, none, .ld none (.t 31)⟩, ⟨some 33, none, .bin .geq (.t 32) (.c (.int .i64 0))⟩] [1, 5, 7, 8, 25, 26, 33]) (.cond (.t 33) (.exit 3) .skip)) (.seq
    (.region none [ ⟨some 34, none, .mv (.t 5)⟩, ⟨some 35, none, .mv (.t 8)⟩, ⟨some 36, none, .mv (.t 7)⟩, ⟨some 37, none, .idx 1 (.t 34) (.t 35)⟩, ⟨none, none, .st none (.t 37) (.t 36)⟩] [1, 5, 7, 8, 25, 26]) (.seq (.seq
    (.region none [ ⟨some 38, none, .mv (.t 8)⟩, ⟨some 39, none, .bsl [(.t 38)]⟩, ⟨some 9, none, .asg (.t 39)⟩] [1, 5, 7, 9, 25, 26]) (.block 4 (.loop (.seq (.seq
    (.region none [ ⟨some 40, none, .mv (.t 9)⟩, ⟨some 41, none, .len (.t 40)⟩, ⟨some 42, none, .bin .gtr (.t 41) (.c (.int .i64 0))⟩] [1, 5, 7, 9, 25, 26, 42]) (.cond (.t 42) .skip (.exit 4))) (.seq (.block 5 (.seq
    (.region none [ ⟨some 45, none, .mv (.t 1)⟩, ⟨some 46, none, .len (.t 45)⟩, ⟨some 47, none, .mv (.c (.int .i64 0))⟩] [1, 5, 7, 9, 25, 26, 45, 46, 47]) (.block 6 (.loop (.seq
    (.region none [ ⟨some 48, none, .bin .lss (.t 47) (.t 46)⟩] [1, 5, 7, 9, 25, 26, 45, 46, 47, 48]) (.seq (.cond (.t 48) .skip (.exit 6)) (.seq (.block 7 (.seq
    (.region none [ ⟨some 49, none, .idx 1 (.t 45) (.t 47)⟩, ⟨some 50, none, .ld none (.t 49)⟩, ⟨some 11, none, .asg (.t 50)⟩] [1, 5, 7, 9, 11, 25, 26, 45, 46, 47]) (.seq
    (.region none [ ⟨some 51, none, .mv (.t 11)⟩, ⟨some 52, none, .mv (.t 9)⟩, ⟨some 53, none, .idx 1 (.t 52) (.c (.int .i64 0))⟩, ⟨some 54, none, .ld none (.t 53)⟩, ⟨some 55, none, .idx 1 (.t 51) (.t 54)⟩, ⟨some 56, none, .ld none (.t 55)⟩, ⟨some 12, none, .mv (.t 56)⟩] [1, 5, 7, 9, 12, 25, 26, 45, 46, 47]) (.seq
    (.region none [ ⟨some 57, none, .mv (.t 5)⟩, ⟨some 58, none, .mv (.t 12)⟩, ⟨some 59, none, .idx 1 (.t 57) (.t 58)⟩, ⟨some 60, none, .ld none (.t 59)⟩, ⟨some 61, none, .bin .lss (.t 60) (.c (.int .i64 0))⟩] [1, 5, 7, 9, 12, 25, 26, 45, 46, 47, 61]) (.cond (.t 61) (.seq
    (.region none [ ⟨some 62, none, .mv (.t 5)⟩, ⟨some 63, none, .mv (.t 12)⟩, ⟨some 64, none, .mv (.t 7)⟩, ⟨some 65, none, .idx 1 (.t 62) (.t 63)⟩, ⟨none, none, .st none (.t 65) (.t 64)⟩] [1, 5, 7, 9, 12, 25, 26, 45, 46, 47])
    (.region none [ ⟨some 66, none, .mv (.t 9)⟩, ⟨some 67, none, .mv (.t 12)⟩, ⟨some 68, none, .bsl [(.t 67)]⟩, ⟨some 69, none, .app true 1 (.t 66) (.t 68)⟩, ⟨some 9, none, .asg (.t 69)⟩] [1, 5, 7, 9, 25, 26, 45, 46, 47])) .skip)))))
    (.region none [ ⟨some 70, none, .bin .add (.t 47) (.c (.int .i64 1))⟩, ⟨some 47, none, .mv (.t 70)⟩] [1, 5, 7, 9, 25, 26, 45, 46, 47]))))))))
    (.region none [ ⟨some 43, none, .mv (.t 9)⟩, ⟨some 44, none, .sl 1 (.t 43) (some (.c (.int .i64 1))) none⟩, ⟨some 9, none, .asg (.t 44)⟩] [1, 5, 7, 9, 25, 26]))))))
    (.region none [ ⟨some 71, none, .mv (.t 7)⟩, ⟨some 72, none, .bin .add (.t 71) (.c (.int .i64 1))⟩, ⟨some 7, none, .mv (.t 72)⟩] [1, 5, 7, 25, 26]))))))
    (.region none [ ⟨some 73, none, .bin .add (.t 26) (.c (.int .i64 1))⟩, ⟨some 26, none, .mv (.t 73)⟩] [1, 5, 7, 25, 26]))))))) (.seq
    (.region none [ ⟨some 74, none, .mv (.t 5)⟩, ⟨some 4, none, .asg (.t 74)⟩] [4]) .ret))))))

/-- spec.DecompositionOf -/
def c_spec_DecompositionOf : F where
  np := 1
  rs := [.t 2, .t 3, .t 4]
  body :=
    (.seq
    (.region none [ ⟨some 1, none, .box (.t 0)⟩, ⟨some 2, none, .asg (.c (.slice none 0 0))⟩, ⟨some 3, none, .asg (.c (.slice none 0 0))⟩, ⟨some 4, none, .mv (.c (.int .i64 0))⟩] [1]) (.seq (.seq
    (.region none [ ⟨some 9, none, .ld (some 2) (.t 1)⟩, ⟨some 10, none, .call (.f 264) [((.t 9), .r)]⟩, ⟨some 11, none, .un .not (.t 10)⟩] [1, 11]) (.cond (.t 11) (.seq
    (.region none [ ⟨some 2, none, .asg (.c (.slice none 0 0))⟩, ⟨some 3, none, .asg (.c (.slice none 0 0))⟩, ⟨some 4, none, .mv (.c (.int .i64 1))⟩] [2, 3, 4]) .ret) .skip)) (.seq
    (.region none [ ⟨some 12, none, .ld (some 2) (.t 1)⟩, ⟨some 13, none, .call (.f 299) [((.t 12), .r)]⟩, ⟨some 5, none, .asg (.t 13)⟩] [5]) (.seq (.seq
    (.region none [ ⟨some 14, none, .mv (.t 5)⟩, ⟨some 15, none, .call (.f 288) [((.t 14), .r)]⟩, ⟨some 16, none, .bin .eql (.t 15) (.c (.int .i64 1))⟩] [5, 16]) (.cond (.t 16) (.seq
    (.region none [ ⟨some 2, none, .asg (.c (.slice none 0 0))⟩, ⟨some 3, none, .asg (.c (.slice none 0 0))⟩, ⟨some 4, none, .mv (.c (.int .i64 4))⟩] [2, 3, 4]) .ret) .skip)) (.seq
    (.region none [ ⟨some 17, none, .bsl []⟩, ⟨some 18, none, .bsl []⟩, ⟨some 6, none, .asg (.t 17)⟩, ⟨some 7, none, .asg (.t 18)⟩] [5, 6, 7]) (.seq (.seq
    (.region none [ ⟨some 8, none, .mv (.c (.int .i64 0))⟩] [5, 6, 7, 8]) (.block 0 (.loop (.seq (.seq
    (.region none [ ⟨some 19, none, .mv (.t 8)⟩, ⟨some 20, none, .mv (.t 5)⟩, ⟨some 21, none, .len (.t 20)⟩, ⟨some 22, none, .bin .lss (.t 19) (.t 21)⟩] [5, 6, 7, 8, 22]) (.cond (.t 22) .skip (.exit 0))) (.seq (.block 1 (.seq
    (.region none [ ⟨some 25, none, .mv (.t 5)⟩, ⟨some 26, none, .mv (.t 8)⟩, ⟨some 27, none, .idx 1 (.t 25) (.t 26)⟩, ⟨some 28, none, .ld none (.t 27)⟩, ⟨some 29, none, .bin .eql (.t 28) (.c (.int .i64 0))⟩] [5, 6, 7, 8, 29]) (.cond (.t 29)
    (.region none [ ⟨some 30, none, .mv (.t 6)⟩, ⟨some 31, none, .mv (.t 8)⟩, ⟨some 32, none, .bsl [(.t 31)]⟩, ⟨some 33, none, .app true 1 (.t 30) (.t 32)⟩, ⟨some 6, none, .asg (.t 33)⟩] [5, 6, 7, 8])
    (.region none [ ⟨some 34, none, .mv (.t 7)⟩, ⟨some 35, none, .mv (.t 8)⟩, ⟨some 36, none, .bsl [(.t 35)]⟩, ⟨some 37, none, .app true 1 (.t 34) (.t 36)⟩, ⟨some 7, none, .asg (.t 37)⟩] [5, 6, 7, 8]))))
    (.region none [ ⟨some 23, none, .mv (.t 8)⟩, ⟨some 24, none, .bin .add (.t 23) (.c (.int .i64 1))⟩, ⟨some 8, none, .mv (.t 24)⟩] [5, 6, 7, 8])))))) (.seq
    (.region none [ ⟨some 38, none, .mv (.t 6)⟩, ⟨some 39, none, .mv (.t 7)⟩, ⟨some 2, none, .asg (.t 38)⟩, ⟨some 3, none, .asg (.t 39)⟩, ⟨some 4, none, .mv (.c (.int .i64 0))⟩] [2, 3, 4]) .ret)))))))

/-- impl.DecompositionOf -/
def c_impl_DecompositionOf : F where
  np := 1
  rs := [.t 2, .t 3, .t 4]
  body :=
    (.seq
    (.region none [ ⟨some 1, none, .box (.t 0)⟩, ⟨some 2, none, .asg (.c (.slice none 0 0))⟩, ⟨some 3, none, .asg (.c (.slice none 0 0))⟩, ⟨some 4, none, .mv (.c (.int .i64 0))⟩] [1]) (.seq (.seq
    (.region none [ ⟨some 9, none, .ld (some 2) (.t 1)⟩, ⟨some 10, none, .call (.f 266) [((.t 9), .r)]⟩, ⟨some 11, none, .un .not (.t 10)⟩] [1, 11]) (.cond (.t 11) (.seq
    (.region none [ ⟨some 2, none, .asg (.c (.slice none 0 0))⟩, ⟨some 3, none, .asg (.c (.slice none 0 0))⟩, ⟨some 4, none, .mv (.c (.int .i64 1))⟩] [2, 3, 4]) .ret) .skip)) (.seq
    (.region none [ ⟨some 12, none, .ld (some 2) (.t 1)⟩, ⟨some 13, none, .call (.f 301) [((.t 12), .r)]⟩, ⟨some 5, none, .asg (.t 13)⟩] [5]) (.seq (.seq
    (.region none [ ⟨some 14, none, .mv (.t 5)⟩, ⟨some 15, none, .call (.f 290) [((.t 14), .r)]⟩, ⟨some 16, none, .bin .eql (.t 15) (.c (.int .i64 0))⟩] [5, 16]) (.cond (.t 16) (.seq
    (.region none [ ⟨some 2, none, .asg (.c (.slice none 0 0))⟩, ⟨some 3, none, .asg (.c (.slice none 0 0))⟩, ⟨some 4, none, .mv (.c (.int .i64 4))⟩] [2, 3, 4]) .ret) .skip)) (.seq
    (.region none [ ⟨some 6, none, .asg (.c (.slice none 0 0))⟩] [5, 6]) (.seq (.seq
    (.region none [ ⟨some 17, none, .mv (.t 5)⟩, ⟨some 18, none, .len (.t 17)⟩, ⟨some 19, none, .mv (.c (.int .i64 0))⟩] [5, 6, 17, 18, 19]) (.block 0 (.loop (.seq
    (.region none [ ⟨some 20, none, .bin .lss (.t 19) (.t 18)⟩] [5, 6, 17, 18, 19, 20]) (.seq (.cond (.t 20) .skip (.exit 0)) (.seq (.block 1 (.seq
    (.region none [ ⟨some 21, none, .mv (.t 19)⟩, ⟨some 22, none, .idx 1 (.t 17) (.t 19)⟩, ⟨some 23, none, .ld none (.t 22)⟩, ⟨some 7, none, .mv (.t 21)⟩, ⟨some 8, none, .mv (.t 23)⟩] [5, 6, 7, 8, 17, 18, 19]) (.seq
    (.region none [ ⟨some 24, none, .mv (.t 8)⟩, ⟨some 25, none, .bin .gtr (.t 24) (.c (.int .i64 0))⟩] [5, 6, 7, 17, 18, 19, 25]) (.cond (.t 25)
    (.region none [ ⟨some 26, none, .mv (.t 6)⟩, ⟨some 27, none, .mv (.t 7)⟩, ⟨some 28, none, .bsl [(.t 27)]⟩, ⟨some 29, none, .app true 1 (.t 26) (.t 28)⟩, ⟨some 6, none, .asg (.t 29)⟩] [5, 6, 17, 18, 19]) .skip))))
    (.region none [ ⟨some 30, none, .bin .add (.t 19) (.c (.int .i64 1))⟩, ⟨some 19, none, .mv (.t 30)⟩] [5, 6, 17, 18, 19]))))))) (.seq
    (.region none [ ⟨some 31, none, .mv (.t 5)⟩, ⟨some 32, none, .call (.f 318) [((.t 31), .r), ((.c (.int .i64 0)), .r)]⟩, ⟨some 33, none, .mv (.t 6)⟩, ⟨some 2, none, .asg (.t 32)⟩, ⟨some 3, none, .asg (.t 33)⟩, ⟨some 4, none, .mv (.c (.int .i64 0))⟩] [2, 3, 4]) .ret)))))))

/-- impl.placesOf -/
def c_impl_placesOf : F where
  np := 2
  rs := [.t 4]
  body :=
    (.seq
    (.region none [ ⟨some 4, none, .asg (.c (.slice none 0 0))⟩] [0, 1]) (.seq
    (.region none [ ⟨some 5, none, .asg (.c (.slice none 0 0))⟩] [0, 1, 5]) (.seq (.seq
    (.region none [ ⟨some 8, none, .mv (.t 0)⟩, ⟨some 9, none, .len (.t 8)⟩, ⟨some 10, none, .mv (.c (.int .i64 0))⟩] [1, 5, 8, 9, 10]) (.block 0 (.loop (.seq
    (.region none [ ⟨some 11, none, .bin .lss (.t 10) (.t 9)⟩] [1, 5, 8, 9, 10, 11]) (.seq (.cond (.t 11) .skip (.exit 0)) (.seq (.block 1 (.seq
    (.region none [ ⟨some 12, none, .mv (.t 10)⟩, ⟨some 13, none, .idx 1 (.t 8) (.t 10)⟩, ⟨some 14, none, .ld none (.t 13)⟩, ⟨some 6, none, .mv (.t 12)⟩, ⟨some 7, none, .mv (.t 14)⟩] [1, 5, 6, 7, 8, 9, 10]) (.seq
    (.region none [ ⟨some 15, none, .mv (.t 7)⟩, ⟨some 16, none, .mv (.t 1)⟩, ⟨some 17, none, .bin .eql (.t 15) (.t 16)⟩] [1, 5, 6, 8, 9, 10, 17]) (.cond (.t 17)
    (.region none [ ⟨some 18, none, .mv (.t 5)⟩, ⟨some 19, none, .mv (.t 6)⟩, ⟨some 20, none, .bsl [(.t 19)]⟩, ⟨some 21, none, .app true 1 (.t 18) (.t 20)⟩, ⟨some 5, none, .asg (.t 21)⟩] [1, 5, 8, 9, 10]) .skip))))
    (.region none [ ⟨some 22, none, .bin .add (.t 10) (.c (.int .i64 1))⟩, ⟨some 10, none, .mv (.t 22)⟩] [1, 5, 8, 9, 10]))))))) (.seq
    (.region none [ ⟨some 23, none, .mv (.t 5)⟩, ⟨some 4, none, .asg (.t 23)⟩] [4]) .ret))))

end Go.Mch
