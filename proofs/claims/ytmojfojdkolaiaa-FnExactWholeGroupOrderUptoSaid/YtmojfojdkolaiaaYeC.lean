/- Compact code of the functions that statements 13 to 36 reach further. -/
import Derived.Test.YtmojfojdkolaiaaM1
namespace Go.Mch

/-- impl.identity -/
def c_impl_identity : F where
  np := 1
  rs := [.t 2]
  body :=
    (.seq
    (.region none [ ⟨some 2, none, .asg (.c (.slice none 0 0))⟩] [0]) (.seq
    (.region none [ ⟨some 5, none, .mv (.t 0)⟩, ⟨some 6, none, .mks (.int .i64 0) (.t 5)⟩, ⟨some 3, none, .asg (.t 6)⟩] [3]) (.seq (.seq
    (.region none [ ⟨some 7, none, .mv (.t 3)⟩, ⟨some 8, none, .len (.t 7)⟩, ⟨some 9, none, .mv (.c (.int .i64 0))⟩] [3, 8, 9]) (.block 0 (.loop (.seq
    (.region none [ ⟨some 10, none, .bin .lss (.t 9) (.t 8)⟩] [3, 8, 9, 10]) (.seq (.cond (.t 10) .skip (.exit 0)) (.seq (.block 1 (.seq
    (.region none [ ⟨some 11, none, .mv (.t 9)⟩, ⟨some 4, none, .mv (.t 11)⟩] [3, 4, 8, 9])
    (.region none [ ⟨some 12, none, .mv (.t 3)⟩, ⟨some 13, none, .mv (.t 4)⟩, ⟨some 14, none, .mv (.t 4)⟩, ⟨some 15, none, .idx 1 (.t 12) (.t 13)⟩, ⟨none, none, .st none (.t 15) (.t 14)⟩] [3, 8, 9])))
    (.region none [ ⟨some 16, none, .bin .add (.t 9) (.c (.int .i64 1))⟩, ⟨some 9, none, .mv (.t 16)⟩] [3, 8, 9]))))))) (.seq
    (.region none [ ⟨some 17, none, .mv (.t 3)⟩, ⟨some 2, none, .asg (.t 17)⟩] [2]) .ret))))

/-- spec.l07Both -/
def c_spec_l07Both : F where
  np := 1
  rs := [.t 2]
  body :=
    (.seq
    (.region none [ ⟨some 1, none, .box (.t 0)⟩, ⟨some 2, none, .asg (.c (.slice none 0 0))⟩] [1]) (.seq
    (.region (some [3, 4, 5, 6, 7]) [ ⟨some 3, none, .fld 0 (.t 1)⟩, ⟨some 4, none, .ld none (.t 3)⟩, ⟨some 5, none, .call (.f 280) [((.t 4), .r)]⟩, ⟨some 6, none, .fld 1 (.t 1)⟩, ⟨some 7, none, .ld none (.t 6)⟩, ⟨some 8, none, .call (.f 265) [((.t 7), .r)]⟩, ⟨some 9, none, .app true 1 (.t 5) (.t 8)⟩, ⟨some 2, none, .asg (.t 9)⟩] [2]) .ret))

/-- impl.wholeSystem -/
def c_impl_wholeSystem : F where
  np := 1
  rs := [.t 2]
  body :=
    (.seq
    (.region none [ ⟨some 1, none, .box (.t 0)⟩, ⟨some 2, none, .asg (.c (.slice none 0 0))⟩] [1]) (.seq
    (.region (some [3, 4, 5, 6, 7]) [ ⟨some 3, none, .fld 0 (.t 1)⟩, ⟨some 4, none, .ld none (.t 3)⟩, ⟨some 5, none, .fld 1 (.t 1)⟩, ⟨some 6, none, .ld none (.t 5)⟩, ⟨some 7, none, .call (.f 267) [((.t 6), .r)]⟩, ⟨some 8, none, .bsls 1 true true [(.t 4), (.t 7)]⟩, ⟨some 9, none, .call (.f 381) [((.t 8), .r)]⟩, ⟨some 2, none, .asg (.t 9)⟩] [2]) .ret))

/-- slices.Concat[[][]int64,[]int64] -/
def c_slices_Concat_____int64___int64_ : F where
  np := 1
  rs := [.t 2]
  body :=
    (.seq
    (.region none [ ⟨some 2, none, .asg (.c (.slice none 0 0))⟩] [0]) (.seq
    (.region none [ ⟨some 3, none, .mv (.c (.int .i64 0))⟩] [0, 3]) (.seq (.seq
    (.region none [ ⟨some 9, none, .mv (.t 0)⟩, ⟨some 10, none, .len (.t 9)⟩, ⟨some 11, none, .mv (.c (.int .i64 0))⟩] [0, 3, 9, 10, 11]) (.block 0 (.loop (.seq
    (.region none [ ⟨some 12, none, .bin .lss (.t 11) (.t 10)⟩] [0, 3, 9, 10, 11, 12]) (.seq (.cond (.t 12) .skip (.exit 0)) (.seq (.block 1 (.seq
    (.region none [ ⟨some 13, none, .idx 1 (.t 9) (.t 11)⟩, ⟨some 14, none, .ld none (.t 13)⟩, ⟨some 5, none, .asg (.t 14)⟩] [0, 3, 5, 9, 10, 11]) (.seq
    (.region none [ ⟨some 15, none, .mv (.t 3)⟩, ⟨some 16, none, .mv (.t 5)⟩, ⟨some 17, none, .len (.t 16)⟩, ⟨some 18, none, .bin .add (.t 15) (.t 17)⟩, ⟨some 3, none, .mv (.t 18)⟩] [0, 3, 9, 10, 11]) (.seq
    (.region none [ ⟨some 19, none, .mv (.t 3)⟩, ⟨some 20, none, .bin .lss (.t 19) (.c (.int .i64 0))⟩] [0, 3, 9, 10, 11, 20]) (.cond (.t 20) .stuck .skip)))))
    (.region none [ ⟨some 22, none, .bin .add (.t 11) (.c (.int .i64 1))⟩, ⟨some 11, none, .mv (.t 22)⟩] [0, 3, 9, 10, 11]))))))) (.seq
    (.region none [ ⟨some 23, none, .mv (.t 3)⟩, ⟨some 24, none, .call (.f 429) [((.c (.slice none 0 0)), .r), ((.t 23), .r)]⟩, ⟨some 6, none, .asg (.t 24)⟩] [0, 6]) (.seq (.seq
    (.region none [ ⟨some 25, none, .mv (.t 0)⟩, ⟨some 26, none, .len (.t 25)⟩, ⟨some 27, none, .mv (.c (.int .i64 0))⟩] [6, 25, 26, 27]) (.block 2 (.loop (.seq
    (.region none [ ⟨some 28, none, .bin .lss (.t 27) (.t 26)⟩] [6, 25, 26, 27, 28]) (.seq (.cond (.t 28) .skip (.exit 2)) (.seq (.block 3 (.seq
    (.region none [ ⟨some 29, none, .idx 1 (.t 25) (.t 27)⟩, ⟨some 30, none, .ld none (.t 29)⟩, ⟨some 8, none, .asg (.t 30)⟩] [6, 8, 25, 26, 27])
    (.region none [ ⟨some 31, none, .mv (.t 6)⟩, ⟨some 32, none, .mv (.t 8)⟩, ⟨some 33, none, .app false 1 (.t 31) (.t 32)⟩, ⟨some 6, none, .asg (.t 33)⟩] [6, 25, 26, 27])))
    (.region none [ ⟨some 34, none, .bin .add (.t 27) (.c (.int .i64 1))⟩, ⟨some 27, none, .mv (.t 34)⟩] [6, 25, 26, 27]))))))) (.seq
    (.region none [ ⟨some 35, none, .mv (.t 6)⟩, ⟨some 2, none, .asg (.t 35)⟩] [2]) .ret))))))

/-- slices.Grow[[][]int64,[]int64] -/
def c_slices_Grow_____int64___int64_ : F where
  np := 2
  rs := [.t 4]
  body :=
    (.seq
    (.region none [ ⟨some 4, none, .asg (.c (.slice none 0 0))⟩] [0, 1]) (.seq (.seq
    (.region none [ ⟨some 5, none, .mv (.t 1)⟩, ⟨some 6, none, .bin .lss (.t 5) (.c (.int .i64 0))⟩] [0, 1, 6]) (.cond (.t 6) .stuck .skip)) (.seq (.seq
    (.region none [ ⟨some 8, none, .mv (.t 1)⟩, ⟨some 9, none, .mv (.t 0)⟩, ⟨some 10, none, .cap0 (.t 9)⟩, ⟨some 11, none, .mv (.t 0)⟩, ⟨some 12, none, .len (.t 11)⟩, ⟨some 13, none, .bin .sub (.t 10) (.t 12)⟩, ⟨some 14, none, .bin .sub (.t 8) (.t 13)⟩, ⟨some 1, none, .mv (.t 14)⟩] [0, 1]) (.seq
    (.region none [ ⟨some 15, none, .mv (.t 1)⟩, ⟨some 16, none, .bin .gtr (.t 15) (.c (.int .i64 0))⟩] [0, 1, 16]) (.cond (.t 16)
    (.region none [ ⟨some 17, none, .mv (.t 0)⟩, ⟨some 18, none, .mv (.t 0)⟩, ⟨some 19, none, .cap0 (.t 18)⟩, ⟨some 20, none, .sl 1 (.t 17) none (some (.t 19))⟩, ⟨some 21, none, .mv (.t 1)⟩, ⟨some 22, none, .apz (.slice none 0 0) (.t 20) (.t 21)⟩, ⟨some 23, none, .mv (.t 0)⟩, ⟨some 24, none, .len (.t 23)⟩, ⟨some 25, none, .sl 1 (.t 22) none (some (.t 24))⟩, ⟨some 0, none, .asg (.t 25)⟩] [0]) .skip))) (.seq
    (.region none [ ⟨some 26, none, .mv (.t 0)⟩, ⟨some 4, none, .asg (.t 26)⟩] [4]) .ret))))

/-- spec.l07Order -/
def c_spec_l07Order : F where
  np := 2
  rs := [.t 4, .t 5]
  body :=
    (.seq
    (.region none [ ⟨some 2, none, .box (.t 0)⟩, ⟨some 4, none, .mv (.c (.int .i64 0))⟩, ⟨some 5, none, .mv (.c (.int .i64 0))⟩] [1, 2]) (.seq
    (.region none [ ⟨some 9, none, .fld 0 (.t 2)⟩, ⟨some 10, none, .ld none (.t 9)⟩, ⟨some 11, none, .len (.t 10)⟩, ⟨some 12, none, .mv (.t 1)⟩, ⟨some 13, none, .call (.f 343) [((.t 11), .r), ((.t 12), .r), ((.c (.int .i64 1000)), .r)]⟩, ⟨some 8, none, .mv (.t 13)⟩, ⟨some 14, none, .ext (.t 8) 0⟩, ⟨some 15, none, .ext (.t 8) 1⟩, ⟨some 6, none, .asg (.t 14)⟩, ⟨some 7, none, .mv (.t 15)⟩] [6, 7]) (.seq (.seq
    (.region none [ ⟨some 16, none, .mv (.t 7)⟩, ⟨some 17, none, .un .not (.t 16)⟩] [6, 17]) (.cond (.t 17) (.seq
    (.region none [ ⟨some 4, none, .mv (.c (.int .i64 0))⟩, ⟨some 5, none, .mv (.c (.int .i64 3))⟩] [4, 5]) .ret) .skip)) (.seq
    (.region none [ ⟨some 18, none, .mv (.t 6)⟩, ⟨some 19, none, .len (.t 18)⟩, ⟨some 4, none, .mv (.t 19)⟩, ⟨some 5, none, .mv (.c (.int .i64 0))⟩] [4, 5]) .ret))))

/-- spec.l01Group -/
def c_spec_l01Group : F where
  np := 3
  rs := [.t 6, .t 7]
  body :=
    (.seq
    (.region none [ ⟨some 6, none, .asg (.c (.slice none 0 0))⟩, ⟨some 7, none, .mv (.c (.bool false))⟩] [0, 1, 2]) (.seq
    (.region none [ ⟨some 15, none, .mv (.t 0)⟩, ⟨some 16, none, .call (.f 334) [((.t 15), .r)]⟩, ⟨none, none, .freeze 16⟩, ⟨some 17, none, .bsl [(.t 16)]⟩, ⟨some 18, none, .mv (.t 0)⟩, ⟨some 19, none, .call (.f 334) [((.t 18), .r)]⟩, ⟨none, none, .freeze 19⟩, ⟨some 20, none, .bsl [(.t 19)]⟩, ⟨some 8, none, .asg (.t 17)⟩, ⟨some 9, none, .asg (.t 20)⟩] [1, 2, 8, 9]) (.seq (.seq
    (.region none [ ⟨some 10, none, .mv (.c (.int .i64 0))⟩] [1, 2, 8, 9, 10]) (.block 0 (.loop (.seq (.seq
    (.region none [ ⟨some 21, none, .mv (.t 10)⟩, ⟨some 22, none, .mv (.t 8)⟩, ⟨some 23, none, .len (.t 22)⟩, ⟨some 24, none, .bin .lss (.t 21) (.t 23)⟩] [1, 2, 8, 9, 10, 24]) (.cond (.t 24) .skip (.exit 0))) (.seq (.block 1 (.seq
    (.region none [ ⟨some 11, none, .mv (.c (.int .i64 0))⟩] [1, 2, 8, 9, 10, 11]) (.block 2 (.loop (.seq (.seq
    (.region none [ ⟨some 27, none, .mv (.t 11)⟩, ⟨some 28, none, .mv (.t 1)⟩, ⟨some 29, none, .len (.t 28)⟩, ⟨some 30, none, .bin .lss (.t 27) (.t 29)⟩] [1, 2, 8, 9, 10, 11, 30]) (.cond (.t 30) .skip (.exit 2))) (.seq (.block 3 (.seq
    (.region (some [33, 34, 35, 36, 37, 38, 39, 40]) [ ⟨some 33, none, .mv (.t 8)⟩, ⟨some 34, none, .mv (.t 10)⟩, ⟨some 35, none, .idx 1 (.t 33) (.t 34)⟩, ⟨some 36, none, .ld none (.t 35)⟩, ⟨some 37, none, .mv (.t 1)⟩, ⟨some 38, none, .mv (.t 11)⟩, ⟨some 39, none, .idx 1 (.t 37) (.t 38)⟩, ⟨some 40, none, .ld none (.t 39)⟩, ⟨some 41, none, .call (.f 279) [((.t 36), .r), ((.t 40), .r)]⟩, ⟨some 12, none, .asg (.t 41)⟩] [1, 2, 8, 9, 10, 11, 12]) (.seq
    (.region none [ ⟨none, none, .freeze 12⟩, ⟨some 43, none, .mv (.t 9)⟩, ⟨some 44, none, .mv (.t 12)⟩, ⟨some 45, none, .callm (.f 349) [((.t 43), false), ((.t 44), false)] []⟩, ⟨some 42, none, .mv (.t 45)⟩, ⟨some 46, none, .ext (.t 42) 0⟩, ⟨some 47, none, .ext (.t 42) 1⟩, ⟨some 13, none, .asg (.t 46)⟩, ⟨some 14, none, .mv (.t 47)⟩] [1, 2, 8, 10, 11, 12, 13, 14]) (.seq
    (.region none [ ⟨some 48, none, .mv (.t 13)⟩, ⟨some 9, none, .asg (.t 48)⟩] [1, 2, 8, 9, 10, 11, 12, 14]) (.seq (.seq
    (.region none [ ⟨some 49, none, .mv (.t 14)⟩] [1, 2, 8, 9, 10, 11, 12, 49]) (.cond (.t 49)
    (.region none [ ⟨some 50, none, .mv (.t 8)⟩, ⟨some 51, none, .mv (.t 12)⟩, ⟨some 52, none, .bsl [(.t 51)]⟩, ⟨some 53, none, .app true 1 (.t 50) (.t 52)⟩, ⟨some 8, none, .asg (.t 53)⟩] [1, 2, 8, 9, 10, 11]) .skip)) (.seq
    (.region none [ ⟨some 54, none, .mv (.t 8)⟩, ⟨some 55, none, .len (.t 54)⟩, ⟨some 56, none, .mv (.t 2)⟩, ⟨some 57, none, .bin .gtr (.t 55) (.t 56)⟩] [1, 2, 8, 9, 10, 11, 57]) (.cond (.t 57) (.seq
    (.region none [ ⟨some 6, none, .asg (.c (.slice none 0 0))⟩, ⟨some 7, none, .mv (.c (.bool false))⟩] [6, 7]) .ret) .skip)))))))
    (.region none [ ⟨some 31, none, .mv (.t 11)⟩, ⟨some 32, none, .bin .add (.t 31) (.c (.int .i64 1))⟩, ⟨some 11, none, .mv (.t 32)⟩] [1, 2, 8, 9, 10, 11])))))))
    (.region none [ ⟨some 25, none, .mv (.t 10)⟩, ⟨some 26, none, .bin .add (.t 25) (.c (.int .i64 1))⟩, ⟨some 10, none, .mv (.t 26)⟩] [1, 2, 8, 9, 10])))))) (.seq
    (.region none [ ⟨some 58, none, .mv (.t 9)⟩, ⟨some 59, none, .call (.f 280) [((.t 58), .r)]⟩, ⟨some 6, none, .asg (.t 59)⟩, ⟨some 7, none, .mv (.c (.bool true))⟩] [6, 7]) .ret))))

/-- spec.l01Unit -/
def c_spec_l01Unit : F where
  np := 1
  rs := [.t 2]
  body :=
    (.seq
    (.region none [ ⟨some 2, none, .asg (.c (.slice none 0 0))⟩] [0]) (.seq
    (.region none [ ⟨some 5, none, .bsl []⟩, ⟨some 3, none, .asg (.t 5)⟩] [0, 3]) (.seq (.seq
    (.region none [ ⟨some 4, none, .mv (.c (.int .i64 0))⟩] [0, 3, 4]) (.block 0 (.loop (.seq (.seq
    (.region none [ ⟨some 6, none, .mv (.t 4)⟩, ⟨some 7, none, .mv (.t 0)⟩, ⟨some 8, none, .bin .lss (.t 6) (.t 7)⟩] [0, 3, 4, 8]) (.cond (.t 8) .skip (.exit 0))) (.seq (.block 1
    (.region none [ ⟨some 11, none, .mv (.t 3)⟩, ⟨some 12, none, .mv (.t 4)⟩, ⟨some 13, none, .bsl [(.t 12)]⟩, ⟨some 14, none, .app true 1 (.t 11) (.t 13)⟩, ⟨some 3, none, .asg (.t 14)⟩] [0, 3, 4]))
    (.region none [ ⟨some 9, none, .mv (.t 4)⟩, ⟨some 10, none, .bin .add (.t 9) (.c (.int .i64 1))⟩, ⟨some 4, none, .mv (.t 10)⟩] [0, 3, 4])))))) (.seq
    (.region none [ ⟨some 15, none, .mv (.t 3)⟩, ⟨some 2, none, .asg (.t 15)⟩] [2]) .ret))))

/-- spec.l01Put -/
def c_spec_l01Put : F where
  np := 2
  rs := [.t 4, .t 5]
  fix := [0, 1]
  body :=
    (.seq
    (.region none [ ⟨some 4, none, .asg (.c (.slice none 0 0))⟩, ⟨some 5, none, .mv (.c (.bool false))⟩] [0, 1]) (.seq
    (.region none [ ⟨some 11, none, .mv (.t 0)⟩, ⟨some 12, none, .len (.t 11)⟩, ⟨some 6, none, .mv (.c (.int .i64 0))⟩, ⟨some 7, none, .mv (.t 12)⟩] [0, 1, 6, 7]) (.seq (.block 0 (.loop (.seq (.seq
    (.region none [ ⟨some 13, none, .mv (.t 6)⟩, ⟨some 14, none, .mv (.t 7)⟩, ⟨some 15, none, .bin .lss (.t 13) (.t 14)⟩] [0, 1, 6, 7, 15]) (.cond (.t 15) .skip (.exit 0))) (.block 1 (.seq
    (.region none [ ⟨some 16, none, .mv (.t 6)⟩, ⟨some 17, none, .mv (.t 7)⟩, ⟨some 18, none, .bin .add (.t 16) (.t 17)⟩, ⟨some 19, none, .bin .quo (.t 18) (.c (.int .i64 2))⟩, ⟨some 8, none, .mv (.t 19)⟩] [0, 1, 6, 7, 8]) (.seq
    (.region none [ ⟨some 20, none, .mv (.t 0)⟩, ⟨some 21, none, .mv (.t 8)⟩, ⟨some 22, none, .idx 1 (.t 20) (.t 21)⟩, ⟨some 23, none, .ld none (.t 22)⟩, ⟨some 24, none, .mv (.t 1)⟩, ⟨some 25, none, .call (.f 408) [((.t 23), .r), ((.t 24), .r)]⟩] [0, 1, 6, 7, 8, 25]) (.cond (.t 25)
    (.region none [ ⟨some 26, none, .mv (.t 8)⟩, ⟨some 27, none, .bin .add (.t 26) (.c (.int .i64 1))⟩, ⟨some 6, none, .mv (.t 27)⟩] [0, 1, 6, 7])
    (.region none [ ⟨some 28, none, .mv (.t 8)⟩, ⟨some 7, none, .mv (.t 28)⟩] [0, 1, 6, 7])))))))) (.seq (.seq
    (.region none [ ⟨some 29, none, .mv (.t 6)⟩, ⟨some 30, none, .mv (.t 0)⟩, ⟨some 31, none, .len (.t 30)⟩, ⟨some 32, none, .bin .lss (.t 29) (.t 31)⟩, ⟨some 33, none, .mv (.t 32)⟩, ⟨some 34, (some (33, true)), .mv (.t 0)⟩, ⟨some 35, (some (33, true)), .mv (.t 6)⟩, ⟨some 36, (some (33, true)), .idx 1 (.t 34) (.t 35)⟩, ⟨some 37, (some (33, true)), .ld none (.t 36)⟩, ⟨some 38, (some (33, true)), .mv (.t 1)⟩, ⟨some 39, (some (33, true)), .call (.f 67) [((.t 37), .r), ((.t 38), .r)]⟩, ⟨some 40, none, .pick (.t 33) (.t 39) (.c (.bool false))⟩] [0, 1, 6, 40]) (.cond (.t 40) (.seq
    (.region none [ ⟨some 41, none, .mv (.t 0)⟩, ⟨some 4, none, .asg (.t 41)⟩, ⟨some 5, none, .mv (.c (.bool false))⟩] [0, 1, 4, 5]) .ret) .skip)) (.seq
    (.region none [ ⟨some 42, none, .mv (.t 0)⟩, ⟨some 43, none, .mv (.t 1)⟩, ⟨some 44, none, .bsl [(.t 43)]⟩, ⟨some 45, none, .app true 1 (.t 42) (.t 44)⟩, ⟨some 9, none, .asg (.t 45)⟩] [0, 1, 6, 9]) (.seq (.seq
    (.region none [ ⟨some 46, none, .mv (.t 9)⟩, ⟨some 47, none, .len (.t 46)⟩, ⟨some 48, none, .bin .sub (.t 47) (.c (.int .i64 1))⟩, ⟨some 10, none, .mv (.t 48)⟩] [0, 1, 6, 9, 10]) (.block 2 (.loop (.seq (.seq
    (.region none [ ⟨some 49, none, .mv (.t 10)⟩, ⟨some 50, none, .mv (.t 6)⟩, ⟨some 51, none, .bin .gtr (.t 49) (.t 50)⟩] [0, 1, 6, 9, 10, 51]) (.cond (.t 51) .skip (.exit 2))) (.seq (.block 3
    (.region none [ ⟨some 54, none, .mv (.t 9)⟩, ⟨some 55, none, .mv (.t 10)⟩, ⟨some 56, none, .mv (.t 9)⟩, ⟨some 57, none, .mv (.t 10)⟩, ⟨some 58, none, .bin .sub (.t 57) (.c (.int .i64 1))⟩, ⟨some 59, none, .idx 1 (.t 56) (.t 58)⟩, ⟨some 60, none, .ld none (.t 59)⟩, ⟨some 61, none, .idx 1 (.t 54) (.t 55)⟩, ⟨none, none, .st none (.t 61) (.t 60)⟩] [0, 1, 6, 9, 10]))
    (.region none [ ⟨some 52, none, .mv (.t 10)⟩, ⟨some 53, none, .bin .sub (.t 52) (.c (.int .i64 1))⟩, ⟨some 10, none, .mv (.t 53)⟩] [0, 1, 6, 9, 10])))))) (.seq
    (.region none [ ⟨some 62, none, .mv (.t 9)⟩, ⟨some 63, none, .mv (.t 6)⟩, ⟨some 64, none, .mv (.t 1)⟩, ⟨some 65, none, .idx 1 (.t 62) (.t 63)⟩, ⟨none, none, .st none (.t 65) (.t 64)⟩] [0, 1, 9]) (.seq
    (.region none [ ⟨some 66, none, .mv (.t 9)⟩, ⟨some 4, none, .asg (.t 66)⟩, ⟨some 5, none, .mv (.c (.bool true))⟩] [0, 1, 4, 5]) .ret))))))))

/-- spec.l01Less -/
def c_spec_l01Less : F where
  np := 2
  rs := [.t 4]
  body :=
    (.seq
    (.region none [ ⟨some 4, none, .mv (.c (.bool false))⟩] [0, 1]) (.seq (.seq
    (.region none [ ⟨some 5, none, .mv (.c (.int .i64 0))⟩] [0, 1, 5]) (.block 0 (.loop (.seq (.seq
    (.region none [ ⟨some 6, none, .mv (.t 5)⟩, ⟨some 7, none, .mv (.t 0)⟩, ⟨some 8, none, .len (.t 7)⟩, ⟨some 9, none, .bin .lss (.t 6) (.t 8)⟩, ⟨some 10, none, .mv (.t 9)⟩, ⟨some 11, (some (10, true)), .mv (.t 5)⟩, ⟨some 12, (some (10, true)), .mv (.t 1)⟩, ⟨some 13, (some (10, true)), .len (.t 12)⟩, ⟨some 14, (some (10, true)), .bin .lss (.t 11) (.t 13)⟩, ⟨some 15, none, .pick (.t 10) (.t 14) (.c (.bool false))⟩] [0, 1, 5, 15]) (.cond (.t 15) .skip (.exit 0))) (.seq (.block 1 (.seq
    (.region (some [18, 19, 20, 21, 22, 23, 24, 25]) [ ⟨some 18, none, .mv (.t 0)⟩, ⟨some 19, none, .mv (.t 5)⟩, ⟨some 20, none, .idx 1 (.t 18) (.t 19)⟩, ⟨some 21, none, .ld none (.t 20)⟩, ⟨some 22, none, .mv (.t 1)⟩, ⟨some 23, none, .mv (.t 5)⟩, ⟨some 24, none, .idx 1 (.t 22) (.t 23)⟩, ⟨some 25, none, .ld none (.t 24)⟩, ⟨some 26, none, .bin .neq (.t 21) (.t 25)⟩] [0, 1, 5, 26]) (.cond (.t 26) (.seq
    (.region (some [27, 28, 29, 30, 31, 32, 33, 34]) [ ⟨some 27, none, .mv (.t 0)⟩, ⟨some 28, none, .mv (.t 5)⟩, ⟨some 29, none, .idx 1 (.t 27) (.t 28)⟩, ⟨some 30, none, .ld none (.t 29)⟩, ⟨some 31, none, .mv (.t 1)⟩, ⟨some 32, none, .mv (.t 5)⟩, ⟨some 33, none, .idx 1 (.t 31) (.t 32)⟩, ⟨some 34, none, .ld none (.t 33)⟩, ⟨some 35, none, .bin .lss (.t 30) (.t 34)⟩, ⟨some 4, none, .mv (.t 35)⟩] [4]) .ret) .skip)))
    (.region none [ ⟨some 16, none, .mv (.t 5)⟩, ⟨some 17, none, .bin .add (.t 16) (.c (.int .i64 1))⟩, ⟨some 5, none, .mv (.t 17)⟩] [0, 1, 5])))))) (.seq
    (.region none [ ⟨some 36, none, .mv (.t 0)⟩, ⟨some 37, none, .len (.t 36)⟩, ⟨some 38, none, .mv (.t 1)⟩, ⟨some 39, none, .len (.t 38)⟩, ⟨some 40, none, .bin .lss (.t 37) (.t 39)⟩, ⟨some 4, none, .mv (.t 40)⟩] [4]) .ret)))

/-- impl.limitedOrder -/
def c_impl_limitedOrder : F where
  np := 1
  rs := [.t 2, .t 3]
  body :=
    (.seq
    (.region none [ ⟨some 2, none, .mv (.c (.int .i64 0))⟩, ⟨some 3, none, .mv (.c (.int .i64 0))⟩] [0]) (.seq
    (.region none [ ⟨some 5, none, .mv (.t 0)⟩, ⟨some 6, none, .idx 1 (.t 5) (.c (.int .i64 0))⟩, ⟨some 7, none, .ld none (.t 6)⟩, ⟨some 8, none, .len (.t 7)⟩, ⟨some 9, none, .mv (.t 0)⟩, ⟨some 10, none, .call (.f 380) [((.t 8), .r), ((.t 9), .r), ((.c (.int .i64 1000)), .r)]⟩, ⟨some 4, none, .mv (.t 10)⟩] [4]) (.seq (.seq
    (.region none [ ⟨some 11, none, .mv (.t 4)⟩, ⟨some 12, none, .bin .gtr (.t 11) (.c (.int .i64 1000))⟩] [4, 12]) (.cond (.t 12) (.seq
    (.region none [ ⟨some 2, none, .mv (.c (.int .i64 0))⟩, ⟨some 3, none, .mv (.c (.int .i64 3))⟩] [2, 3]) .ret) .skip)) (.seq
    (.region none [ ⟨some 13, none, .mv (.t 4)⟩, ⟨some 2, none, .mv (.t 13)⟩, ⟨some 3, none, .mv (.c (.int .i64 0))⟩] [2, 3]) .ret))))

/-- impl.groupOrder -/
def c_impl_groupOrder : F where
  np := 3
  rs := [.t 6]
  body :=
    (.seq
    (.region none [ ⟨some 6, none, .mv (.c (.int .i64 0))⟩] [0, 1, 2]) (.seq
    (.region none [ ⟨some 14, none, .mkset⟩, ⟨some 15, none, .mv (.t 0)⟩, ⟨some 16, none, .call (.f 335) [((.t 15), .r)]⟩, ⟨some 17, none, .call (.f 312) [((.t 16), .r)]⟩, ⟨none, none, .upd (.t 14) (.t 17)⟩, ⟨some 18, none, .mv (.t 14)⟩, ⟨some 7, none, .asg (.t 18)⟩] [0, 1, 2, 7]) (.seq
    (.region none [ ⟨some 19, none, .mv (.t 0)⟩, ⟨some 20, none, .call (.f 335) [((.t 19), .r)]⟩, ⟨some 21, none, .bsl [(.t 20)]⟩, ⟨some 8, none, .asg (.t 21)⟩] [1, 2, 7, 8]) (.seq (.seq
    (.region none [ ⟨some 9, none, .mv (.c (.int .i64 0))⟩] [1, 2, 7, 8, 9]) (.block 0 (.loop (.seq (.seq
    (.region none [ ⟨some 22, none, .mv (.t 9)⟩, ⟨some 23, none, .mv (.t 8)⟩, ⟨some 24, none, .len (.t 23)⟩, ⟨some 25, none, .bin .lss (.t 22) (.t 24)⟩] [1, 2, 7, 8, 9, 25]) (.cond (.t 25) .skip (.exit 0))) (.seq (.block 1 (.seq
    (.region none [ ⟨some 28, none, .mv (.t 1)⟩, ⟨some 29, none, .len (.t 28)⟩, ⟨some 30, none, .mv (.c (.int .i64 0))⟩] [1, 2, 7, 8, 9, 28, 29, 30]) (.block 2 (.loop (.seq
    (.region none [ ⟨some 31, none, .bin .lss (.t 30) (.t 29)⟩] [1, 2, 7, 8, 9, 28, 29, 30, 31]) (.seq (.cond (.t 31) .skip (.exit 2)) (.seq (.block 3 (.seq
    (.region none [ ⟨some 32, none, .idx 1 (.t 28) (.t 30)⟩, ⟨some 33, none, .ld none (.t 32)⟩, ⟨some 11, none, .asg (.t 33)⟩] [1, 2, 7, 8, 9, 11, 28, 29, 30]) (.seq
    (.region none [ ⟨some 34, none, .mv (.t 8)⟩, ⟨some 35, none, .mv (.t 9)⟩, ⟨some 36, none, .idx 1 (.t 34) (.t 35)⟩, ⟨some 37, none, .ld none (.t 36)⟩, ⟨some 38, none, .mv (.t 11)⟩, ⟨some 39, none, .call (.f 277) [((.t 37), .r), ((.t 38), .r)]⟩, ⟨some 12, none, .asg (.t 39)⟩] [1, 2, 7, 8, 9, 12, 28, 29, 30]) (.seq
    (.region none [ ⟨some 40, none, .mv (.t 12)⟩, ⟨some 41, none, .call (.f 312) [((.t 40), .r)]⟩, ⟨some 13, none, .mv (.t 41)⟩] [1, 2, 7, 8, 9, 12, 13, 28, 29, 30]) (.seq
    (.region none [ ⟨some 42, none, .mv (.t 7)⟩, ⟨some 43, none, .mv (.t 13)⟩, ⟨some 44, none, .look (.t 42) (.t 43)⟩, ⟨some 45, none, .un .not (.t 44)⟩] [1, 2, 7, 8, 9, 12, 13, 28, 29, 30, 45]) (.cond (.t 45) (.seq (.seq
    (.region none [ ⟨some 46, none, .mv (.t 8)⟩, ⟨some 47, none, .len (.t 46)⟩, ⟨some 48, none, .mv (.t 2)⟩, ⟨some 49, none, .bin .eql (.t 47) (.t 48)⟩] [1, 2, 7, 8, 9, 12, 13, 28, 29, 30, 49]) (.cond (.t 49) (.seq
    (.region none [ ⟨some 50, none, .mv (.t 2)⟩, ⟨some 51, none, .bin .add (.t 50) (.c (.int .i64 1))⟩, ⟨some 6, none, .mv (.t 51)⟩] [6]) .ret) .skip)) (.seq
    (.region none [ ⟨some 52, none, .mv (.t 7)⟩, ⟨some 53, none, .mv (.t 13)⟩, ⟨none, none, .upd (.t 52) (.t 53)⟩] [1, 2, 7, 8, 9, 12, 28, 29, 30])
    (.region none [ ⟨some 54, none, .mv (.t 8)⟩, ⟨some 55, none, .mv (.t 12)⟩, ⟨some 56, none, .bsl [(.t 55)]⟩, ⟨some 57, none, .app true 1 (.t 54) (.t 56)⟩, ⟨some 8, none, .asg (.t 57)⟩] [1, 2, 7, 8, 9, 28, 29, 30]))) .skip))))))
    (.region none [ ⟨some 58, none, .bin .add (.t 30) (.c (.int .i64 1))⟩, ⟨some 30, none, .mv (.t 58)⟩] [1, 2, 7, 8, 9, 28, 29, 30]))))))))
    (.region none [ ⟨some 26, none, .mv (.t 9)⟩, ⟨some 27, none, .bin .add (.t 26) (.c (.int .i64 1))⟩, ⟨some 9, none, .mv (.t 27)⟩] [1, 2, 7, 8, 9])))))) (.seq
    (.region none [ ⟨some 59, none, .mv (.t 8)⟩, ⟨some 60, none, .len (.t 59)⟩, ⟨some 6, none, .mv (.t 60)⟩] [6]) .ret)))))

/-- impl.digitsText -/
def c_impl_digitsText : F where
  np := 1
  rs := [.t 2]
  body :=
    (.seq
    (.region none [ ⟨some 2, none, .mv (.c (.string (ByteArray.mk #[])))⟩] [0]) (.seq
    (.region none [ ⟨some 6, none, .mv (.t 0)⟩, ⟨some 7, none, .len (.t 6)⟩, ⟨some 8, none, .mks (.int .u8 0) (.t 7)⟩, ⟨some 3, none, .asg (.t 8)⟩] [0, 3]) (.seq (.seq
    (.region none [ ⟨some 9, none, .mv (.t 0)⟩, ⟨some 10, none, .len (.t 9)⟩, ⟨some 11, none, .mv (.c (.int .i64 0))⟩] [3, 9, 10, 11]) (.block 0 (.loop (.seq
    (.region none [ ⟨some 12, none, .bin .lss (.t 11) (.t 10)⟩] [3, 9, 10, 11, 12]) (.seq (.cond (.t 12) .skip (.exit 0)) (.seq (.block 1 (.seq
    (.region none [ ⟨some 13, none, .mv (.t 11)⟩, ⟨some 14, none, .idx 1 (.t 9) (.t 11)⟩, ⟨some 15, none, .ld none (.t 14)⟩, ⟨some 4, none, .mv (.t 13)⟩, ⟨some 5, none, .mv (.t 15)⟩] [3, 4, 5, 9, 10, 11])
    (.region none [ ⟨some 16, none, .mv (.t 3)⟩, ⟨some 17, none, .mv (.t 4)⟩, ⟨some 18, none, .mv (.t 5)⟩, ⟨some 19, none, .at (.c (.string (ByteArray.mk #[48, 49, 50, 51, 52, 53, 54, 55, 56, 57, 97, 98]))) (.t 18)⟩, ⟨some 20, none, .idx 1 (.t 16) (.t 17)⟩, ⟨none, none, .st none (.t 20) (.t 19)⟩] [3, 9, 10, 11])))
    (.region none [ ⟨some 21, none, .bin .add (.t 11) (.c (.int .i64 1))⟩, ⟨some 11, none, .mv (.t 21)⟩] [3, 9, 10, 11]))))))) (.seq
    (.region none [ ⟨some 22, none, .mv (.t 3)⟩, ⟨some 23, none, .bstr (.t 22)⟩, ⟨some 2, none, .mv (.t 23)⟩] [2]) .ret))))

/-- spec.WholeGroupOrder -/
def c_spec_WholeGroupOrder : F where
  np := 1
  rs := [.t 2, .t 3]
  body :=
    (.seq
    (.region none [ ⟨some 1, none, .box (.t 0)⟩, ⟨some 2, none, .mv (.c (.int .i64 0))⟩, ⟨some 3, none, .mv (.c (.int .i64 0))⟩] [1]) (.seq (.seq
    (.region none [ ⟨some 6, none, .ld (some 2) (.t 1)⟩, ⟨some 7, none, .call (.f 264) [((.t 6), .r)]⟩, ⟨some 8, none, .un .not (.t 7)⟩] [1, 8]) (.cond (.t 8) (.seq
    (.region none [ ⟨some 2, none, .mv (.c (.int .i64 0))⟩, ⟨some 3, none, .mv (.c (.int .i64 1))⟩] [2, 3]) .ret) .skip)) (.seq
    (.region (some [4, 10, 11, 12, 14, 15]) [ ⟨some 10, none, .ld (some 2) (.t 1)⟩, ⟨some 11, none, .ld (some 2) (.t 1)⟩, ⟨some 12, none, .call (.f 273) [((.t 11), .r)]⟩, ⟨some 13, none, .call (.f 272) [((.t 10), .r), ((.t 12), .r)]⟩, ⟨some 9, none, .mv (.t 13)⟩, ⟨some 14, none, .ext (.t 9) 0⟩, ⟨some 15, none, .ext (.t 9) 1⟩, ⟨some 4, none, .mv (.t 14)⟩, ⟨some 5, none, .mv (.t 15)⟩] [4, 5]) (.seq
    (.region none [ ⟨some 16, none, .mv (.t 4)⟩, ⟨some 17, none, .mv (.t 5)⟩, ⟨some 2, none, .mv (.t 16)⟩, ⟨some 3, none, .mv (.t 17)⟩] [2, 3]) .ret))))

/-- impl.WholeGroupOrder -/
def c_impl_WholeGroupOrder : F where
  np := 1
  rs := [.t 2, .t 3]
  body :=
    (.seq
    (.region none [ ⟨some 1, none, .box (.t 0)⟩, ⟨some 2, none, .mv (.c (.int .i64 0))⟩, ⟨some 3, none, .mv (.c (.int .i64 0))⟩] [1]) (.seq (.seq
    (.region none [ ⟨some 4, none, .ld (some 2) (.t 1)⟩, ⟨some 5, none, .call (.f 266) [((.t 4), .r)]⟩, ⟨some 6, none, .un .not (.t 5)⟩] [1, 6]) (.cond (.t 6) (.seq
    (.region none [ ⟨some 2, none, .mv (.c (.int .i64 0))⟩, ⟨some 3, none, .mv (.c (.int .i64 1))⟩] [2, 3]) .ret) .skip)) (.seq
    (.region none [ ⟨some 7, none, .ld (some 2) (.t 1)⟩, ⟨some 8, none, .call (.f 271) [((.t 7), .r)]⟩, ⟨some 9, none, .call (.f 270) [((.t 8), .r)]⟩, ⟨some 10, none, .ext (.t 9) 0⟩, ⟨some 11, none, .ext (.t 9) 1⟩, ⟨some 2, none, .mv (.t 10)⟩, ⟨some 3, none, .mv (.t 11)⟩] [2, 3]) .ret)))

end Go.Mch
