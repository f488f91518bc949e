/- Compact code of the functions that statements 13 to 36 reach further. -/
import Derived.Test.YtmojfojdkolaiaaM1
namespace Go.Mch

/-- spec.l01Greatest -/
def c_spec_l01Greatest : F where
  np := 1
  rs := [.t 2]
  body :=
    (.seq
    (.region none [ ⟨some 2, none, .mv (.c (.int .i64 0))⟩] [0]) (.seq
    (.region none [ ⟨some 3, none, .mv (.c (.int .i64 0))⟩] [0, 3]) (.seq (.seq
    (.region none [ ⟨some 4, none, .mv (.c (.int .i64 0))⟩] [0, 3, 4]) (.block 0 (.loop (.seq (.seq
    (.region none [ ⟨some 5, none, .mv (.t 4)⟩, ⟨some 6, none, .mv (.t 0)⟩, ⟨some 7, none, .len (.t 6)⟩, ⟨some 8, none, .bin .lss (.t 5) (.t 7)⟩] [0, 3, 4, 8]) (.cond (.t 8) .skip (.exit 0))) (.seq (.block 1 (.seq
    (.region none [ ⟨some 11, none, .mv (.t 0)⟩, ⟨some 12, none, .mv (.t 4)⟩, ⟨some 13, none, .idx 1 (.t 11) (.t 12)⟩, ⟨some 14, none, .ld none (.t 13)⟩, ⟨some 15, none, .mv (.t 3)⟩, ⟨some 16, none, .bin .geq (.t 14) (.t 15)⟩] [0, 3, 4, 16]) (.cond (.t 16)
    (.region none [ ⟨some 17, none, .mv (.t 0)⟩, ⟨some 18, none, .mv (.t 4)⟩, ⟨some 19, none, .idx 1 (.t 17) (.t 18)⟩, ⟨some 20, none, .ld none (.t 19)⟩, ⟨some 21, none, .bin .add (.t 20) (.c (.int .i64 1))⟩, ⟨some 3, none, .mv (.t 21)⟩] [0, 3, 4]) .skip)))
    (.region none [ ⟨some 9, none, .mv (.t 4)⟩, ⟨some 10, none, .bin .add (.t 9) (.c (.int .i64 1))⟩, ⟨some 4, none, .mv (.t 10)⟩] [0, 3, 4])))))) (.seq
    (.region none [ ⟨some 22, none, .mv (.t 3)⟩, ⟨some 2, none, .mv (.t 22)⟩] [2]) .ret))))

/-- spec.l07Both -/
def c_spec_l07Both : F where
  np := 1
  rs := [.t 2]
  body :=
    (.seq
    (.region none [ ⟨some 1, none, .box (.t 0)⟩, ⟨some 2, none, .asg (.c (.slice none 0 0))⟩] [1]) (.seq
    (.region (some [3, 4, 5, 6, 7]) [ ⟨some 3, none, .fld 0 (.t 1)⟩, ⟨some 4, none, .ld none (.t 3)⟩, ⟨some 5, none, .call (.f 280) [((.t 4), .r)]⟩, ⟨some 6, none, .fld 1 (.t 1)⟩, ⟨some 7, none, .ld none (.t 6)⟩, ⟨some 8, none, .call (.f 265) [((.t 7), .r)]⟩, ⟨some 9, none, .app true 1 (.t 5) (.t 8)⟩, ⟨some 2, none, .asg (.t 9)⟩] [2]) .ret))

/-- spec.l01Orbit -/
def c_spec_l01Orbit : F where
  np := 2
  rs := [.t 4]
  body :=
    (.seq
    (.region none [ ⟨some 4, none, .asg (.c (.slice none 0 0))⟩] [0, 1]) (.seq
    (.region none [ ⟨some 8, none, .mv (.t 1)⟩, ⟨some 9, none, .bsl [(.t 8)]⟩, ⟨some 5, none, .asg (.t 9)⟩] [0, 5]) (.seq (.seq
    (.region none [ ⟨some 6, none, .mv (.c (.int .i64 0))⟩] [0, 5, 6]) (.block 0 (.loop (.seq (.seq
    (.region none [ ⟨some 10, none, .mv (.t 6)⟩, ⟨some 11, none, .mv (.t 5)⟩, ⟨some 12, none, .len (.t 11)⟩, ⟨some 13, none, .bin .lss (.t 10) (.t 12)⟩] [0, 5, 6, 13]) (.cond (.t 13) .skip (.exit 0))) (.seq (.block 1 (.seq
    (.region none [ ⟨some 7, none, .mv (.c (.int .i64 0))⟩] [0, 5, 6, 7]) (.block 2 (.loop (.seq (.seq
    (.region none [ ⟨some 16, none, .mv (.t 7)⟩, ⟨some 17, none, .mv (.t 0)⟩, ⟨some 18, none, .len (.t 17)⟩, ⟨some 19, none, .bin .lss (.t 16) (.t 18)⟩] [0, 5, 6, 7, 19]) (.cond (.t 19) .skip (.exit 2))) (.seq (.block 3 (.seq
    (.region (some [22, 23, 24, 25, 26, 27, 28, 29, 30, 31, 32]) [ ⟨some 22, none, .mv (.t 5)⟩, ⟨some 23, none, .mv (.t 0)⟩, ⟨some 24, none, .mv (.t 7)⟩, ⟨some 25, none, .idx 1 (.t 23) (.t 24)⟩, ⟨some 26, none, .ld none (.t 25)⟩, ⟨some 27, none, .mv (.t 5)⟩, ⟨some 28, none, .mv (.t 6)⟩, ⟨some 29, none, .idx 1 (.t 27) (.t 28)⟩, ⟨some 30, none, .ld none (.t 29)⟩, ⟨some 31, none, .idx 1 (.t 26) (.t 30)⟩, ⟨some 32, none, .ld none (.t 31)⟩, ⟨some 33, none, .call (.f 62) [((.t 22), .r), ((.t 32), .r)]⟩, ⟨some 34, none, .un .not (.t 33)⟩] [0, 5, 6, 7, 34]) (.cond (.t 34)
    (.region (some [35, 36, 37, 38, 39, 40, 41, 42, 43, 44, 45, 46]) [ ⟨some 35, none, .mv (.t 5)⟩, ⟨some 36, none, .mv (.t 0)⟩, ⟨some 37, none, .mv (.t 7)⟩, ⟨some 38, none, .idx 1 (.t 36) (.t 37)⟩, ⟨some 39, none, .ld none (.t 38)⟩, ⟨some 40, none, .mv (.t 5)⟩, ⟨some 41, none, .mv (.t 6)⟩, ⟨some 42, none, .idx 1 (.t 40) (.t 41)⟩, ⟨some 43, none, .ld none (.t 42)⟩, ⟨some 44, none, .idx 1 (.t 39) (.t 43)⟩, ⟨some 45, none, .ld none (.t 44)⟩, ⟨some 46, none, .bslv 1 [(.t 45)]⟩, ⟨some 47, none, .app true 1 (.t 35) (.t 46)⟩, ⟨some 5, none, .asg (.t 47)⟩] [0, 5, 6, 7]) .skip)))
    (.region none [ ⟨some 20, none, .mv (.t 7)⟩, ⟨some 21, none, .bin .add (.t 20) (.c (.int .i64 1))⟩, ⟨some 7, none, .mv (.t 21)⟩] [0, 5, 6, 7])))))))
    (.region none [ ⟨some 14, none, .mv (.t 6)⟩, ⟨some 15, none, .bin .add (.t 14) (.c (.int .i64 1))⟩, ⟨some 6, none, .mv (.t 15)⟩] [0, 5, 6])))))) (.seq
    (.region none [ ⟨some 48, none, .mv (.t 5)⟩, ⟨some 4, none, .asg (.t 48)⟩] [4]) .ret))))

/-- impl.wholeSystem -/
def c_impl_wholeSystem : F where
  np := 1
  rs := [.t 2]
  body :=
    (.seq
    (.region none [ ⟨some 1, none, .box (.t 0)⟩, ⟨some 2, none, .asg (.c (.slice none 0 0))⟩] [1]) (.seq
    (.region (some [3, 4, 5, 6, 7]) [ ⟨some 3, none, .fld 0 (.t 1)⟩, ⟨some 4, none, .ld none (.t 3)⟩, ⟨some 5, none, .fld 1 (.t 1)⟩, ⟨some 6, none, .ld none (.t 5)⟩, ⟨some 7, none, .call (.f 267) [((.t 6), .r)]⟩, ⟨some 8, none, .bsls 1 true true [(.t 4), (.t 7)]⟩, ⟨some 9, none, .call (.f 381) [((.t 8), .r)]⟩, ⟨some 2, none, .asg (.t 9)⟩] [2]) .ret))

/-- slices.Concat[[][]int64,[]int64] -/
def c_slices_Concat_____int64___int64_ : F where
  np := 1
  rs := [.t 2]
  body :=
    (.seq
    (.region none [ ⟨some 2, none, .asg (.c (.slice none 0 0))⟩] [0]) (.seq
    (.region none [ ⟨some 3, none, .mv (.c (.int .i64 0))⟩] [0, 3]) (.seq (.seq
    (.region none [ ⟨some 9, none, .mv (.t 0)⟩, ⟨some 10, none, .len (.t 9)⟩, ⟨some 11, none, .mv (.c (.int .i64 0))⟩] [0, 3, 9, 10, 11]) (.block 0 (.loop (.seq
    (.region none [ ⟨some 12, none, .bin .lss (.t 11) (.t 10)⟩] [0, 3, 9, 10, 11, 12]) (.seq (.cond (.t 12) .skip (.exit 0)) (.seq (.block 1 (.seq
    (.region none [ ⟨some 13, none, .idx 1 (.t 9) (.t 11)⟩, ⟨some 14, none, .ld none (.t 13)⟩, ⟨some 5, none, .asg (.t 14)⟩] [0, 3, 5, 9, 10, 11]) (.seq
    (.region none [ ⟨some 15, none, .mv (.t 3)⟩, ⟨some 16, none, .mv (.t 5)⟩, ⟨some 17, none, .len (.t 16)⟩, ⟨some 18, none, .bin .add (.t 15) (.t 17)⟩, ⟨some 3, none, .mv (.t 18)⟩] [0, 3, 9, 10, 11]) (.seq
    (.region none [ ⟨some 19, none, .mv (.t 3)⟩, ⟨some 20, none, .bin .lss (.t 19) (.c (.int .i64 0))⟩] [0, 3, 9, 10, 11, 20]) (.cond (.t 20) .stuck .skip)))))
    (.region none [ ⟨some 22, none, .bin .add (.t 11) (.c (.int .i64 1))⟩, ⟨some 11, none, .mv (.t 22)⟩] [0, 3, 9, 10, 11]))))))) (.seq
    (.region none [ ⟨some 23, none, .mv (.t 3)⟩, ⟨some 24, none, .call (.f 429) [((.c (.slice none 0 0)), .r), ((.t 23), .r)]⟩, ⟨some 6, none, .asg (.t 24)⟩] [0, 6]) (.seq (.seq
    (.region none [ ⟨some 25, none, .mv (.t 0)⟩, ⟨some 26, none, .len (.t 25)⟩, ⟨some 27, none, .mv (.c (.int .i64 0))⟩] [6, 25, 26, 27]) (.block 2 (.loop (.seq
    (.region none [ ⟨some 28, none, .bin .lss (.t 27) (.t 26)⟩] [6, 25, 26, 27, 28]) (.seq (.cond (.t 28) .skip (.exit 2)) (.seq (.block 3 (.seq
    (.region none [ ⟨some 29, none, .idx 1 (.t 25) (.t 27)⟩, ⟨some 30, none, .ld none (.t 29)⟩, ⟨some 8, none, .asg (.t 30)⟩] [6, 8, 25, 26, 27])
    (.region none [ ⟨some 31, none, .mv (.t 6)⟩, ⟨some 32, none, .mv (.t 8)⟩, ⟨some 33, none, .app false 1 (.t 31) (.t 32)⟩, ⟨some 6, none, .asg (.t 33)⟩] [6, 25, 26, 27])))
    (.region none [ ⟨some 34, none, .bin .add (.t 27) (.c (.int .i64 1))⟩, ⟨some 27, none, .mv (.t 34)⟩] [6, 25, 26, 27]))))))) (.seq
    (.region none [ ⟨some 35, none, .mv (.t 6)⟩, ⟨some 2, none, .asg (.t 35)⟩] [2]) .ret))))))

/-- slices.Grow[[][]int64,[]int64] -/
def c_slices_Grow_____int64___int64_ : F where
  np := 2
  rs := [.t 4]
  body :=
    (.seq
    (.region none [ ⟨some 4, none, .asg (.c (.slice none 0 0))⟩] [0, 1]) (.seq (.seq
    (.region none [ ⟨some 5, none, .mv (.t 1)⟩, ⟨some 6, none, .bin .lss (.t 5) (.c (.int .i64 0))⟩] [0, 1, 6]) (.cond (.t 6) .stuck .skip)) (.seq (.seq
    (.region none [ ⟨some 8, none, .mv (.t 1)⟩, ⟨some 9, none, .mv (.t 0)⟩, ⟨some 10, none, .cap0 (.t 9)⟩, ⟨some 11, none, .mv (.t 0)⟩, ⟨some 12, none, .len (.t 11)⟩, ⟨some 13, none, .bin .sub (.t 10) (.t 12)⟩, ⟨some 14, none, .bin .sub (.t 8) (.t 13)⟩, ⟨some 1, none, .mv (.t 14)⟩] [0, 1]) (.seq
    (.region none [ ⟨some 15, none, .mv (.t 1)⟩, ⟨some 16, none, .bin .gtr (.t 15) (.c (.int .i64 0))⟩] [0, 1, 16]) (.cond (.t 16)
    (.region none [ ⟨some 17, none, .mv (.t 0)⟩, ⟨some 18, none, .mv (.t 0)⟩, ⟨some 19, none, .cap0 (.t 18)⟩, ⟨some 20, none, .sl 1 (.t 17) none (some (.t 19))⟩, ⟨some 21, none, .mv (.t 1)⟩, ⟨some 22, none, .apz (.slice none 0 0) (.t 20) (.t 21)⟩, ⟨some 23, none, .mv (.t 0)⟩, ⟨some 24, none, .len (.t 23)⟩, ⟨some 25, none, .sl 1 (.t 22) none (some (.t 24))⟩, ⟨some 0, none, .asg (.t 25)⟩] [0]) .skip))) (.seq
    (.region none [ ⟨some 26, none, .mv (.t 0)⟩, ⟨some 4, none, .asg (.t 26)⟩] [4]) .ret))))

/-- spec.FixedElements -/
def c_spec_FixedElements : F where
  np := 1
  rs := [.t 2, .t 3]
  body :=
    (.seq
    (.region none [ ⟨some 1, none, .box (.t 0)⟩, ⟨some 2, none, .asg (.c (.slice none 0 0))⟩, ⟨some 3, none, .mv (.c (.int .i64 0))⟩] [1]) (.seq (.seq
    (.region none [ ⟨some 8, none, .ld (some 2) (.t 1)⟩, ⟨some 9, none, .call (.f 264) [((.t 8), .r)]⟩, ⟨some 10, none, .un .not (.t 9)⟩] [1, 10]) (.cond (.t 10) (.seq
    (.region none [ ⟨some 2, none, .asg (.c (.slice none 0 0))⟩, ⟨some 3, none, .mv (.c (.int .i64 1))⟩] [2, 3]) .ret) .skip)) (.seq
    (.region none [ ⟨some 11, none, .ld (some 2) (.t 1)⟩, ⟨some 12, none, .call (.f 299) [((.t 11), .r)]⟩, ⟨some 13, none, .bsl []⟩, ⟨some 4, none, .asg (.t 12)⟩, ⟨some 5, none, .asg (.t 13)⟩] [4, 5]) (.seq (.seq
    (.region none [ ⟨some 6, none, .mv (.c (.int .i64 0))⟩] [4, 5, 6]) (.block 0 (.loop (.seq (.seq
    (.region none [ ⟨some 14, none, .mv (.t 6)⟩, ⟨some 15, none, .mv (.t 4)⟩, ⟨some 16, none, .call (.f 288) [((.t 15), .r)]⟩, ⟨some 17, none, .bin .lss (.t 14) (.t 16)⟩] [4, 5, 6, 17]) (.cond (.t 17) .skip (.exit 0))) (.seq (.block 1 (.seq
    (.region none [ ⟨some 20, none, .mv (.t 4)⟩, ⟨some 21, none, .mv (.t 6)⟩, ⟨some 22, none, .call (.f 316) [((.t 20), .r), ((.t 21), .r)]⟩, ⟨some 7, none, .asg (.t 22)⟩] [4, 5, 6, 7]) (.seq
    (.region none [ ⟨some 23, none, .mv (.t 7)⟩, ⟨some 24, none, .len (.t 23)⟩, ⟨some 25, none, .bin .eql (.t 24) (.c (.int .i64 1))⟩] [4, 5, 6, 7, 25]) (.cond (.t 25)
    (.region none [ ⟨some 26, none, .mv (.t 5)⟩, ⟨some 27, none, .mv (.t 7)⟩, ⟨some 28, none, .idx 1 (.t 27) (.c (.int .i64 0))⟩, ⟨some 29, none, .ld none (.t 28)⟩, ⟨some 30, none, .bsl [(.t 29)]⟩, ⟨some 31, none, .app true 1 (.t 26) (.t 30)⟩, ⟨some 5, none, .asg (.t 31)⟩] [4, 5, 6]) .skip))))
    (.region none [ ⟨some 18, none, .mv (.t 6)⟩, ⟨some 19, none, .bin .add (.t 18) (.c (.int .i64 1))⟩, ⟨some 6, none, .mv (.t 19)⟩] [4, 5, 6])))))) (.seq
    (.region none [ ⟨some 32, none, .mv (.t 5)⟩, ⟨some 2, none, .asg (.t 32)⟩, ⟨some 3, none, .mv (.c (.int .i64 0))⟩] [2, 3]) .ret)))))

/-- spec.l07Members -/
def c_spec_l07Members : F where
  np := 2
  rs := [.t 4]
  body :=
    (.seq
    (.region none [ ⟨some 4, none, .asg (.c (.slice none 0 0))⟩] [0, 1]) (.seq
    (.region none [ ⟨some 7, none, .bsl []⟩, ⟨some 5, none, .asg (.t 7)⟩] [0, 1, 5]) (.seq (.seq
    (.region none [ ⟨some 6, none, .mv (.c (.int .i64 0))⟩] [0, 1, 5, 6]) (.block 0 (.loop (.seq (.seq
    (.region none [ ⟨some 8, none, .mv (.t 6)⟩, ⟨some 9, none, .mv (.t 0)⟩, ⟨some 10, none, .len (.t 9)⟩, ⟨some 11, none, .bin .lss (.t 8) (.t 10)⟩] [0, 1, 5, 6, 11]) (.cond (.t 11) .skip (.exit 0))) (.seq (.block 1 (.seq
    (.region none [ ⟨some 14, none, .mv (.t 0)⟩, ⟨some 15, none, .mv (.t 6)⟩, ⟨some 16, none, .idx 1 (.t 14) (.t 15)⟩, ⟨some 17, none, .ld none (.t 16)⟩, ⟨some 18, none, .mv (.t 1)⟩, ⟨some 19, none, .bin .eql (.t 17) (.t 18)⟩] [0, 1, 5, 6, 19]) (.cond (.t 19)
    (.region none [ ⟨some 20, none, .mv (.t 5)⟩, ⟨some 21, none, .mv (.t 6)⟩, ⟨some 22, none, .bsl [(.t 21)]⟩, ⟨some 23, none, .app true 1 (.t 20) (.t 22)⟩, ⟨some 5, none, .asg (.t 23)⟩] [0, 1, 5, 6]) .skip)))
    (.region none [ ⟨some 12, none, .mv (.t 6)⟩, ⟨some 13, none, .bin .add (.t 12) (.c (.int .i64 1))⟩, ⟨some 6, none, .mv (.t 13)⟩] [0, 1, 5, 6])))))) (.seq
    (.region none [ ⟨some 24, none, .mv (.t 5)⟩, ⟨some 4, none, .asg (.t 24)⟩] [4]) .ret))))

/-- impl.FixedElements -/
def c_impl_FixedElements : F where
  np := 1
  rs := [.t 2, .t 3]
  body :=
    (.seq
    (.region none [ ⟨some 1, none, .box (.t 0)⟩, ⟨some 2, none, .asg (.c (.slice none 0 0))⟩, ⟨some 3, none, .mv (.c (.int .i64 0))⟩] [1]) (.seq (.seq
    (.region none [ ⟨some 6, none, .ld (some 2) (.t 1)⟩, ⟨some 7, none, .call (.f 266) [((.t 6), .r)]⟩, ⟨some 8, none, .un .not (.t 7)⟩] [1, 8]) (.cond (.t 8) (.seq
    (.region none [ ⟨some 2, none, .asg (.c (.slice none 0 0))⟩, ⟨some 3, none, .mv (.c (.int .i64 1))⟩] [2, 3]) .ret) .skip)) (.seq
    (.region none [ ⟨some 4, none, .asg (.c (.slice none 0 0))⟩] [1, 4]) (.seq (.seq
    (.region none [ ⟨some 9, none, .fld 0 (.t 1)⟩, ⟨some 10, none, .ld none (.t 9)⟩, ⟨some 11, none, .len (.t 10)⟩, ⟨some 12, none, .mv (.c (.int .i64 0))⟩] [1, 4, 11, 12]) (.block 0 (.loop (.seq
    (.region none [ ⟨some 13, none, .bin .lss (.t 12) (.t 11)⟩] [1, 4, 11, 12, 13]) (.seq (.cond (.t 13) .skip (.exit 0)) (.seq (.block 1 (.seq
    (.region none [ ⟨some 14, none, .mv (.t 12)⟩, ⟨some 5, none, .alloc [(.int .i64 0)]⟩, ⟨none, none, .st none (.t 5) (.t 14)⟩] [1, 4, 5, 11, 12]) (.seq
    (.region none [ ⟨some 15, none, .ld (some 2) (.t 1)⟩, ⟨some 16, none, .call (.f 271) [((.t 15), .r)]⟩, ⟨some 17, none, .fnc 317 [(.t 5)]⟩, ⟨some 18, none, .call (.f 63) [((.t 16), .r), ((.t 17), .r)]⟩, ⟨some 19, none, .un .not (.t 18)⟩] [1, 4, 5, 11, 12, 19]) (.cond (.t 19)
    (.region none [ ⟨some 20, none, .mv (.t 4)⟩, ⟨some 21, none, .ld none (.t 5)⟩, ⟨some 22, none, .bsl [(.t 21)]⟩, ⟨some 23, none, .app true 1 (.t 20) (.t 22)⟩, ⟨some 4, none, .asg (.t 23)⟩] [1, 4, 11, 12]) .skip))))
    (.region none [ ⟨some 24, none, .bin .add (.t 12) (.c (.int .i64 1))⟩, ⟨some 12, none, .mv (.t 24)⟩] [1, 4, 11, 12]))))))) (.seq
    (.region none [ ⟨some 25, none, .mv (.t 4)⟩, ⟨some 2, none, .asg (.t 25)⟩, ⟨some 3, none, .mv (.c (.int .i64 0))⟩] [2, 3]) .ret)))))

/-- impl.FixedElements$1 -/
def c_impl_FixedElements_1 : F where
  np := 2
  rs := [.t 3]
  body :=
    (.seq
    (.region none [ ⟨some 3, none, .mv (.c (.bool false))⟩] [0, 1]) (.seq
    (.region (some [4, 5, 6, 7, 8]) [ ⟨some 4, none, .mv (.t 0)⟩, ⟨some 5, none, .ld none (.t 1)⟩, ⟨some 6, none, .idx 1 (.t 4) (.t 5)⟩, ⟨some 7, none, .ld none (.t 6)⟩, ⟨some 8, none, .ld none (.t 1)⟩, ⟨some 9, none, .bin .neq (.t 7) (.t 8)⟩, ⟨some 3, none, .mv (.t 9)⟩] [3]) .ret))

end Go.Mch
