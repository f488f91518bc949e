/- Compact code of the functions of words that the exact laws reach further. -/
import Derived.Test.YtmeimdfldiaboaaM1
namespace Go.Mch

/-- spec.TupleOrbit -/
def c_spec_TupleOrbit : F where
  np := 2
  rs := [.t 4, .t 5]
  body :=
    (.seq
    (.region none [ ⟨some 2, none, .box (.t 0)⟩, ⟨some 4, none, .asg (.c (.slice none 0 0))⟩, ⟨some 5, none, .mv (.c (.int .i64 0))⟩] [1, 2]) (.seq (.block 0 (.seq
    (.region none [ ⟨some 8, none, .ld (some 2) (.t 2)⟩, ⟨some 9, none, .call (.f 41) [((.t 8), .r)]⟩, ⟨some 10, none, .un .not (.t 9)⟩, ⟨some 7, none, .mv (.t 10)⟩] [1, 2, 7]) (.cond (.t 7) (.seq
    (.region none [ ⟨some 4, none, .asg (.c (.slice none 0 0))⟩, ⟨some 5, none, .mv (.c (.int .i64 1))⟩] [4, 5]) .ret) (.seq
    (.region none [ ⟨some 12, none, .fld 0 (.t 2)⟩, ⟨some 13, none, .ld none (.t 12)⟩, ⟨some 14, none, .len (.t 13)⟩, ⟨some 15, none, .mv (.t 1)⟩, ⟨some 16, none, .call (.f 29) [((.t 14), .r), ((.t 15), .r)]⟩, ⟨some 17, none, .un .not (.t 16)⟩, ⟨some 11, none, .mv (.t 17)⟩] [1, 2, 11]) (.cond (.t 11) (.seq
    (.region none [ ⟨some 4, none, .asg (.c (.slice none 0 0))⟩, ⟨some 5, none, .mv (.c (.int .i64 2))⟩] [4, 5]) .ret) .skip))))) (.seq
    (.region none [ ⟨some 18, none, .ld (some 2) (.t 2)⟩, ⟨some 19, none, .mv (.t 1)⟩, ⟨some 20, none, .call (.f 315) [((.t 18), .r), ((.t 19), .r), ((.c (.int .i64 5000)), .r)]⟩, ⟨some 6, none, .asg (.t 20)⟩] [6]) (.seq (.seq
    (.region none [ ⟨some 21, none, .mv (.t 6)⟩, ⟨some 22, none, .len (.t 21)⟩, ⟨some 23, none, .bin .gtr (.t 22) (.c (.int .i64 5000))⟩] [6, 23]) (.cond (.t 23) (.seq
    (.region none [ ⟨some 4, none, .asg (.c (.slice none 0 0))⟩, ⟨some 5, none, .mv (.c (.int .i64 3))⟩] [4, 5]) .ret) .skip)) (.seq
    (.region none [ ⟨some 24, none, .mv (.t 6)⟩, ⟨some 25, none, .call (.f 280) [((.t 24), .r)]⟩, ⟨some 4, none, .asg (.t 25)⟩, ⟨some 5, none, .mv (.c (.int .i64 0))⟩] [4, 5]) .ret)))))

/-- spec.l06Reach -/
def c_spec_l06Reach : F where
  np := 3
  rs := [.t 6]
  body :=
    (.seq
    (.region none [ ⟨some 3, none, .box (.t 0)⟩, ⟨some 6, none, .asg (.c (.slice none 0 0))⟩] [1, 2, 3]) (.seq
    (.region none [ ⟨some 14, none, .mv (.t 1)⟩, ⟨some 15, none, .call (.f 31) [((.t 14), .r)]⟩, ⟨none, none, .freeze 15⟩, ⟨some 16, none, .bsl [(.t 15)]⟩, ⟨some 17, none, .mv (.t 1)⟩, ⟨some 18, none, .call (.f 31) [((.t 17), .r)]⟩, ⟨none, none, .freeze 18⟩, ⟨some 19, none, .bsl [(.t 18)]⟩, ⟨some 7, none, .asg (.t 16)⟩, ⟨some 8, none, .asg (.t 19)⟩] [1, 2, 3, 7, 8]) (.seq (.seq
    (.region none [ ⟨some 9, none, .mv (.c (.int .i64 0))⟩] [1, 2, 3, 7, 8, 9]) (.block 0 (.loop (.seq (.seq
    (.region none [ ⟨some 20, none, .mv (.t 9)⟩, ⟨some 21, none, .mv (.t 8)⟩, ⟨some 22, none, .len (.t 21)⟩, ⟨some 23, none, .bin .lss (.t 20) (.t 22)⟩, ⟨some 24, none, .mv (.t 23)⟩, ⟨some 25, (some (24, true)), .mv (.t 8)⟩, ⟨some 26, (some (24, true)), .len (.t 25)⟩, ⟨some 27, (some (24, true)), .mv (.t 2)⟩, ⟨some 28, (some (24, true)), .bin .leq (.t 26) (.t 27)⟩, ⟨some 29, none, .pick (.t 24) (.t 28) (.c (.bool false))⟩] [1, 2, 3, 7, 8, 9, 29]) (.cond (.t 29) .skip (.exit 0))) (.seq (.block 1 (.seq
    (.region none [ ⟨some 10, none, .mv (.c (.int .i64 0))⟩] [1, 2, 3, 7, 8, 9, 10]) (.block 2 (.loop (.seq (.seq
    (.region none [ ⟨some 32, none, .mv (.t 10)⟩, ⟨some 33, none, .bin .add (.t 32) (.c (.int .i64 1))⟩, ⟨some 34, none, .mv (.t 1)⟩, ⟨some 35, none, .len (.t 34)⟩, ⟨some 36, none, .bin .lss (.t 33) (.t 35)⟩, ⟨some 37, none, .mv (.t 36)⟩, ⟨some 38, (some (37, true)), .mv (.t 8)⟩, ⟨some 39, (some (37, true)), .len (.t 38)⟩, ⟨some 40, (some (37, true)), .mv (.t 2)⟩, ⟨some 41, (some (37, true)), .bin .leq (.t 39) (.t 40)⟩, ⟨some 42, none, .pick (.t 37) (.t 41) (.c (.bool false))⟩] [1, 2, 3, 7, 8, 9, 10, 42]) (.cond (.t 42) .skip (.exit 2))) (.seq (.block 3 (.seq
    (.region (some [45, 46, 47, 48, 49, 50]) [ ⟨some 45, none, .ld (some 2) (.t 3)⟩, ⟨some 46, none, .mv (.t 8)⟩, ⟨some 47, none, .mv (.t 9)⟩, ⟨some 48, none, .idx 1 (.t 46) (.t 47)⟩, ⟨some 49, none, .ld none (.t 48)⟩, ⟨some 50, none, .mv (.t 10)⟩, ⟨some 51, none, .call (.f 43) [((.t 45), .r), ((.t 49), .r), ((.t 50), .r)]⟩, ⟨some 11, none, .asg (.t 51)⟩] [1, 2, 3, 7, 8, 9, 10, 11]) (.seq
    (.region none [ ⟨none, none, .freeze 11⟩, ⟨some 52, none, .mv (.t 7)⟩, ⟨some 53, none, .mv (.t 11)⟩, ⟨some 54, none, .call (.f 396) [((.t 52), .r), ((.t 53), .r)]⟩, ⟨some 12, none, .mv (.t 54)⟩] [1, 2, 3, 7, 8, 9, 10, 11, 12]) (.seq (.seq
    (.region none [ ⟨some 55, none, .mv (.t 12)⟩, ⟨some 56, none, .mv (.t 7)⟩, ⟨some 57, none, .len (.t 56)⟩, ⟨some 58, none, .bin .lss (.t 55) (.t 57)⟩, ⟨some 59, none, .mv (.t 58)⟩, ⟨some 60, (some (59, true)), .mv (.t 7)⟩, ⟨some 61, (some (59, true)), .mv (.t 12)⟩, ⟨some 62, (some (59, true)), .idx 1 (.t 60) (.t 61)⟩, ⟨some 63, (some (59, true)), .ld none (.t 62)⟩, ⟨some 64, (some (59, true)), .mv (.t 11)⟩, ⟨some 65, (some (59, true)), .call (.f 67) [((.t 63), .r), ((.t 64), .r)]⟩, ⟨some 66, none, .pick (.t 59) (.t 65) (.c (.bool false))⟩] [1, 2, 3, 7, 8, 9, 10, 11, 12, 66]) (.cond (.t 66) (.exit 3) .skip)) (.seq
    (.region none [ ⟨some 67, none, .mv (.t 11)⟩, ⟨some 68, none, .bsl [(.t 67)]⟩, ⟨some 69, none, .mv (.t 7)⟩, ⟨some 70, none, .mv (.t 12)⟩, ⟨some 71, none, .sl 1 (.t 69) (some (.t 70)) none⟩, ⟨some 72, none, .app false 1 (.t 68) (.t 71)⟩, ⟨some 13, none, .asg (.t 72)⟩] [1, 2, 3, 7, 8, 9, 10, 11, 12, 13]) (.seq
    (.region none [ ⟨some 73, none, .bsl []⟩, ⟨some 74, none, .mv (.t 7)⟩, ⟨some 75, none, .mv (.t 12)⟩, ⟨some 76, none, .sl 1 (.t 74) none (some (.t 75))⟩, ⟨some 77, none, .app false 1 (.t 73) (.t 76)⟩, ⟨some 78, none, .mv (.t 13)⟩, ⟨some 79, none, .app false 1 (.t 77) (.t 78)⟩, ⟨some 7, none, .asg (.t 79)⟩] [1, 2, 3, 7, 8, 9, 10, 11])
    (.region none [ ⟨some 80, none, .mv (.t 8)⟩, ⟨some 81, none, .mv (.t 11)⟩, ⟨some 82, none, .bsl [(.t 81)]⟩, ⟨some 83, none, .app true 1 (.t 80) (.t 82)⟩, ⟨some 8, none, .asg (.t 83)⟩] [1, 2, 3, 7, 8, 9, 10])))))))
    (.region none [ ⟨some 43, none, .mv (.t 10)⟩, ⟨some 44, none, .bin .add (.t 43) (.c (.int .i64 1))⟩, ⟨some 10, none, .mv (.t 44)⟩] [1, 2, 3, 7, 8, 9, 10])))))))
    (.region none [ ⟨some 30, none, .mv (.t 9)⟩, ⟨some 31, none, .bin .add (.t 30) (.c (.int .i64 1))⟩, ⟨some 9, none, .mv (.t 31)⟩] [1, 2, 3, 7, 8, 9])))))) (.seq
    (.region none [ ⟨some 84, none, .mv (.t 7)⟩, ⟨some 6, none, .asg (.t 84)⟩] [6]) .ret))))

/-- spec.l03Search -/
def c_spec_l03Search : F where
  np := 2
  rs := [.t 4]
  body :=
    (.seq
    (.region none [ ⟨some 4, none, .mv (.c (.int .i64 0))⟩] [0, 1]) (.seq
    (.region none [ ⟨some 8, none, .mv (.t 0)⟩, ⟨some 9, none, .len (.t 8)⟩, ⟨some 5, none, .mv (.c (.int .i64 0))⟩, ⟨some 6, none, .mv (.t 9)⟩] [0, 1, 5, 6]) (.seq (.block 0 (.loop (.seq (.seq
    (.region none [ ⟨some 10, none, .mv (.t 5)⟩, ⟨some 11, none, .mv (.t 6)⟩, ⟨some 12, none, .bin .lss (.t 10) (.t 11)⟩] [0, 1, 5, 6, 12]) (.cond (.t 12) .skip (.exit 0))) (.block 1 (.seq
    (.region none [ ⟨some 13, none, .mv (.t 5)⟩, ⟨some 14, none, .mv (.t 6)⟩, ⟨some 15, none, .bin .add (.t 13) (.t 14)⟩, ⟨some 16, none, .bin .quo (.t 15) (.c (.int .i64 2))⟩, ⟨some 7, none, .mv (.t 16)⟩] [0, 1, 5, 6, 7]) (.seq
    (.region none [ ⟨some 17, none, .mv (.t 0)⟩, ⟨some 18, none, .mv (.t 7)⟩, ⟨some 19, none, .idx 1 (.t 17) (.t 18)⟩, ⟨some 20, none, .ld none (.t 19)⟩, ⟨some 21, none, .mv (.t 1)⟩, ⟨some 22, none, .call (.f 408) [((.t 20), .r), ((.t 21), .r)]⟩] [0, 1, 5, 6, 7, 22]) (.cond (.t 22)
    (.region none [ ⟨some 23, none, .mv (.t 7)⟩, ⟨some 24, none, .bin .add (.t 23) (.c (.int .i64 1))⟩, ⟨some 5, none, .mv (.t 24)⟩] [0, 1, 5, 6])
    (.region none [ ⟨some 25, none, .mv (.t 7)⟩, ⟨some 6, none, .mv (.t 25)⟩] [0, 1, 5, 6])))))))) (.seq
    (.region none [ ⟨some 26, none, .mv (.t 5)⟩, ⟨some 4, none, .mv (.t 26)⟩] [4]) .ret))))

/-- impl.TupleOrbit -/
def c_impl_TupleOrbit : F where
  np := 2
  rs := [.t 4, .t 5]
  body :=
    (.seq
    (.region none [ ⟨some 2, none, .box (.t 0)⟩, ⟨some 4, none, .asg (.c (.slice none 0 0))⟩, ⟨some 5, none, .mv (.c (.int .i64 0))⟩] [1, 2]) (.seq (.seq
    (.region none [ ⟨some 12, none, .ld (some 2) (.t 2)⟩, ⟨some 13, none, .call (.f 42) [((.t 12), .r)]⟩, ⟨some 14, none, .un .not (.t 13)⟩] [1, 2, 14]) (.cond (.t 14) (.seq
    (.region none [ ⟨some 4, none, .asg (.c (.slice none 0 0))⟩, ⟨some 5, none, .mv (.c (.int .i64 1))⟩] [4, 5]) .ret) .skip)) (.seq (.seq
    (.region none [ ⟨some 15, none, .fld 0 (.t 2)⟩, ⟨some 16, none, .ld none (.t 15)⟩, ⟨some 17, none, .len (.t 16)⟩, ⟨some 18, none, .mv (.t 1)⟩, ⟨some 19, none, .call (.f 34) [((.t 17), .r), ((.t 18), .r)]⟩, ⟨some 20, none, .un .not (.t 19)⟩] [1, 2, 20]) (.cond (.t 20) (.seq
    (.region none [ ⟨some 4, none, .asg (.c (.slice none 0 0))⟩, ⟨some 5, none, .mv (.c (.int .i64 2))⟩] [4, 5]) .ret) .skip)) (.seq
    (.region none [ ⟨some 21, none, .mv (.t 1)⟩, ⟨some 22, none, .call (.f 36) [((.t 21), .r)]⟩, ⟨some 23, none, .bsl [(.t 22)]⟩, ⟨some 6, none, .asg (.t 23)⟩] [1, 2, 6]) (.seq
    (.region none [ ⟨some 24, none, .mkset⟩, ⟨some 25, none, .mv (.t 1)⟩, ⟨some 26, none, .call (.f 312) [((.t 25), .r)]⟩, ⟨none, none, .upd (.t 24) (.t 26)⟩, ⟨some 27, none, .mv (.t 24)⟩, ⟨some 7, none, .asg (.t 27)⟩] [1, 2, 6, 7]) (.seq (.seq
    (.region none [ ⟨some 8, none, .mv (.c (.int .i64 0))⟩] [1, 2, 6, 7, 8]) (.block 0 (.loop (.seq (.seq
    (.region none [ ⟨some 28, none, .mv (.t 8)⟩, ⟨some 29, none, .mv (.t 6)⟩, ⟨some 30, none, .len (.t 29)⟩, ⟨some 31, none, .bin .lss (.t 28) (.t 30)⟩] [1, 2, 6, 7, 8, 31]) (.cond (.t 31) .skip (.exit 0))) (.seq (.block 1 (.seq
    (.region none [ ⟨some 34, none, .mv (.t 1)⟩, ⟨some 35, none, .len (.t 34)⟩, ⟨some 36, none, .bin .sub (.t 35) (.c (.int .i64 1))⟩, ⟨some 37, none, .mv (.c (.int .i64 0))⟩] [1, 2, 6, 7, 8, 36, 37]) (.block 2 (.loop (.seq
    (.region none [ ⟨some 38, none, .bin .lss (.t 37) (.t 36)⟩] [1, 2, 6, 7, 8, 36, 37, 38]) (.seq (.cond (.t 38) .skip (.exit 2)) (.seq (.block 3 (.seq
    (.region none [ ⟨some 39, none, .mv (.t 37)⟩, ⟨some 9, none, .mv (.t 39)⟩] [1, 2, 6, 7, 8, 9, 36, 37]) (.seq
    (.region (some [40, 41, 42, 43, 44, 45]) [ ⟨some 40, none, .ld (some 2) (.t 2)⟩, ⟨some 41, none, .mv (.t 6)⟩, ⟨some 42, none, .mv (.t 8)⟩, ⟨some 43, none, .idx 1 (.t 41) (.t 42)⟩, ⟨some 44, none, .ld none (.t 43)⟩, ⟨some 45, none, .mv (.t 9)⟩, ⟨some 46, none, .call (.f 44) [((.t 40), .r), ((.t 44), .r), ((.t 45), .r)]⟩, ⟨some 10, none, .asg (.t 46)⟩] [1, 2, 6, 7, 8, 10, 36, 37]) (.seq
    (.region none [ ⟨some 47, none, .mv (.t 10)⟩, ⟨some 48, none, .call (.f 312) [((.t 47), .r)]⟩, ⟨some 11, none, .mv (.t 48)⟩] [1, 2, 6, 7, 8, 10, 11, 36, 37]) (.seq
    (.region none [ ⟨some 49, none, .mv (.t 7)⟩, ⟨some 50, none, .mv (.t 11)⟩, ⟨some 51, none, .look (.t 49) (.t 50)⟩, ⟨some 52, none, .un .not (.t 51)⟩] [1, 2, 6, 7, 8, 10, 11, 36, 37, 52]) (.cond (.t 52) (.seq (.seq
    (.region none [ ⟨some 53, none, .mv (.t 6)⟩, ⟨some 54, none, .len (.t 53)⟩, ⟨some 55, none, .bin .eql (.t 54) (.c (.int .i64 5000))⟩] [1, 2, 6, 7, 8, 10, 11, 36, 37, 55]) (.cond (.t 55) (.seq
    (.region none [ ⟨some 4, none, .asg (.c (.slice none 0 0))⟩, ⟨some 5, none, .mv (.c (.int .i64 3))⟩] [4, 5]) .ret) .skip)) (.seq
    (.region none [ ⟨some 56, none, .mv (.t 7)⟩, ⟨some 57, none, .mv (.t 11)⟩, ⟨none, none, .upd (.t 56) (.t 57)⟩] [1, 2, 6, 7, 8, 10, 36, 37])
    (.region none [ ⟨some 58, none, .mv (.t 6)⟩, ⟨some 59, none, .mv (.t 10)⟩, ⟨some 60, none, .bsl [(.t 59)]⟩, ⟨some 61, none, .app true 1 (.t 58) (.t 60)⟩, ⟨some 6, none, .asg (.t 61)⟩] [1, 2, 6, 7, 8, 36, 37]))) .skip))))))
    (.region none [ ⟨some 62, none, .bin .add (.t 37) (.c (.int .i64 1))⟩, ⟨some 37, none, .mv (.t 62)⟩] [1, 2, 6, 7, 8, 36, 37]))))))))
    (.region none [ ⟨some 32, none, .mv (.t 8)⟩, ⟨some 33, none, .bin .add (.t 32) (.c (.int .i64 1))⟩, ⟨some 8, none, .mv (.t 33)⟩] [1, 2, 6, 7, 8])))))) (.seq
    (.region none [ ⟨some 63, none, .mv (.t 6)⟩, ⟨some 64, none, .callm (.f 313) [((.t 63), true), ((.f 314), false)] []⟩] [6]) (.seq
    (.region none [ ⟨some 65, none, .mv (.t 6)⟩, ⟨some 4, none, .asg (.t 65)⟩, ⟨some 5, none, .mv (.c (.int .i64 0))⟩] [4, 5]) .ret))))))))

end Go.Mch
