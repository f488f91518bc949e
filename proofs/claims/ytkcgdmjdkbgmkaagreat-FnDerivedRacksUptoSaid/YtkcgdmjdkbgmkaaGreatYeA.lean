/- Compact code of the functions that the first laws reach. -/
import Derived.Test.YtkcgdmjdkbgmkaaGreatM1
namespace Go.Mch

def c_spec_l03Is : F where
 np := 1
 rs := [.t 2]
 body :=
  (.seq
  (.region none [ ⟨some 1, none, .box (.t 0)⟩, ⟨some 2, none, .mv (.c (.bool false))⟩] [1]) (.seq (.seq
  (.region none [ ⟨some 4, none, .fld 0 (.t 1)⟩, ⟨some 5, none, .ld none (.t 4)⟩, ⟨some 6, none, .call (.f 46) [((.t 5), .r)]⟩, ⟨some 7, none, .un .not (.t 6)⟩] [1, 7]) (.cond (.t 7) (.seq
  (.region none [ ⟨some 2, none, .mv (.c (.bool false))⟩] [2]) .ret) .skip)) (.seq (.seq
  (.region none [ ⟨some 3, none, .mv (.c (.int .i64 0))⟩] [1, 3]) (.block 0 (.loop (.seq (.seq
  (.region none [ ⟨some 8, none, .mv (.t 3)⟩, ⟨some 9, none, .fld 0 (.t 1)⟩, ⟨some 10, none, .ld none (.t 9)⟩, ⟨some 11, none, .len (.t 10)⟩, ⟨some 12, none, .bin .lss (.t 8) (.t 11)⟩] [1, 3, 12]) (.cond (.t 12) .skip (.exit 0))) (.seq (.block 1 (.seq
  (.region none [ ⟨some 15, none, .fld 0 (.t 1)⟩, ⟨some 16, none, .ld none (.t 15)⟩, ⟨some 17, none, .mv (.t 3)⟩, ⟨some 18, none, .idx 1 (.t 16) (.t 17)⟩, ⟨some 19, none, .ld none (.t 18)⟩, ⟨some 20, none, .call (.f 47) [((.t 19), .r)]⟩, ⟨some 21, none, .un .not (.t 20)⟩] [1, 3, 21]) (.cond (.t 21) (.seq
  (.region none [ ⟨some 2, none, .mv (.c (.bool false))⟩] [2]) .ret) .skip)))
  (.region none [ ⟨some 13, none, .mv (.t 3)⟩, ⟨some 14, none, .bin .add (.t 13) (.c (.int .i64 1))⟩, ⟨some 3, none, .mv (.t 14)⟩] [1, 3])))))) (.seq
  (.region none [ ⟨some 22, none, .fld 0 (.t 1)⟩, ⟨some 23, none, .ld none (.t 22)⟩, ⟨some 24, none, .call (.f 48) [((.t 23), .r)]⟩, ⟨some 25, none, .len (.t 24)⟩, ⟨some 26, none, .bin .eql (.t 25) (.c (.int .i64 0))⟩, ⟨some 2, none, .mv (.t 26)⟩] [2]) .ret))))

def c_spec_l01In : F where
 np := 3
 rs := [.t 6]
 body :=
  (.seq
  (.region none [ ⟨some 6, none, .mv (.c (.bool false))⟩] [0, 1, 2]) (.seq
  (.region none [ ⟨some 7, none, .mv (.t 0)⟩, ⟨some 8, none, .mv (.t 1)⟩, ⟨some 9, none, .bin .geq (.t 7) (.t 8)⟩, ⟨some 10, none, .mv (.t 9)⟩, ⟨some 11, (some (10, true)), .mv (.t 0)⟩, ⟨some 12, (some (10, true)), .mv (.t 2)⟩, ⟨some 13, (some (10, true)), .bin .leq (.t 11) (.t 12)⟩, ⟨some 14, none, .pick (.t 10) (.t 13) (.c (.bool false))⟩, ⟨some 6, none, .mv (.t 14)⟩] [6]) .ret))

def c_spec_l01Own : F where
 np := 1
 rs := [.t 2]
 body :=
  (.seq
  (.region none [ ⟨some 2, none, .asg (.c (.slice none 0 0))⟩] [0]) (.seq
  (.region none [ ⟨some 3, none, .bsl []⟩, ⟨some 4, none, .mv (.t 0)⟩, ⟨some 5, none, .app false 1 (.t 3) (.t 4)⟩, ⟨some 2, none, .asg (.t 5)⟩] [2]) .ret))

def c_impl_IsRack : F where
 np := 1
 rs := [.t 2]
 body :=
  (.seq
  (.region none [ ⟨some 1, none, .box (.t 0)⟩, ⟨some 2, none, .mv (.c (.bool false))⟩] [1]) (.seq
  (.region none [ ⟨some 3, none, .fld 0 (.t 1)⟩, ⟨some 4, none, .ld none (.t 3)⟩, ⟨some 5, none, .call (.f 50) [((.t 4), .r)]⟩, ⟨some 6, none, .mv (.t 5)⟩, ⟨some 7, (some (6, true)), .fld 0 (.t 1)⟩, ⟨some 8, (some (6, true)), .ld none (.t 7)⟩, ⟨some 9, (some (6, true)), .call (.f 51) [((.t 8), .r)]⟩, ⟨some 10, none, .pick (.t 6) (.t 9) (.c (.bool false))⟩, ⟨some 11, none, .mv (.t 10)⟩, ⟨some 12, (some (11, true)), .fld 0 (.t 1)⟩, ⟨some 13, (some (11, true)), .ld none (.t 12)⟩, ⟨some 14, (some (11, true)), .call (.f 52) [((.t 13), .r)]⟩, ⟨some 15, (some (11, true)), .isnil false (.t 14)⟩, ⟨some 16, none, .pick (.t 11) (.t 15) (.c (.bool false))⟩, ⟨some 2, none, .mv (.t 16)⟩] [2]) .ret))

def c_impl_within : F where
 np := 3
 rs := [.t 6]
 body :=
  (.seq
  (.region none [ ⟨some 6, none, .mv (.c (.bool false))⟩] [0, 1, 2]) (.seq
  (.region none [ ⟨some 7, none, .mv (.t 0)⟩, ⟨some 8, none, .mv (.t 1)⟩, ⟨some 9, none, .bin .geq (.t 7) (.t 8)⟩, ⟨some 10, none, .mv (.t 9)⟩, ⟨some 11, (some (10, true)), .mv (.t 0)⟩, ⟨some 12, (some (10, true)), .mv (.t 2)⟩, ⟨some 13, (some (10, true)), .bin .leq (.t 11) (.t 12)⟩, ⟨some 14, none, .pick (.t 10) (.t 13) (.c (.bool false))⟩, ⟨some 6, none, .mv (.t 14)⟩] [6]) .ret))

def c_spec_l02Is : F where
 np := 1
 rs := [.t 2]
 body :=
  (.seq
  (.region none [ ⟨some 1, none, .box (.t 0)⟩, ⟨some 2, none, .mv (.c (.bool false))⟩] [1]) (.seq
  (.region none [ ⟨some 3, none, .ld (some 2) (.t 1)⟩, ⟨some 4, none, .call (.f 56) [((.t 3), .r)]⟩, ⟨some 5, none, .mv (.t 4)⟩, ⟨some 6, (some (5, true)), .ld (some 2) (.t 1)⟩, ⟨some 7, (some (5, true)), .call (.f 57) [((.t 6), .r)]⟩, ⟨some 8, (some (5, true)), .len (.t 7)⟩, ⟨some 9, (some (5, true)), .bin .eql (.t 8) (.c (.int .i64 0))⟩, ⟨some 10, none, .pick (.t 5) (.t 9) (.c (.bool false))⟩, ⟨some 11, none, .mv (.t 10)⟩, ⟨some 12, (some (11, true)), .ld (some 2) (.t 1)⟩, ⟨some 13, (some (11, true)), .call (.f 58) [((.t 12), .r)]⟩, ⟨some 14, (some (11, true)), .len (.t 13)⟩, ⟨some 15, (some (11, true)), .bin .eql (.t 14) (.c (.int .i64 0))⟩, ⟨some 16, none, .pick (.t 11) (.t 15) (.c (.bool false))⟩, ⟨some 2, none, .mv (.t 16)⟩] [2]) .ret))

def c_impl_IsSolution : F where
 np := 1
 rs := [.t 2]
 body :=
  (.seq
  (.region none [ ⟨some 1, none, .box (.t 0)⟩, ⟨some 2, none, .mv (.c (.bool false))⟩] [1]) (.seq
  (.region none [ ⟨some 3, none, .ld (some 2) (.t 1)⟩, ⟨some 4, none, .call (.f 59) [((.t 3), .r)]⟩, ⟨some 5, none, .mv (.t 4)⟩, ⟨some 6, (some (5, true)), .ld (some 2) (.t 1)⟩, ⟨some 7, (some (5, true)), .call (.f 60) [((.t 6), .r)]⟩, ⟨some 8, (some (5, true)), .isnil false (.t 7)⟩, ⟨some 9, none, .pick (.t 5) (.t 8) (.c (.bool false))⟩, ⟨some 10, none, .mv (.t 9)⟩, ⟨some 11, (some (10, true)), .ld (some 2) (.t 1)⟩, ⟨some 12, (some (10, true)), .call (.f 61) [((.t 11), .r)]⟩, ⟨some 13, (some (10, true)), .isnil false (.t 12)⟩, ⟨some 14, none, .pick (.t 10) (.t 13) (.c (.bool false))⟩, ⟨some 2, none, .mv (.t 14)⟩] [2]) .ret))

def c_spec_l01Table : F where
 np := 1
 rs := [.t 2]
 body :=
  (.seq
  (.region none [ ⟨some 2, none, .mv (.c (.bool false))⟩] [0]) (.seq
  (.region none [ ⟨some 6, none, .mv (.t 0)⟩, ⟨some 7, none, .len (.t 6)⟩, ⟨some 3, none, .mv (.t 7)⟩] [0, 3]) (.seq (.seq
  (.region none [ ⟨some 8, none, .mv (.t 3)⟩, ⟨some 9, none, .call (.f 30) [((.t 8), .r), ((.c (.int .i64 1)), .r), ((.c (.int .i64 12)), .r)]⟩, ⟨some 10, none, .un .not (.t 9)⟩] [0, 3, 10]) (.cond (.t 10) (.seq
  (.region none [ ⟨some 2, none, .mv (.c (.bool false))⟩] [2]) .ret) .skip)) (.seq (.seq
  (.region none [ ⟨some 4, none, .mv (.c (.int .i64 0))⟩] [0, 3, 4]) (.block 0 (.loop (.seq (.seq
  (.region none [ ⟨some 11, none, .mv (.t 4)⟩, ⟨some 12, none, .mv (.t 0)⟩, ⟨some 13, none, .len (.t 12)⟩, ⟨some 14, none, .bin .lss (.t 11) (.t 13)⟩] [0, 3, 4, 14]) (.cond (.t 14) .skip (.exit 0))) (.seq (.block 1 (.seq (.seq
  (.region none [ ⟨some 17, none, .mv (.t 0)⟩, ⟨some 18, none, .mv (.t 4)⟩, ⟨some 19, none, .idx 1 (.t 17) (.t 18)⟩, ⟨some 20, none, .ld none (.t 19)⟩, ⟨some 21, none, .len (.t 20)⟩, ⟨some 22, none, .mv (.t 3)⟩, ⟨some 23, none, .bin .neq (.t 21) (.t 22)⟩] [0, 3, 4, 23]) (.cond (.t 23) (.seq
  (.region none [ ⟨some 2, none, .mv (.c (.bool false))⟩] [2]) .ret) .skip)) (.seq
  (.region none [ ⟨some 5, none, .mv (.c (.int .i64 0))⟩] [0, 3, 4, 5]) (.block 2 (.loop (.seq (.seq
  (.region none [ ⟨some 24, none, .mv (.t 5)⟩, ⟨some 25, none, .mv (.t 0)⟩, ⟨some 26, none, .len (.t 25)⟩, ⟨some 27, none, .bin .lss (.t 24) (.t 26)⟩] [0, 3, 4, 5, 27]) (.cond (.t 27) .skip (.exit 2))) (.seq (.block 3 (.seq
  (.region none [ ⟨some 30, none, .mv (.t 0)⟩, ⟨some 31, none, .mv (.t 4)⟩, ⟨some 32, none, .idx 1 (.t 30) (.t 31)⟩, ⟨some 33, none, .ld none (.t 32)⟩, ⟨some 34, none, .mv (.t 5)⟩, ⟨some 35, none, .idx 1 (.t 33) (.t 34)⟩, ⟨some 36, none, .ld none (.t 35)⟩, ⟨some 37, none, .mv (.t 3)⟩, ⟨some 38, none, .bin .sub (.t 37) (.c (.int .i64 1))⟩, ⟨some 39, none, .call (.f 30) [((.t 36), .r), ((.c (.int .i64 0)), .r), ((.t 38), .r)]⟩, ⟨some 40, none, .un .not (.t 39)⟩] [0, 3, 4, 5, 40]) (.cond (.t 40) (.seq
  (.region none [ ⟨some 2, none, .mv (.c (.bool false))⟩] [2]) .ret) .skip)))
  (.region none [ ⟨some 28, none, .mv (.t 5)⟩, ⟨some 29, none, .bin .add (.t 28) (.c (.int .i64 1))⟩, ⟨some 5, none, .mv (.t 29)⟩] [0, 3, 4, 5]))))))))
  (.region none [ ⟨some 15, none, .mv (.t 4)⟩, ⟨some 16, none, .bin .add (.t 15) (.c (.int .i64 1))⟩, ⟨some 4, none, .mv (.t 16)⟩] [0, 3, 4])))))) (.seq
  (.region none [ ⟨some 2, none, .mv (.c (.bool true))⟩] [2]) .ret)))))

def c_spec_l01Perm : F where
 np := 1
 rs := [.t 2]
 body :=
  (.seq
  (.region none [ ⟨some 2, none, .mv (.c (.bool false))⟩] [0]) (.seq
  (.region none [ ⟨some 5, none, .mv (.t 0)⟩, ⟨some 6, none, .len (.t 5)⟩, ⟨some 3, none, .mv (.t 6)⟩] [0, 3]) (.seq (.seq
  (.region none [ ⟨some 7, none, .mv (.t 3)⟩, ⟨some 8, none, .call (.f 30) [((.t 7), .r), ((.c (.int .i64 1)), .r), ((.c (.int .i64 12)), .r)]⟩, ⟨some 9, none, .un .not (.t 8)⟩] [0, 3, 9]) (.cond (.t 9) (.seq
  (.region none [ ⟨some 2, none, .mv (.c (.bool false))⟩] [2]) .ret) .skip)) (.seq (.seq
  (.region none [ ⟨some 4, none, .mv (.c (.int .i64 0))⟩] [0, 3, 4]) (.block 0 (.loop (.seq (.seq
  (.region none [ ⟨some 10, none, .mv (.t 4)⟩, ⟨some 11, none, .mv (.t 3)⟩, ⟨some 12, none, .bin .lss (.t 10) (.t 11)⟩] [0, 3, 4, 12]) (.cond (.t 12) .skip (.exit 0))) (.seq (.block 1 (.seq
  (.region none [ ⟨some 15, none, .mv (.t 0)⟩, ⟨some 16, none, .mv (.t 4)⟩, ⟨some 17, none, .call (.f 62) [((.t 15), .r), ((.t 16), .r)]⟩, ⟨some 18, none, .un .not (.t 17)⟩] [0, 3, 4, 18]) (.cond (.t 18) (.seq
  (.region none [ ⟨some 2, none, .mv (.c (.bool false))⟩] [2]) .ret) .skip)))
  (.region none [ ⟨some 13, none, .mv (.t 4)⟩, ⟨some 14, none, .bin .add (.t 13) (.c (.int .i64 1))⟩, ⟨some 4, none, .mv (.t 14)⟩] [0, 3, 4])))))) (.seq
  (.region none [ ⟨some 2, none, .mv (.c (.bool true))⟩] [2]) .ret)))))

def c_spec_l03Fault : F where
 np := 1
 rs := [.t 2]
 body :=
  (.seq
  (.region none [ ⟨some 2, none, .asg (.c (.slice none 0 0))⟩] [0]) (.seq
  (.region none [ ⟨some 7, none, .mv (.t 0)⟩, ⟨some 8, none, .len (.t 7)⟩, ⟨some 3, none, .mv (.t 8)⟩] [0, 3]) (.seq (.seq
  (.region none [ ⟨some 4, none, .mv (.c (.int .i64 0))⟩] [0, 3, 4]) (.block 0 (.loop (.seq (.seq
  (.region none [ ⟨some 9, none, .mv (.t 4)⟩, ⟨some 10, none, .mv (.t 3)⟩, ⟨some 11, none, .bin .lss (.t 9) (.t 10)⟩] [0, 3, 4, 11]) (.cond (.t 11) .skip (.exit 0))) (.seq (.block 1 (.seq
  (.region none [ ⟨some 5, none, .mv (.c (.int .i64 0))⟩] [0, 3, 4, 5]) (.block 2 (.loop (.seq (.seq
  (.region none [ ⟨some 14, none, .mv (.t 5)⟩, ⟨some 15, none, .mv (.t 3)⟩, ⟨some 16, none, .bin .lss (.t 14) (.t 15)⟩] [0, 3, 4, 5, 16]) (.cond (.t 16) .skip (.exit 2))) (.seq (.block 3 (.seq
  (.region none [ ⟨some 6, none, .mv (.c (.int .i64 0))⟩] [0, 3, 4, 5, 6]) (.block 4 (.loop (.seq (.seq
  (.region none [ ⟨some 19, none, .mv (.t 6)⟩, ⟨some 20, none, .mv (.t 3)⟩, ⟨some 21, none, .bin .lss (.t 19) (.t 20)⟩] [0, 3, 4, 5, 6, 21]) (.cond (.t 21) .skip (.exit 4))) (.seq (.block 5 (.seq
  (.region (some [24, 25, 26, 27, 28, 29, 30, 31, 32, 33, 34, 35, 36, 37, 38, 39, 40, 41, 42, 43, 44, 45, 46, 47, 48, 49, 50, 51, 52, 53, 54, 55]) [ ⟨some 24, none, .mv (.t 0)⟩, ⟨some 25, none, .mv (.t 4)⟩, ⟨some 26, none, .idx 1 (.t 24) (.t 25)⟩, ⟨some 27, none, .ld none (.t 26)⟩, ⟨some 28, none, .mv (.t 0)⟩, ⟨some 29, none, .mv (.t 5)⟩, ⟨some 30, none, .idx 1 (.t 28) (.t 29)⟩, ⟨some 31, none, .ld none (.t 30)⟩, ⟨some 32, none, .mv (.t 6)⟩, ⟨some 33, none, .idx 1 (.t 31) (.t 32)⟩, ⟨some 34, none, .ld none (.t 33)⟩, ⟨some 35, none, .idx 1 (.t 27) (.t 34)⟩, ⟨some 36, none, .ld none (.t 35)⟩, ⟨some 37, none, .mv (.t 0)⟩, ⟨some 38, none, .mv (.t 0)⟩, ⟨some 39, none, .mv (.t 4)⟩, ⟨some 40, none, .idx 1 (.t 38) (.t 39)⟩, ⟨some 41, none, .ld none (.t 40)⟩, ⟨some 42, none, .mv (.t 5)⟩, ⟨some 43, none, .idx 1 (.t 41) (.t 42)⟩, ⟨some 44, none, .ld none (.t 43)⟩, ⟨some 45, none, .idx 1 (.t 37) (.t 44)⟩, ⟨some 46, none, .ld none (.t 45)⟩, ⟨some 47, none, .mv (.t 0)⟩, ⟨some 48, none, .mv (.t 4)⟩, ⟨some 49, none, .idx 1 (.t 47) (.t 48)⟩, ⟨some 50, none, .ld none (.t 49)⟩, ⟨some 51, none, .mv (.t 6)⟩, ⟨some 52, none, .idx 1 (.t 50) (.t 51)⟩, ⟨some 53, none, .ld none (.t 52)⟩, ⟨some 54, none, .idx 1 (.t 46) (.t 53)⟩, ⟨some 55, none, .ld none (.t 54)⟩, ⟨some 56, none, .bin .neq (.t 36) (.t 55)⟩] [0, 3, 4, 5, 6, 56]) (.cond (.t 56) (.seq
  (.region none [ ⟨some 57, none, .mv (.t 4)⟩, ⟨some 58, none, .mv (.t 5)⟩, ⟨some 59, none, .mv (.t 6)⟩, ⟨some 60, none, .bsl [(.t 57), (.t 58), (.t 59)]⟩, ⟨some 2, none, .asg (.t 60)⟩] [2]) .ret) .skip)))
  (.region none [ ⟨some 22, none, .mv (.t 6)⟩, ⟨some 23, none, .bin .add (.t 22) (.c (.int .i64 1))⟩, ⟨some 6, none, .mv (.t 23)⟩] [0, 3, 4, 5, 6])))))))
  (.region none [ ⟨some 17, none, .mv (.t 5)⟩, ⟨some 18, none, .bin .add (.t 17) (.c (.int .i64 1))⟩, ⟨some 5, none, .mv (.t 18)⟩] [0, 3, 4, 5])))))))
  (.region none [ ⟨some 12, none, .mv (.t 4)⟩, ⟨some 13, none, .bin .add (.t 12) (.c (.int .i64 1))⟩, ⟨some 4, none, .mv (.t 13)⟩] [0, 3, 4])))))) (.seq
  (.region none [ ⟨some 2, none, .asg (.c (.slice none 0 0))⟩] [2]) .ret))))

def c_impl_IsTable : F where
 np := 1
 rs := [.t 2]
 body :=
  (.seq
  (.region none [ ⟨some 2, none, .mv (.c (.bool false))⟩] [0]) (.seq
  (.region none [ ⟨some 4, none, .mv (.t 0)⟩, ⟨some 5, none, .len (.t 4)⟩, ⟨some 3, none, .alloc [(.int .i64 0)]⟩, ⟨none, none, .st none (.t 3) (.t 5)⟩] [0, 3]) (.seq
  (.region none [ ⟨some 6, none, .ld none (.t 3)⟩, ⟨some 7, none, .call (.f 35) [((.t 6), .r), ((.c (.int .i64 1)), .r), ((.c (.int .i64 12)), .r)]⟩, ⟨some 8, none, .mv (.t 7)⟩, ⟨some 9, (some (8, true)), .mv (.t 0)⟩, ⟨some 10, (some (8, true)), .fnc 64 [(.t 3)]⟩, ⟨some 11, (some (8, true)), .call (.f 63) [((.t 9), .r), ((.t 10), .r)]⟩, ⟨some 12, (some (8, true)), .un .not (.t 11)⟩, ⟨some 13, none, .pick (.t 8) (.t 12) (.c (.bool false))⟩, ⟨some 2, none, .mv (.t 13)⟩] [2]) .ret)))

def c_impl_permutationRows : F where
 np := 1
 rs := [.t 2]
 body :=
  (.seq
  (.region none [ ⟨some 2, none, .mv (.c (.bool false))⟩] [0]) (.seq
  (.region none [ ⟨some 3, none, .mv (.t 0)⟩, ⟨some 4, none, .call (.f 63) [((.t 3), .r), ((.f 65), .r)]⟩, ⟨some 5, none, .un .not (.t 4)⟩, ⟨some 2, none, .mv (.t 5)⟩] [2]) .ret))

def c_impl_rackFault : F where
 np := 1
 rs := [.t 2]
 body :=
  (.seq
  (.region none [ ⟨some 2, none, .asg (.c (.slice none 0 0))⟩] [0]) (.seq
  (.region none [ ⟨some 7, none, .mv (.t 0)⟩, ⟨some 8, none, .len (.t 7)⟩, ⟨some 3, none, .mv (.t 8)⟩] [0, 3]) (.seq (.seq
  (.region none [ ⟨some 9, none, .mv (.t 3)⟩, ⟨some 10, none, .mv (.c (.int .i64 0))⟩] [0, 3, 9, 10]) (.block 0 (.loop (.seq
  (.region none [ ⟨some 11, none, .bin .lss (.t 10) (.t 9)⟩] [0, 3, 9, 10, 11]) (.seq (.cond (.t 11) .skip (.exit 0)) (.seq (.block 1 (.seq
  (.region none [ ⟨some 12, none, .mv (.t 10)⟩, ⟨some 4, none, .mv (.t 12)⟩] [0, 3, 4, 9, 10]) (.seq
  (.region none [ ⟨some 13, none, .mv (.t 3)⟩, ⟨some 14, none, .mv (.c (.int .i64 0))⟩] [0, 3, 4, 9, 10, 13, 14]) (.block 2 (.loop (.seq
  (.region none [ ⟨some 15, none, .bin .lss (.t 14) (.t 13)⟩] [0, 3, 4, 9, 10, 13, 14, 15]) (.seq (.cond (.t 15) .skip (.exit 2)) (.seq (.block 3 (.seq
  (.region none [ ⟨some 16, none, .mv (.t 14)⟩, ⟨some 5, none, .mv (.t 16)⟩] [0, 3, 4, 5, 9, 10, 13, 14]) (.seq
  (.region none [ ⟨some 17, none, .mv (.t 3)⟩, ⟨some 18, none, .mv (.c (.int .i64 0))⟩] [0, 3, 4, 5, 9, 10, 13, 14, 17, 18]) (.block 4 (.loop (.seq
  (.region none [ ⟨some 19, none, .bin .lss (.t 18) (.t 17)⟩] [0, 3, 4, 5, 9, 10, 13, 14, 17, 18, 19]) (.seq (.cond (.t 19) .skip (.exit 4)) (.seq (.block 5 (.seq
  (.region none [ ⟨some 20, none, .mv (.t 18)⟩, ⟨some 6, none, .mv (.t 20)⟩] [0, 3, 4, 5, 6, 9, 10, 13, 14, 17, 18]) (.seq
  (.region (some [21, 22, 23, 24, 25, 26, 27, 28, 29, 30, 31, 32, 33, 34, 35, 36, 37, 38, 39, 40, 41, 42, 43, 44, 45, 46, 47, 48, 49, 50, 51, 52]) [ ⟨some 21, none, .mv (.t 0)⟩, ⟨some 22, none, .mv (.t 4)⟩, ⟨some 23, none, .idx 1 (.t 21) (.t 22)⟩, ⟨some 24, none, .ld none (.t 23)⟩, ⟨some 25, none, .mv (.t 0)⟩, ⟨some 26, none, .mv (.t 5)⟩, ⟨some 27, none, .idx 1 (.t 25) (.t 26)⟩, ⟨some 28, none, .ld none (.t 27)⟩, ⟨some 29, none, .mv (.t 6)⟩, ⟨some 30, none, .idx 1 (.t 28) (.t 29)⟩, ⟨some 31, none, .ld none (.t 30)⟩, ⟨some 32, none, .idx 1 (.t 24) (.t 31)⟩, ⟨some 33, none, .ld none (.t 32)⟩, ⟨some 34, none, .mv (.t 0)⟩, ⟨some 35, none, .mv (.t 0)⟩, ⟨some 36, none, .mv (.t 4)⟩, ⟨some 37, none, .idx 1 (.t 35) (.t 36)⟩, ⟨some 38, none, .ld none (.t 37)⟩, ⟨some 39, none, .mv (.t 5)⟩, ⟨some 40, none, .idx 1 (.t 38) (.t 39)⟩, ⟨some 41, none, .ld none (.t 40)⟩, ⟨some 42, none, .idx 1 (.t 34) (.t 41)⟩, ⟨some 43, none, .ld none (.t 42)⟩, ⟨some 44, none, .mv (.t 0)⟩, ⟨some 45, none, .mv (.t 4)⟩, ⟨some 46, none, .idx 1 (.t 44) (.t 45)⟩, ⟨some 47, none, .ld none (.t 46)⟩, ⟨some 48, none, .mv (.t 6)⟩, ⟨some 49, none, .idx 1 (.t 47) (.t 48)⟩, ⟨some 50, none, .ld none (.t 49)⟩, ⟨some 51, none, .idx 1 (.t 43) (.t 50)⟩, ⟨some 52, none, .ld none (.t 51)⟩, ⟨some 53, none, .bin .neq (.t 33) (.t 52)⟩] [0, 3, 4, 5, 6, 9, 10, 13, 14, 17, 18, 53]) (.cond (.t 53) (.seq
  (.region none [ ⟨some 54, none, .mv (.t 4)⟩, ⟨some 55, none, .mv (.t 5)⟩, ⟨some 56, none, .mv (.t 6)⟩, ⟨some 57, none, .bsl [(.t 54), (.t 55), (.t 56)]⟩, ⟨some 2, none, .asg (.t 57)⟩] [2]) .ret) .skip))))
  (.region none [ ⟨some 58, none, .bin .add (.t 18) (.c (.int .i64 1))⟩, ⟨some 18, none, .mv (.t 58)⟩] [0, 3, 4, 5, 9, 10, 13, 14, 17, 18])))))))))
  (.region none [ ⟨some 59, none, .bin .add (.t 14) (.c (.int .i64 1))⟩, ⟨some 14, none, .mv (.t 59)⟩] [0, 3, 4, 9, 10, 13, 14])))))))))
  (.region none [ ⟨some 60, none, .bin .add (.t 10) (.c (.int .i64 1))⟩, ⟨some 10, none, .mv (.t 60)⟩] [0, 3, 9, 10]))))))) (.seq
  (.region none [ ⟨some 2, none, .asg (.c (.slice none 0 0))⟩] [2]) .ret))))

def c_impl_allWithin : F where
 np := 3
 rs := [.t 6]
 body :=
  (.seq
  (.region none [ ⟨some 6, none, .mv (.c (.bool false))⟩] [0, 1, 2]) (.seq (.seq
  (.region none [ ⟨some 9, none, .mv (.t 0)⟩, ⟨some 10, none, .len (.t 9)⟩, ⟨some 11, none, .mv (.c (.int .i64 0))⟩] [1, 2, 9, 10, 11]) (.block 0 (.loop (.seq
  (.region none [ ⟨some 12, none, .bin .lss (.t 11) (.t 10)⟩] [1, 2, 9, 10, 11, 12]) (.seq (.cond (.t 12) .skip (.exit 0)) (.seq (.block 1 (.seq
  (.region none [ ⟨some 13, none, .idx 1 (.t 9) (.t 11)⟩, ⟨some 14, none, .ld none (.t 13)⟩, ⟨some 8, none, .mv (.t 14)⟩] [1, 2, 8, 9, 10, 11]) (.seq
  (.region none [ ⟨some 15, none, .mv (.t 8)⟩, ⟨some 16, none, .mv (.t 1)⟩, ⟨some 17, none, .mv (.t 2)⟩, ⟨some 18, none, .call (.f 35) [((.t 15), .r), ((.t 16), .r), ((.t 17), .r)]⟩, ⟨some 19, none, .un .not (.t 18)⟩] [1, 2, 9, 10, 11, 19]) (.cond (.t 19) (.seq
  (.region none [ ⟨some 6, none, .mv (.c (.bool false))⟩] [6]) .ret) .skip))))
  (.region none [ ⟨some 20, none, .bin .add (.t 11) (.c (.int .i64 1))⟩, ⟨some 11, none, .mv (.t 20)⟩] [1, 2, 9, 10, 11]))))))) (.seq
  (.region none [ ⟨some 6, none, .mv (.c (.bool true))⟩] [6]) .ret)))

def c_spec_l02Map : F where
 np := 1
 rs := [.t 2]
 body :=
  (.seq
  (.region none [ ⟨some 1, none, .box (.t 0)⟩, ⟨some 2, none, .mv (.c (.bool false))⟩] [1]) (.seq
  (.region none [ ⟨some 3, none, .fld 0 (.t 1)⟩, ⟨some 4, none, .ld none (.t 3)⟩, ⟨some 5, none, .call (.f 46) [((.t 4), .r)]⟩, ⟨some 6, none, .mv (.t 5)⟩, ⟨some 7, (some (6, true)), .fld 1 (.t 1)⟩, ⟨some 8, (some (6, true)), .ld none (.t 7)⟩, ⟨some 9, (some (6, true)), .call (.f 46) [((.t 8), .r)]⟩, ⟨some 10, none, .pick (.t 6) (.t 9) (.c (.bool false))⟩, ⟨some 11, none, .mv (.t 10)⟩, ⟨some 12, (some (11, true)), .fld 0 (.t 1)⟩, ⟨some 13, (some (11, true)), .ld none (.t 12)⟩, ⟨some 14, (some (11, true)), .len (.t 13)⟩, ⟨some 15, (some (11, true)), .fld 1 (.t 1)⟩, ⟨some 16, (some (11, true)), .ld none (.t 15)⟩, ⟨some 17, (some (11, true)), .len (.t 16)⟩, ⟨some 18, (some (11, true)), .bin .eql (.t 14) (.t 17)⟩, ⟨some 19, none, .pick (.t 11) (.t 18) (.c (.bool false))⟩, ⟨some 2, none, .mv (.t 19)⟩] [2]) .ret))

def c_spec_l02Collision : F where
 np := 1
 rs := [.t 2]
 body :=
  (.seq
  (.region none [ ⟨some 1, none, .box (.t 0)⟩, ⟨some 2, none, .asg (.c (.slice none 0 0))⟩] [1]) (.seq
  (.region none [ ⟨some 10, none, .fld 0 (.t 1)⟩, ⟨some 11, none, .ld none (.t 10)⟩, ⟨some 12, none, .len (.t 11)⟩, ⟨some 3, none, .mv (.t 12)⟩] [1, 3]) (.seq (.seq
  (.region none [ ⟨some 4, none, .mv (.c (.int .i64 0))⟩] [1, 3, 4]) (.block 0 (.loop (.seq (.seq
  (.region none [ ⟨some 13, none, .mv (.t 4)⟩, ⟨some 14, none, .mv (.t 3)⟩, ⟨some 15, none, .mv (.t 3)⟩, ⟨some 16, none, .bin .mul (.t 14) (.t 15)⟩, ⟨some 17, none, .bin .lss (.t 13) (.t 16)⟩] [1, 3, 4, 17]) (.cond (.t 17) .skip (.exit 0))) (.seq (.block 1 (.seq
  (.region none [ ⟨some 5, none, .mv (.c (.int .i64 0))⟩] [1, 3, 4, 5]) (.block 2 (.loop (.seq (.seq
  (.region none [ ⟨some 20, none, .mv (.t 5)⟩, ⟨some 21, none, .mv (.t 3)⟩, ⟨some 22, none, .mv (.t 3)⟩, ⟨some 23, none, .bin .mul (.t 21) (.t 22)⟩, ⟨some 24, none, .bin .lss (.t 20) (.t 23)⟩] [1, 3, 4, 5, 24]) (.cond (.t 24) .skip (.exit 2))) (.seq (.block 3 (.seq
  (.region (some [6, 7, 8, 27, 28, 29, 30, 31, 32, 33, 34, 35, 36, 37, 38]) [ ⟨some 27, none, .mv (.t 4)⟩, ⟨some 28, none, .mv (.t 3)⟩, ⟨some 29, none, .bin .quo (.t 27) (.t 28)⟩, ⟨some 30, none, .mv (.t 4)⟩, ⟨some 31, none, .mv (.t 3)⟩, ⟨some 32, none, .bin .rem (.t 30) (.t 31)⟩, ⟨some 33, none, .mv (.t 5)⟩, ⟨some 34, none, .mv (.t 3)⟩, ⟨some 35, none, .bin .quo (.t 33) (.t 34)⟩, ⟨some 36, none, .mv (.t 5)⟩, ⟨some 37, none, .mv (.t 3)⟩, ⟨some 38, none, .bin .rem (.t 36) (.t 37)⟩, ⟨some 6, none, .mv (.t 29)⟩, ⟨some 7, none, .mv (.t 32)⟩, ⟨some 8, none, .mv (.t 35)⟩, ⟨some 9, none, .mv (.t 38)⟩] [1, 3, 4, 5, 6, 7, 8, 9]) (.seq
  (.region (some [39, 40, 43, 44, 45, 46, 47, 48, 49, 50, 51, 52, 53, 54, 55, 56, 57, 58, 62, 63, 64, 65, 66, 67, 68, 69, 70, 71, 72, 73, 74, 75, 76, 77]) [ ⟨some 39, none, .mv (.t 4)⟩, ⟨some 40, none, .mv (.t 5)⟩, ⟨some 41, none, .bin .neq (.t 39) (.t 40)⟩, ⟨some 42, none, .mv (.t 41)⟩, ⟨some 43, (some (42, true)), .fld 0 (.t 1)⟩, ⟨some 44, (some (42, true)), .ld none (.t 43)⟩, ⟨some 45, (some (42, true)), .mv (.t 6)⟩, ⟨some 46, (some (42, true)), .idx 1 (.t 44) (.t 45)⟩, ⟨some 47, (some (42, true)), .ld none (.t 46)⟩, ⟨some 48, (some (42, true)), .mv (.t 7)⟩, ⟨some 49, (some (42, true)), .idx 1 (.t 47) (.t 48)⟩, ⟨some 50, (some (42, true)), .ld none (.t 49)⟩, ⟨some 51, (some (42, true)), .fld 0 (.t 1)⟩, ⟨some 52, (some (42, true)), .ld none (.t 51)⟩, ⟨some 53, (some (42, true)), .mv (.t 8)⟩, ⟨some 54, (some (42, true)), .idx 1 (.t 52) (.t 53)⟩, ⟨some 55, (some (42, true)), .ld none (.t 54)⟩, ⟨some 56, (some (42, true)), .mv (.t 9)⟩, ⟨some 57, (some (42, true)), .idx 1 (.t 55) (.t 56)⟩, ⟨some 58, (some (42, true)), .ld none (.t 57)⟩, ⟨some 59, (some (42, true)), .bin .eql (.t 50) (.t 58)⟩, ⟨some 60, none, .pick (.t 42) (.t 59) (.c (.bool false))⟩, ⟨some 61, none, .mv (.t 60)⟩, ⟨some 62, (some (61, true)), .fld 1 (.t 1)⟩, ⟨some 63, (some (61, true)), .ld none (.t 62)⟩, ⟨some 64, (some (61, true)), .mv (.t 6)⟩, ⟨some 65, (some (61, true)), .idx 1 (.t 63) (.t 64)⟩, ⟨some 66, (some (61, true)), .ld none (.t 65)⟩, ⟨some 67, (some (61, true)), .mv (.t 7)⟩, ⟨some 68, (some (61, true)), .idx 1 (.t 66) (.t 67)⟩, ⟨some 69, (some (61, true)), .ld none (.t 68)⟩, ⟨some 70, (some (61, true)), .fld 1 (.t 1)⟩, ⟨some 71, (some (61, true)), .ld none (.t 70)⟩, ⟨some 72, (some (61, true)), .mv (.t 8)⟩, ⟨some 73, (some (61, true)), .idx 1 (.t 71) (.t 72)⟩, ⟨some 74, (some (61, true)), .ld none (.t 73)⟩, ⟨some 75, (some (61, true)), .mv (.t 9)⟩, ⟨some 76, (some (61, true)), .idx 1 (.t 74) (.t 75)⟩, ⟨some 77, (some (61, true)), .ld none (.t 76)⟩, ⟨some 78, (some (61, true)), .bin .eql (.t 69) (.t 77)⟩, ⟨some 79, none, .pick (.t 61) (.t 78) (.c (.bool false))⟩] [1, 3, 4, 5, 6, 7, 8, 9, 79]) (.cond (.t 79) (.seq
  (.region none [ ⟨some 80, none, .mv (.t 6)⟩, ⟨some 81, none, .mv (.t 7)⟩, ⟨some 82, none, .mv (.t 8)⟩, ⟨some 83, none, .mv (.t 9)⟩, ⟨some 84, none, .bsl [(.t 80), (.t 81), (.t 82), (.t 83)]⟩, ⟨some 2, none, .asg (.t 84)⟩] [2]) .ret) .skip))))
  (.region none [ ⟨some 25, none, .mv (.t 5)⟩, ⟨some 26, none, .bin .add (.t 25) (.c (.int .i64 1))⟩, ⟨some 5, none, .mv (.t 26)⟩] [1, 3, 4, 5])))))))
  (.region none [ ⟨some 18, none, .mv (.t 4)⟩, ⟨some 19, none, .bin .add (.t 18) (.c (.int .i64 1))⟩, ⟨some 4, none, .mv (.t 19)⟩] [1, 3, 4])))))) (.seq
  (.region none [ ⟨some 85, none, .bsl []⟩, ⟨some 2, none, .asg (.t 85)⟩] [2]) .ret))))

def c_spec_l02Fault : F where
 np := 1
 rs := [.t 2]
 body :=
  (.seq
  (.region none [ ⟨some 1, none, .box (.t 0)⟩, ⟨some 2, none, .asg (.c (.slice none 0 0))⟩] [1]) (.seq
  (.region none [ ⟨some 8, none, .fld 0 (.t 1)⟩, ⟨some 9, none, .ld none (.t 8)⟩, ⟨some 10, none, .len (.t 9)⟩, ⟨some 3, none, .mv (.t 10)⟩] [1, 3]) (.seq (.seq
  (.region none [ ⟨some 4, none, .mv (.c (.int .i64 0))⟩] [1, 3, 4]) (.block 0 (.loop (.seq (.seq
  (.region none [ ⟨some 11, none, .mv (.t 4)⟩, ⟨some 12, none, .mv (.t 3)⟩, ⟨some 13, none, .bin .lss (.t 11) (.t 12)⟩] [1, 3, 4, 13]) (.cond (.t 13) .skip (.exit 0))) (.seq (.block 1 (.seq
  (.region none [ ⟨some 5, none, .mv (.c (.int .i64 0))⟩] [1, 3, 4, 5]) (.block 2 (.loop (.seq (.seq
  (.region none [ ⟨some 16, none, .mv (.t 5)⟩, ⟨some 17, none, .mv (.t 3)⟩, ⟨some 18, none, .bin .lss (.t 16) (.t 17)⟩] [1, 3, 4, 5, 18]) (.cond (.t 18) .skip (.exit 2))) (.seq (.block 3 (.seq
  (.region none [ ⟨some 6, none, .mv (.c (.int .i64 0))⟩] [1, 3, 4, 5, 6]) (.block 4 (.loop (.seq (.seq
  (.region none [ ⟨some 21, none, .mv (.t 6)⟩, ⟨some 22, none, .mv (.t 3)⟩, ⟨some 23, none, .bin .lss (.t 21) (.t 22)⟩] [1, 3, 4, 5, 6, 23]) (.cond (.t 23) .skip (.exit 4))) (.seq (.block 5 (.seq
  (.region none [ ⟨some 26, none, .mv (.t 4)⟩, ⟨some 27, none, .mv (.t 5)⟩, ⟨some 28, none, .mv (.t 6)⟩, ⟨some 29, none, .bsl [(.t 26), (.t 27), (.t 28)]⟩, ⟨some 7, none, .asg (.t 29)⟩] [1, 3, 4, 5, 6, 7]) (.seq
  (.region (some [30, 31, 32, 33, 34, 35, 36, 37, 38, 39, 40, 41, 42]) [ ⟨some 30, none, .ld (some 2) (.t 1)⟩, ⟨some 31, none, .ld (some 2) (.t 1)⟩, ⟨some 32, none, .ld (some 2) (.t 1)⟩, ⟨some 33, none, .mv (.t 7)⟩, ⟨some 34, none, .call (.f 68) [((.t 32), .r), ((.t 33), .r), ((.c (.int .i64 0)), .r)]⟩, ⟨some 35, none, .call (.f 68) [((.t 31), .r), ((.t 34), .r), ((.c (.int .i64 1)), .r)]⟩, ⟨some 36, none, .call (.f 68) [((.t 30), .r), ((.t 35), .r), ((.c (.int .i64 0)), .r)]⟩, ⟨some 37, none, .ld (some 2) (.t 1)⟩, ⟨some 38, none, .ld (some 2) (.t 1)⟩, ⟨some 39, none, .ld (some 2) (.t 1)⟩, ⟨some 40, none, .mv (.t 7)⟩, ⟨some 41, none, .call (.f 68) [((.t 39), .r), ((.t 40), .r), ((.c (.int .i64 1)), .r)]⟩, ⟨some 42, none, .call (.f 68) [((.t 38), .r), ((.t 41), .r), ((.c (.int .i64 0)), .r)]⟩, ⟨some 43, none, .call (.f 68) [((.t 37), .r), ((.t 42), .r), ((.c (.int .i64 1)), .r)]⟩, ⟨some 44, none, .call (.f 67) [((.t 36), .r), ((.t 43), .r)]⟩, ⟨some 45, none, .un .not (.t 44)⟩] [1, 3, 4, 5, 6, 7, 45]) (.cond (.t 45) (.seq
  (.region none [ ⟨some 46, none, .mv (.t 7)⟩, ⟨some 2, none, .asg (.t 46)⟩] [2]) .ret) .skip))))
  (.region none [ ⟨some 24, none, .mv (.t 6)⟩, ⟨some 25, none, .bin .add (.t 24) (.c (.int .i64 1))⟩, ⟨some 6, none, .mv (.t 25)⟩] [1, 3, 4, 5, 6])))))))
  (.region none [ ⟨some 19, none, .mv (.t 5)⟩, ⟨some 20, none, .bin .add (.t 19) (.c (.int .i64 1))⟩, ⟨some 5, none, .mv (.t 20)⟩] [1, 3, 4, 5])))))))
  (.region none [ ⟨some 14, none, .mv (.t 4)⟩, ⟨some 15, none, .bin .add (.t 14) (.c (.int .i64 1))⟩, ⟨some 4, none, .mv (.t 15)⟩] [1, 3, 4])))))) (.seq
  (.region none [ ⟨some 47, none, .bsl []⟩, ⟨some 2, none, .asg (.t 47)⟩] [2]) .ret))))

def c_impl_IsPairMap : F where
 np := 1
 rs := [.t 2]
 body :=
  (.seq
  (.region none [ ⟨some 1, none, .box (.t 0)⟩, ⟨some 2, none, .mv (.c (.bool false))⟩] [1]) (.seq
  (.region none [ ⟨some 3, none, .fld 0 (.t 1)⟩, ⟨some 4, none, .ld none (.t 3)⟩, ⟨some 5, none, .call (.f 50) [((.t 4), .r)]⟩, ⟨some 6, none, .mv (.t 5)⟩, ⟨some 7, (some (6, true)), .fld 1 (.t 1)⟩, ⟨some 8, (some (6, true)), .ld none (.t 7)⟩, ⟨some 9, (some (6, true)), .call (.f 50) [((.t 8), .r)]⟩, ⟨some 10, none, .pick (.t 6) (.t 9) (.c (.bool false))⟩, ⟨some 11, none, .mv (.t 10)⟩, ⟨some 12, (some (11, true)), .fld 0 (.t 1)⟩, ⟨some 13, (some (11, true)), .ld none (.t 12)⟩, ⟨some 14, (some (11, true)), .len (.t 13)⟩, ⟨some 15, (some (11, true)), .fld 1 (.t 1)⟩, ⟨some 16, (some (11, true)), .ld none (.t 15)⟩, ⟨some 17, (some (11, true)), .len (.t 16)⟩, ⟨some 18, (some (11, true)), .bin .eql (.t 14) (.t 17)⟩, ⟨some 19, none, .pick (.t 11) (.t 18) (.c (.bool false))⟩, ⟨some 2, none, .mv (.t 19)⟩] [2]) .ret))

def c_impl_collisionOf : F where
 np := 1
 rs := [.t 2]
 body :=
  (.seq
  (.region none [ ⟨some 1, none, .box (.t 0)⟩, ⟨some 2, none, .asg (.c (.slice none 0 0))⟩] [1]) (.seq
  (.region none [ ⟨some 10, none, .fld 0 (.t 1)⟩, ⟨some 11, none, .ld none (.t 10)⟩, ⟨some 12, none, .len (.t 11)⟩, ⟨some 3, none, .mv (.t 12)⟩] [1, 3]) (.seq (.seq
  (.region none [ ⟨some 13, none, .mv (.t 3)⟩, ⟨some 14, none, .mv (.t 3)⟩, ⟨some 15, none, .bin .mul (.t 13) (.t 14)⟩, ⟨some 16, none, .mv (.c (.int .i64 0))⟩] [1, 3, 15, 16]) (.block 0 (.loop (.seq
  (.region none [ ⟨some 17, none, .bin .lss (.t 16) (.t 15)⟩] [1, 3, 15, 16, 17]) (.seq (.cond (.t 17) .skip (.exit 0)) (.seq (.block 1 (.seq
  (.region none [ ⟨some 18, none, .mv (.t 16)⟩, ⟨some 4, none, .mv (.t 18)⟩] [1, 3, 4, 15, 16]) (.seq
  (.region (some [5, 19, 20, 21, 22, 23, 24]) [ ⟨some 19, none, .mv (.t 4)⟩, ⟨some 20, none, .mv (.t 3)⟩, ⟨some 21, none, .bin .quo (.t 19) (.t 20)⟩, ⟨some 22, none, .mv (.t 4)⟩, ⟨some 23, none, .mv (.t 3)⟩, ⟨some 24, none, .bin .rem (.t 22) (.t 23)⟩, ⟨some 5, none, .mv (.t 21)⟩, ⟨some 6, none, .mv (.t 24)⟩] [1, 3, 4, 5, 6, 15, 16]) (.seq
  (.region none [ ⟨some 25, none, .mv (.t 3)⟩, ⟨some 26, none, .mv (.t 3)⟩, ⟨some 27, none, .bin .mul (.t 25) (.t 26)⟩, ⟨some 28, none, .mv (.c (.int .i64 0))⟩] [1, 3, 4, 5, 6, 15, 16, 27, 28]) (.block 2 (.loop (.seq
  (.region none [ ⟨some 29, none, .bin .lss (.t 28) (.t 27)⟩] [1, 3, 4, 5, 6, 15, 16, 27, 28, 29]) (.seq (.cond (.t 29) .skip (.exit 2)) (.seq (.block 3 (.seq
  (.region none [ ⟨some 30, none, .mv (.t 28)⟩, ⟨some 7, none, .mv (.t 30)⟩] [1, 3, 4, 5, 6, 7, 15, 16, 27, 28]) (.seq
  (.region (some [8, 31, 32, 33, 34, 35, 36]) [ ⟨some 31, none, .mv (.t 7)⟩, ⟨some 32, none, .mv (.t 3)⟩, ⟨some 33, none, .bin .quo (.t 31) (.t 32)⟩, ⟨some 34, none, .mv (.t 7)⟩, ⟨some 35, none, .mv (.t 3)⟩, ⟨some 36, none, .bin .rem (.t 34) (.t 35)⟩, ⟨some 8, none, .mv (.t 33)⟩, ⟨some 9, none, .mv (.t 36)⟩] [1, 3, 4, 5, 6, 7, 8, 9, 15, 16, 27, 28]) (.seq
  (.region (some [37, 38, 41, 42, 43, 44, 45, 46, 47, 48, 49, 50, 51, 52, 53, 54, 55, 56, 60, 61, 62, 63, 64, 65, 66, 67, 68, 69, 70, 71, 72, 73, 74, 75]) [ ⟨some 37, none, .mv (.t 4)⟩, ⟨some 38, none, .mv (.t 7)⟩, ⟨some 39, none, .bin .neq (.t 37) (.t 38)⟩, ⟨some 40, none, .mv (.t 39)⟩, ⟨some 41, (some (40, true)), .fld 0 (.t 1)⟩, ⟨some 42, (some (40, true)), .ld none (.t 41)⟩, ⟨some 43, (some (40, true)), .mv (.t 5)⟩, ⟨some 44, (some (40, true)), .idx 1 (.t 42) (.t 43)⟩, ⟨some 45, (some (40, true)), .ld none (.t 44)⟩, ⟨some 46, (some (40, true)), .mv (.t 6)⟩, ⟨some 47, (some (40, true)), .idx 1 (.t 45) (.t 46)⟩, ⟨some 48, (some (40, true)), .ld none (.t 47)⟩, ⟨some 49, (some (40, true)), .fld 0 (.t 1)⟩, ⟨some 50, (some (40, true)), .ld none (.t 49)⟩, ⟨some 51, (some (40, true)), .mv (.t 8)⟩, ⟨some 52, (some (40, true)), .idx 1 (.t 50) (.t 51)⟩, ⟨some 53, (some (40, true)), .ld none (.t 52)⟩, ⟨some 54, (some (40, true)), .mv (.t 9)⟩, ⟨some 55, (some (40, true)), .idx 1 (.t 53) (.t 54)⟩, ⟨some 56, (some (40, true)), .ld none (.t 55)⟩, ⟨some 57, (some (40, true)), .bin .eql (.t 48) (.t 56)⟩, ⟨some 58, none, .pick (.t 40) (.t 57) (.c (.bool false))⟩, ⟨some 59, none, .mv (.t 58)⟩, ⟨some 60, (some (59, true)), .fld 1 (.t 1)⟩, ⟨some 61, (some (59, true)), .ld none (.t 60)⟩, ⟨some 62, (some (59, true)), .mv (.t 5)⟩, ⟨some 63, (some (59, true)), .idx 1 (.t 61) (.t 62)⟩, ⟨some 64, (some (59, true)), .ld none (.t 63)⟩, ⟨some 65, (some (59, true)), .mv (.t 6)⟩, ⟨some 66, (some (59, true)), .idx 1 (.t 64) (.t 65)⟩, ⟨some 67, (some (59, true)), .ld none (.t 66)⟩, ⟨some 68, (some (59, true)), .fld 1 (.t 1)⟩, ⟨some 69, (some (59, true)), .ld none (.t 68)⟩, ⟨some 70, (some (59, true)), .mv (.t 8)⟩, ⟨some 71, (some (59, true)), .idx 1 (.t 69) (.t 70)⟩, ⟨some 72, (some (59, true)), .ld none (.t 71)⟩, ⟨some 73, (some (59, true)), .mv (.t 9)⟩, ⟨some 74, (some (59, true)), .idx 1 (.t 72) (.t 73)⟩, ⟨some 75, (some (59, true)), .ld none (.t 74)⟩, ⟨some 76, (some (59, true)), .bin .eql (.t 67) (.t 75)⟩, ⟨some 77, none, .pick (.t 59) (.t 76) (.c (.bool false))⟩] [1, 3, 4, 5, 6, 8, 9, 15, 16, 27, 28, 77]) (.cond (.t 77) (.seq
  (.region none [ ⟨some 78, none, .mv (.t 5)⟩, ⟨some 79, none, .mv (.t 6)⟩, ⟨some 80, none, .mv (.t 8)⟩, ⟨some 81, none, .mv (.t 9)⟩, ⟨some 82, none, .bsl [(.t 78), (.t 79), (.t 80), (.t 81)]⟩, ⟨some 2, none, .asg (.t 82)⟩] [2]) .ret) .skip)))))
  (.region none [ ⟨some 83, none, .bin .add (.t 28) (.c (.int .i64 1))⟩, ⟨some 28, none, .mv (.t 83)⟩] [1, 3, 4, 5, 6, 15, 16, 27, 28]))))))))))
  (.region none [ ⟨some 84, none, .bin .add (.t 16) (.c (.int .i64 1))⟩, ⟨some 16, none, .mv (.t 84)⟩] [1, 3, 15, 16]))))))) (.seq
  (.region none [ ⟨some 2, none, .asg (.c (.slice none 0 0))⟩] [2]) .ret))))

def c_impl_equationFault : F where
 np := 1
 rs := [.t 2]
 body :=
  (.seq
  (.region none [ ⟨some 1, none, .box (.t 0)⟩, ⟨some 2, none, .asg (.c (.slice none 0 0))⟩] [1]) (.seq
  (.region none [ ⟨some 13, none, .fld 0 (.t 1)⟩, ⟨some 14, none, .ld none (.t 13)⟩, ⟨some 15, none, .len (.t 14)⟩, ⟨some 3, none, .mv (.t 15)⟩] [1, 3]) (.seq (.seq
  (.region none [ ⟨some 16, none, .mv (.t 3)⟩, ⟨some 17, none, .mv (.c (.int .i64 0))⟩] [1, 3, 16, 17]) (.block 0 (.loop (.seq
  (.region none [ ⟨some 18, none, .bin .lss (.t 17) (.t 16)⟩] [1, 3, 16, 17, 18]) (.seq (.cond (.t 18) .skip (.exit 0)) (.seq (.block 1 (.seq
  (.region none [ ⟨some 19, none, .mv (.t 17)⟩, ⟨some 4, none, .mv (.t 19)⟩] [1, 3, 4, 16, 17]) (.seq
  (.region none [ ⟨some 20, none, .mv (.t 3)⟩, ⟨some 21, none, .mv (.c (.int .i64 0))⟩] [1, 3, 4, 16, 17, 20, 21]) (.block 2 (.loop (.seq
  (.region none [ ⟨some 22, none, .bin .lss (.t 21) (.t 20)⟩] [1, 3, 4, 16, 17, 20, 21, 22]) (.seq (.cond (.t 22) .skip (.exit 2)) (.seq (.block 3 (.seq
  (.region none [ ⟨some 23, none, .mv (.t 21)⟩, ⟨some 5, none, .mv (.t 23)⟩] [1, 3, 4, 5, 16, 17, 20, 21]) (.seq
  (.region none [ ⟨some 24, none, .mv (.t 3)⟩, ⟨some 25, none, .mv (.c (.int .i64 0))⟩] [1, 3, 4, 5, 16, 17, 20, 21, 24, 25]) (.block 4 (.loop (.seq
  (.region none [ ⟨some 26, none, .bin .lss (.t 25) (.t 24)⟩] [1, 3, 4, 5, 16, 17, 20, 21, 24, 25, 26]) (.seq (.cond (.t 26) .skip (.exit 4)) (.seq (.block 5 (.seq
  (.region none [ ⟨some 27, none, .mv (.t 25)⟩, ⟨some 6, none, .mv (.t 27)⟩] [1, 3, 4, 5, 6, 16, 17, 20, 21, 24, 25]) (.seq
  (.region (some [7, 28, 29, 30, 31, 32, 33, 34, 35, 36, 37, 38, 39, 40, 41, 42, 43]) [ ⟨some 28, none, .fld 0 (.t 1)⟩, ⟨some 29, none, .ld none (.t 28)⟩, ⟨some 30, none, .mv (.t 4)⟩, ⟨some 31, none, .idx 1 (.t 29) (.t 30)⟩, ⟨some 32, none, .ld none (.t 31)⟩, ⟨some 33, none, .mv (.t 5)⟩, ⟨some 34, none, .idx 1 (.t 32) (.t 33)⟩, ⟨some 35, none, .ld none (.t 34)⟩, ⟨some 36, none, .fld 1 (.t 1)⟩, ⟨some 37, none, .ld none (.t 36)⟩, ⟨some 38, none, .mv (.t 4)⟩, ⟨some 39, none, .idx 1 (.t 37) (.t 38)⟩, ⟨some 40, none, .ld none (.t 39)⟩, ⟨some 41, none, .mv (.t 5)⟩, ⟨some 42, none, .idx 1 (.t 40) (.t 41)⟩, ⟨some 43, none, .ld none (.t 42)⟩, ⟨some 7, none, .mv (.t 35)⟩, ⟨some 8, none, .mv (.t 43)⟩] [1, 3, 4, 5, 6, 7, 8, 16, 17, 20, 21, 24, 25]) (.seq
  (.region (some [8, 44, 45, 46, 47, 48, 49, 50, 51, 52, 53, 54, 55, 56, 57, 58, 59]) [ ⟨some 44, none, .fld 0 (.t 1)⟩, ⟨some 45, none, .ld none (.t 44)⟩, ⟨some 46, none, .mv (.t 8)⟩, ⟨some 47, none, .idx 1 (.t 45) (.t 46)⟩, ⟨some 48, none, .ld none (.t 47)⟩, ⟨some 49, none, .mv (.t 6)⟩, ⟨some 50, none, .idx 1 (.t 48) (.t 49)⟩, ⟨some 51, none, .ld none (.t 50)⟩, ⟨some 52, none, .fld 1 (.t 1)⟩, ⟨some 53, none, .ld none (.t 52)⟩, ⟨some 54, none, .mv (.t 8)⟩, ⟨some 55, none, .idx 1 (.t 53) (.t 54)⟩, ⟨some 56, none, .ld none (.t 55)⟩, ⟨some 57, none, .mv (.t 6)⟩, ⟨some 58, none, .idx 1 (.t 56) (.t 57)⟩, ⟨some 59, none, .ld none (.t 58)⟩, ⟨some 8, none, .mv (.t 51)⟩, ⟨some 9, none, .mv (.t 59)⟩] [1, 3, 4, 5, 6, 7, 8, 9, 16, 17, 20, 21, 24, 25]) (.seq
  (.region (some [7, 60, 61, 62, 63, 64, 65, 66, 67, 68, 69, 70, 71, 72, 73, 74, 75]) [ ⟨some 60, none, .fld 0 (.t 1)⟩, ⟨some 61, none, .ld none (.t 60)⟩, ⟨some 62, none, .mv (.t 7)⟩, ⟨some 63, none, .idx 1 (.t 61) (.t 62)⟩, ⟨some 64, none, .ld none (.t 63)⟩, ⟨some 65, none, .mv (.t 8)⟩, ⟨some 66, none, .idx 1 (.t 64) (.t 65)⟩, ⟨some 67, none, .ld none (.t 66)⟩, ⟨some 68, none, .fld 1 (.t 1)⟩, ⟨some 69, none, .ld none (.t 68)⟩, ⟨some 70, none, .mv (.t 7)⟩, ⟨some 71, none, .idx 1 (.t 69) (.t 70)⟩, ⟨some 72, none, .ld none (.t 71)⟩, ⟨some 73, none, .mv (.t 8)⟩, ⟨some 74, none, .idx 1 (.t 72) (.t 73)⟩, ⟨some 75, none, .ld none (.t 74)⟩, ⟨some 7, none, .mv (.t 67)⟩, ⟨some 8, none, .mv (.t 75)⟩] [1, 3, 4, 5, 6, 7, 8, 9, 16, 17, 20, 21, 24, 25]) (.seq
  (.region (some [10, 76, 77, 78, 79, 80, 81, 82, 83, 84, 85, 86, 87, 88, 89, 90, 91]) [ ⟨some 76, none, .fld 0 (.t 1)⟩, ⟨some 77, none, .ld none (.t 76)⟩, ⟨some 78, none, .mv (.t 5)⟩, ⟨some 79, none, .idx 1 (.t 77) (.t 78)⟩, ⟨some 80, none, .ld none (.t 79)⟩, ⟨some 81, none, .mv (.t 6)⟩, ⟨some 82, none, .idx 1 (.t 80) (.t 81)⟩, ⟨some 83, none, .ld none (.t 82)⟩, ⟨some 84, none, .fld 1 (.t 1)⟩, ⟨some 85, none, .ld none (.t 84)⟩, ⟨some 86, none, .mv (.t 5)⟩, ⟨some 87, none, .idx 1 (.t 85) (.t 86)⟩, ⟨some 88, none, .ld none (.t 87)⟩, ⟨some 89, none, .mv (.t 6)⟩, ⟨some 90, none, .idx 1 (.t 88) (.t 89)⟩, ⟨some 91, none, .ld none (.t 90)⟩, ⟨some 10, none, .mv (.t 83)⟩, ⟨some 11, none, .mv (.t 91)⟩] [1, 3, 4, 5, 6, 7, 8, 9, 10, 11, 16, 17, 20, 21, 24, 25]) (.seq
  (.region (some [12, 92, 93, 94, 95, 96, 97, 98, 99, 100, 101, 102, 103, 104, 105, 106, 107]) [ ⟨some 92, none, .fld 0 (.t 1)⟩, ⟨some 93, none, .ld none (.t 92)⟩, ⟨some 94, none, .mv (.t 4)⟩, ⟨some 95, none, .idx 1 (.t 93) (.t 94)⟩, ⟨some 96, none, .ld none (.t 95)⟩, ⟨some 97, none, .mv (.t 10)⟩, ⟨some 98, none, .idx 1 (.t 96) (.t 97)⟩, ⟨some 99, none, .ld none (.t 98)⟩, ⟨some 100, none, .fld 1 (.t 1)⟩, ⟨some 101, none, .ld none (.t 100)⟩, ⟨some 102, none, .mv (.t 4)⟩, ⟨some 103, none, .idx 1 (.t 101) (.t 102)⟩, ⟨some 104, none, .ld none (.t 103)⟩, ⟨some 105, none, .mv (.t 10)⟩, ⟨some 106, none, .idx 1 (.t 104) (.t 105)⟩, ⟨some 107, none, .ld none (.t 106)⟩, ⟨some 12, none, .mv (.t 99)⟩, ⟨some 10, none, .mv (.t 107)⟩] [1, 3, 4, 5, 6, 7, 8, 9, 10, 11, 12, 16, 17, 20, 21, 24, 25]) (.seq
  (.region (some [10, 108, 109, 110, 111, 112, 113, 114, 115, 116, 117, 118, 119, 120, 121, 122, 123]) [ ⟨some 108, none, .fld 0 (.t 1)⟩, ⟨some 109, none, .ld none (.t 108)⟩, ⟨some 110, none, .mv (.t 10)⟩, ⟨some 111, none, .idx 1 (.t 109) (.t 110)⟩, ⟨some 112, none, .ld none (.t 111)⟩, ⟨some 113, none, .mv (.t 11)⟩, ⟨some 114, none, .idx 1 (.t 112) (.t 113)⟩, ⟨some 115, none, .ld none (.t 114)⟩, ⟨some 116, none, .fld 1 (.t 1)⟩, ⟨some 117, none, .ld none (.t 116)⟩, ⟨some 118, none, .mv (.t 10)⟩, ⟨some 119, none, .idx 1 (.t 117) (.t 118)⟩, ⟨some 120, none, .ld none (.t 119)⟩, ⟨some 121, none, .mv (.t 11)⟩, ⟨some 122, none, .idx 1 (.t 120) (.t 121)⟩, ⟨some 123, none, .ld none (.t 122)⟩, ⟨some 10, none, .mv (.t 115)⟩, ⟨some 11, none, .mv (.t 123)⟩] [1, 3, 4, 5, 6, 7, 8, 9, 10, 11, 12, 16, 17, 20, 21, 24, 25]) (.seq
  (.region none [ ⟨some 124, none, .mv (.t 7)⟩, ⟨some 125, none, .mv (.t 12)⟩, ⟨some 126, none, .bin .neq (.t 124) (.t 125)⟩, ⟨some 127, none, .mv (.t 126)⟩, ⟨some 128, (some (127, false)), .mv (.t 8)⟩, ⟨some 129, (some (127, false)), .mv (.t 10)⟩, ⟨some 130, (some (127, false)), .bin .neq (.t 128) (.t 129)⟩, ⟨some 131, none, .pick (.t 127) (.c (.bool true)) (.t 130)⟩, ⟨some 132, none, .mv (.t 131)⟩, ⟨some 133, (some (132, false)), .mv (.t 9)⟩, ⟨some 134, (some (132, false)), .mv (.t 11)⟩, ⟨some 135, (some (132, false)), .bin .neq (.t 133) (.t 134)⟩, ⟨some 136, none, .pick (.t 132) (.c (.bool true)) (.t 135)⟩] [1, 3, 4, 5, 6, 16, 17, 20, 21, 24, 25, 136]) (.cond (.t 136) (.seq
  (.region none [ ⟨some 137, none, .mv (.t 4)⟩, ⟨some 138, none, .mv (.t 5)⟩, ⟨some 139, none, .mv (.t 6)⟩, ⟨some 140, none, .bsl [(.t 137), (.t 138), (.t 139)]⟩, ⟨some 2, none, .asg (.t 140)⟩] [2]) .ret) .skip))))))))))
  (.region none [ ⟨some 141, none, .bin .add (.t 25) (.c (.int .i64 1))⟩, ⟨some 25, none, .mv (.t 141)⟩] [1, 3, 4, 5, 16, 17, 20, 21, 24, 25])))))))))
  (.region none [ ⟨some 142, none, .bin .add (.t 21) (.c (.int .i64 1))⟩, ⟨some 21, none, .mv (.t 142)⟩] [1, 3, 4, 16, 17, 20, 21])))))))))
  (.region none [ ⟨some 143, none, .bin .add (.t 17) (.c (.int .i64 1))⟩, ⟨some 17, none, .mv (.t 143)⟩] [1, 3, 16, 17]))))))) (.seq
  (.region none [ ⟨some 2, none, .asg (.c (.slice none 0 0))⟩] [2]) .ret))))

def c_spec_l01Has : F where
 np := 2
 rs := [.t 4]
 body :=
  (.seq
  (.region none [ ⟨some 4, none, .mv (.c (.bool false))⟩] [0, 1]) (.seq
  (.region none [ ⟨some 5, none, .mv (.t 0)⟩, ⟨some 6, none, .mv (.t 1)⟩, ⟨some 7, none, .call (.f 69) [((.t 5), .r), ((.t 6), .r)]⟩, ⟨some 8, none, .bin .geq (.t 7) (.c (.int .i64 0))⟩, ⟨some 4, none, .mv (.t 8)⟩] [4]) .ret))

def j0t : F where
 np := 2
 rs := [.t 4]
 body :=
  (.seq
  (.region none [ ⟨some 4, none, .mv (.c (.bool false))⟩] [0, 1]) (.seq
  (.region none [ ⟨some 5, none, .mv (.t 0)⟩, ⟨some 6, none, .mv (.t 1)⟩, ⟨some 7, none, .call (.f 70) [((.t 5), .r), ((.t 6), .r)]⟩, ⟨some 8, none, .bin .geq (.t 7) (.c (.int .i64 0))⟩, ⟨some 4, none, .mv (.t 8)⟩] [4]) .ret))

def c_impl_IsTable_1 : F where
 np := 2
 rs := [.t 3]
 body :=
  (.seq
  (.region none [ ⟨some 3, none, .mv (.c (.bool false))⟩] [0, 1]) (.seq
  (.region none [ ⟨some 4, none, .mv (.t 0)⟩, ⟨some 5, none, .len (.t 4)⟩, ⟨some 6, none, .ld none (.t 1)⟩, ⟨some 7, none, .bin .neq (.t 5) (.t 6)⟩, ⟨some 8, none, .mv (.t 7)⟩, ⟨some 9, (some (8, false)), .mv (.t 0)⟩, ⟨some 10, (some (8, false)), .ld none (.t 1)⟩, ⟨some 11, (some (8, false)), .bin .sub (.t 10) (.c (.int .i64 1))⟩, ⟨some 12, (some (8, false)), .call (.f 54) [((.t 9), .r), ((.c (.int .i64 0)), .r), ((.t 11), .r)]⟩, ⟨some 13, (some (8, false)), .un .not (.t 12)⟩, ⟨some 14, none, .pick (.t 8) (.c (.bool true)) (.t 13)⟩, ⟨some 3, none, .mv (.t 14)⟩] [3]) .ret))

def c_impl_permutationRows_1 : F where
 np := 1
 rs := [.t 2]
 body :=
  (.seq
  (.region none [ ⟨some 2, none, .mv (.c (.bool false))⟩] [0]) (.seq
  (.region none [ ⟨some 3, none, .mv (.t 0)⟩, ⟨some 4, none, .call (.f 66) [((.t 3), .r)]⟩, ⟨some 5, none, .un .not (.t 4)⟩, ⟨some 2, none, .mv (.t 5)⟩] [2]) .ret))

def c_impl_isPermuted : F where
 np := 1
 rs := [.t 2]
 body :=
  (.seq
  (.region none [ ⟨some 2, none, .mv (.c (.bool false))⟩] [0]) (.seq
  (.region none [ ⟨some 6, none, .mv (.t 0)⟩, ⟨some 7, none, .len (.t 6)⟩, ⟨some 8, none, .mks (.bool false) (.t 7)⟩, ⟨some 3, none, .asg (.t 8)⟩] [0, 3]) (.seq (.seq
  (.region none [ ⟨some 9, none, .mv (.t 0)⟩, ⟨some 10, none, .len (.t 9)⟩, ⟨some 11, none, .mv (.c (.int .i64 0))⟩] [0, 3, 9, 10, 11]) (.block 0 (.loop (.seq
  (.region none [ ⟨some 12, none, .bin .lss (.t 11) (.t 10)⟩] [0, 3, 9, 10, 11, 12]) (.seq (.cond (.t 12) .skip (.exit 0)) (.seq (.block 1 (.seq
  (.region none [ ⟨some 13, none, .idx 1 (.t 9) (.t 11)⟩, ⟨some 14, none, .ld none (.t 13)⟩, ⟨some 5, none, .mv (.t 14)⟩] [0, 3, 5, 9, 10, 11]) (.seq (.seq
  (.region none [ ⟨some 15, none, .mv (.t 5)⟩, ⟨some 16, none, .mv (.t 0)⟩, ⟨some 17, none, .len (.t 16)⟩, ⟨some 18, none, .bin .sub (.t 17) (.c (.int .i64 1))⟩, ⟨some 19, none, .call (.f 35) [((.t 15), .r), ((.c (.int .i64 0)), .r), ((.t 18), .r)]⟩, ⟨some 20, none, .un .not (.t 19)⟩, ⟨some 21, none, .mv (.t 20)⟩, ⟨some 22, (some (21, false)), .mv (.t 3)⟩, ⟨some 23, (some (21, false)), .mv (.t 5)⟩, ⟨some 24, (some (21, false)), .idx 1 (.t 22) (.t 23)⟩, ⟨some 25, (some (21, false)), .ld none (.t 24)⟩, ⟨some 26, none, .pick (.t 21) (.c (.bool true)) (.t 25)⟩] [0, 3, 5, 9, 10, 11, 26]) (.cond (.t 26) (.seq
  (.region none [ ⟨some 2, none, .mv (.c (.bool false))⟩] [2]) .ret) .skip))
  (.region none [ ⟨some 27, none, .mv (.t 3)⟩, ⟨some 28, none, .mv (.t 5)⟩, ⟨some 29, none, .idx 1 (.t 27) (.t 28)⟩, ⟨none, none, .st none (.t 29) (.c (.bool true))⟩] [0, 3, 9, 10, 11]))))
  (.region none [ ⟨some 30, none, .bin .add (.t 11) (.c (.int .i64 1))⟩, ⟨some 11, none, .mv (.t 30)⟩] [0, 3, 9, 10, 11]))))))) (.seq
  (.region none [ ⟨some 2, none, .mv (.c (.bool true))⟩] [2]) .ret))))

def c_spec_l01Same : F where
 np := 2
 rs := [.t 4]
 body :=
  (.seq
  (.region none [ ⟨some 4, none, .mv (.c (.bool false))⟩] [0, 1]) (.seq (.seq
  (.region none [ ⟨some 6, none, .mv (.t 0)⟩, ⟨some 7, none, .len (.t 6)⟩, ⟨some 8, none, .mv (.t 1)⟩, ⟨some 9, none, .len (.t 8)⟩, ⟨some 10, none, .bin .neq (.t 7) (.t 9)⟩] [0, 1, 10]) (.cond (.t 10) (.seq
  (.region none [ ⟨some 4, none, .mv (.c (.bool false))⟩] [4]) .ret) .skip)) (.seq (.seq
  (.region none [ ⟨some 5, none, .mv (.c (.int .i64 0))⟩] [0, 1, 5]) (.block 0 (.loop (.seq (.seq
  (.region none [ ⟨some 11, none, .mv (.t 5)⟩, ⟨some 12, none, .mv (.t 0)⟩, ⟨some 13, none, .len (.t 12)⟩, ⟨some 14, none, .bin .lss (.t 11) (.t 13)⟩] [0, 1, 5, 14]) (.cond (.t 14) .skip (.exit 0))) (.seq (.block 1 (.seq
  (.region (some [17, 18, 19, 20, 21, 22, 23, 24]) [ ⟨some 17, none, .mv (.t 0)⟩, ⟨some 18, none, .mv (.t 5)⟩, ⟨some 19, none, .idx 1 (.t 17) (.t 18)⟩, ⟨some 20, none, .ld none (.t 19)⟩, ⟨some 21, none, .mv (.t 1)⟩, ⟨some 22, none, .mv (.t 5)⟩, ⟨some 23, none, .idx 1 (.t 21) (.t 22)⟩, ⟨some 24, none, .ld none (.t 23)⟩, ⟨some 25, none, .bin .neq (.t 20) (.t 24)⟩] [0, 1, 5, 25]) (.cond (.t 25) (.seq
  (.region none [ ⟨some 4, none, .mv (.c (.bool false))⟩] [4]) .ret) .skip)))
  (.region none [ ⟨some 15, none, .mv (.t 5)⟩, ⟨some 16, none, .bin .add (.t 15) (.c (.int .i64 1))⟩, ⟨some 5, none, .mv (.t 16)⟩] [0, 1, 5])))))) (.seq
  (.region none [ ⟨some 4, none, .mv (.c (.bool true))⟩] [4]) .ret))))

def c_spec_l02Do : F where
 np := 3
 rs := [.t 6]
 body :=
  (.seq
  (.region none [ ⟨some 3, none, .box (.t 0)⟩, ⟨some 6, none, .asg (.c (.slice none 0 0))⟩] [1, 2, 3]) (.seq
  (.region none [ ⟨some 8, none, .mv (.t 1)⟩, ⟨some 9, none, .call (.f 31) [((.t 8), .r)]⟩, ⟨some 7, none, .asg (.t 9)⟩] [1, 2, 3, 7]) (.seq
  (.region (some [10, 11, 12, 13, 14, 15, 16, 17, 18, 19, 20, 21, 22, 23, 24, 25, 26]) [ ⟨some 10, none, .mv (.t 7)⟩, ⟨some 11, none, .mv (.t 2)⟩, ⟨some 12, none, .fld 0 (.t 3)⟩, ⟨some 13, none, .ld none (.t 12)⟩, ⟨some 14, none, .mv (.t 1)⟩, ⟨some 15, none, .mv (.t 2)⟩, ⟨some 16, none, .idx 1 (.t 14) (.t 15)⟩, ⟨some 17, none, .ld none (.t 16)⟩, ⟨some 18, none, .idx 1 (.t 13) (.t 17)⟩, ⟨some 19, none, .ld none (.t 18)⟩, ⟨some 20, none, .mv (.t 1)⟩, ⟨some 21, none, .mv (.t 2)⟩, ⟨some 22, none, .bin .add (.t 21) (.c (.int .i64 1))⟩, ⟨some 23, none, .idx 1 (.t 20) (.t 22)⟩, ⟨some 24, none, .ld none (.t 23)⟩, ⟨some 25, none, .idx 1 (.t 19) (.t 24)⟩, ⟨some 26, none, .ld none (.t 25)⟩, ⟨some 27, none, .idx 1 (.t 10) (.t 11)⟩, ⟨none, none, .st none (.t 27) (.t 26)⟩] [1, 2, 3, 7]) (.seq
  (.region (some [28, 29, 30, 31, 32, 33, 34, 35, 36, 37, 38, 39, 40, 41, 42, 43, 44, 45]) [ ⟨some 28, none, .mv (.t 7)⟩, ⟨some 29, none, .mv (.t 2)⟩, ⟨some 30, none, .bin .add (.t 29) (.c (.int .i64 1))⟩, ⟨some 31, none, .fld 1 (.t 3)⟩, ⟨some 32, none, .ld none (.t 31)⟩, ⟨some 33, none, .mv (.t 1)⟩, ⟨some 34, none, .mv (.t 2)⟩, ⟨some 35, none, .idx 1 (.t 33) (.t 34)⟩, ⟨some 36, none, .ld none (.t 35)⟩, ⟨some 37, none, .idx 1 (.t 32) (.t 36)⟩, ⟨some 38, none, .ld none (.t 37)⟩, ⟨some 39, none, .mv (.t 1)⟩, ⟨some 40, none, .mv (.t 2)⟩, ⟨some 41, none, .bin .add (.t 40) (.c (.int .i64 1))⟩, ⟨some 42, none, .idx 1 (.t 39) (.t 41)⟩, ⟨some 43, none, .ld none (.t 42)⟩, ⟨some 44, none, .idx 1 (.t 38) (.t 43)⟩, ⟨some 45, none, .ld none (.t 44)⟩, ⟨some 46, none, .idx 1 (.t 28) (.t 30)⟩, ⟨none, none, .st none (.t 46) (.t 45)⟩] [7]) (.seq
  (.region none [ ⟨some 47, none, .mv (.t 7)⟩, ⟨some 6, none, .asg (.t 47)⟩] [6]) .ret)))))

def c_spec_l01Index : F where
 np := 2
 rs := [.t 4]
 body :=
  (.seq
  (.region none [ ⟨some 4, none, .mv (.c (.int .i64 0))⟩] [0, 1]) (.seq (.seq
  (.region none [ ⟨some 5, none, .mv (.c (.int .i64 0))⟩] [0, 1, 5]) (.block 0 (.loop (.seq (.seq
  (.region none [ ⟨some 6, none, .mv (.t 5)⟩, ⟨some 7, none, .mv (.t 0)⟩, ⟨some 8, none, .len (.t 7)⟩, ⟨some 9, none, .bin .lss (.t 6) (.t 8)⟩] [0, 1, 5, 9]) (.cond (.t 9) .skip (.exit 0))) (.seq (.block 1 (.seq
  (.region none [ ⟨some 12, none, .mv (.t 0)⟩, ⟨some 13, none, .mv (.t 5)⟩, ⟨some 14, none, .idx 1 (.t 12) (.t 13)⟩, ⟨some 15, none, .ld none (.t 14)⟩, ⟨some 16, none, .mv (.t 1)⟩, ⟨some 17, none, .bin .eql (.t 15) (.t 16)⟩] [0, 1, 5, 17]) (.cond (.t 17) (.seq
  (.region none [ ⟨some 18, none, .mv (.t 5)⟩, ⟨some 4, none, .mv (.t 18)⟩] [4]) .ret) .skip)))
  (.region none [ ⟨some 10, none, .mv (.t 5)⟩, ⟨some 11, none, .bin .add (.t 10) (.c (.int .i64 1))⟩, ⟨some 5, none, .mv (.t 11)⟩] [0, 1, 5])))))) (.seq
  (.region none [ ⟨some 4, none, .mv (.c (.int .i64 (-1)))⟩] [4]) .ret)))

def j0q : F where
 np := 2
 rs := [.t 4]
 body :=
  (.seq
  (.region none [ ⟨some 4, none, .mv (.c (.int .i64 0))⟩] [0, 1]) (.seq (.seq
  (.region none [ ⟨some 6, none, .mv (.t 0)⟩, ⟨some 7, none, .len (.t 6)⟩, ⟨some 8, none, .mv (.c (.int .i64 0))⟩] [0, 1, 7, 8]) (.block 0 (.loop (.seq
  (.region none [ ⟨some 9, none, .bin .lss (.t 8) (.t 7)⟩] [0, 1, 7, 8, 9]) (.seq (.cond (.t 9) .skip (.exit 0)) (.seq (.block 1 (.seq
  (.region none [ ⟨some 10, none, .mv (.t 8)⟩, ⟨some 5, none, .mv (.t 10)⟩] [0, 1, 5, 7, 8]) (.seq
  (.region none [ ⟨some 11, none, .mv (.t 1)⟩, ⟨some 12, none, .mv (.t 0)⟩, ⟨some 13, none, .mv (.t 5)⟩, ⟨some 14, none, .idx 1 (.t 12) (.t 13)⟩, ⟨some 15, none, .ld none (.t 14)⟩, ⟨some 16, none, .call (.t 11) [((.t 15), .r)]⟩] [0, 1, 5, 7, 8, 16]) (.cond (.t 16) (.seq
  (.region none [ ⟨some 17, none, .mv (.t 5)⟩, ⟨some 4, none, .mv (.t 17)⟩] [4]) .ret) .skip))))
  (.region none [ ⟨some 18, none, .bin .add (.t 8) (.c (.int .i64 1))⟩, ⟨some 8, none, .mv (.t 18)⟩] [0, 1, 7, 8]))))))) (.seq
  (.region none [ ⟨some 4, none, .mv (.c (.int .i64 (-1)))⟩] [4]) .ret)))

end Go.Mch
