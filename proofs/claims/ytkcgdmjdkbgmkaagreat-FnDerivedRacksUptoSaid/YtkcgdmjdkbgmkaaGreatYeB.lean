/- Compact code of the functions that statements 5, 6 and 8 to 12 reach further. -/
import Derived.Test.YtkcgdmjdkbgmkaaGreatM1
namespace Go.Mch

def c_spec_l01Column : F where
 np := 2
 rs := [.t 4]
 body :=
  (.seq
  (.region none [ ⟨some 4, none, .asg (.c (.slice none 0 0))⟩] [0, 1]) (.seq
  (.region none [ ⟨some 7, none, .bsl []⟩, ⟨some 5, none, .asg (.t 7)⟩] [0, 1, 5]) (.seq (.seq
  (.region none [ ⟨some 6, none, .mv (.c (.int .i64 0))⟩] [0, 1, 5, 6]) (.block 0 (.loop (.seq (.seq
  (.region none [ ⟨some 8, none, .mv (.t 6)⟩, ⟨some 9, none, .mv (.t 0)⟩, ⟨some 10, none, .len (.t 9)⟩, ⟨some 11, none, .bin .lss (.t 8) (.t 10)⟩] [0, 1, 5, 6, 11]) (.cond (.t 11) .skip (.exit 0))) (.seq (.block 1
  (.region none [ ⟨some 14, none, .mv (.t 5)⟩, ⟨some 15, none, .mv (.t 0)⟩, ⟨some 16, none, .mv (.t 6)⟩, ⟨some 17, none, .idx 1 (.t 15) (.t 16)⟩, ⟨some 18, none, .ld none (.t 17)⟩, ⟨some 19, none, .mv (.t 1)⟩, ⟨some 20, none, .idx 1 (.t 18) (.t 19)⟩, ⟨some 21, none, .ld none (.t 20)⟩, ⟨some 22, none, .bsl [(.t 21)]⟩, ⟨some 23, none, .app true 1 (.t 14) (.t 22)⟩, ⟨some 5, none, .asg (.t 23)⟩] [0, 1, 5, 6]))
  (.region none [ ⟨some 12, none, .mv (.t 6)⟩, ⟨some 13, none, .bin .add (.t 12) (.c (.int .i64 1))⟩, ⟨some 6, none, .mv (.t 13)⟩] [0, 1, 5, 6])))))) (.seq
  (.region none [ ⟨some 24, none, .mv (.t 5)⟩, ⟨some 4, none, .asg (.t 24)⟩] [4]) .ret))))

def c_impl_isNondegenerate : F where
 np := 1
 rs := [.t 2]
 body :=
  (.seq
  (.region none [ ⟨some 1, none, .box (.t 0)⟩, ⟨some 2, none, .mv (.c (.bool false))⟩] [1]) (.seq
  (.region none [ ⟨some 3, none, .fld 0 (.t 1)⟩, ⟨some 4, none, .ld none (.t 3)⟩, ⟨some 5, none, .call (.f 51) [((.t 4), .r)]⟩, ⟨some 6, none, .mv (.t 5)⟩, ⟨some 7, (some (6, true)), .fld 1 (.t 1)⟩, ⟨some 8, (some (6, true)), .ld none (.t 7)⟩, ⟨some 9, (some (6, true)), .call (.f 267) [((.t 8), .r)]⟩, ⟨some 10, (some (6, true)), .call (.f 51) [((.t 9), .r)]⟩, ⟨some 11, none, .pick (.t 6) (.t 10) (.c (.bool false))⟩, ⟨some 2, none, .mv (.t 11)⟩] [2]) .ret))

def c_impl_transposed : F where
 np := 1
 rs := [.t 2]
 body :=
  (.seq
  (.region none [ ⟨some 1, none, .box (.t 0)⟩, ⟨some 2, none, .asg (.c (.slice none 0 0))⟩] [1]) (.seq
  (.region none [ ⟨some 3, none, .ld none (.t 1)⟩, ⟨some 4, none, .len (.t 3)⟩, ⟨some 5, none, .fnc 377 [(.t 1)]⟩, ⟨some 6, none, .call (.f 376) [((.t 4), .r), ((.t 5), .r)]⟩, ⟨some 2, none, .asg (.t 6)⟩] [2]) .ret))

def c_impl_transposed_1 : F where
 np := 3
 rs := [.t 5]
 body :=
  (.seq
  (.region none [ ⟨some 5, none, .mv (.c (.int .i64 0))⟩] [0, 1, 2]) (.seq
  (.region none [ ⟨some 6, none, .ld none (.t 2)⟩, ⟨some 7, none, .mv (.t 1)⟩, ⟨some 8, none, .idx 1 (.t 6) (.t 7)⟩, ⟨some 9, none, .ld none (.t 8)⟩, ⟨some 10, none, .mv (.t 0)⟩, ⟨some 11, none, .idx 1 (.t 9) (.t 10)⟩, ⟨some 12, none, .ld none (.t 11)⟩, ⟨some 5, none, .mv (.t 12)⟩] [5]) .ret))

def c_impl_tableBy : F where
 np := 2
 rs := [.t 4]
 body :=
  (.seq
  (.region none [ ⟨some 4, none, .asg (.c (.slice none 0 0))⟩] [0, 1]) (.seq
  (.region none [ ⟨some 8, none, .mv (.t 0)⟩, ⟨some 9, none, .mks (.slice none 0 0) (.t 8)⟩, ⟨some 5, none, .asg (.t 9)⟩] [0, 1, 5]) (.seq (.seq
  (.region none [ ⟨some 10, none, .mv (.t 5)⟩, ⟨some 11, none, .len (.t 10)⟩, ⟨some 12, none, .mv (.c (.int .i64 0))⟩] [0, 1, 5, 11, 12]) (.block 0 (.loop (.seq
  (.region none [ ⟨some 13, none, .bin .lss (.t 12) (.t 11)⟩] [0, 1, 5, 11, 12, 13]) (.seq (.cond (.t 13) .skip (.exit 0)) (.seq (.block 1 (.seq
  (.region none [ ⟨some 14, none, .mv (.t 12)⟩, ⟨some 6, none, .mv (.t 14)⟩] [0, 1, 5, 6, 11, 12]) (.seq
  (.region none [ ⟨some 15, none, .mv (.t 5)⟩, ⟨some 16, none, .mv (.t 6)⟩, ⟨some 17, none, .mv (.t 0)⟩, ⟨some 18, none, .mks (.int .i64 0) (.t 17)⟩, ⟨some 19, none, .idx 1 (.t 15) (.t 16)⟩, ⟨none, none, .st none (.t 19) (.t 18)⟩] [0, 1, 5, 6, 11, 12]) (.seq
  (.region none [ ⟨some 20, none, .mv (.t 5)⟩, ⟨some 21, none, .mv (.t 6)⟩, ⟨some 22, none, .idx 1 (.t 20) (.t 21)⟩, ⟨some 23, none, .ld none (.t 22)⟩, ⟨some 24, none, .len (.t 23)⟩, ⟨some 25, none, .mv (.c (.int .i64 0))⟩] [0, 1, 5, 6, 11, 12, 24, 25]) (.block 2 (.loop (.seq
  (.region none [ ⟨some 26, none, .bin .lss (.t 25) (.t 24)⟩] [0, 1, 5, 6, 11, 12, 24, 25, 26]) (.seq (.cond (.t 26) .skip (.exit 2)) (.seq (.block 3 (.seq
  (.region none [ ⟨some 27, none, .mv (.t 25)⟩, ⟨some 7, none, .mv (.t 27)⟩] [0, 1, 5, 6, 7, 11, 12, 24, 25])
  (.region (some [28, 29, 30, 31, 32, 33, 34, 35, 36]) [ ⟨some 28, none, .mv (.t 5)⟩, ⟨some 29, none, .mv (.t 6)⟩, ⟨some 30, none, .idx 1 (.t 28) (.t 29)⟩, ⟨some 31, none, .ld none (.t 30)⟩, ⟨some 32, none, .mv (.t 7)⟩, ⟨some 33, none, .mv (.t 1)⟩, ⟨some 34, none, .mv (.t 6)⟩, ⟨some 35, none, .mv (.t 7)⟩, ⟨some 36, none, .call (.t 33) [((.t 34), .r), ((.t 35), .r)]⟩, ⟨some 37, none, .idx 1 (.t 31) (.t 32)⟩, ⟨none, none, .st none (.t 37) (.t 36)⟩] [0, 1, 5, 6, 11, 12, 24, 25])))
  (.region none [ ⟨some 38, none, .bin .add (.t 25) (.c (.int .i64 1))⟩, ⟨some 25, none, .mv (.t 38)⟩] [0, 1, 5, 6, 11, 12, 24, 25]))))))))))
  (.region none [ ⟨some 39, none, .bin .add (.t 12) (.c (.int .i64 1))⟩, ⟨some 12, none, .mv (.t 39)⟩] [0, 1, 5, 11, 12]))))))) (.seq
  (.region none [ ⟨some 40, none, .mv (.t 5)⟩, ⟨some 4, none, .asg (.t 40)⟩] [4]) .ret))))

def c_spec_l01Then : F where
 np := 2
 rs := [.t 4]
 body :=
  (.seq
  (.region none [ ⟨some 4, none, .asg (.c (.slice none 0 0))⟩] [0, 1]) (.seq
  (.region none [ ⟨some 7, none, .bsl []⟩, ⟨some 5, none, .asg (.t 7)⟩] [0, 1, 5]) (.seq (.seq
  (.region none [ ⟨some 6, none, .mv (.c (.int .i64 0))⟩] [0, 1, 5, 6]) (.block 0 (.loop (.seq (.seq
  (.region none [ ⟨some 8, none, .mv (.t 6)⟩, ⟨some 9, none, .mv (.t 0)⟩, ⟨some 10, none, .len (.t 9)⟩, ⟨some 11, none, .bin .lss (.t 8) (.t 10)⟩] [0, 1, 5, 6, 11]) (.cond (.t 11) .skip (.exit 0))) (.seq (.block 1
  (.region none [ ⟨some 14, none, .mv (.t 5)⟩, ⟨some 15, none, .mv (.t 1)⟩, ⟨some 16, none, .mv (.t 0)⟩, ⟨some 17, none, .mv (.t 6)⟩, ⟨some 18, none, .idx 1 (.t 16) (.t 17)⟩, ⟨some 19, none, .ld none (.t 18)⟩, ⟨some 20, none, .idx 1 (.t 15) (.t 19)⟩, ⟨some 21, none, .ld none (.t 20)⟩, ⟨some 22, none, .bsl [(.t 21)]⟩, ⟨some 23, none, .app true 1 (.t 14) (.t 22)⟩, ⟨some 5, none, .asg (.t 23)⟩] [0, 1, 5, 6]))
  (.region none [ ⟨some 12, none, .mv (.t 6)⟩, ⟨some 13, none, .bin .add (.t 12) (.c (.int .i64 1))⟩, ⟨some 6, none, .mv (.t 13)⟩] [0, 1, 5, 6])))))) (.seq
  (.region none [ ⟨some 24, none, .mv (.t 5)⟩, ⟨some 4, none, .asg (.t 24)⟩] [4]) .ret))))

def c_spec_l01Own2 : F where
 np := 1
 rs := [.t 2]
 body :=
  (.seq
  (.region none [ ⟨some 2, none, .asg (.c (.slice none 0 0))⟩] [0]) (.seq
  (.region none [ ⟨some 5, none, .bsl []⟩, ⟨some 3, none, .asg (.t 5)⟩] [0, 3]) (.seq (.seq
  (.region none [ ⟨some 4, none, .mv (.c (.int .i64 0))⟩] [0, 3, 4]) (.block 0 (.loop (.seq (.seq
  (.region none [ ⟨some 6, none, .mv (.t 4)⟩, ⟨some 7, none, .mv (.t 0)⟩, ⟨some 8, none, .len (.t 7)⟩, ⟨some 9, none, .bin .lss (.t 6) (.t 8)⟩] [0, 3, 4, 9]) (.cond (.t 9) .skip (.exit 0))) (.seq (.block 1
  (.region none [ ⟨some 12, none, .mv (.t 3)⟩, ⟨some 13, none, .mv (.t 0)⟩, ⟨some 14, none, .mv (.t 4)⟩, ⟨some 15, none, .idx 1 (.t 13) (.t 14)⟩, ⟨some 16, none, .ld none (.t 15)⟩, ⟨some 17, none, .call (.f 31) [((.t 16), .r)]⟩, ⟨some 18, none, .bsl [(.t 17)]⟩, ⟨some 19, none, .app true 1 (.t 12) (.t 18)⟩, ⟨some 3, none, .asg (.t 19)⟩] [0, 3, 4]))
  (.region none [ ⟨some 10, none, .mv (.t 4)⟩, ⟨some 11, none, .bin .add (.t 10) (.c (.int .i64 1))⟩, ⟨some 4, none, .mv (.t 11)⟩] [0, 3, 4])))))) (.seq
  (.region none [ ⟨some 20, none, .mv (.t 3)⟩, ⟨some 2, none, .asg (.t 20)⟩] [2]) .ret))))

def c_spec_l06Plain : F where
 np := 1
 rs := [.t 2]
 body :=
  (.seq
  (.region none [ ⟨some 1, none, .box (.t 0)⟩, ⟨some 2, none, .mv (.c (.bool false))⟩] [1]) (.seq (.seq
  (.region none [ ⟨some 3, none, .mv (.c (.int .i64 0))⟩] [1, 3]) (.block 0 (.loop (.seq (.seq
  (.region none [ ⟨some 4, none, .mv (.t 3)⟩, ⟨some 5, none, .fld 0 (.t 1)⟩, ⟨some 6, none, .ld none (.t 5)⟩, ⟨some 7, none, .len (.t 6)⟩, ⟨some 8, none, .bin .lss (.t 4) (.t 7)⟩] [1, 3, 8]) (.cond (.t 8) .skip (.exit 0))) (.seq (.block 1 (.seq
  (.region none [ ⟨some 11, none, .fld 0 (.t 1)⟩, ⟨some 12, none, .ld none (.t 11)⟩, ⟨some 13, none, .mv (.t 3)⟩, ⟨some 14, none, .idx 1 (.t 12) (.t 13)⟩, ⟨some 15, none, .ld none (.t 14)⟩, ⟨some 16, none, .call (.f 47) [((.t 15), .r)]⟩, ⟨some 17, none, .un .not (.t 16)⟩, ⟨some 18, none, .mv (.t 17)⟩, ⟨some 19, (some (18, false)), .fld 1 (.t 1)⟩, ⟨some 20, (some (18, false)), .ld none (.t 19)⟩, ⟨some 21, (some (18, false)), .mv (.t 3)⟩, ⟨some 22, (some (18, false)), .call (.f 375) [((.t 20), .r), ((.t 21), .r)]⟩, ⟨some 23, (some (18, false)), .call (.f 47) [((.t 22), .r)]⟩, ⟨some 24, (some (18, false)), .un .not (.t 23)⟩, ⟨some 25, none, .pick (.t 18) (.c (.bool true)) (.t 24)⟩] [1, 3, 25]) (.cond (.t 25) (.seq
  (.region none [ ⟨some 2, none, .mv (.c (.bool false))⟩] [2]) .ret) .skip)))
  (.region none [ ⟨some 9, none, .mv (.t 3)⟩, ⟨some 10, none, .bin .add (.t 9) (.c (.int .i64 1))⟩, ⟨some 3, none, .mv (.t 10)⟩] [1, 3])))))) (.seq
  (.region none [ ⟨some 2, none, .mv (.c (.bool true))⟩] [2]) .ret)))

def j09 : F where
 np := 1
 rs := [.cell 2 (some 1), .t 3]
 body :=
  (.seq
  (.region none [ ⟨some 1, none, .box (.t 0)⟩, ⟨some 2, none, .alloc [(.slice none 0 0)]⟩, ⟨some 3, none, .mv (.c (.int .i64 0))⟩] [1, 2]) (.seq (.block 0 (.seq
  (.region none [ ⟨some 5, none, .ld (some 2) (.t 1)⟩, ⟨some 6, none, .call (.f 41) [((.t 5), .r)]⟩, ⟨some 7, none, .un .not (.t 6)⟩, ⟨some 4, none, .mv (.t 7)⟩] [1, 2, 4]) (.cond (.t 4) (.seq
  (.region none [ ⟨some 8, none, .build [(.slice none 0 0)] []⟩, ⟨none, none, .st (some 1) (.t 2) (.t 8)⟩, ⟨some 3, none, .mv (.c (.int .i64 1))⟩] [2, 3]) .ret) (.seq
  (.region none [ ⟨some 10, none, .ld (some 2) (.t 1)⟩, ⟨some 11, none, .call (.f 283) [((.t 10), .r)]⟩, ⟨some 12, none, .un .not (.t 11)⟩, ⟨some 9, none, .mv (.t 12)⟩] [1, 2, 9]) (.cond (.t 9) (.seq
  (.region none [ ⟨some 13, none, .build [(.slice none 0 0)] []⟩, ⟨none, none, .st (some 1) (.t 2) (.t 13)⟩, ⟨some 3, none, .mv (.c (.int .i64 5))⟩] [2, 3]) .ret) .skip))))) (.seq
  (.region none [ ⟨some 14, none, .ld (some 2) (.t 1)⟩, ⟨some 15, none, .call (.f 284) [((.t 14), .r)]⟩, ⟨none, none, .st (some 1) (.t 2) (.t 15)⟩, ⟨some 3, none, .mv (.c (.int .i64 0))⟩] [2, 3]) .ret)))

def c_spec_l06Rack : F where
 np := 1
 rs := [.cell 2 (some 1)]
 body :=
  (.seq
  (.region none [ ⟨some 1, none, .box (.t 0)⟩, ⟨some 2, none, .alloc [(.slice none 0 0)]⟩] [1, 2]) (.seq
  (.region none [ ⟨some 9, none, .fld 0 (.t 1)⟩, ⟨some 10, none, .ld none (.t 9)⟩, ⟨some 11, none, .len (.t 10)⟩, ⟨some 3, none, .mv (.t 11)⟩] [1, 2, 3]) (.seq
  (.region none [ ⟨some 12, none, .build [(.slice none 0 0)] []⟩, ⟨some 4, none, .alloc [(.slice none 0 0)]⟩, ⟨none, none, .st (some 1) (.t 4) (.t 12)⟩] [1, 2, 3, 4]) (.seq (.seq
  (.region none [ ⟨some 5, none, .mv (.c (.int .i64 0))⟩] [1, 2, 3, 4, 5]) (.block 0 (.loop (.seq (.seq
  (.region none [ ⟨some 13, none, .mv (.t 5)⟩, ⟨some 14, none, .mv (.t 3)⟩, ⟨some 15, none, .bin .lss (.t 13) (.t 14)⟩] [1, 2, 3, 4, 5, 15]) (.cond (.t 15) .skip (.exit 0))) (.seq (.block 1 (.seq
  (.region none [ ⟨some 18, none, .bsl []⟩, ⟨some 6, none, .asg (.t 18)⟩] [1, 2, 3, 4, 5, 6]) (.seq (.seq
  (.region none [ ⟨some 7, none, .mv (.c (.int .i64 0))⟩] [1, 2, 3, 4, 5, 6, 7]) (.block 2 (.loop (.seq (.seq
  (.region none [ ⟨some 19, none, .mv (.t 7)⟩, ⟨some 20, none, .mv (.t 3)⟩, ⟨some 21, none, .bin .lss (.t 19) (.t 20)⟩] [1, 2, 3, 4, 5, 6, 7, 21]) (.cond (.t 21) .skip (.exit 2))) (.seq (.block 3 (.seq
  (.region none [ ⟨some 24, none, .fld 0 (.t 1)⟩, ⟨some 25, none, .ld none (.t 24)⟩, ⟨some 26, none, .mv (.t 7)⟩, ⟨some 27, none, .idx 1 (.t 25) (.t 26)⟩, ⟨some 28, none, .ld none (.t 27)⟩, ⟨some 29, none, .mv (.t 5)⟩, ⟨some 30, none, .call (.f 69) [((.t 28), .r), ((.t 29), .r)]⟩, ⟨some 8, none, .mv (.t 30)⟩] [1, 2, 3, 4, 5, 6, 7, 8])
  (.region (some [31, 32, 33, 34, 35, 36, 37, 38, 39, 40, 41, 42, 43, 44, 45, 46, 47]) [ ⟨some 31, none, .mv (.t 6)⟩, ⟨some 32, none, .fld 0 (.t 1)⟩, ⟨some 33, none, .ld none (.t 32)⟩, ⟨some 34, none, .mv (.t 5)⟩, ⟨some 35, none, .idx 1 (.t 33) (.t 34)⟩, ⟨some 36, none, .ld none (.t 35)⟩, ⟨some 37, none, .fld 1 (.t 1)⟩, ⟨some 38, none, .ld none (.t 37)⟩, ⟨some 39, none, .mv (.t 7)⟩, ⟨some 40, none, .idx 1 (.t 38) (.t 39)⟩, ⟨some 41, none, .ld none (.t 40)⟩, ⟨some 42, none, .mv (.t 8)⟩, ⟨some 43, none, .idx 1 (.t 41) (.t 42)⟩, ⟨some 44, none, .ld none (.t 43)⟩, ⟨some 45, none, .idx 1 (.t 36) (.t 44)⟩, ⟨some 46, none, .ld none (.t 45)⟩, ⟨some 47, none, .bslv 1 [(.t 46)]⟩, ⟨some 48, none, .app true 1 (.t 31) (.t 47)⟩, ⟨some 6, none, .asg (.t 48)⟩] [1, 2, 3, 4, 5, 6, 7])))
  (.region none [ ⟨some 22, none, .mv (.t 7)⟩, ⟨some 23, none, .bin .add (.t 22) (.c (.int .i64 1))⟩, ⟨some 7, none, .mv (.t 23)⟩] [1, 2, 3, 4, 5, 6, 7]))))))
  (.region none [ ⟨some 49, none, .fld 0 (.t 4)⟩, ⟨some 50, none, .ld none (.t 49)⟩, ⟨some 51, none, .mv (.t 6)⟩, ⟨some 52, none, .bsl [(.t 51)]⟩, ⟨some 53, none, .app true 1 (.t 50) (.t 52)⟩, ⟨some 54, none, .fld 0 (.t 4)⟩, ⟨none, none, .st none (.t 54) (.t 53)⟩] [1, 2, 3, 4, 5]))))
  (.region none [ ⟨some 16, none, .mv (.t 5)⟩, ⟨some 17, none, .bin .add (.t 16) (.c (.int .i64 1))⟩, ⟨some 5, none, .mv (.t 17)⟩] [1, 2, 3, 4, 5])))))) (.seq
  (.region none [ ⟨some 55, none, .ld (some 1) (.t 4)⟩, ⟨none, none, .st (some 1) (.t 2) (.t 55)⟩] [2]) .ret)))))

def j1a : F where
 np := 1
 rs := [.cell 2 (some 1), .t 3]
 body :=
  (.seq
  (.region none [ ⟨some 1, none, .box (.t 0)⟩, ⟨some 2, none, .alloc [(.slice none 0 0)]⟩, ⟨some 3, none, .mv (.c (.int .i64 0))⟩] [1, 2]) (.seq (.seq
  (.region none [ ⟨some 4, none, .ld (some 2) (.t 1)⟩, ⟨some 5, none, .call (.f 42) [((.t 4), .r)]⟩, ⟨some 6, none, .un .not (.t 5)⟩] [1, 2, 6]) (.cond (.t 6) (.seq
  (.region none [ ⟨some 7, none, .build [(.slice none 0 0)] []⟩, ⟨none, none, .st (some 1) (.t 2) (.t 7)⟩, ⟨some 3, none, .mv (.c (.int .i64 1))⟩] [2, 3]) .ret) .skip)) (.seq (.seq
  (.region none [ ⟨some 8, none, .ld (some 2) (.t 1)⟩, ⟨some 9, none, .call (.f 285) [((.t 8), .r)]⟩, ⟨some 10, none, .un .not (.t 9)⟩] [1, 2, 10]) (.cond (.t 10) (.seq
  (.region none [ ⟨some 11, none, .build [(.slice none 0 0)] []⟩, ⟨none, none, .st (some 1) (.t 2) (.t 11)⟩, ⟨some 3, none, .mv (.c (.int .i64 5))⟩] [2, 3]) .ret) .skip)) (.seq
  (.region none [ ⟨some 12, none, .ld (some 2) (.t 1)⟩, ⟨some 13, none, .call (.f 286) [((.t 12), .r)]⟩, ⟨none, none, .st (some 1) (.t 2) (.t 13)⟩, ⟨some 3, none, .mv (.c (.int .i64 0))⟩] [2, 3]) .ret))))

def c_impl_derivedRack : F where
 np := 1
 rs := [.cell 2 (some 1)]
 body :=
  (.seq
  (.region none [ ⟨some 1, none, .box (.t 0)⟩, ⟨some 2, none, .alloc [(.slice none 0 0)]⟩] [1, 2]) (.seq
  (.region none [ ⟨some 3, none, .fld 0 (.t 1)⟩, ⟨some 4, none, .ld none (.t 3)⟩, ⟨some 5, none, .len (.t 4)⟩, ⟨some 6, none, .fnc 383 [(.t 1)]⟩, ⟨some 7, none, .call (.f 376) [((.t 5), .r), ((.t 6), .r)]⟩, ⟨some 8, none, .build [(.slice none 0 0)] [(0, 1, (.t 7))]⟩, ⟨none, none, .st (some 1) (.t 2) (.t 8)⟩] [2]) .ret))

def c_impl_derivedRack_1 : F where
 np := 3
 rs := [.t 5]
 body :=
  (.seq
  (.region none [ ⟨some 5, none, .mv (.c (.int .i64 0))⟩] [0, 1, 2]) (.seq
  (.region none [ ⟨some 7, none, .fld 0 (.t 2)⟩, ⟨some 8, none, .ld none (.t 7)⟩, ⟨some 9, none, .mv (.t 1)⟩, ⟨some 10, none, .idx 1 (.t 8) (.t 9)⟩, ⟨some 11, none, .ld none (.t 10)⟩, ⟨some 12, none, .mv (.t 0)⟩, ⟨some 13, none, .call (.f 287) [((.t 11), .r), ((.t 12), .r)]⟩, ⟨some 6, none, .mv (.t 13)⟩] [0, 1, 2, 6]) (.seq
  (.region (some [14, 15, 16, 17, 18, 19, 20, 21, 22, 23, 24, 25, 26]) [ ⟨some 14, none, .fld 0 (.t 2)⟩, ⟨some 15, none, .ld none (.t 14)⟩, ⟨some 16, none, .mv (.t 0)⟩, ⟨some 17, none, .idx 1 (.t 15) (.t 16)⟩, ⟨some 18, none, .ld none (.t 17)⟩, ⟨some 19, none, .fld 1 (.t 2)⟩, ⟨some 20, none, .ld none (.t 19)⟩, ⟨some 21, none, .mv (.t 1)⟩, ⟨some 22, none, .idx 1 (.t 20) (.t 21)⟩, ⟨some 23, none, .ld none (.t 22)⟩, ⟨some 24, none, .mv (.t 6)⟩, ⟨some 25, none, .idx 1 (.t 23) (.t 24)⟩, ⟨some 26, none, .ld none (.t 25)⟩, ⟨some 27, none, .idx 1 (.t 18) (.t 26)⟩, ⟨some 28, none, .ld none (.t 27)⟩, ⟨some 5, none, .mv (.t 28)⟩] [5]) .ret)))

def c_impl_indexIn : F where
 np := 2
 rs := [.t 4]
 body :=
  (.seq
  (.region none [ ⟨some 4, none, .mv (.c (.int .i64 0))⟩] [0, 1]) (.seq
  (.region none [ ⟨some 5, none, .mv (.t 0)⟩, ⟨some 6, none, .mv (.t 1)⟩, ⟨some 7, none, .call (.f 384) [((.t 5), .r), ((.t 6), .r)]⟩, ⟨some 4, none, .mv (.t 7)⟩] [4]) .ret))

def j05 : F where
 np := 2
 rs := [.t 4]
 body :=
  (.seq
  (.region none [ ⟨some 4, none, .mv (.c (.int .i64 0))⟩] [0, 1]) (.seq (.seq
  (.region none [ ⟨some 6, none, .mv (.t 0)⟩, ⟨some 7, none, .len (.t 6)⟩, ⟨some 8, none, .mv (.c (.int .i64 0))⟩] [0, 1, 7, 8]) (.block 0 (.loop (.seq
  (.region none [ ⟨some 9, none, .bin .lss (.t 8) (.t 7)⟩] [0, 1, 7, 8, 9]) (.seq (.cond (.t 9) .skip (.exit 0)) (.seq (.block 1 (.seq
  (.region none [ ⟨some 10, none, .mv (.t 8)⟩, ⟨some 5, none, .mv (.t 10)⟩] [0, 1, 5, 7, 8]) (.seq
  (.region none [ ⟨some 11, none, .mv (.t 1)⟩, ⟨some 12, none, .mv (.t 0)⟩, ⟨some 13, none, .mv (.t 5)⟩, ⟨some 14, none, .idx 1 (.t 12) (.t 13)⟩, ⟨some 15, none, .ld none (.t 14)⟩, ⟨some 16, none, .bin .eql (.t 11) (.t 15)⟩] [0, 1, 5, 7, 8, 16]) (.cond (.t 16) (.seq
  (.region none [ ⟨some 17, none, .mv (.t 5)⟩, ⟨some 4, none, .mv (.t 17)⟩] [4]) .ret) .skip))))
  (.region none [ ⟨some 18, none, .bin .add (.t 8) (.c (.int .i64 1))⟩, ⟨some 8, none, .mv (.t 18)⟩] [0, 1, 7, 8]))))))) (.seq
  (.region none [ ⟨some 4, none, .mv (.c (.int .i64 (-1)))⟩] [4]) .ret)))

end Go.Mch
