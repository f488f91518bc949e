/- Compact code of the functions of words that the exact laws reach further. -/
import Derived.Test.YtkcgdmjdkbgmkaaGreatM1
namespace Go.Mch

def c_spec_l02Inverse : F where
 np := 1
 rs := [.cell 2 (some 2)]
 body :=
  (.seq
  (.region none [ ⟨some 1, none, .box (.t 0)⟩, ⟨some 2, none, .alloc [(.slice none 0 0), (.slice none 0 0)]⟩] [1, 2]) (.seq
  (.region none [ ⟨some 9, none, .fld 0 (.t 1)⟩, ⟨some 10, none, .ld none (.t 9)⟩, ⟨some 11, none, .len (.t 10)⟩, ⟨some 3, none, .mv (.t 11)⟩] [1, 2, 3]) (.seq
  (.region none [ ⟨some 12, none, .mv (.t 3)⟩, ⟨some 13, none, .call (.f 398) [((.t 12), .r)]⟩, ⟨some 4, none, .alloc [(.slice none 0 0), (.slice none 0 0)]⟩, ⟨none, none, .st (some 2) (.t 4) (.t 13)⟩] [1, 2, 3, 4]) (.seq (.seq
  (.region none [ ⟨some 5, none, .mv (.c (.int .i64 0))⟩] [1, 2, 3, 4, 5]) (.block 0 (.loop (.seq (.seq
  (.region none [ ⟨some 14, none, .mv (.t 5)⟩, ⟨some 15, none, .mv (.t 3)⟩, ⟨some 16, none, .bin .lss (.t 14) (.t 15)⟩] [1, 2, 3, 4, 5, 16]) (.cond (.t 16) .skip (.exit 0))) (.seq (.block 1 (.seq
  (.region none [ ⟨some 6, none, .mv (.c (.int .i64 0))⟩] [1, 2, 3, 4, 5, 6]) (.block 2 (.loop (.seq (.seq
  (.region none [ ⟨some 19, none, .mv (.t 6)⟩, ⟨some 20, none, .mv (.t 3)⟩, ⟨some 21, none, .bin .lss (.t 19) (.t 20)⟩] [1, 2, 3, 4, 5, 6, 21]) (.cond (.t 21) .skip (.exit 2))) (.seq (.block 3 (.seq
  (.region (some [7, 24, 25, 26, 27, 28, 29, 30, 31, 32, 33, 34, 35, 36, 37, 38, 39, 40, 41, 42, 43, 44, 45, 46, 47]) [ ⟨some 24, none, .fld 0 (.t 4)⟩, ⟨some 25, none, .ld none (.t 24)⟩, ⟨some 26, none, .fld 0 (.t 1)⟩, ⟨some 27, none, .ld none (.t 26)⟩, ⟨some 28, none, .mv (.t 5)⟩, ⟨some 29, none, .idx 1 (.t 27) (.t 28)⟩, ⟨some 30, none, .ld none (.t 29)⟩, ⟨some 31, none, .mv (.t 6)⟩, ⟨some 32, none, .idx 1 (.t 30) (.t 31)⟩, ⟨some 33, none, .ld none (.t 32)⟩, ⟨some 34, none, .idx 1 (.t 25) (.t 33)⟩, ⟨some 35, none, .ld none (.t 34)⟩, ⟨some 36, none, .fld 1 (.t 4)⟩, ⟨some 37, none, .ld none (.t 36)⟩, ⟨some 38, none, .fld 0 (.t 1)⟩, ⟨some 39, none, .ld none (.t 38)⟩, ⟨some 40, none, .mv (.t 5)⟩, ⟨some 41, none, .idx 1 (.t 39) (.t 40)⟩, ⟨some 42, none, .ld none (.t 41)⟩, ⟨some 43, none, .mv (.t 6)⟩, ⟨some 44, none, .idx 1 (.t 42) (.t 43)⟩, ⟨some 45, none, .ld none (.t 44)⟩, ⟨some 46, none, .idx 1 (.t 37) (.t 45)⟩, ⟨some 47, none, .ld none (.t 46)⟩, ⟨some 7, none, .mv (.t 35)⟩, ⟨some 8, none, .mv (.t 47)⟩] [1, 2, 3, 4, 5, 6, 7, 8]) (.seq
  (.region none [ ⟨some 48, none, .mv (.t 7)⟩, ⟨some 49, none, .fld 1 (.t 1)⟩, ⟨some 50, none, .ld none (.t 49)⟩, ⟨some 51, none, .mv (.t 5)⟩, ⟨some 52, none, .idx 1 (.t 50) (.t 51)⟩, ⟨some 53, none, .ld none (.t 52)⟩, ⟨some 54, none, .mv (.t 6)⟩, ⟨some 55, none, .idx 1 (.t 53) (.t 54)⟩, ⟨some 56, none, .ld none (.t 55)⟩, ⟨some 57, none, .mv (.t 5)⟩, ⟨some 58, none, .idx 1 (.t 48) (.t 56)⟩, ⟨none, none, .st none (.t 58) (.t 57)⟩] [1, 2, 3, 4, 5, 6, 8])
  (.region none [ ⟨some 59, none, .mv (.t 8)⟩, ⟨some 60, none, .fld 1 (.t 1)⟩, ⟨some 61, none, .ld none (.t 60)⟩, ⟨some 62, none, .mv (.t 5)⟩, ⟨some 63, none, .idx 1 (.t 61) (.t 62)⟩, ⟨some 64, none, .ld none (.t 63)⟩, ⟨some 65, none, .mv (.t 6)⟩, ⟨some 66, none, .idx 1 (.t 64) (.t 65)⟩, ⟨some 67, none, .ld none (.t 66)⟩, ⟨some 68, none, .mv (.t 6)⟩, ⟨some 69, none, .idx 1 (.t 59) (.t 67)⟩, ⟨none, none, .st none (.t 69) (.t 68)⟩] [1, 2, 3, 4, 5, 6]))))
  (.region none [ ⟨some 22, none, .mv (.t 6)⟩, ⟨some 23, none, .bin .add (.t 22) (.c (.int .i64 1))⟩, ⟨some 6, none, .mv (.t 23)⟩] [1, 2, 3, 4, 5, 6])))))))
  (.region none [ ⟨some 17, none, .mv (.t 5)⟩, ⟨some 18, none, .bin .add (.t 17) (.c (.int .i64 1))⟩, ⟨some 5, none, .mv (.t 18)⟩] [1, 2, 3, 4, 5])))))) (.seq
  (.region none [ ⟨some 70, none, .ld (some 2) (.t 4)⟩, ⟨none, none, .st (some 2) (.t 2) (.t 70)⟩] [2]) .ret)))))

def c_impl_isInvolutive : F where
 np := 1
 rs := [.t 2]
 body :=
  (.seq
  (.region none [ ⟨some 1, none, .box (.t 0)⟩, ⟨some 2, none, .mv (.c (.bool false))⟩] [1]) (.seq (.seq
  (.region none [ ⟨some 8, none, .fld 0 (.t 1)⟩, ⟨some 9, none, .ld none (.t 8)⟩, ⟨some 10, none, .len (.t 9)⟩, ⟨some 11, none, .mv (.c (.int .i64 0))⟩] [1, 9, 10, 11]) (.block 0 (.loop (.seq
  (.region none [ ⟨some 12, none, .bin .lss (.t 11) (.t 10)⟩] [1, 9, 10, 11, 12]) (.seq (.cond (.t 12) .skip (.exit 0)) (.seq (.block 1 (.seq
  (.region none [ ⟨some 13, none, .mv (.t 11)⟩, ⟨some 14, none, .idx 1 (.t 9) (.t 11)⟩, ⟨some 15, none, .ld none (.t 14)⟩, ⟨some 3, none, .mv (.t 13)⟩, ⟨some 4, none, .asg (.t 15)⟩] [1, 3, 4, 9, 10, 11]) (.seq
  (.region none [ ⟨some 16, none, .mv (.t 4)⟩, ⟨some 17, none, .len (.t 16)⟩, ⟨some 18, none, .mv (.c (.int .i64 0))⟩] [1, 3, 9, 10, 11, 16, 17, 18]) (.block 2 (.loop (.seq
  (.region none [ ⟨some 19, none, .bin .lss (.t 18) (.t 17)⟩] [1, 3, 9, 10, 11, 16, 17, 18, 19]) (.seq (.cond (.t 19) .skip (.exit 2)) (.seq (.block 3 (.seq
  (.region none [ ⟨some 20, none, .mv (.t 18)⟩, ⟨some 21, none, .idx 1 (.t 16) (.t 18)⟩, ⟨some 22, none, .ld none (.t 21)⟩, ⟨some 5, none, .mv (.t 20)⟩, ⟨some 6, none, .mv (.t 22)⟩] [1, 3, 5, 6, 9, 10, 11, 16, 17, 18]) (.seq
  (.region none [ ⟨some 23, none, .fld 1 (.t 1)⟩, ⟨some 24, none, .ld none (.t 23)⟩, ⟨some 25, none, .mv (.t 3)⟩, ⟨some 26, none, .idx 1 (.t 24) (.t 25)⟩, ⟨some 27, none, .ld none (.t 26)⟩, ⟨some 28, none, .mv (.t 5)⟩, ⟨some 29, none, .idx 1 (.t 27) (.t 28)⟩, ⟨some 30, none, .ld none (.t 29)⟩, ⟨some 7, none, .mv (.t 30)⟩] [1, 3, 5, 6, 7, 9, 10, 11, 16, 17, 18]) (.seq
  (.region none [ ⟨some 31, none, .fld 0 (.t 1)⟩, ⟨some 32, none, .ld none (.t 31)⟩, ⟨some 33, none, .mv (.t 6)⟩, ⟨some 34, none, .idx 1 (.t 32) (.t 33)⟩, ⟨some 35, none, .ld none (.t 34)⟩, ⟨some 36, none, .mv (.t 7)⟩, ⟨some 37, none, .idx 1 (.t 35) (.t 36)⟩, ⟨some 38, none, .ld none (.t 37)⟩, ⟨some 39, none, .mv (.t 3)⟩, ⟨some 40, none, .bin .neq (.t 38) (.t 39)⟩, ⟨some 41, none, .mv (.t 40)⟩, ⟨some 42, (some (41, false)), .fld 1 (.t 1)⟩, ⟨some 43, (some (41, false)), .ld none (.t 42)⟩, ⟨some 44, (some (41, false)), .mv (.t 6)⟩, ⟨some 45, (some (41, false)), .idx 1 (.t 43) (.t 44)⟩, ⟨some 46, (some (41, false)), .ld none (.t 45)⟩, ⟨some 47, (some (41, false)), .mv (.t 7)⟩, ⟨some 48, (some (41, false)), .idx 1 (.t 46) (.t 47)⟩, ⟨some 49, (some (41, false)), .ld none (.t 48)⟩, ⟨some 50, (some (41, false)), .mv (.t 5)⟩, ⟨some 51, (some (41, false)), .bin .neq (.t 49) (.t 50)⟩, ⟨some 52, none, .pick (.t 41) (.c (.bool true)) (.t 51)⟩] [1, 3, 9, 10, 11, 16, 17, 18, 52]) (.cond (.t 52) (.seq
  (.region none [ ⟨some 2, none, .mv (.c (.bool false))⟩] [2]) .ret) .skip)))))
  (.region none [ ⟨some 53, none, .bin .add (.t 18) (.c (.int .i64 1))⟩, ⟨some 18, none, .mv (.t 53)⟩] [1, 3, 9, 10, 11, 16, 17, 18])))))))))
  (.region none [ ⟨some 54, none, .bin .add (.t 11) (.c (.int .i64 1))⟩, ⟨some 11, none, .mv (.t 54)⟩] [1, 9, 10, 11]))))))) (.seq
  (.region none [ ⟨some 2, none, .mv (.c (.bool true))⟩] [2]) .ret)))

end Go.Mch
