/- Compact code of draws and laws. -/
import Derived.Test.YtkcgdmjdkbgmkaaGreatM1
namespace Go.Mch

def c_spec_l01Next : F where
 np := 2
 rs := [.t 4]
 fix := [0, 1]
 body :=
  (.seq
  (.region none [ ⟨some 4, none, .mv (.c (.int .i64 0))⟩] [0, 1]) (.seq (.seq
  (.region none [ ⟨some 6, none, .mv (.t 1)⟩, ⟨some 7, none, .bin .lss (.t 6) (.c (.int .i64 1))⟩] [0, 1, 7]) (.cond (.t 7) (.seq
  (.region none [ ⟨some 4, none, .mv (.c (.int .i64 0))⟩] [0, 1, 4]) .ret) .skip)) (.seq
  (.region none [ ⟨some 8, none, .mv (.t 0)⟩, ⟨some 9, none, .mv (.t 0)⟩, ⟨some 10, none, .nilck (.t 9)⟩, ⟨some 11, none, .fld 2 (.t 10)⟩, ⟨some 12, none, .ld none (.t 11)⟩, ⟨some 13, none, .bin .mul (.t 12) (.c (.int .u64 6364136223846793005))⟩, ⟨some 14, none, .bin .add (.t 13) (.c (.int .u64 1442695040888963407))⟩, ⟨some 15, none, .nilck (.t 8)⟩, ⟨some 16, none, .fld 2 (.t 15)⟩, ⟨none, none, .st none (.t 16) (.t 14)⟩] [0, 1]) (.seq
  (.region none [ ⟨some 17, none, .mv (.t 0)⟩, ⟨some 18, none, .nilck (.t 17)⟩, ⟨some 19, none, .fld 2 (.t 18)⟩, ⟨some 20, none, .ld none (.t 19)⟩, ⟨some 21, none, .bin .shr (.t 20) (.c (.int .u64 33))⟩, ⟨some 22, none, .bin .and (.t 21) (.c (.int .u64 16777215))⟩, ⟨some 23, none, .conv .i64 (.t 22)⟩, ⟨some 5, none, .mv (.t 23)⟩] [0, 1, 5]) (.seq (.seq
  (.region (some [24, 25, 26, 27, 28, 29, 30, 31, 32]) [ ⟨some 24, none, .mv (.t 0)⟩, ⟨some 25, none, .nilck (.t 24)⟩, ⟨some 26, none, .fld 1 (.t 25)⟩, ⟨some 27, none, .ld none (.t 26)⟩, ⟨some 28, none, .mv (.t 0)⟩, ⟨some 29, none, .nilck (.t 28)⟩, ⟨some 30, none, .fld 0 (.t 29)⟩, ⟨some 31, none, .ld none (.t 30)⟩, ⟨some 32, none, .len (.t 31)⟩, ⟨some 33, none, .bin .lss (.t 27) (.t 32)⟩] [0, 1, 5, 33]) (.cond (.t 33) (.seq
  (.region (some [34, 35, 36, 37, 38, 39, 40, 41, 42, 43, 44, 45]) [ ⟨some 34, none, .mv (.t 5)⟩, ⟨some 35, none, .mv (.t 0)⟩, ⟨some 36, none, .nilck (.t 35)⟩, ⟨some 37, none, .fld 0 (.t 36)⟩, ⟨some 38, none, .ld none (.t 37)⟩, ⟨some 39, none, .mv (.t 0)⟩, ⟨some 40, none, .nilck (.t 39)⟩, ⟨some 41, none, .fld 1 (.t 40)⟩, ⟨some 42, none, .ld none (.t 41)⟩, ⟨some 43, none, .idx 1 (.t 38) (.t 42)⟩, ⟨some 44, none, .ld none (.t 43)⟩, ⟨some 45, none, .conv .i64 (.t 44)⟩, ⟨some 46, none, .bin .add (.t 34) (.t 45)⟩, ⟨some 5, none, .mv (.t 46)⟩] [0, 1, 5])
  (.region none [ ⟨some 47, none, .mv (.t 0)⟩, ⟨some 48, none, .mv (.t 0)⟩, ⟨some 49, none, .nilck (.t 48)⟩, ⟨some 50, none, .fld 1 (.t 49)⟩, ⟨some 51, none, .ld none (.t 50)⟩, ⟨some 52, none, .bin .add (.t 51) (.c (.int .i64 1))⟩, ⟨some 53, none, .nilck (.t 47)⟩, ⟨some 54, none, .fld 1 (.t 53)⟩, ⟨none, none, .st none (.t 54) (.t 52)⟩] [0, 1, 5])) .skip)) (.seq
  (.region none [ ⟨some 55, none, .mv (.t 5)⟩, ⟨some 56, none, .mv (.t 1)⟩, ⟨some 57, none, .bin .rem (.t 55) (.t 56)⟩, ⟨some 4, none, .mv (.t 57)⟩] [0, 1, 4]) .ret))))))

def c_spec_l02Draw : F where
 np := 2
 rs := [.cell 4 (some 2)]
 fix := [0, 1]
 body :=
  (.seq
  (.region none [ ⟨some 4, none, .alloc [(.slice none 0 0), (.slice none 0 0)]⟩] [0, 1, 4]) (.seq
  (.region none [ ⟨some 6, none, .mvs 0⟩, ⟨some 7, none, .mv (.t 1)⟩, ⟨some 8, none, .calls (.f 445) (.t 6) 0 [(.t 7)]⟩, ⟨some 5, none, .alloc [(.slice none 0 0), (.slice none 0 0)]⟩, ⟨none, none, .st (some 2) (.t 5) (.t 8)⟩] [0, 1, 4, 5]) (.seq (.seq
  (.region none [ ⟨some 9, none, .mvs 0⟩, ⟨some 10, none, .calls (.f 336) (.t 9) 0 [(.c (.int .i64 4))]⟩, ⟨some 11, none, .bin .gtr (.t 10) (.c (.int .i64 0))⟩] [0, 1, 4, 5, 11]) (.cond (.t 11) (.seq
  (.region (some [12, 13, 14, 15, 16, 17]) [ ⟨some 12, none, .ld (some 2) (.t 5)⟩, ⟨some 13, none, .mvs 0⟩, ⟨some 14, none, .fld 0 (.t 5)⟩, ⟨some 15, none, .ld none (.t 14)⟩, ⟨some 16, none, .len (.t 15)⟩, ⟨some 17, none, .calls (.f 368) (.t 13) 0 [(.t 16)]⟩, ⟨some 18, none, .call (.f 422) [((.t 12), .r), ((.t 17), .r)]⟩, ⟨none, none, .st (some 2) (.t 4) (.t 18)⟩] [0, 1, 4]) .ret) .skip)) (.seq
  (.region none [ ⟨some 19, none, .ld (some 2) (.t 5)⟩, ⟨none, none, .st (some 2) (.t 4) (.t 19)⟩] [0, 1, 4]) .ret))))

def c_spec_l02Any : F where
 np := 2
 rs := [.cell 4 (some 2)]
 fix := [0, 1]
 body :=
  (.seq
  (.region none [ ⟨some 4, none, .alloc [(.slice none 0 0), (.slice none 0 0)]⟩] [0, 1, 4]) (.seq
  (.region none [ ⟨some 9, none, .mvs 0⟩, ⟨some 10, none, .mv (.t 1)⟩, ⟨some 11, none, .calls (.f 336) (.t 9) 0 [(.t 10)]⟩, ⟨some 12, none, .bin .add (.c (.int .i64 1)) (.t 11)⟩, ⟨some 5, none, .mv (.t 12)⟩] [0, 1, 4, 5]) (.seq (.seq
  (.region none [ ⟨some 13, none, .mvs 0⟩, ⟨some 14, none, .calls (.f 336) (.t 13) 0 [(.c (.int .i64 8))]⟩] [0, 1, 4, 5, 14]) (.block 0 (.seq
  (.region none [ ⟨some 16, none, .bin .eql (.t 14) (.c (.int .i64 0))⟩, ⟨some 15, none, .mv (.t 16)⟩] [0, 1, 4, 5, 14, 15]) (.cond (.t 15) (.seq
  (.region none [ ⟨some 17, none, .mv (.t 5)⟩, ⟨some 18, none, .call (.f 449) [((.t 17), .r)]⟩, ⟨none, none, .st (some 2) (.t 4) (.t 18)⟩] [0, 1, 4]) .ret) (.seq
  (.region none [ ⟨some 20, none, .bin .eql (.t 14) (.c (.int .i64 1))⟩, ⟨some 19, none, .mv (.t 20)⟩] [0, 1, 4, 5, 14, 19]) (.cond (.t 19) (.seq
  (.region none [ ⟨some 21, none, .mv (.t 5)⟩, ⟨some 22, none, .call (.f 423) [((.t 21), .r)]⟩, ⟨none, none, .st (some 2) (.t 4) (.t 22)⟩] [0, 1, 4]) .ret) (.seq
  (.region none [ ⟨some 24, none, .bin .eql (.t 14) (.c (.int .i64 2))⟩, ⟨some 23, none, .mv (.t 24)⟩] [0, 1, 4, 5, 14, 23]) (.cond (.t 23) (.seq
  (.region none [ ⟨some 25, none, .mv (.t 5)⟩, ⟨some 26, none, .bin .geq (.t 25) (.c (.int .i64 4))⟩, ⟨some 27, none, .mv (.t 26)⟩, ⟨some 28, (some (27, true)), .mv (.t 5)⟩, ⟨some 29, (some (27, true)), .bin .rem (.t 28) (.c (.int .i64 2))⟩, ⟨some 30, (some (27, true)), .bin .eql (.t 29) (.c (.int .i64 0))⟩, ⟨some 31, none, .pick (.t 27) (.t 30) (.c (.bool false))⟩] [0, 1, 4, 5, 31]) (.cond (.t 31) (.seq
  (.region none [ ⟨some 32, none, .mvs 0⟩, ⟨some 33, none, .mv (.t 5)⟩, ⟨some 34, none, .bin .quo (.t 33) (.c (.int .i64 2))⟩, ⟨some 35, none, .calls (.f 459) (.t 32) 0 [(.t 34)]⟩, ⟨some 36, none, .mvs 0⟩, ⟨some 37, none, .calls (.f 459) (.t 36) 0 [(.c (.int .i64 2))]⟩, ⟨some 38, none, .call (.f 458) [((.t 35), .r), ((.t 37), .r)]⟩, ⟨none, none, .st (some 2) (.t 4) (.t 38)⟩] [0, 1, 4]) .ret) .skip)) (.seq
  (.region none [ ⟨some 40, none, .bin .eql (.t 14) (.c (.int .i64 3))⟩, ⟨some 39, none, .mv (.t 40)⟩] [0, 1, 4, 5, 14, 39]) (.cond (.t 39) (.seq
  (.region none [ ⟨some 41, none, .mv (.t 5)⟩, ⟨some 42, none, .bin .geq (.t 41) (.c (.int .i64 2))⟩] [0, 1, 4, 5, 42]) (.cond (.t 42) (.seq
  (.region none [ ⟨some 43, none, .mvs 0⟩, ⟨some 44, none, .mv (.t 5)⟩, ⟨some 45, none, .bin .sub (.t 44) (.c (.int .i64 1))⟩, ⟨some 46, none, .calls (.f 336) (.t 43) 0 [(.t 45)]⟩, ⟨some 47, none, .bin .add (.c (.int .i64 1)) (.t 46)⟩, ⟨some 6, none, .mv (.t 47)⟩] [0, 1, 4, 5, 6]) (.seq
  (.region none [ ⟨some 48, none, .mvs 0⟩, ⟨some 49, none, .mv (.t 6)⟩, ⟨some 50, none, .calls (.f 445) (.t 48) 0 [(.t 49)]⟩, ⟨some 51, none, .mvs 0⟩, ⟨some 52, none, .mv (.t 5)⟩, ⟨some 53, none, .mv (.t 6)⟩, ⟨some 54, none, .bin .sub (.t 52) (.t 53)⟩, ⟨some 55, none, .calls (.f 459) (.t 51) 0 [(.t 54)]⟩, ⟨some 56, none, .call (.f 460) [((.t 50), .r), ((.t 55), .r)]⟩, ⟨none, none, .st (some 2) (.t 4) (.t 56)⟩] [0, 1, 4]) .ret)) .skip)) (.seq
  (.region none [ ⟨some 58, none, .bin .eql (.t 14) (.c (.int .i64 4))⟩, ⟨some 57, none, .mv (.t 58)⟩] [0, 1, 4, 5, 14, 57]) (.cond (.t 57) (.seq
  (.region none [ ⟨some 59, none, .mv (.t 1)⟩, ⟨some 60, none, .bin .geq (.t 59) (.c (.int .i64 4))⟩] [0, 1, 4, 5, 60]) (.cond (.t 60) (.seq
  (.region none [ ⟨some 61, none, .bsl [(.c (.int .i64 0)), (.c (.int .i64 1)), (.c (.int .i64 3)), (.c (.int .i64 2))]⟩, ⟨some 62, none, .bsl [(.c (.int .i64 0)), (.c (.int .i64 1)), (.c (.int .i64 3)), (.c (.int .i64 2))]⟩, ⟨some 63, none, .bsl [(.c (.int .i64 1)), (.c (.int .i64 0)), (.c (.int .i64 2)), (.c (.int .i64 3))]⟩, ⟨some 64, none, .bsl [(.c (.int .i64 1)), (.c (.int .i64 0)), (.c (.int .i64 2)), (.c (.int .i64 3))]⟩, ⟨some 65, none, .bsl [(.t 61), (.t 62), (.t 63), (.t 64)]⟩, ⟨some 7, none, .asg (.t 65)⟩] [0, 1, 4, 7]) (.seq
  (.region none [ ⟨some 66, none, .mv (.t 7)⟩, ⟨some 67, none, .call (.f 461) [((.t 66), .r)]⟩, ⟨none, none, .st (some 2) (.t 4) (.t 67)⟩] [0, 1, 4]) .ret)) .skip)) (.seq
  (.region none [ ⟨some 69, none, .bin .eql (.t 14) (.c (.int .i64 5))⟩, ⟨some 68, none, .mv (.t 69)⟩] [0, 1, 4, 5, 14, 68]) (.cond (.t 68) (.seq
  (.region none [ ⟨some 70, none, .mv (.t 5)⟩, ⟨some 71, none, .bin .geq (.t 70) (.c (.int .i64 2))⟩] [0, 1, 4, 5, 71]) (.cond (.t 71) (.seq
  (.region none [ ⟨some 72, none, .mv (.t 5)⟩, ⟨some 73, none, .call (.f 423) [((.t 72), .r)]⟩, ⟨some 74, none, .call (.f 406) [((.t 73), .r)]⟩, ⟨none, none, .st (some 2) (.t 4) (.t 74)⟩] [0, 1, 4]) .ret) .skip)) (.seq
  (.region none [ ⟨some 76, none, .bin .eql (.t 14) (.c (.int .i64 6))⟩, ⟨some 75, none, .mv (.t 76)⟩] [0, 1, 4, 5, 75]) (.cond (.t 75) (.seq
  (.region none [ ⟨some 77, none, .mv (.t 1)⟩, ⟨some 78, none, .bin .geq (.t 77) (.c (.int .i64 3))⟩] [0, 1, 4, 5, 78]) (.cond (.t 78) (.seq
  (.region none [ ⟨some 79, none, .bsl [(.c (.int .i64 0)), (.c (.int .i64 1)), (.c (.int .i64 2))]⟩, ⟨some 80, none, .bsl [(.c (.int .i64 0)), (.c (.int .i64 1)), (.c (.int .i64 2))]⟩, ⟨some 81, none, .bsl [(.c (.int .i64 1)), (.c (.int .i64 0)), (.c (.int .i64 2))]⟩, ⟨some 82, none, .bsl [(.t 79), (.t 80), (.t 81)]⟩, ⟨some 8, none, .asg (.t 82)⟩] [0, 1, 4, 8]) (.seq
  (.region none [ ⟨some 83, none, .mv (.t 8)⟩, ⟨some 84, none, .call (.f 461) [((.t 83), .r)]⟩, ⟨none, none, .st (some 2) (.t 4) (.t 84)⟩] [0, 1, 4]) .ret)) .skip)) .skip)))))))))))))))) (.seq
  (.region none [ ⟨some 85, none, .mvs 0⟩, ⟨some 86, none, .mv (.t 5)⟩, ⟨some 87, none, .calls (.f 459) (.t 85) 0 [(.t 86)]⟩, ⟨none, none, .st (some 2) (.t 4) (.t 87)⟩] [0, 1, 4]) .ret))))

def c_spec_l02Flip : F where
 np := 1
 rs := [.cell 2 (some 2)]
 body :=
  (.seq
  (.region none [ ⟨some 2, none, .alloc [(.slice none 0 0), (.slice none 0 0)]⟩] [0, 2]) (.seq
  (.region none [ ⟨some 4, none, .mv (.t 0)⟩, ⟨some 5, none, .call (.f 334) [((.t 4), .r)]⟩, ⟨some 3, none, .asg (.t 5)⟩] [2, 3]) (.seq
  (.region none [ ⟨some 6, none, .mv (.t 3)⟩, ⟨some 7, none, .mv (.t 3)⟩, ⟨some 8, none, .call (.f 425) [((.t 6), .r), ((.t 7), .r)]⟩, ⟨none, none, .st (some 2) (.t 2) (.t 8)⟩] [2]) .ret)))

def c_spec_l02Twist : F where
 np := 2
 rs := [.cell 4 (some 2)]
 body :=
  (.seq
  (.region none [ ⟨some 4, none, .alloc [(.slice none 0 0), (.slice none 0 0)]⟩] [0, 1, 4]) (.seq
  (.region none [ ⟨some 9, none, .build [(.slice none 0 0), (.slice none 0 0)] []⟩, ⟨some 5, none, .alloc [(.slice none 0 0), (.slice none 0 0)]⟩, ⟨none, none, .st (some 2) (.t 5) (.t 9)⟩] [0, 1, 4, 5]) (.seq (.seq
  (.region none [ ⟨some 6, none, .mv (.c (.int .i64 0))⟩] [0, 1, 4, 5, 6]) (.block 0 (.loop (.seq (.seq
  (.region none [ ⟨some 10, none, .mv (.t 6)⟩, ⟨some 11, none, .mv (.t 0)⟩, ⟨some 12, none, .len (.t 11)⟩, ⟨some 13, none, .bin .lss (.t 10) (.t 12)⟩] [0, 1, 4, 5, 6, 13]) (.cond (.t 13) .skip (.exit 0))) (.seq (.block 1 (.seq
  (.region none [ ⟨some 16, none, .bsl []⟩, ⟨some 7, none, .asg (.t 16)⟩] [0, 1, 4, 5, 6, 7]) (.seq (.seq
  (.region none [ ⟨some 8, none, .mv (.c (.int .i64 0))⟩] [0, 1, 4, 5, 6, 7, 8]) (.block 2 (.loop (.seq (.seq
  (.region none [ ⟨some 17, none, .mv (.t 8)⟩, ⟨some 18, none, .mv (.t 0)⟩, ⟨some 19, none, .len (.t 18)⟩, ⟨some 20, none, .bin .lss (.t 17) (.t 19)⟩] [0, 1, 4, 5, 6, 7, 8, 20]) (.cond (.t 20) .skip (.exit 2))) (.seq (.block 3
  (.region none [ ⟨some 23, none, .mv (.t 7)⟩, ⟨some 24, none, .mv (.t 1)⟩, ⟨some 25, none, .mv (.t 6)⟩, ⟨some 26, none, .idx 1 (.t 24) (.t 25)⟩, ⟨some 27, none, .ld none (.t 26)⟩, ⟨some 28, none, .bsl [(.t 27)]⟩, ⟨some 29, none, .app true 1 (.t 23) (.t 28)⟩, ⟨some 7, none, .asg (.t 29)⟩] [0, 1, 4, 5, 6, 7, 8]))
  (.region none [ ⟨some 21, none, .mv (.t 8)⟩, ⟨some 22, none, .bin .add (.t 21) (.c (.int .i64 1))⟩, ⟨some 8, none, .mv (.t 22)⟩] [0, 1, 4, 5, 6, 7, 8])))))) (.seq
  (.region (some [30, 31, 32, 33, 34]) [ ⟨some 30, none, .fld 0 (.t 5)⟩, ⟨some 31, none, .ld none (.t 30)⟩, ⟨some 32, none, .mv (.t 0)⟩, ⟨some 33, none, .call (.f 31) [((.t 32), .r)]⟩, ⟨some 34, none, .bsl1 33⟩, ⟨some 35, none, .app true 1 (.t 31) (.t 34)⟩, ⟨some 36, none, .fld 0 (.t 5)⟩, ⟨none, none, .st none (.t 36) (.t 35)⟩] [0, 1, 4, 5, 6, 7])
  (.region none [ ⟨some 37, none, .fld 1 (.t 5)⟩, ⟨some 38, none, .ld none (.t 37)⟩, ⟨some 39, none, .mv (.t 7)⟩, ⟨some 40, none, .bsl [(.t 39)]⟩, ⟨some 41, none, .app true 1 (.t 38) (.t 40)⟩, ⟨some 42, none, .fld 1 (.t 5)⟩, ⟨none, none, .st none (.t 42) (.t 41)⟩] [0, 1, 4, 5, 6])))))
  (.region none [ ⟨some 14, none, .mv (.t 6)⟩, ⟨some 15, none, .bin .add (.t 14) (.c (.int .i64 1))⟩, ⟨some 6, none, .mv (.t 15)⟩] [0, 1, 4, 5, 6])))))) (.seq
  (.region none [ ⟨some 43, none, .ld (some 2) (.t 5)⟩, ⟨none, none, .st (some 2) (.t 4) (.t 43)⟩] [4]) .ret))))

def c_spec_l02Polygon : F where
 np := 1
 rs := [.cell 2 (some 2)]
 body :=
  (.seq
  (.region none [ ⟨some 2, none, .alloc [(.slice none 0 0), (.slice none 0 0)]⟩] [0, 2]) (.seq
  (.region none [ ⟨some 8, none, .build [(.slice none 0 0), (.slice none 0 0)] []⟩, ⟨some 3, none, .alloc [(.slice none 0 0), (.slice none 0 0)]⟩, ⟨none, none, .st (some 2) (.t 3) (.t 8)⟩] [0, 2, 3]) (.seq (.seq
  (.region none [ ⟨some 4, none, .mv (.c (.int .i64 0))⟩] [0, 2, 3, 4]) (.block 0 (.loop (.seq (.seq
  (.region none [ ⟨some 9, none, .mv (.t 4)⟩, ⟨some 10, none, .mv (.t 0)⟩, ⟨some 11, none, .bin .lss (.t 9) (.t 10)⟩] [0, 2, 3, 4, 11]) (.cond (.t 11) .skip (.exit 0))) (.seq (.block 1 (.seq
  (.region none [ ⟨some 14, none, .bsl []⟩, ⟨some 15, none, .bsl []⟩, ⟨some 5, none, .asg (.t 14)⟩, ⟨some 6, none, .asg (.t 15)⟩] [0, 2, 3, 4, 5, 6]) (.seq (.seq
  (.region none [ ⟨some 7, none, .mv (.c (.int .i64 0))⟩] [0, 2, 3, 4, 5, 6, 7]) (.block 2 (.loop (.seq (.seq
  (.region none [ ⟨some 16, none, .mv (.t 7)⟩, ⟨some 17, none, .mv (.t 0)⟩, ⟨some 18, none, .bin .lss (.t 16) (.t 17)⟩] [0, 2, 3, 4, 5, 6, 7, 18]) (.cond (.t 18) .skip (.exit 2))) (.seq (.block 3 (.seq
  (.region none [ ⟨some 21, none, .mv (.t 5)⟩, ⟨some 22, none, .mv (.t 4)⟩, ⟨some 23, none, .bin .mul (.c (.int .i64 2)) (.t 22)⟩, ⟨some 24, none, .mv (.t 7)⟩, ⟨some 25, none, .bin .sub (.t 23) (.t 24)⟩, ⟨some 26, none, .mv (.t 0)⟩, ⟨some 27, none, .bin .add (.t 25) (.t 26)⟩, ⟨some 28, none, .mv (.t 0)⟩, ⟨some 29, none, .bin .rem (.t 27) (.t 28)⟩, ⟨some 30, none, .bsl [(.t 29)]⟩, ⟨some 31, none, .app true 1 (.t 21) (.t 30)⟩, ⟨some 5, none, .asg (.t 31)⟩] [0, 2, 3, 4, 5, 6, 7])
  (.region none [ ⟨some 32, none, .mv (.t 6)⟩, ⟨some 33, none, .mv (.t 4)⟩, ⟨some 34, none, .bsl [(.t 33)]⟩, ⟨some 35, none, .app true 1 (.t 32) (.t 34)⟩, ⟨some 6, none, .asg (.t 35)⟩] [0, 2, 3, 4, 5, 6, 7])))
  (.region none [ ⟨some 19, none, .mv (.t 7)⟩, ⟨some 20, none, .bin .add (.t 19) (.c (.int .i64 1))⟩, ⟨some 7, none, .mv (.t 20)⟩] [0, 2, 3, 4, 5, 6, 7])))))) (.seq
  (.region none [ ⟨some 36, none, .fld 0 (.t 3)⟩, ⟨some 37, none, .ld none (.t 36)⟩, ⟨some 38, none, .mv (.t 5)⟩, ⟨some 39, none, .bsl [(.t 38)]⟩, ⟨some 40, none, .app true 1 (.t 37) (.t 39)⟩, ⟨some 41, none, .fld 0 (.t 3)⟩, ⟨none, none, .st none (.t 41) (.t 40)⟩] [0, 2, 3, 4, 6])
  (.region none [ ⟨some 42, none, .fld 1 (.t 3)⟩, ⟨some 43, none, .ld none (.t 42)⟩, ⟨some 44, none, .mv (.t 6)⟩, ⟨some 45, none, .bsl [(.t 44)]⟩, ⟨some 46, none, .app true 1 (.t 43) (.t 45)⟩, ⟨some 47, none, .fld 1 (.t 3)⟩, ⟨none, none, .st none (.t 47) (.t 46)⟩] [0, 2, 3, 4])))))
  (.region none [ ⟨some 12, none, .mv (.t 4)⟩, ⟨some 13, none, .bin .add (.t 12) (.c (.int .i64 1))⟩, ⟨some 4, none, .mv (.t 13)⟩] [0, 2, 3, 4])))))) (.seq
  (.region none [ ⟨some 48, none, .ld (some 2) (.t 3)⟩, ⟨none, none, .st (some 2) (.t 2) (.t 48)⟩] [2]) .ret))))

def j1d : F where
 np := 2
 rs := [.cell 4 (some 2)]
 fix := [0, 1]
 body :=
  (.seq
  (.region none [ ⟨some 4, none, .alloc [(.slice none 0 0), (.slice none 0 0)]⟩] [0, 1, 4]) (.seq
  (.region none [ ⟨some 8, none, .mvs 0⟩, ⟨some 9, none, .mv (.t 1)⟩, ⟨some 10, none, .calls (.f 368) (.t 8) 0 [(.t 9)]⟩, ⟨some 5, none, .asg (.t 10)⟩] [0, 1, 4, 5]) (.seq
  (.region none [ ⟨some 11, none, .mv (.t 1)⟩, ⟨some 12, none, .call (.f 334) [((.t 11), .r)]⟩, ⟨some 6, none, .asg (.t 12)⟩] [0, 1, 4, 5, 6]) (.seq (.seq
  (.region none [ ⟨some 13, none, .mvs 0⟩, ⟨some 14, none, .calls (.f 336) (.t 13) 0 [(.c (.int .i64 4))]⟩, ⟨some 7, none, .mv (.t 14)⟩] [0, 1, 4, 5, 6, 7]) (.block 0 (.loop (.seq (.seq
  (.region none [ ⟨some 15, none, .mv (.t 7)⟩, ⟨some 16, none, .bin .gtr (.t 15) (.c (.int .i64 0))⟩] [0, 1, 4, 5, 6, 7, 16]) (.cond (.t 16) .skip (.exit 0))) (.seq (.block 1
  (.region none [ ⟨some 19, none, .mv (.t 6)⟩, ⟨some 20, none, .mv (.t 5)⟩, ⟨some 21, none, .call (.f 279) [((.t 19), .r), ((.t 20), .r)]⟩, ⟨some 6, none, .asg (.t 21)⟩] [0, 1, 4, 5, 6, 7]))
  (.region none [ ⟨some 17, none, .mv (.t 7)⟩, ⟨some 18, none, .bin .sub (.t 17) (.c (.int .i64 1))⟩, ⟨some 7, none, .mv (.t 18)⟩] [0, 1, 4, 5, 6, 7])))))) (.seq (.seq
  (.region none [ ⟨some 22, none, .mvs 0⟩, ⟨some 23, none, .calls (.f 336) (.t 22) 0 [(.c (.int .i64 2))]⟩, ⟨some 24, none, .bin .eql (.t 23) (.c (.int .i64 0))⟩] [0, 1, 4, 5, 6, 24]) (.cond (.t 24) (.seq
  (.region none [ ⟨some 25, none, .mv (.t 5)⟩, ⟨some 26, none, .mv (.t 6)⟩, ⟨some 27, none, .call (.f 425) [((.t 25), .r), ((.t 26), .r)]⟩, ⟨none, none, .st (some 2) (.t 4) (.t 27)⟩] [0, 1, 4]) .ret) .skip)) (.seq
  (.region none [ ⟨some 28, none, .mv (.t 6)⟩, ⟨some 29, none, .mv (.t 5)⟩, ⟨some 30, none, .call (.f 425) [((.t 28), .r), ((.t 29), .r)]⟩, ⟨none, none, .st (some 2) (.t 4) (.t 30)⟩] [0, 1, 4]) .ret))))))

def c_spec_l01Draw : F where
 np := 2
 rs := [.t 4]
 fix := [0, 1]
 body :=
  (.seq
  (.region none [ ⟨some 4, none, .asg (.c (.slice none 0 0))⟩] [0, 1]) (.seq
  (.region none [ ⟨some 9, none, .mv (.t 1)⟩, ⟨some 10, none, .call (.f 334) [((.t 9), .r)]⟩, ⟨some 5, none, .asg (.t 10)⟩] [0, 1, 5]) (.seq (.seq
  (.region none [ ⟨some 11, none, .mv (.t 1)⟩, ⟨some 12, none, .bin .sub (.t 11) (.c (.int .i64 1))⟩, ⟨some 6, none, .mv (.t 12)⟩] [0, 1, 5, 6]) (.block 0 (.loop (.seq (.seq
  (.region none [ ⟨some 13, none, .mv (.t 6)⟩, ⟨some 14, none, .bin .gtr (.t 13) (.c (.int .i64 0))⟩] [0, 1, 5, 6, 14]) (.cond (.t 14) .skip (.exit 0))) (.seq (.block 1 (.seq
  (.region none [ ⟨some 17, none, .mvs 0⟩, ⟨some 18, none, .mv (.t 6)⟩, ⟨some 19, none, .bin .add (.t 18) (.c (.int .i64 1))⟩, ⟨some 20, none, .calls (.f 336) (.t 17) 0 [(.t 19)]⟩, ⟨some 7, none, .mv (.t 20)⟩] [0, 1, 5, 6, 7]) (.seq
  (.region none [ ⟨some 21, none, .mv (.t 5)⟩, ⟨some 22, none, .mv (.t 6)⟩, ⟨some 23, none, .idx 1 (.t 21) (.t 22)⟩, ⟨some 24, none, .ld none (.t 23)⟩, ⟨some 8, none, .mv (.t 24)⟩] [0, 1, 5, 6, 7, 8]) (.seq
  (.region none [ ⟨some 25, none, .mv (.t 5)⟩, ⟨some 26, none, .mv (.t 6)⟩, ⟨some 27, none, .mv (.t 5)⟩, ⟨some 28, none, .mv (.t 7)⟩, ⟨some 29, none, .idx 1 (.t 27) (.t 28)⟩, ⟨some 30, none, .ld none (.t 29)⟩, ⟨some 31, none, .idx 1 (.t 25) (.t 26)⟩, ⟨none, none, .st none (.t 31) (.t 30)⟩] [0, 1, 5, 6, 7, 8])
  (.region none [ ⟨some 32, none, .mv (.t 5)⟩, ⟨some 33, none, .mv (.t 7)⟩, ⟨some 34, none, .mv (.t 8)⟩, ⟨some 35, none, .idx 1 (.t 32) (.t 33)⟩, ⟨none, none, .st none (.t 35) (.t 34)⟩] [0, 1, 5, 6])))))
  (.region none [ ⟨some 15, none, .mv (.t 6)⟩, ⟨some 16, none, .bin .sub (.t 15) (.c (.int .i64 1))⟩, ⟨some 6, none, .mv (.t 16)⟩] [0, 1, 5, 6])))))) (.seq
  (.region none [ ⟨some 36, none, .mv (.t 5)⟩, ⟨some 4, none, .asg (.t 36)⟩] [0, 1, 4]) .ret))))

def c_spec_l02Product : F where
 np := 2
 rs := [.cell 4 (some 2)]
 body :=
  (.seq
  (.region none [ ⟨some 2, none, .box (.t 0)⟩, ⟨some 3, none, .box (.t 1)⟩, ⟨some 4, none, .alloc [(.slice none 0 0), (.slice none 0 0)]⟩] [2, 3, 4]) (.seq
  (.region (some [5, 12, 13, 14, 15, 16, 17]) [ ⟨some 12, none, .fld 0 (.t 2)⟩, ⟨some 13, none, .ld none (.t 12)⟩, ⟨some 14, none, .len (.t 13)⟩, ⟨some 15, none, .fld 0 (.t 3)⟩, ⟨some 16, none, .ld none (.t 15)⟩, ⟨some 17, none, .len (.t 16)⟩, ⟨some 5, none, .mv (.t 14)⟩, ⟨some 6, none, .mv (.t 17)⟩] [2, 3, 4, 5, 6]) (.seq
  (.region none [ ⟨some 18, none, .build [(.slice none 0 0), (.slice none 0 0)] []⟩, ⟨some 7, none, .alloc [(.slice none 0 0), (.slice none 0 0)]⟩, ⟨none, none, .st (some 2) (.t 7) (.t 18)⟩] [2, 3, 4, 5, 6, 7]) (.seq (.seq
  (.region none [ ⟨some 8, none, .mv (.c (.int .i64 0))⟩] [2, 3, 4, 5, 6, 7, 8]) (.block 0 (.loop (.seq (.seq
  (.region none [ ⟨some 19, none, .mv (.t 8)⟩, ⟨some 20, none, .mv (.t 5)⟩, ⟨some 21, none, .mv (.t 6)⟩, ⟨some 22, none, .bin .mul (.t 20) (.t 21)⟩, ⟨some 23, none, .bin .lss (.t 19) (.t 22)⟩] [2, 3, 4, 5, 6, 7, 8, 23]) (.cond (.t 23) .skip (.exit 0))) (.seq (.block 1 (.seq
  (.region none [ ⟨some 26, none, .bsl []⟩, ⟨some 27, none, .bsl []⟩, ⟨some 9, none, .asg (.t 26)⟩, ⟨some 10, none, .asg (.t 27)⟩] [2, 3, 4, 5, 6, 7, 8, 9, 10]) (.seq (.seq
  (.region none [ ⟨some 11, none, .mv (.c (.int .i64 0))⟩] [2, 3, 4, 5, 6, 7, 8, 9, 10, 11]) (.block 2 (.loop (.seq (.seq
  (.region none [ ⟨some 28, none, .mv (.t 11)⟩, ⟨some 29, none, .mv (.t 5)⟩, ⟨some 30, none, .mv (.t 6)⟩, ⟨some 31, none, .bin .mul (.t 29) (.t 30)⟩, ⟨some 32, none, .bin .lss (.t 28) (.t 31)⟩] [2, 3, 4, 5, 6, 7, 8, 9, 10, 11, 32]) (.cond (.t 32) .skip (.exit 2))) (.seq (.block 3 (.seq
  (.region (some [35, 36, 37, 38, 39, 40, 41, 42, 43, 44, 45, 46, 47, 48, 49, 50, 51, 52, 53, 54, 55, 56, 57, 58, 59, 60, 61, 62, 63]) [ ⟨some 35, none, .mv (.t 9)⟩, ⟨some 36, none, .fld 0 (.t 2)⟩, ⟨some 37, none, .ld none (.t 36)⟩, ⟨some 38, none, .mv (.t 8)⟩, ⟨some 39, none, .mv (.t 6)⟩, ⟨some 40, none, .bin .quo (.t 38) (.t 39)⟩, ⟨some 41, none, .idx 1 (.t 37) (.t 40)⟩, ⟨some 42, none, .ld none (.t 41)⟩, ⟨some 43, none, .mv (.t 11)⟩, ⟨some 44, none, .mv (.t 6)⟩, ⟨some 45, none, .bin .quo (.t 43) (.t 44)⟩, ⟨some 46, none, .idx 1 (.t 42) (.t 45)⟩, ⟨some 47, none, .ld none (.t 46)⟩, ⟨some 48, none, .mv (.t 6)⟩, ⟨some 49, none, .bin .mul (.t 47) (.t 48)⟩, ⟨some 50, none, .fld 0 (.t 3)⟩, ⟨some 51, none, .ld none (.t 50)⟩, ⟨some 52, none, .mv (.t 8)⟩, ⟨some 53, none, .mv (.t 6)⟩, ⟨some 54, none, .bin .rem (.t 52) (.t 53)⟩, ⟨some 55, none, .idx 1 (.t 51) (.t 54)⟩, ⟨some 56, none, .ld none (.t 55)⟩, ⟨some 57, none, .mv (.t 11)⟩, ⟨some 58, none, .mv (.t 6)⟩, ⟨some 59, none, .bin .rem (.t 57) (.t 58)⟩, ⟨some 60, none, .idx 1 (.t 56) (.t 59)⟩, ⟨some 61, none, .ld none (.t 60)⟩, ⟨some 62, none, .bin .add (.t 49) (.t 61)⟩, ⟨some 63, none, .bslv 1 [(.t 62)]⟩, ⟨some 64, none, .app true 1 (.t 35) (.t 63)⟩, ⟨some 9, none, .asg (.t 64)⟩] [2, 3, 4, 5, 6, 7, 8, 9, 10, 11])
  (.region (some [65, 66, 67, 68, 69, 70, 71, 72, 73, 74, 75, 76, 77, 78, 79, 80, 81, 82, 83, 84, 85, 86, 87, 88, 89, 90, 91, 92, 93]) [ ⟨some 65, none, .mv (.t 10)⟩, ⟨some 66, none, .fld 1 (.t 2)⟩, ⟨some 67, none, .ld none (.t 66)⟩, ⟨some 68, none, .mv (.t 8)⟩, ⟨some 69, none, .mv (.t 6)⟩, ⟨some 70, none, .bin .quo (.t 68) (.t 69)⟩, ⟨some 71, none, .idx 1 (.t 67) (.t 70)⟩, ⟨some 72, none, .ld none (.t 71)⟩, ⟨some 73, none, .mv (.t 11)⟩, ⟨some 74, none, .mv (.t 6)⟩, ⟨some 75, none, .bin .quo (.t 73) (.t 74)⟩, ⟨some 76, none, .idx 1 (.t 72) (.t 75)⟩, ⟨some 77, none, .ld none (.t 76)⟩, ⟨some 78, none, .mv (.t 6)⟩, ⟨some 79, none, .bin .mul (.t 77) (.t 78)⟩, ⟨some 80, none, .fld 1 (.t 3)⟩, ⟨some 81, none, .ld none (.t 80)⟩, ⟨some 82, none, .mv (.t 8)⟩, ⟨some 83, none, .mv (.t 6)⟩, ⟨some 84, none, .bin .rem (.t 82) (.t 83)⟩, ⟨some 85, none, .idx 1 (.t 81) (.t 84)⟩, ⟨some 86, none, .ld none (.t 85)⟩, ⟨some 87, none, .mv (.t 11)⟩, ⟨some 88, none, .mv (.t 6)⟩, ⟨some 89, none, .bin .rem (.t 87) (.t 88)⟩, ⟨some 90, none, .idx 1 (.t 86) (.t 89)⟩, ⟨some 91, none, .ld none (.t 90)⟩, ⟨some 92, none, .bin .add (.t 79) (.t 91)⟩, ⟨some 93, none, .bslv 1 [(.t 92)]⟩, ⟨some 94, none, .app true 1 (.t 65) (.t 93)⟩, ⟨some 10, none, .asg (.t 94)⟩] [2, 3, 4, 5, 6, 7, 8, 9, 10, 11])))
  (.region none [ ⟨some 33, none, .mv (.t 11)⟩, ⟨some 34, none, .bin .add (.t 33) (.c (.int .i64 1))⟩, ⟨some 11, none, .mv (.t 34)⟩] [2, 3, 4, 5, 6, 7, 8, 9, 10, 11])))))) (.seq
  (.region none [ ⟨some 95, none, .fld 0 (.t 7)⟩, ⟨some 96, none, .ld none (.t 95)⟩, ⟨some 97, none, .mv (.t 9)⟩, ⟨some 98, none, .bsl [(.t 97)]⟩, ⟨some 99, none, .app true 1 (.t 96) (.t 98)⟩, ⟨some 100, none, .fld 0 (.t 7)⟩, ⟨none, none, .st none (.t 100) (.t 99)⟩] [2, 3, 4, 5, 6, 7, 8, 10])
  (.region none [ ⟨some 101, none, .fld 1 (.t 7)⟩, ⟨some 102, none, .ld none (.t 101)⟩, ⟨some 103, none, .mv (.t 10)⟩, ⟨some 104, none, .bsl [(.t 103)]⟩, ⟨some 105, none, .app true 1 (.t 102) (.t 104)⟩, ⟨some 106, none, .fld 1 (.t 7)⟩, ⟨none, none, .st none (.t 106) (.t 105)⟩] [2, 3, 4, 5, 6, 7, 8])))))
  (.region none [ ⟨some 24, none, .mv (.t 8)⟩, ⟨some 25, none, .bin .add (.t 24) (.c (.int .i64 1))⟩, ⟨some 8, none, .mv (.t 25)⟩] [2, 3, 4, 5, 6, 7, 8])))))) (.seq
  (.region none [ ⟨some 107, none, .ld (some 2) (.t 7)⟩, ⟨none, none, .st (some 2) (.t 4) (.t 107)⟩] [4]) .ret)))))

def c_spec_l02Union : F where
 np := 2
 rs := [.cell 4 (some 2)]
 body :=
  (.seq
  (.region none [ ⟨some 2, none, .box (.t 0)⟩, ⟨some 3, none, .box (.t 1)⟩, ⟨some 4, none, .alloc [(.slice none 0 0), (.slice none 0 0)]⟩] [2, 3, 4]) (.seq
  (.region (some [5, 12, 13, 14, 15, 16, 17]) [ ⟨some 12, none, .fld 0 (.t 2)⟩, ⟨some 13, none, .ld none (.t 12)⟩, ⟨some 14, none, .len (.t 13)⟩, ⟨some 15, none, .fld 0 (.t 3)⟩, ⟨some 16, none, .ld none (.t 15)⟩, ⟨some 17, none, .len (.t 16)⟩, ⟨some 5, none, .mv (.t 14)⟩, ⟨some 6, none, .mv (.t 17)⟩] [2, 3, 4, 5, 6]) (.seq
  (.region none [ ⟨some 18, none, .build [(.slice none 0 0), (.slice none 0 0)] []⟩, ⟨some 7, none, .alloc [(.slice none 0 0), (.slice none 0 0)]⟩, ⟨none, none, .st (some 2) (.t 7) (.t 18)⟩] [2, 3, 4, 5, 6, 7]) (.seq (.seq
  (.region none [ ⟨some 8, none, .mv (.c (.int .i64 0))⟩] [2, 3, 4, 5, 6, 7, 8]) (.block 0 (.loop (.seq (.seq
  (.region none [ ⟨some 19, none, .mv (.t 8)⟩, ⟨some 20, none, .mv (.t 5)⟩, ⟨some 21, none, .mv (.t 6)⟩, ⟨some 22, none, .bin .add (.t 20) (.t 21)⟩, ⟨some 23, none, .bin .lss (.t 19) (.t 22)⟩] [2, 3, 4, 5, 6, 7, 8, 23]) (.cond (.t 23) .skip (.exit 0))) (.seq (.block 1 (.seq
  (.region none [ ⟨some 26, none, .bsl []⟩, ⟨some 27, none, .bsl []⟩, ⟨some 9, none, .asg (.t 26)⟩, ⟨some 10, none, .asg (.t 27)⟩] [2, 3, 4, 5, 6, 7, 8, 9, 10]) (.seq (.seq
  (.region none [ ⟨some 11, none, .mv (.c (.int .i64 0))⟩] [2, 3, 4, 5, 6, 7, 8, 9, 10, 11]) (.block 2 (.loop (.seq (.seq
  (.region none [ ⟨some 28, none, .mv (.t 11)⟩, ⟨some 29, none, .mv (.t 5)⟩, ⟨some 30, none, .mv (.t 6)⟩, ⟨some 31, none, .bin .add (.t 29) (.t 30)⟩, ⟨some 32, none, .bin .lss (.t 28) (.t 31)⟩] [2, 3, 4, 5, 6, 7, 8, 9, 10, 11, 32]) (.cond (.t 32) .skip (.exit 2))) (.seq (.block 3 (.block 4 (.seq
  (.region none [ ⟨some 44, none, .mv (.t 8)⟩, ⟨some 45, none, .mv (.t 5)⟩, ⟨some 46, none, .bin .lss (.t 44) (.t 45)⟩, ⟨some 47, none, .mv (.t 46)⟩, ⟨some 48, (some (47, true)), .mv (.t 11)⟩, ⟨some 49, (some (47, true)), .mv (.t 5)⟩, ⟨some 50, (some (47, true)), .bin .lss (.t 48) (.t 49)⟩, ⟨some 51, none, .pick (.t 47) (.t 50) (.c (.bool false))⟩, ⟨some 43, none, .mv (.t 51)⟩] [2, 3, 4, 5, 6, 7, 8, 9, 10, 11, 43]) (.cond (.t 43) (.seq
  (.region none [ ⟨some 52, none, .mv (.t 9)⟩, ⟨some 53, none, .fld 0 (.t 2)⟩, ⟨some 54, none, .ld none (.t 53)⟩, ⟨some 55, none, .mv (.t 8)⟩, ⟨some 56, none, .idx 1 (.t 54) (.t 55)⟩, ⟨some 57, none, .ld none (.t 56)⟩, ⟨some 58, none, .mv (.t 11)⟩, ⟨some 59, none, .idx 1 (.t 57) (.t 58)⟩, ⟨some 60, none, .ld none (.t 59)⟩, ⟨some 61, none, .bsl [(.t 60)]⟩, ⟨some 62, none, .app true 1 (.t 52) (.t 61)⟩, ⟨some 9, none, .asg (.t 62)⟩] [2, 3, 4, 5, 6, 7, 8, 9, 10, 11])
  (.region none [ ⟨some 63, none, .mv (.t 10)⟩, ⟨some 64, none, .fld 1 (.t 2)⟩, ⟨some 65, none, .ld none (.t 64)⟩, ⟨some 66, none, .mv (.t 8)⟩, ⟨some 67, none, .idx 1 (.t 65) (.t 66)⟩, ⟨some 68, none, .ld none (.t 67)⟩, ⟨some 69, none, .mv (.t 11)⟩, ⟨some 70, none, .idx 1 (.t 68) (.t 69)⟩, ⟨some 71, none, .ld none (.t 70)⟩, ⟨some 72, none, .bsl [(.t 71)]⟩, ⟨some 73, none, .app true 1 (.t 63) (.t 72)⟩, ⟨some 10, none, .asg (.t 73)⟩] [2, 3, 4, 5, 6, 7, 8, 9, 10, 11])) (.seq
  (.region none [ ⟨some 75, none, .mv (.t 8)⟩, ⟨some 76, none, .mv (.t 5)⟩, ⟨some 77, none, .bin .geq (.t 75) (.t 76)⟩, ⟨some 78, none, .mv (.t 77)⟩, ⟨some 79, (some (78, true)), .mv (.t 11)⟩, ⟨some 80, (some (78, true)), .mv (.t 5)⟩, ⟨some 81, (some (78, true)), .bin .geq (.t 79) (.t 80)⟩, ⟨some 82, none, .pick (.t 78) (.t 81) (.c (.bool false))⟩, ⟨some 74, none, .mv (.t 82)⟩] [2, 3, 4, 5, 6, 7, 8, 9, 10, 11, 74]) (.cond (.t 74) (.seq
  (.region none [ ⟨some 83, none, .mv (.t 9)⟩, ⟨some 84, none, .fld 0 (.t 3)⟩, ⟨some 85, none, .ld none (.t 84)⟩, ⟨some 86, none, .mv (.t 8)⟩, ⟨some 87, none, .mv (.t 5)⟩, ⟨some 88, none, .bin .sub (.t 86) (.t 87)⟩, ⟨some 89, none, .idx 1 (.t 85) (.t 88)⟩, ⟨some 90, none, .ld none (.t 89)⟩, ⟨some 91, none, .mv (.t 11)⟩, ⟨some 92, none, .mv (.t 5)⟩, ⟨some 93, none, .bin .sub (.t 91) (.t 92)⟩, ⟨some 94, none, .idx 1 (.t 90) (.t 93)⟩, ⟨some 95, none, .ld none (.t 94)⟩, ⟨some 96, none, .mv (.t 5)⟩, ⟨some 97, none, .bin .add (.t 95) (.t 96)⟩, ⟨some 98, none, .bsl [(.t 97)]⟩, ⟨some 99, none, .app true 1 (.t 83) (.t 98)⟩, ⟨some 9, none, .asg (.t 99)⟩] [2, 3, 4, 5, 6, 7, 8, 9, 10, 11])
  (.region none [ ⟨some 100, none, .mv (.t 10)⟩, ⟨some 101, none, .fld 1 (.t 3)⟩, ⟨some 102, none, .ld none (.t 101)⟩, ⟨some 103, none, .mv (.t 8)⟩, ⟨some 104, none, .mv (.t 5)⟩, ⟨some 105, none, .bin .sub (.t 103) (.t 104)⟩, ⟨some 106, none, .idx 1 (.t 102) (.t 105)⟩, ⟨some 107, none, .ld none (.t 106)⟩, ⟨some 108, none, .mv (.t 11)⟩, ⟨some 109, none, .mv (.t 5)⟩, ⟨some 110, none, .bin .sub (.t 108) (.t 109)⟩, ⟨some 111, none, .idx 1 (.t 107) (.t 110)⟩, ⟨some 112, none, .ld none (.t 111)⟩, ⟨some 113, none, .mv (.t 5)⟩, ⟨some 114, none, .bin .add (.t 112) (.t 113)⟩, ⟨some 115, none, .bsl [(.t 114)]⟩, ⟨some 116, none, .app true 1 (.t 100) (.t 115)⟩, ⟨some 10, none, .asg (.t 116)⟩] [2, 3, 4, 5, 6, 7, 8, 9, 10, 11])) (.seq
  (.region none [ ⟨some 35, none, .mv (.t 9)⟩, ⟨some 36, none, .mv (.t 11)⟩, ⟨some 37, none, .bsl [(.t 36)]⟩, ⟨some 38, none, .app true 1 (.t 35) (.t 37)⟩, ⟨some 9, none, .asg (.t 38)⟩] [2, 3, 4, 5, 6, 7, 8, 9, 10, 11])
  (.region none [ ⟨some 39, none, .mv (.t 10)⟩, ⟨some 40, none, .mv (.t 8)⟩, ⟨some 41, none, .bsl [(.t 40)]⟩, ⟨some 42, none, .app true 1 (.t 39) (.t 41)⟩, ⟨some 10, none, .asg (.t 42)⟩] [2, 3, 4, 5, 6, 7, 8, 9, 10, 11]))))))))
  (.region none [ ⟨some 33, none, .mv (.t 11)⟩, ⟨some 34, none, .bin .add (.t 33) (.c (.int .i64 1))⟩, ⟨some 11, none, .mv (.t 34)⟩] [2, 3, 4, 5, 6, 7, 8, 9, 10, 11])))))) (.seq
  (.region none [ ⟨some 117, none, .fld 0 (.t 7)⟩, ⟨some 118, none, .ld none (.t 117)⟩, ⟨some 119, none, .mv (.t 9)⟩, ⟨some 120, none, .bsl [(.t 119)]⟩, ⟨some 121, none, .app true 1 (.t 118) (.t 120)⟩, ⟨some 122, none, .fld 0 (.t 7)⟩, ⟨none, none, .st none (.t 122) (.t 121)⟩] [2, 3, 4, 5, 6, 7, 8, 10])
  (.region none [ ⟨some 123, none, .fld 1 (.t 7)⟩, ⟨some 124, none, .ld none (.t 123)⟩, ⟨some 125, none, .mv (.t 10)⟩, ⟨some 126, none, .bsl [(.t 125)]⟩, ⟨some 127, none, .app true 1 (.t 124) (.t 126)⟩, ⟨some 128, none, .fld 1 (.t 7)⟩, ⟨none, none, .st none (.t 128) (.t 127)⟩] [2, 3, 4, 5, 6, 7, 8])))))
  (.region none [ ⟨some 24, none, .mv (.t 8)⟩, ⟨some 25, none, .bin .add (.t 24) (.c (.int .i64 1))⟩, ⟨some 8, none, .mv (.t 25)⟩] [2, 3, 4, 5, 6, 7, 8])))))) (.seq
  (.region none [ ⟨some 129, none, .ld (some 2) (.t 7)⟩, ⟨none, none, .st (some 2) (.t 4) (.t 129)⟩] [4]) .ret)))))

def j1e : F where
 np := 1
 rs := [.cell 2 (some 2)]
 body :=
  (.seq
  (.region none [ ⟨some 2, none, .alloc [(.slice none 0 0), (.slice none 0 0)]⟩] [0, 2]) (.seq
  (.region none [ ⟨some 7, none, .mv (.t 0)⟩, ⟨some 8, none, .call (.f 280) [((.t 7), .r)]⟩, ⟨some 9, none, .build [(.slice none 0 0), (.slice none 0 0)] [(0, 1, (.t 8))]⟩, ⟨some 3, none, .alloc [(.slice none 0 0), (.slice none 0 0)]⟩, ⟨none, none, .st (some 2) (.t 3) (.t 9)⟩] [0, 2, 3]) (.seq (.seq
  (.region none [ ⟨some 4, none, .mv (.c (.int .i64 0))⟩] [0, 2, 3, 4]) (.block 0 (.loop (.seq (.seq
  (.region none [ ⟨some 10, none, .mv (.t 4)⟩, ⟨some 11, none, .mv (.t 0)⟩, ⟨some 12, none, .len (.t 11)⟩, ⟨some 13, none, .bin .lss (.t 10) (.t 12)⟩] [0, 2, 3, 4, 13]) (.cond (.t 13) .skip (.exit 0))) (.seq (.block 1 (.seq
  (.region none [ ⟨some 16, none, .bsl []⟩, ⟨some 5, none, .asg (.t 16)⟩] [0, 2, 3, 4, 5]) (.seq (.seq
  (.region none [ ⟨some 6, none, .mv (.c (.int .i64 0))⟩] [0, 2, 3, 4, 5, 6]) (.block 2 (.loop (.seq (.seq
  (.region none [ ⟨some 17, none, .mv (.t 6)⟩, ⟨some 18, none, .mv (.t 0)⟩, ⟨some 19, none, .len (.t 18)⟩, ⟨some 20, none, .bin .lss (.t 17) (.t 19)⟩] [0, 2, 3, 4, 5, 6, 20]) (.cond (.t 20) .skip (.exit 2))) (.seq (.block 3
  (.region none [ ⟨some 23, none, .mv (.t 5)⟩, ⟨some 24, none, .mv (.t 0)⟩, ⟨some 25, none, .mv (.t 0)⟩, ⟨some 26, none, .mv (.t 4)⟩, ⟨some 27, none, .idx 1 (.t 25) (.t 26)⟩, ⟨some 28, none, .ld none (.t 27)⟩, ⟨some 29, none, .mv (.t 6)⟩, ⟨some 30, none, .idx 1 (.t 28) (.t 29)⟩, ⟨some 31, none, .ld none (.t 30)⟩, ⟨some 32, none, .idx 1 (.t 24) (.t 31)⟩, ⟨some 33, none, .ld none (.t 32)⟩, ⟨some 34, none, .mv (.t 4)⟩, ⟨some 35, none, .call (.f 69) [((.t 33), .r), ((.t 34), .r)]⟩, ⟨some 36, none, .bsl [(.t 35)]⟩, ⟨some 37, none, .app true 1 (.t 23) (.t 36)⟩, ⟨some 5, none, .asg (.t 37)⟩] [0, 2, 3, 4, 5, 6]))
  (.region none [ ⟨some 21, none, .mv (.t 6)⟩, ⟨some 22, none, .bin .add (.t 21) (.c (.int .i64 1))⟩, ⟨some 6, none, .mv (.t 22)⟩] [0, 2, 3, 4, 5, 6]))))))
  (.region none [ ⟨some 38, none, .fld 1 (.t 3)⟩, ⟨some 39, none, .ld none (.t 38)⟩, ⟨some 40, none, .mv (.t 5)⟩, ⟨some 41, none, .bsl [(.t 40)]⟩, ⟨some 42, none, .app true 1 (.t 39) (.t 41)⟩, ⟨some 43, none, .fld 1 (.t 3)⟩, ⟨none, none, .st none (.t 43) (.t 42)⟩] [0, 2, 3, 4]))))
  (.region none [ ⟨some 14, none, .mv (.t 4)⟩, ⟨some 15, none, .bin .add (.t 14) (.c (.int .i64 1))⟩, ⟨some 4, none, .mv (.t 15)⟩] [0, 2, 3, 4])))))) (.seq
  (.region none [ ⟨some 44, none, .ld (some 2) (.t 3)⟩, ⟨none, none, .st (some 2) (.t 2) (.t 44)⟩] [2]) .ret))))

def c_spec_l02Rename : F where
 np := 2
 rs := [.cell 4 (some 2)]
 body :=
  (.seq
  (.region none [ ⟨some 2, none, .box (.t 0)⟩, ⟨some 4, none, .alloc [(.slice none 0 0), (.slice none 0 0)]⟩] [1, 2, 4]) (.seq
  (.region (some [5, 6, 7, 8, 9, 10, 11]) [ ⟨some 5, none, .fld 0 (.t 2)⟩, ⟨some 6, none, .ld none (.t 5)⟩, ⟨some 7, none, .mv (.t 1)⟩, ⟨some 8, none, .call (.f 367) [((.t 6), .r), ((.t 7), .r)]⟩, ⟨some 9, none, .fld 1 (.t 2)⟩, ⟨some 10, none, .ld none (.t 9)⟩, ⟨some 11, none, .mv (.t 1)⟩, ⟨some 12, none, .call (.f 367) [((.t 10), .r), ((.t 11), .r)]⟩, ⟨some 13, none, .build [(.slice none 0 0), (.slice none 0 0)] [(0, 1, (.t 8)), (1, 1, (.t 12))]⟩, ⟨none, none, .st (some 2) (.t 4) (.t 13)⟩] [4]) .ret))

def c_spec_l01Rename : F where
 np := 2
 rs := [.t 4]
 body :=
  (.seq
  (.region none [ ⟨some 4, none, .asg (.c (.slice none 0 0))⟩] [0, 1]) (.seq
  (.region none [ ⟨some 10, none, .bsl []⟩, ⟨some 5, none, .asg (.t 10)⟩] [0, 1, 5]) (.seq (.seq
  (.region none [ ⟨some 6, none, .mv (.c (.int .i64 0))⟩] [0, 1, 5, 6]) (.block 0 (.loop (.seq (.seq
  (.region none [ ⟨some 11, none, .mv (.t 6)⟩, ⟨some 12, none, .mv (.t 0)⟩, ⟨some 13, none, .len (.t 12)⟩, ⟨some 14, none, .bin .lss (.t 11) (.t 13)⟩] [0, 1, 5, 6, 14]) (.cond (.t 14) .skip (.exit 0))) (.seq (.block 1
  (.region none [ ⟨some 17, none, .mv (.t 5)⟩, ⟨some 18, none, .mv (.t 0)⟩, ⟨some 19, none, .len (.t 18)⟩, ⟨some 20, none, .mks (.int .i64 0) (.t 19)⟩, ⟨some 21, none, .bsl [(.t 20)]⟩, ⟨some 22, none, .app true 1 (.t 17) (.t 21)⟩, ⟨some 5, none, .asg (.t 22)⟩] [0, 1, 5, 6]))
  (.region none [ ⟨some 15, none, .mv (.t 6)⟩, ⟨some 16, none, .bin .add (.t 15) (.c (.int .i64 1))⟩, ⟨some 6, none, .mv (.t 16)⟩] [0, 1, 5, 6])))))) (.seq (.seq
  (.region none [ ⟨some 7, none, .mv (.c (.int .i64 0))⟩] [0, 1, 5, 7]) (.block 2 (.loop (.seq (.seq
  (.region none [ ⟨some 23, none, .mv (.t 7)⟩, ⟨some 24, none, .mv (.t 0)⟩, ⟨some 25, none, .len (.t 24)⟩, ⟨some 26, none, .bin .lss (.t 23) (.t 25)⟩] [0, 1, 5, 7, 26]) (.cond (.t 26) .skip (.exit 2))) (.seq (.block 3 (.seq
  (.region none [ ⟨some 29, none, .mv (.t 5)⟩, ⟨some 30, none, .mv (.t 1)⟩, ⟨some 31, none, .mv (.t 7)⟩, ⟨some 32, none, .idx 1 (.t 30) (.t 31)⟩, ⟨some 33, none, .ld none (.t 32)⟩, ⟨some 34, none, .idx 1 (.t 29) (.t 33)⟩, ⟨some 35, none, .ld none (.t 34)⟩, ⟨some 8, none, .mv (.t 35)⟩] [0, 1, 5, 7, 8]) (.seq
  (.region none [ ⟨some 9, none, .mv (.c (.int .i64 0))⟩] [0, 1, 5, 7, 8, 9]) (.block 4 (.loop (.seq (.seq
  (.region none [ ⟨some 36, none, .mv (.t 9)⟩, ⟨some 37, none, .mv (.t 0)⟩, ⟨some 38, none, .len (.t 37)⟩, ⟨some 39, none, .bin .lss (.t 36) (.t 38)⟩] [0, 1, 5, 7, 8, 9, 39]) (.cond (.t 39) .skip (.exit 4))) (.seq (.block 5
  (.region (some [42, 43, 44, 45, 46, 47, 48, 49, 50, 51, 52, 53, 54, 55, 56]) [ ⟨some 42, none, .mv (.t 8)⟩, ⟨some 43, none, .mv (.t 1)⟩, ⟨some 44, none, .mv (.t 9)⟩, ⟨some 45, none, .idx 1 (.t 43) (.t 44)⟩, ⟨some 46, none, .ld none (.t 45)⟩, ⟨some 47, none, .mv (.t 1)⟩, ⟨some 48, none, .mv (.t 0)⟩, ⟨some 49, none, .mv (.t 7)⟩, ⟨some 50, none, .idx 1 (.t 48) (.t 49)⟩, ⟨some 51, none, .ld none (.t 50)⟩, ⟨some 52, none, .mv (.t 9)⟩, ⟨some 53, none, .idx 1 (.t 51) (.t 52)⟩, ⟨some 54, none, .ld none (.t 53)⟩, ⟨some 55, none, .idx 1 (.t 47) (.t 54)⟩, ⟨some 56, none, .ld none (.t 55)⟩, ⟨some 57, none, .idx 1 (.t 42) (.t 46)⟩, ⟨none, none, .st none (.t 57) (.t 56)⟩] [0, 1, 5, 7, 8, 9]))
  (.region none [ ⟨some 40, none, .mv (.t 9)⟩, ⟨some 41, none, .bin .add (.t 40) (.c (.int .i64 1))⟩, ⟨some 9, none, .mv (.t 41)⟩] [0, 1, 5, 7, 8, 9]))))))))
  (.region none [ ⟨some 27, none, .mv (.t 7)⟩, ⟨some 28, none, .bin .add (.t 27) (.c (.int .i64 1))⟩, ⟨some 7, none, .mv (.t 28)⟩] [0, 1, 5, 7])))))) (.seq
  (.region none [ ⟨some 58, none, .mv (.t 5)⟩, ⟨some 4, none, .asg (.t 58)⟩] [4]) .ret)))))

def c_spec_l06Draw : F where
 np := 2
 rs := [.cell 4 (some 2)]
 fix := [0, 1]
 body :=
  (.seq
  (.region none [ ⟨some 4, none, .alloc [(.slice none 0 0), (.slice none 0 0)]⟩] [0, 1, 4]) (.seq (.seq
  (.region none [ ⟨some 8, none, .mvs 0⟩, ⟨some 9, none, .calls (.f 336) (.t 8) 0 [(.c (.int .i64 3))]⟩] [0, 1, 4, 9]) (.block 0 (.seq
  (.region none [ ⟨some 11, none, .bin .eql (.t 9) (.c (.int .i64 0))⟩, ⟨some 10, none, .mv (.t 11)⟩] [0, 1, 4, 9, 10]) (.cond (.t 10) (.seq
  (.region none [ ⟨some 12, none, .mvs 0⟩, ⟨some 13, none, .mv (.t 1)⟩, ⟨some 14, none, .calls (.f 401) (.t 12) 0 [(.t 13)]⟩, ⟨some 15, none, .call (.f 324) [((.t 14), .r)]⟩, ⟨none, none, .st (some 2) (.t 4) (.t 15)⟩] [0, 1, 4]) .ret) (.seq
  (.region none [ ⟨some 17, none, .bin .eql (.t 9) (.c (.int .i64 1))⟩, ⟨some 16, none, .mv (.t 17)⟩] [0, 1, 4, 16]) (.cond (.t 16) (.seq
  (.region none [ ⟨some 18, none, .mvs 0⟩, ⟨some 19, none, .mv (.t 1)⟩, ⟨some 20, none, .calls (.f 401) (.t 18) 0 [(.t 19)]⟩, ⟨some 5, none, .alloc [(.slice none 0 0)]⟩, ⟨none, none, .st (some 1) (.t 5) (.t 20)⟩] [0, 1, 4, 5]) (.seq
  (.region (some [6, 21, 22, 23, 24, 25, 26, 27, 28, 29]) [ ⟨some 22, none, .ld (some 1) (.t 5)⟩, ⟨some 23, none, .fld 0 (.t 5)⟩, ⟨some 24, none, .ld none (.t 23)⟩, ⟨some 25, none, .idx 1 (.t 24) (.c (.int .i64 0))⟩, ⟨some 26, none, .ld none (.t 25)⟩, ⟨some 27, none, .call (.f 170) [((.t 22), .r), ((.t 26), .r)]⟩, ⟨some 21, none, .tk1 none 27⟩, ⟨some 28, none, .ext (.t 21) 0⟩, ⟨some 29, none, .exts 21 1⟩, ⟨some 6, none, .alloc [(.slice none 0 0), (.slice none 0 0)]⟩, ⟨none, none, .st (some 2) (.t 6) (.t 28)⟩, ⟨some 7, none, .mv (.t 29)⟩] [0, 1, 4, 6, 7]) (.seq
  (.region none [ ⟨some 30, none, .mv (.t 7)⟩, ⟨some 31, none, .bin .eql (.t 30) (.c (.int .i64 0))⟩] [0, 1, 4, 6, 31]) (.cond (.t 31) (.seq
  (.region none [ ⟨some 32, none, .ld (some 2) (.t 6)⟩, ⟨none, none, .st (some 2) (.t 4) (.t 32)⟩] [0, 1, 4]) .ret) .skip)))) .skip)))))) (.seq
  (.region none [ ⟨some 33, none, .mvs 0⟩, ⟨some 34, none, .mv (.t 1)⟩, ⟨some 35, none, .calls (.f 412) (.t 33) 0 [(.t 34)]⟩, ⟨none, none, .st (some 2) (.t 4) (.t 35)⟩] [0, 1, 4]) .ret)))

def c_spec_l03Draw : F where
 np := 2
 rs := [.cell 4 (some 1)]
 fix := [0, 1]
 body :=
  (.seq
  (.region none [ ⟨some 4, none, .alloc [(.slice none 0 0)]⟩] [0, 1, 4]) (.seq
  (.region none [ ⟨some 6, none, .mvs 0⟩, ⟨some 7, none, .mv (.t 1)⟩, ⟨some 8, none, .calls (.f 444) (.t 6) 0 [(.t 7)]⟩, ⟨some 5, none, .asg (.t 8)⟩] [0, 1, 4, 5]) (.seq (.seq
  (.region none [ ⟨some 9, none, .mvs 0⟩, ⟨some 10, none, .calls (.f 336) (.t 9) 0 [(.c (.int .i64 2))]⟩, ⟨some 11, none, .bin .eql (.t 10) (.c (.int .i64 0))⟩] [0, 1, 4, 5, 11]) (.cond (.t 11)
  (.region none [ ⟨some 12, none, .mv (.t 5)⟩, ⟨some 13, none, .mvs 0⟩, ⟨some 14, none, .mv (.t 5)⟩, ⟨some 15, none, .len (.t 14)⟩, ⟨some 16, none, .calls (.f 338) (.t 13) 0 [(.t 15)]⟩, ⟨some 17, none, .call (.f 303) [((.t 12), .r), ((.t 16), .r)]⟩, ⟨some 5, none, .asg (.t 17)⟩] [0, 1, 4, 5]) .skip)) (.seq
  (.region none [ ⟨some 18, none, .mv (.t 5)⟩, ⟨some 19, none, .build [(.slice none 0 0)] [(0, 1, (.t 18))]⟩, ⟨none, none, .st (some 1) (.t 4) (.t 19)⟩] [0, 1, 4]) .ret))))

def j1b : F where
 np := 2
 rs := [.t 4]
 fix := [0, 1]
 body :=
  (.seq
  (.region none [ ⟨some 4, none, .asg (.c (.slice none 0 0))⟩] [0, 1]) (.seq
  (.region none [ ⟨some 26, none, .mvs 0⟩, ⟨some 27, none, .mv (.t 1)⟩, ⟨some 28, none, .calls (.f 336) (.t 26) 0 [(.t 27)]⟩, ⟨some 29, none, .bin .add (.c (.int .i64 1)) (.t 28)⟩, ⟨some 5, none, .mv (.t 29)⟩] [0, 1, 5]) (.seq (.seq
  (.region none [ ⟨some 30, none, .mvs 0⟩, ⟨some 31, none, .calls (.f 336) (.t 30) 0 [(.c (.int .i64 5))]⟩] [0, 1, 5, 31]) (.block 0 (.seq
  (.region none [ ⟨some 33, none, .bin .eql (.t 31) (.c (.int .i64 0))⟩, ⟨some 32, none, .mv (.t 33)⟩] [0, 1, 5, 31, 32]) (.cond (.t 32) (.seq
  (.region none [ ⟨some 34, none, .mvs 0⟩, ⟨some 35, none, .mv (.t 5)⟩, ⟨some 36, none, .calls (.f 338) (.t 34) 0 [(.t 35)]⟩, ⟨some 6, none, .asg (.t 36)⟩] [0, 1, 5, 6]) (.seq
  (.region none [ ⟨some 37, none, .bsl []⟩, ⟨some 7, none, .asg (.t 37)⟩] [0, 1, 5, 6, 7]) (.seq (.seq
  (.region none [ ⟨some 8, none, .mv (.c (.int .i64 0))⟩] [0, 1, 5, 6, 7, 8]) (.block 1 (.loop (.seq (.seq
  (.region none [ ⟨some 38, none, .mv (.t 8)⟩, ⟨some 39, none, .mv (.t 5)⟩, ⟨some 40, none, .bin .lss (.t 38) (.t 39)⟩] [0, 1, 5, 6, 7, 8, 40]) (.cond (.t 40) .skip (.exit 1))) (.seq (.block 2
  (.region none [ ⟨some 43, none, .mv (.t 7)⟩, ⟨some 44, none, .mv (.t 6)⟩, ⟨some 45, none, .call (.f 31) [((.t 44), .r)]⟩, ⟨some 46, none, .bsl [(.t 45)]⟩, ⟨some 47, none, .app true 1 (.t 43) (.t 46)⟩, ⟨some 7, none, .asg (.t 47)⟩] [0, 1, 5, 6, 7, 8]))
  (.region none [ ⟨some 41, none, .mv (.t 8)⟩, ⟨some 42, none, .bin .add (.t 41) (.c (.int .i64 1))⟩, ⟨some 8, none, .mv (.t 42)⟩] [0, 1, 5, 6, 7, 8])))))) (.seq
  (.region none [ ⟨some 48, none, .mv (.t 7)⟩, ⟨some 4, none, .asg (.t 48)⟩] [0, 1, 4]) .ret)))) (.seq
  (.region none [ ⟨some 50, none, .bin .eql (.t 31) (.c (.int .i64 1))⟩, ⟨some 49, none, .mv (.t 50)⟩] [0, 1, 5, 31, 49]) (.cond (.t 49) (.seq
  (.region none [ ⟨some 51, none, .mv (.t 5)⟩, ⟨some 52, none, .mv (.t 5)⟩, ⟨some 53, none, .bin .sub (.t 52) (.c (.int .i64 1))⟩, ⟨some 54, none, .mv (.t 5)⟩, ⟨some 55, none, .bin .rem (.c (.int .i64 2)) (.t 54)⟩, ⟨some 56, none, .call (.f 455) [((.t 51), .r), ((.t 53), .r), ((.t 55), .r)]⟩, ⟨some 4, none, .asg (.t 56)⟩] [0, 1, 4]) .ret) (.seq
  (.region none [ ⟨some 58, none, .bin .eql (.t 31) (.c (.int .i64 2))⟩, ⟨some 57, none, .mv (.t 58)⟩] [0, 1, 5, 31, 57]) (.cond (.t 57) (.seq
  (.region none [ ⟨some 9, none, .mv (.c (.int .i64 0))⟩] [0, 1, 5, 9]) (.block 3 (.loop (.seq (.seq
  (.region none [ ⟨some 59, none, .mv (.t 9)⟩, ⟨some 60, none, .bin .lss (.t 59) (.c (.int .i64 6))⟩] [0, 1, 5, 9, 60]) (.cond (.t 60) .skip (.exit 3))) (.seq (.block 4 (.seq
  (.region none [ ⟨some 63, none, .mvs 0⟩, ⟨some 64, none, .mv (.t 5)⟩, ⟨some 65, none, .calls (.f 336) (.t 63) 0 [(.t 64)]⟩, ⟨some 10, none, .mv (.t 65)⟩] [0, 1, 5, 9, 10]) (.seq
  (.region none [ ⟨some 66, none, .mv (.t 10)⟩, ⟨some 67, none, .mv (.t 5)⟩, ⟨some 68, none, .call (.f 456) [((.t 66), .r), ((.t 67), .r)]⟩] [0, 1, 5, 9, 10, 68]) (.cond (.t 68) (.seq
  (.region none [ ⟨some 69, none, .mv (.t 5)⟩, ⟨some 70, none, .mv (.t 10)⟩, ⟨some 71, none, .mv (.t 10)⟩, ⟨some 72, none, .bin .sub (.c (.int .i64 1)) (.t 71)⟩, ⟨some 73, none, .mv (.t 5)⟩, ⟨some 74, none, .bin .add (.t 72) (.t 73)⟩, ⟨some 75, none, .mv (.t 5)⟩, ⟨some 76, none, .bin .rem (.t 74) (.t 75)⟩, ⟨some 77, none, .call (.f 455) [((.t 69), .r), ((.t 70), .r), ((.t 76), .r)]⟩, ⟨some 4, none, .asg (.t 77)⟩] [0, 1, 4]) .ret) .skip))))
  (.region none [ ⟨some 61, none, .mv (.t 9)⟩, ⟨some 62, none, .bin .add (.t 61) (.c (.int .i64 1))⟩, ⟨some 9, none, .mv (.t 62)⟩] [0, 1, 5, 9])))))) (.seq
  (.region none [ ⟨some 79, none, .bin .eql (.t 31) (.c (.int .i64 3))⟩, ⟨some 78, none, .mv (.t 79)⟩] [0, 1, 5, 78]) (.cond (.t 78) (.seq
  (.region none [ ⟨some 80, none, .mv (.t 1)⟩, ⟨some 81, none, .bin .geq (.t 80) (.c (.int .i64 6))⟩] [0, 1, 5, 81]) (.cond (.t 81) (.seq
  (.region none [ ⟨some 82, none, .call (.f 457) [((.c (.int .i64 3)), .r)]⟩, ⟨some 83, none, .bsl []⟩, ⟨some 11, none, .asg (.t 82)⟩, ⟨some 12, none, .asg (.t 83)⟩] [0, 1, 11, 12]) (.seq (.seq
  (.region none [ ⟨some 84, none, .mvs 0⟩, ⟨some 85, none, .calls (.f 336) (.t 84) 0 [(.c (.int .i64 2))]⟩, ⟨some 86, none, .bin .eql (.t 85) (.c (.int .i64 0))⟩] [0, 1, 11, 12, 86]) (.cond (.t 86)
  (.region none [ ⟨some 87, none, .bsl [(.c (.int .i64 0)), (.c (.int .i64 2)), (.c (.int .i64 1))]⟩, ⟨some 88, none, .bsl [(.c (.int .i64 1)), (.c (.int .i64 0)), (.c (.int .i64 2))]⟩, ⟨some 89, none, .bsl [(.c (.int .i64 2)), (.c (.int .i64 1)), (.c (.int .i64 0))]⟩, ⟨some 90, none, .bsl [(.t 87), (.t 88), (.t 89)]⟩, ⟨some 11, none, .asg (.t 90)⟩] [0, 1, 11, 12]) .skip)) (.seq (.seq
  (.region none [ ⟨some 13, none, .mv (.c (.int .i64 0))⟩] [0, 1, 11, 12, 13]) (.block 5 (.loop (.seq (.seq
  (.region none [ ⟨some 91, none, .mv (.t 13)⟩, ⟨some 92, none, .mv (.t 11)⟩, ⟨some 93, none, .len (.t 92)⟩, ⟨some 94, none, .bin .lss (.t 91) (.t 93)⟩] [0, 1, 11, 12, 13, 94]) (.cond (.t 94) .skip (.exit 5))) (.seq (.block 6 (.seq
  (.region none [ ⟨some 97, none, .bsl []⟩, ⟨some 14, none, .asg (.t 97)⟩] [0, 1, 11, 12, 13, 14]) (.seq (.seq
  (.region none [ ⟨some 15, none, .mv (.c (.int .i64 0))⟩] [0, 1, 11, 12, 13, 14, 15]) (.block 7 (.loop (.seq (.seq
  (.region none [ ⟨some 98, none, .mv (.t 15)⟩, ⟨some 99, none, .mv (.t 11)⟩, ⟨some 100, none, .len (.t 99)⟩, ⟨some 101, none, .bin .lss (.t 98) (.t 100)⟩] [0, 1, 11, 12, 13, 14, 15, 101]) (.cond (.t 101) .skip (.exit 7))) (.seq (.block 8 (.seq
  (.region (some [104, 105, 106, 107, 108, 109, 110, 111, 112, 113, 114, 115, 116, 117]) [ ⟨some 104, none, .mv (.t 11)⟩, ⟨some 105, none, .mv (.t 13)⟩, ⟨some 106, none, .idx 1 (.t 104) (.t 105)⟩, ⟨some 107, none, .ld none (.t 106)⟩, ⟨some 108, none, .call (.f 304) [((.t 107), .r)]⟩, ⟨some 109, none, .mv (.t 11)⟩, ⟨some 110, none, .mv (.t 15)⟩, ⟨some 111, none, .idx 1 (.t 109) (.t 110)⟩, ⟨some 112, none, .ld none (.t 111)⟩, ⟨some 113, none, .call (.f 279) [((.t 108), .r), ((.t 112), .r)]⟩, ⟨some 114, none, .mv (.t 11)⟩, ⟨some 115, none, .mv (.t 13)⟩, ⟨some 116, none, .idx 1 (.t 114) (.t 115)⟩, ⟨some 117, none, .ld none (.t 116)⟩, ⟨some 118, none, .call (.f 279) [((.t 113), .r), ((.t 117), .r)]⟩, ⟨some 16, none, .asg (.t 118)⟩] [0, 1, 11, 12, 13, 14, 15, 16]) (.seq
  (.region none [ ⟨some 17, none, .mv (.c (.int .i64 0))⟩] [0, 1, 11, 12, 13, 14, 15, 16, 17]) (.seq (.block 9 (.loop (.seq (.seq
  (.region none [ ⟨some 119, none, .mv (.t 11)⟩, ⟨some 120, none, .mv (.t 17)⟩, ⟨some 121, none, .idx 1 (.t 119) (.t 120)⟩, ⟨some 122, none, .ld none (.t 121)⟩, ⟨some 123, none, .mv (.t 16)⟩, ⟨some 124, none, .call (.f 67) [((.t 122), .r), ((.t 123), .r)]⟩, ⟨some 125, none, .un .not (.t 124)⟩] [0, 1, 11, 12, 13, 14, 15, 16, 17, 125]) (.cond (.t 125) .skip (.exit 9))) (.block 10
  (.region none [ ⟨some 126, none, .mv (.t 17)⟩, ⟨some 127, none, .bin .add (.t 126) (.c (.int .i64 1))⟩, ⟨some 17, none, .mv (.t 127)⟩] [0, 1, 11, 12, 13, 14, 15, 16, 17])))))
  (.region none [ ⟨some 128, none, .mv (.t 14)⟩, ⟨some 129, none, .mv (.t 17)⟩, ⟨some 130, none, .bsl [(.t 129)]⟩, ⟨some 131, none, .app true 1 (.t 128) (.t 130)⟩, ⟨some 14, none, .asg (.t 131)⟩] [0, 1, 11, 12, 13, 14, 15])))))
  (.region none [ ⟨some 102, none, .mv (.t 15)⟩, ⟨some 103, none, .bin .add (.t 102) (.c (.int .i64 1))⟩, ⟨some 15, none, .mv (.t 103)⟩] [0, 1, 11, 12, 13, 14, 15]))))))
  (.region none [ ⟨some 132, none, .mv (.t 12)⟩, ⟨some 133, none, .mv (.t 14)⟩, ⟨some 134, none, .bsl [(.t 133)]⟩, ⟨some 135, none, .app true 1 (.t 132) (.t 134)⟩, ⟨some 12, none, .asg (.t 135)⟩] [0, 1, 11, 12, 13]))))
  (.region none [ ⟨some 95, none, .mv (.t 13)⟩, ⟨some 96, none, .bin .add (.t 95) (.c (.int .i64 1))⟩, ⟨some 13, none, .mv (.t 96)⟩] [0, 1, 11, 12, 13])))))) (.seq
  (.region none [ ⟨some 136, none, .mv (.t 12)⟩, ⟨some 4, none, .asg (.t 136)⟩] [0, 1, 4]) .ret)))) .skip)) .skip)))))))))) (.seq
  (.region none [ ⟨some 137, none, .mvs 0⟩, ⟨some 138, none, .mv (.t 5)⟩, ⟨some 139, none, .calls (.f 336) (.t 137) 0 [(.t 138)]⟩, ⟨some 18, none, .mv (.t 139)⟩] [0, 1, 5, 18]) (.seq
  (.region (some [140, 141, 142, 143, 144, 145, 146, 147, 148, 149, 150, 151, 152, 153, 154, 155]) [ ⟨some 140, none, .mv (.t 18)⟩, ⟨some 141, none, .mm true (.c (.int .i64 1)) (.t 140)⟩, ⟨some 142, none, .mv (.t 18)⟩, ⟨some 143, none, .mm true (.c (.int .i64 1)) (.t 142)⟩, ⟨some 144, none, .bin .sub (.t 143) (.c (.int .i64 1))⟩, ⟨some 145, none, .mv (.t 18)⟩, ⟨some 146, none, .mm true (.c (.int .i64 1)) (.t 145)⟩, ⟨some 147, none, .bin .rem (.c (.int .i64 2)) (.t 146)⟩, ⟨some 148, none, .call (.f 455) [((.t 141), .r), ((.t 144), .r), ((.t 147), .r)]⟩, ⟨some 149, none, .mv (.t 5)⟩, ⟨some 150, none, .mv (.t 18)⟩, ⟨some 151, none, .bin .sub (.t 149) (.t 150)⟩, ⟨some 152, none, .mv (.t 5)⟩, ⟨some 153, none, .mv (.t 18)⟩, ⟨some 154, none, .bin .sub (.t 152) (.t 153)⟩, ⟨some 155, none, .bin .rem (.c (.int .i64 1)) (.t 154)⟩, ⟨some 156, none, .call (.f 455) [((.t 151), .r), ((.t 155), .r), ((.c (.int .i64 0)), .r)]⟩, ⟨some 19, none, .asg (.t 148)⟩, ⟨some 20, none, .asg (.t 156)⟩] [0, 1, 5, 18, 19, 20]) (.seq (.seq
  (.region none [ ⟨some 157, none, .mv (.t 18)⟩, ⟨some 158, none, .bin .eql (.t 157) (.c (.int .i64 0))⟩] [0, 1, 5, 18, 19, 20, 158]) (.cond (.t 158) (.seq
  (.region none [ ⟨some 159, none, .mv (.t 20)⟩, ⟨some 4, none, .asg (.t 159)⟩] [0, 1, 4]) .ret) .skip)) (.seq
  (.region none [ ⟨some 160, none, .mvs 0⟩, ⟨some 161, none, .mv (.t 5)⟩, ⟨some 162, none, .mv (.t 18)⟩, ⟨some 163, none, .bin .sub (.t 161) (.t 162)⟩, ⟨some 164, none, .calls (.f 338) (.t 160) 0 [(.t 163)]⟩, ⟨some 21, none, .asg (.t 164)⟩] [0, 1, 5, 18, 19, 20, 21]) (.seq
  (.region none [ ⟨some 165, none, .bsl []⟩, ⟨some 22, none, .asg (.t 165)⟩] [0, 1, 5, 18, 19, 20, 21, 22]) (.seq (.seq
  (.region none [ ⟨some 23, none, .mv (.c (.int .i64 0))⟩] [0, 1, 5, 18, 19, 20, 21, 22, 23]) (.block 11 (.loop (.seq (.seq
  (.region none [ ⟨some 166, none, .mv (.t 23)⟩, ⟨some 167, none, .mv (.t 5)⟩, ⟨some 168, none, .bin .lss (.t 166) (.t 167)⟩] [0, 1, 5, 18, 19, 20, 21, 22, 23, 168]) (.cond (.t 168) .skip (.exit 11))) (.seq (.block 12 (.seq
  (.region none [ ⟨some 171, none, .bsl []⟩, ⟨some 24, none, .asg (.t 171)⟩] [0, 1, 5, 18, 19, 20, 21, 22, 23, 24]) (.seq (.seq
  (.region none [ ⟨some 25, none, .mv (.c (.int .i64 0))⟩] [0, 1, 5, 18, 19, 20, 21, 22, 23, 24, 25]) (.block 13 (.loop (.seq (.seq
  (.region none [ ⟨some 172, none, .mv (.t 25)⟩, ⟨some 173, none, .mv (.t 5)⟩, ⟨some 174, none, .bin .lss (.t 172) (.t 173)⟩] [0, 1, 5, 18, 19, 20, 21, 22, 23, 24, 25, 174]) (.cond (.t 174) .skip (.exit 13))) (.seq (.block 14 (.block 15 (.seq
  (.region none [ ⟨some 182, none, .mv (.t 23)⟩, ⟨some 183, none, .mv (.t 18)⟩, ⟨some 184, none, .bin .lss (.t 182) (.t 183)⟩, ⟨some 185, none, .mv (.t 184)⟩, ⟨some 186, (some (185, true)), .mv (.t 25)⟩, ⟨some 187, (some (185, true)), .mv (.t 18)⟩, ⟨some 188, (some (185, true)), .bin .lss (.t 186) (.t 187)⟩, ⟨some 189, none, .pick (.t 185) (.t 188) (.c (.bool false))⟩, ⟨some 181, none, .mv (.t 189)⟩] [0, 1, 5, 18, 19, 20, 21, 22, 23, 24, 25, 181]) (.cond (.t 181)
  (.region none [ ⟨some 190, none, .mv (.t 24)⟩, ⟨some 191, none, .mv (.t 19)⟩, ⟨some 192, none, .mv (.t 23)⟩, ⟨some 193, none, .idx 1 (.t 191) (.t 192)⟩, ⟨some 194, none, .ld none (.t 193)⟩, ⟨some 195, none, .mv (.t 25)⟩, ⟨some 196, none, .idx 1 (.t 194) (.t 195)⟩, ⟨some 197, none, .ld none (.t 196)⟩, ⟨some 198, none, .bsl [(.t 197)]⟩, ⟨some 199, none, .app true 1 (.t 190) (.t 198)⟩, ⟨some 24, none, .asg (.t 199)⟩] [0, 1, 5, 18, 19, 20, 21, 22, 23, 24, 25]) (.seq
  (.region none [ ⟨some 201, none, .mv (.t 23)⟩, ⟨some 202, none, .mv (.t 18)⟩, ⟨some 203, none, .bin .geq (.t 201) (.t 202)⟩, ⟨some 204, none, .mv (.t 203)⟩, ⟨some 205, (some (204, true)), .mv (.t 25)⟩, ⟨some 206, (some (204, true)), .mv (.t 18)⟩, ⟨some 207, (some (204, true)), .bin .geq (.t 205) (.t 206)⟩, ⟨some 208, none, .pick (.t 204) (.t 207) (.c (.bool false))⟩, ⟨some 200, none, .mv (.t 208)⟩] [0, 1, 5, 18, 19, 20, 21, 22, 23, 24, 25, 200]) (.cond (.t 200)
  (.region none [ ⟨some 209, none, .mv (.t 24)⟩, ⟨some 210, none, .mv (.t 18)⟩, ⟨some 211, none, .mv (.t 21)⟩, ⟨some 212, none, .mv (.t 20)⟩, ⟨some 213, none, .mv (.t 23)⟩, ⟨some 214, none, .mv (.t 18)⟩, ⟨some 215, none, .bin .sub (.t 213) (.t 214)⟩, ⟨some 216, none, .idx 1 (.t 212) (.t 215)⟩, ⟨some 217, none, .ld none (.t 216)⟩, ⟨some 218, none, .mv (.t 25)⟩, ⟨some 219, none, .mv (.t 18)⟩, ⟨some 220, none, .bin .sub (.t 218) (.t 219)⟩, ⟨some 221, none, .idx 1 (.t 217) (.t 220)⟩, ⟨some 222, none, .ld none (.t 221)⟩, ⟨some 223, none, .idx 1 (.t 211) (.t 222)⟩, ⟨some 224, none, .ld none (.t 223)⟩, ⟨some 225, none, .bin .add (.t 210) (.t 224)⟩, ⟨some 226, none, .bsl [(.t 225)]⟩, ⟨some 227, none, .app true 1 (.t 209) (.t 226)⟩, ⟨some 24, none, .asg (.t 227)⟩] [0, 1, 5, 18, 19, 20, 21, 22, 23, 24, 25])
  (.region none [ ⟨some 177, none, .mv (.t 24)⟩, ⟨some 178, none, .mv (.t 25)⟩, ⟨some 179, none, .bsl [(.t 178)]⟩, ⟨some 180, none, .app true 1 (.t 177) (.t 179)⟩, ⟨some 24, none, .asg (.t 180)⟩] [0, 1, 5, 18, 19, 20, 21, 22, 23, 24, 25])))))))
  (.region none [ ⟨some 175, none, .mv (.t 25)⟩, ⟨some 176, none, .bin .add (.t 175) (.c (.int .i64 1))⟩, ⟨some 25, none, .mv (.t 176)⟩] [0, 1, 5, 18, 19, 20, 21, 22, 23, 24, 25]))))))
  (.region none [ ⟨some 228, none, .mv (.t 22)⟩, ⟨some 229, none, .mv (.t 24)⟩, ⟨some 230, none, .bsl [(.t 229)]⟩, ⟨some 231, none, .app true 1 (.t 228) (.t 230)⟩, ⟨some 22, none, .asg (.t 231)⟩] [0, 1, 5, 18, 19, 20, 21, 22, 23]))))
  (.region none [ ⟨some 169, none, .mv (.t 23)⟩, ⟨some 170, none, .bin .add (.t 169) (.c (.int .i64 1))⟩, ⟨some 23, none, .mv (.t 170)⟩] [0, 1, 5, 18, 19, 20, 21, 22, 23])))))) (.seq
  (.region none [ ⟨some 232, none, .mv (.t 22)⟩, ⟨some 4, none, .asg (.t 232)⟩] [0, 1, 4]) .ret))))))))))

def c_spec_l03DrawPerm : F where
 np := 2
 rs := [.t 4]
 fix := [0, 1]
 body :=
  (.seq
  (.region none [ ⟨some 4, none, .asg (.c (.slice none 0 0))⟩] [0, 1]) (.seq
  (.region none [ ⟨some 9, none, .bsl []⟩, ⟨some 5, none, .asg (.t 9)⟩] [0, 1, 5]) (.seq (.seq
  (.region none [ ⟨some 6, none, .mv (.c (.int .i64 0))⟩] [0, 1, 5, 6]) (.block 0 (.loop (.seq (.seq
  (.region none [ ⟨some 10, none, .mv (.t 6)⟩, ⟨some 11, none, .mv (.t 1)⟩, ⟨some 12, none, .bin .lss (.t 10) (.t 11)⟩] [0, 1, 5, 6, 12]) (.cond (.t 12) .skip (.exit 0))) (.seq (.block 1 (.seq
  (.region none [ ⟨some 15, none, .mvs 0⟩, ⟨some 16, none, .mv (.t 6)⟩, ⟨some 17, none, .bin .add (.t 16) (.c (.int .i64 1))⟩, ⟨some 18, none, .calls (.f 336) (.t 15) 0 [(.t 17)]⟩, ⟨some 7, none, .mv (.t 18)⟩] [0, 1, 5, 6, 7]) (.seq
  (.region none [ ⟨some 19, none, .mv (.t 6)⟩, ⟨some 20, none, .bsl [(.t 19)]⟩, ⟨some 21, none, .mv (.t 5)⟩, ⟨some 22, none, .mv (.t 7)⟩, ⟨some 23, none, .sl 1 (.t 21) (some (.t 22)) none⟩, ⟨some 24, none, .app false 1 (.t 20) (.t 23)⟩, ⟨some 8, none, .asg (.t 24)⟩] [0, 1, 5, 6, 7, 8])
  (.region none [ ⟨some 25, none, .bsl []⟩, ⟨some 26, none, .mv (.t 5)⟩, ⟨some 27, none, .mv (.t 7)⟩, ⟨some 28, none, .sl 1 (.t 26) none (some (.t 27))⟩, ⟨some 29, none, .app false 1 (.t 25) (.t 28)⟩, ⟨some 30, none, .mv (.t 8)⟩, ⟨some 31, none, .app false 1 (.t 29) (.t 30)⟩, ⟨some 5, none, .asg (.t 31)⟩] [0, 1, 5, 6]))))
  (.region none [ ⟨some 13, none, .mv (.t 6)⟩, ⟨some 14, none, .bin .add (.t 13) (.c (.int .i64 1))⟩, ⟨some 6, none, .mv (.t 14)⟩] [0, 1, 5, 6])))))) (.seq
  (.region none [ ⟨some 32, none, .mv (.t 5)⟩, ⟨some 4, none, .asg (.t 32)⟩] [0, 1, 4]) .ret))))

def c_spec_l03Alexander : F where
 np := 3
 rs := [.t 6]
 body :=
  (.seq
  (.region none [ ⟨some 6, none, .asg (.c (.slice none 0 0))⟩] [0, 1, 2]) (.seq
  (.region none [ ⟨some 11, none, .bsl []⟩, ⟨some 7, none, .asg (.t 11)⟩] [0, 1, 2, 7]) (.seq (.seq
  (.region none [ ⟨some 8, none, .mv (.c (.int .i64 0))⟩] [0, 1, 2, 7, 8]) (.block 0 (.loop (.seq (.seq
  (.region none [ ⟨some 12, none, .mv (.t 8)⟩, ⟨some 13, none, .mv (.t 0)⟩, ⟨some 14, none, .bin .lss (.t 12) (.t 13)⟩] [0, 1, 2, 7, 8, 14]) (.cond (.t 14) .skip (.exit 0))) (.seq (.block 1 (.seq
  (.region none [ ⟨some 17, none, .bsl []⟩, ⟨some 9, none, .asg (.t 17)⟩] [0, 1, 2, 7, 8, 9]) (.seq (.seq
  (.region none [ ⟨some 10, none, .mv (.c (.int .i64 0))⟩] [0, 1, 2, 7, 8, 9, 10]) (.block 2 (.loop (.seq (.seq
  (.region none [ ⟨some 18, none, .mv (.t 10)⟩, ⟨some 19, none, .mv (.t 0)⟩, ⟨some 20, none, .bin .lss (.t 18) (.t 19)⟩] [0, 1, 2, 7, 8, 9, 10, 20]) (.cond (.t 20) .skip (.exit 2))) (.seq (.block 3
  (.region none [ ⟨some 23, none, .mv (.t 9)⟩, ⟨some 24, none, .mv (.t 2)⟩, ⟨some 25, none, .mv (.t 8)⟩, ⟨some 26, none, .bin .mul (.t 24) (.t 25)⟩, ⟨some 27, none, .mv (.t 1)⟩, ⟨some 28, none, .mv (.t 10)⟩, ⟨some 29, none, .bin .mul (.t 27) (.t 28)⟩, ⟨some 30, none, .bin .add (.t 26) (.t 29)⟩, ⟨some 31, none, .mv (.t 0)⟩, ⟨some 32, none, .bin .rem (.t 30) (.t 31)⟩, ⟨some 33, none, .bsl [(.t 32)]⟩, ⟨some 34, none, .app true 1 (.t 23) (.t 33)⟩, ⟨some 9, none, .asg (.t 34)⟩] [0, 1, 2, 7, 8, 9, 10]))
  (.region none [ ⟨some 21, none, .mv (.t 10)⟩, ⟨some 22, none, .bin .add (.t 21) (.c (.int .i64 1))⟩, ⟨some 10, none, .mv (.t 22)⟩] [0, 1, 2, 7, 8, 9, 10]))))))
  (.region none [ ⟨some 35, none, .mv (.t 7)⟩, ⟨some 36, none, .mv (.t 9)⟩, ⟨some 37, none, .bsl [(.t 36)]⟩, ⟨some 38, none, .app true 1 (.t 35) (.t 37)⟩, ⟨some 7, none, .asg (.t 38)⟩] [0, 1, 2, 7, 8]))))
  (.region none [ ⟨some 15, none, .mv (.t 8)⟩, ⟨some 16, none, .bin .add (.t 15) (.c (.int .i64 1))⟩, ⟨some 8, none, .mv (.t 16)⟩] [0, 1, 2, 7, 8])))))) (.seq
  (.region none [ ⟨some 39, none, .mv (.t 7)⟩, ⟨some 6, none, .asg (.t 39)⟩] [6]) .ret))))

def c_spec_l03Coprime : F where
 np := 2
 rs := [.t 4]
 body :=
  (.seq
  (.region none [ ⟨some 4, none, .mv (.c (.bool false))⟩] [0, 1]) (.seq (.seq
  (.region none [ ⟨some 5, none, .mv (.c (.int .i64 2))⟩] [0, 1, 5]) (.block 0 (.loop (.seq (.seq
  (.region none [ ⟨some 6, none, .mv (.t 5)⟩, ⟨some 7, none, .mv (.t 1)⟩, ⟨some 8, none, .bin .leq (.t 6) (.t 7)⟩] [0, 1, 5, 8]) (.cond (.t 8) .skip (.exit 0))) (.seq (.block 1 (.seq
  (.region none [ ⟨some 11, none, .mv (.t 0)⟩, ⟨some 12, none, .mv (.t 5)⟩, ⟨some 13, none, .bin .rem (.t 11) (.t 12)⟩, ⟨some 14, none, .bin .eql (.t 13) (.c (.int .i64 0))⟩, ⟨some 15, none, .mv (.t 14)⟩, ⟨some 16, (some (15, true)), .mv (.t 1)⟩, ⟨some 17, (some (15, true)), .mv (.t 5)⟩, ⟨some 18, (some (15, true)), .bin .rem (.t 16) (.t 17)⟩, ⟨some 19, (some (15, true)), .bin .eql (.t 18) (.c (.int .i64 0))⟩, ⟨some 20, none, .pick (.t 15) (.t 19) (.c (.bool false))⟩] [0, 1, 5, 20]) (.cond (.t 20) (.seq
  (.region none [ ⟨some 4, none, .mv (.c (.bool false))⟩] [4]) .ret) .skip)))
  (.region none [ ⟨some 9, none, .mv (.t 5)⟩, ⟨some 10, none, .bin .add (.t 9) (.c (.int .i64 1))⟩, ⟨some 5, none, .mv (.t 10)⟩] [0, 1, 5])))))) (.seq
  (.region none [ ⟨some 4, none, .mv (.c (.bool true))⟩] [4]) .ret)))

def c_spec_l01Perms : F where
 np := 1
 rs := [.t 2]
 body :=
  (.seq
  (.region none [ ⟨some 2, none, .asg (.c (.slice none 0 0))⟩] [0]) (.seq
  (.region none [ ⟨some 3, none, .mv (.t 0)⟩, ⟨some 4, none, .bsl []⟩, ⟨some 5, none, .bsl []⟩, ⟨some 6, none, .callm (.f 466) [((.t 3), false), ((.t 4), false), ((.t 5), false)] []⟩, ⟨some 2, none, .asg (.t 6)⟩] [2]) .ret))

def c_spec_l01Grow : F where
 np := 3
 rs := [.t 6]
 fix := [0, 1]
 body :=
  (.seq
  (.region none [ ⟨some 6, none, .asg (.c (.slice none 0 0))⟩] [0, 1, 2]) (.seq (.seq
  (.region none [ ⟨some 8, none, .mv (.t 1)⟩, ⟨some 9, none, .len (.t 8)⟩, ⟨some 10, none, .mv (.t 0)⟩, ⟨some 11, none, .bin .eql (.t 9) (.t 10)⟩] [0, 1, 2, 11]) (.cond (.t 11) (.seq
  (.region none [ ⟨some 12, none, .mv (.t 2)⟩, ⟨some 13, none, .mv (.t 1)⟩, ⟨some 14, none, .bsl [(.t 13)]⟩, ⟨some 15, none, .app true 1 (.t 12) (.t 14)⟩, ⟨some 6, none, .asg (.t 15)⟩] [0, 1, 2, 6]) .ret) .skip)) (.seq (.seq
  (.region none [ ⟨some 7, none, .mv (.c (.int .i64 0))⟩] [0, 1, 2, 7]) (.block 0 (.loop (.seq (.seq
  (.region none [ ⟨some 16, none, .mv (.t 7)⟩, ⟨some 17, none, .mv (.t 0)⟩, ⟨some 18, none, .bin .lss (.t 16) (.t 17)⟩] [0, 1, 2, 7, 18]) (.cond (.t 18) .skip (.exit 0))) (.seq (.block 1 (.seq
  (.region none [ ⟨some 21, none, .mv (.t 1)⟩, ⟨some 22, none, .mv (.t 7)⟩, ⟨some 23, none, .call (.f 62) [((.t 21), .r), ((.t 22), .r)]⟩, ⟨some 24, none, .un .not (.t 23)⟩] [0, 1, 2, 7, 24]) (.cond (.t 24)
  (.region none [ ⟨some 25, none, .mv (.t 0)⟩, ⟨some 26, none, .mv (.t 1)⟩, ⟨some 27, none, .call (.f 31) [((.t 26), .r)]⟩, ⟨some 28, none, .mv (.t 7)⟩, ⟨some 29, none, .bsl [(.t 28)]⟩, ⟨some 30, none, .app true 1 (.t 27) (.t 29)⟩, ⟨some 31, none, .mv (.t 2)⟩, ⟨some 32, none, .callm (.f 466) [((.t 25), false), ((.t 30), false), ((.t 31), false)] []⟩, ⟨some 2, none, .asg (.t 32)⟩] [0, 1, 2, 7]) .skip)))
  (.region none [ ⟨some 19, none, .mv (.t 7)⟩, ⟨some 20, none, .bin .add (.t 19) (.c (.int .i64 1))⟩, ⟨some 7, none, .mv (.t 20)⟩] [0, 1, 2, 7])))))) (.seq
  (.region none [ ⟨some 33, none, .mv (.t 2)⟩, ⟨some 6, none, .asg (.t 33)⟩] [0, 1, 2, 6]) .ret))))

def c_spec_l03Solution : F where
 np := 1
 rs := [.cell 2 (some 2)]
 body :=
  (.seq
  (.region none [ ⟨some 1, none, .box (.t 0)⟩, ⟨some 2, none, .alloc [(.slice none 0 0), (.slice none 0 0)]⟩] [1, 2]) (.seq
  (.region none [ ⟨some 7, none, .fld 0 (.t 1)⟩, ⟨some 8, none, .ld none (.t 7)⟩, ⟨some 9, none, .call (.f 280) [((.t 8), .r)]⟩, ⟨some 10, none, .build [(.slice none 0 0), (.slice none 0 0)] [(0, 1, (.t 9))]⟩, ⟨some 3, none, .alloc [(.slice none 0 0), (.slice none 0 0)]⟩, ⟨none, none, .st (some 2) (.t 3) (.t 10)⟩] [1, 2, 3]) (.seq (.seq
  (.region none [ ⟨some 4, none, .mv (.c (.int .i64 0))⟩] [1, 2, 3, 4]) (.block 0 (.loop (.seq (.seq
  (.region none [ ⟨some 11, none, .mv (.t 4)⟩, ⟨some 12, none, .fld 0 (.t 1)⟩, ⟨some 13, none, .ld none (.t 12)⟩, ⟨some 14, none, .len (.t 13)⟩, ⟨some 15, none, .bin .lss (.t 11) (.t 14)⟩] [1, 2, 3, 4, 15]) (.cond (.t 15) .skip (.exit 0))) (.seq (.block 1 (.seq
  (.region none [ ⟨some 18, none, .bsl []⟩, ⟨some 5, none, .asg (.t 18)⟩] [1, 2, 3, 4, 5]) (.seq (.seq
  (.region none [ ⟨some 6, none, .mv (.c (.int .i64 0))⟩] [1, 2, 3, 4, 5, 6]) (.block 2 (.loop (.seq (.seq
  (.region none [ ⟨some 19, none, .mv (.t 6)⟩, ⟨some 20, none, .fld 0 (.t 1)⟩, ⟨some 21, none, .ld none (.t 20)⟩, ⟨some 22, none, .len (.t 21)⟩, ⟨some 23, none, .bin .lss (.t 19) (.t 22)⟩] [1, 2, 3, 4, 5, 6, 23]) (.cond (.t 23) .skip (.exit 2))) (.seq (.block 3
  (.region none [ ⟨some 26, none, .mv (.t 5)⟩, ⟨some 27, none, .mv (.t 4)⟩, ⟨some 28, none, .bsl [(.t 27)]⟩, ⟨some 29, none, .app true 1 (.t 26) (.t 28)⟩, ⟨some 5, none, .asg (.t 29)⟩] [1, 2, 3, 4, 5, 6]))
  (.region none [ ⟨some 24, none, .mv (.t 6)⟩, ⟨some 25, none, .bin .add (.t 24) (.c (.int .i64 1))⟩, ⟨some 6, none, .mv (.t 25)⟩] [1, 2, 3, 4, 5, 6]))))))
  (.region none [ ⟨some 30, none, .fld 1 (.t 3)⟩, ⟨some 31, none, .ld none (.t 30)⟩, ⟨some 32, none, .mv (.t 5)⟩, ⟨some 33, none, .bsl [(.t 32)]⟩, ⟨some 34, none, .app true 1 (.t 31) (.t 33)⟩, ⟨some 35, none, .fld 1 (.t 3)⟩, ⟨none, none, .st none (.t 35) (.t 34)⟩] [1, 2, 3, 4]))))
  (.region none [ ⟨some 16, none, .mv (.t 4)⟩, ⟨some 17, none, .bin .add (.t 16) (.c (.int .i64 1))⟩, ⟨some 4, none, .mv (.t 17)⟩] [1, 2, 3, 4])))))) (.seq
  (.region none [ ⟨some 36, none, .ld (some 2) (.t 3)⟩, ⟨none, none, .st (some 2) (.t 2) (.t 36)⟩] [2]) .ret))))

def c_spec_l01From : F where
 np := 1
 rs := [.t 2]
 body :=
  (.seq
  (.region none [ ⟨some 2, none, .asg (.c (.pointer none))⟩] [0]) (.seq
  (.region none [ ⟨some 5, none, .mv (.t 0)⟩, ⟨some 6, none, .mv (.t 0)⟩, ⟨some 7, none, .len (.t 6)⟩, ⟨some 8, none, .conv .u64 (.t 7)⟩, ⟨some 9, none, .bin .add (.c (.int .u64 6553)) (.t 8)⟩, ⟨some 10, none, .build [(.slice none 0 0), (.int .i64 0), (.int .u64 0)] [(0, 1, (.t 5)), (2, 1, (.t 9))]⟩, ⟨some 11, none, .box (.t 10)⟩, ⟨some 3, none, .asg (.t 11)⟩] [0, 3]) (.seq (.seq
  (.region none [ ⟨some 4, none, .mv (.c (.int .i64 0))⟩] [0, 3, 4]) (.block 0 (.loop (.seq (.seq
  (.region none [ ⟨some 12, none, .mv (.t 4)⟩, ⟨some 13, none, .mv (.t 0)⟩, ⟨some 14, none, .len (.t 13)⟩, ⟨some 15, none, .bin .lss (.t 12) (.t 14)⟩, ⟨some 16, none, .mv (.t 15)⟩, ⟨some 17, (some (16, true)), .mv (.t 4)⟩, ⟨some 18, (some (16, true)), .bin .lss (.t 17) (.c (.int .i64 4096))⟩, ⟨some 19, none, .pick (.t 16) (.t 18) (.c (.bool false))⟩] [0, 3, 4, 19]) (.cond (.t 19) .skip (.exit 0))) (.seq (.block 1
  (.region (some [22, 23, 24, 25, 26, 27, 28, 29, 30, 31, 32, 33, 34]) [ ⟨some 22, none, .mv (.t 3)⟩, ⟨some 23, none, .mv (.t 3)⟩, ⟨some 24, none, .nilck (.t 23)⟩, ⟨some 25, none, .fld 2 (.t 24)⟩, ⟨some 26, none, .ld none (.t 25)⟩, ⟨some 27, none, .bin .mul (.t 26) (.c (.int .u64 1099511628211))⟩, ⟨some 28, none, .mv (.t 0)⟩, ⟨some 29, none, .mv (.t 4)⟩, ⟨some 30, none, .idx 1 (.t 28) (.t 29)⟩, ⟨some 31, none, .ld none (.t 30)⟩, ⟨some 32, none, .conv .u64 (.t 31)⟩, ⟨some 33, none, .bin .add (.t 27) (.t 32)⟩, ⟨some 34, none, .bin .add (.t 33) (.c (.int .u64 11))⟩, ⟨some 35, none, .nilck (.t 22)⟩, ⟨some 36, none, .fld 2 (.t 35)⟩, ⟨none, none, .st none (.t 36) (.t 34)⟩] [0, 3, 4]))
  (.region none [ ⟨some 20, none, .mv (.t 4)⟩, ⟨some 21, none, .bin .add (.t 20) (.c (.int .i64 1))⟩, ⟨some 4, none, .mv (.t 21)⟩] [0, 3, 4])))))) (.seq
  (.region none [ ⟨some 37, none, .mv (.t 3)⟩, ⟨some 2, none, .asg (.t 37)⟩] [2]) .ret))))

def c_laws_big : F where
 np := 1
 rs := [.t 2]
 body :=
  (.seq
  (.region none [ ⟨some 2, none, .mv (.c (.bool false))⟩] [0]) (.seq
  (.region none [ ⟨some 3, none, .mv (.t 0)⟩, ⟨some 4, none, .len (.t 3)⟩, ⟨some 5, none, .bin .gtr (.t 4) (.c (.int .i64 4096))⟩, ⟨some 2, none, .mv (.t 5)⟩] [2]) .ret))

def c_laws_likeInts : F where
 np := 2
 rs := [.t 4]
 body :=
  (.seq
  (.region none [ ⟨some 4, none, .mv (.c (.bool false))⟩] [0, 1]) (.seq (.seq
  (.region none [ ⟨some 6, none, .mv (.t 0)⟩, ⟨some 7, none, .len (.t 6)⟩, ⟨some 8, none, .mv (.t 1)⟩, ⟨some 9, none, .len (.t 8)⟩, ⟨some 10, none, .bin .neq (.t 7) (.t 9)⟩] [0, 1, 10]) (.cond (.t 10) (.seq
  (.region none [ ⟨some 4, none, .mv (.c (.bool false))⟩] [4]) .ret) .skip)) (.seq (.seq
  (.region none [ ⟨some 5, none, .mv (.c (.int .i64 0))⟩] [0, 1, 5]) (.block 0 (.loop (.seq (.seq
  (.region none [ ⟨some 11, none, .mv (.t 5)⟩, ⟨some 12, none, .mv (.t 0)⟩, ⟨some 13, none, .len (.t 12)⟩, ⟨some 14, none, .bin .lss (.t 11) (.t 13)⟩] [0, 1, 5, 14]) (.cond (.t 14) .skip (.exit 0))) (.seq (.block 1 (.seq
  (.region (some [17, 18, 19, 20, 21, 22, 23, 24]) [ ⟨some 17, none, .mv (.t 0)⟩, ⟨some 18, none, .mv (.t 5)⟩, ⟨some 19, none, .idx 1 (.t 17) (.t 18)⟩, ⟨some 20, none, .ld none (.t 19)⟩, ⟨some 21, none, .mv (.t 1)⟩, ⟨some 22, none, .mv (.t 5)⟩, ⟨some 23, none, .idx 1 (.t 21) (.t 22)⟩, ⟨some 24, none, .ld none (.t 23)⟩, ⟨some 25, none, .bin .neq (.t 20) (.t 24)⟩] [0, 1, 5, 25]) (.cond (.t 25) (.seq
  (.region none [ ⟨some 4, none, .mv (.c (.bool false))⟩] [4]) .ret) .skip)))
  (.region none [ ⟨some 15, none, .mv (.t 5)⟩, ⟨some 16, none, .bin .add (.t 15) (.c (.int .i64 1))⟩, ⟨some 5, none, .mv (.t 16)⟩] [0, 1, 5])))))) (.seq
  (.region none [ ⟨some 4, none, .mv (.c (.bool true))⟩] [4]) .ret))))

def c_impl_IsInvolutive : F where
 np := 1
 rs := [.t 2, .t 3]
 body :=
  (.seq
  (.region none [ ⟨some 1, none, .box (.t 0)⟩, ⟨some 2, none, .mv (.c (.bool false))⟩, ⟨some 3, none, .mv (.c (.int .i64 0))⟩] [1]) (.seq (.seq
  (.region none [ ⟨some 4, none, .ld (some 2) (.t 1)⟩, ⟨some 5, none, .call (.f 59) [((.t 4), .r)]⟩, ⟨some 6, none, .un .not (.t 5)⟩] [1, 6]) (.cond (.t 6) (.seq
  (.region none [ ⟨some 2, none, .mv (.c (.bool false))⟩, ⟨some 3, none, .mv (.c (.int .i64 1))⟩] [2, 3]) .ret) .skip)) (.seq
  (.region none [ ⟨some 7, none, .ld (some 2) (.t 1)⟩, ⟨some 8, none, .call (.f 298) [((.t 7), .r)]⟩, ⟨some 2, none, .mv (.t 8)⟩, ⟨some 3, none, .mv (.c (.int .i64 0))⟩] [2, 3]) .ret)))

def j07 : F where
 np := 1
 rs := [.cell 2 (some 2)]
 body :=
  (.seq
  (.region none [ ⟨some 2, none, .alloc [(.slice none 0 0), (.slice none 0 0)]⟩] [0, 2]) (.seq
  (.region none [ ⟨some 5, none, .mv (.t 0)⟩, ⟨some 6, none, .call (.f 269) [((.t 5), .r)]⟩, ⟨some 3, none, .asg (.t 6)⟩] [2, 3]) (.seq
  (.region none [ ⟨some 7, none, .mvs 3⟩, ⟨some 8, none, .calls (.f 354) (.t 7) 3 [(.c (.int .i64 6))]⟩, ⟨some 4, none, .alloc [(.slice none 0 0), (.slice none 0 0)]⟩, ⟨none, none, .st (some 2) (.t 4) (.t 8)⟩] [2, 3, 4]) (.seq (.seq
  (.region none [ ⟨some 9, none, .mvs 3⟩, ⟨some 10, none, .calls (.f 336) (.t 9) 3 [(.c (.int .i64 12))]⟩, ⟨some 11, none, .bin .eql (.t 10) (.c (.int .i64 0))⟩, ⟨some 12, none, .mv (.t 11)⟩, ⟨some 13, (some (12, true)), .fld 0 (.t 4)⟩, ⟨some 14, (some (12, true)), .ld none (.t 13)⟩, ⟨some 15, (some (12, true)), .len (.t 14)⟩, ⟨some 16, (some (12, true)), .bin .gtr (.t 15) (.c (.int .i64 0))⟩, ⟨some 17, none, .pick (.t 12) (.t 16) (.c (.bool false))⟩] [2, 3, 4, 17]) (.cond (.t 17)
  (.region (some [18, 19, 20, 21, 22, 23, 24, 25, 26, 27]) [ ⟨some 18, none, .fld 0 (.t 4)⟩, ⟨some 19, none, .ld none (.t 18)⟩, ⟨some 20, none, .idx 1 (.t 19) (.c (.int .i64 0))⟩, ⟨some 21, none, .ld none (.t 20)⟩, ⟨some 22, none, .mvs 3⟩, ⟨some 23, none, .fld 0 (.t 4)⟩, ⟨some 24, none, .ld none (.t 23)⟩, ⟨some 25, none, .len (.t 24)⟩, ⟨some 26, none, .bin .add (.t 25) (.c (.int .i64 1))⟩, ⟨some 27, none, .calls (.f 336) (.t 22) 3 [(.t 26)]⟩, ⟨some 28, none, .idx 1 (.t 21) (.c (.int .i64 0))⟩, ⟨none, none, .st none (.t 28) (.t 27)⟩] [2, 4]) .skip)) (.seq
  (.region none [ ⟨some 29, none, .ld (some 2) (.t 4)⟩, ⟨none, none, .st (some 2) (.t 2) (.t 29)⟩] [2]) .ret)))))

def c_laws_same9 : F where
 np := 2
 rs := [.t 4]
 body :=
  (.seq
  (.region none [ ⟨some 4, none, .mv (.c (.bool false))⟩] [0, 1]) (.seq (.seq
  (.region none [ ⟨some 6, none, .mv (.t 0)⟩, ⟨some 7, none, .len (.t 6)⟩, ⟨some 8, none, .mv (.t 1)⟩, ⟨some 9, none, .len (.t 8)⟩, ⟨some 10, none, .bin .neq (.t 7) (.t 9)⟩] [0, 1, 10]) (.cond (.t 10) (.seq
  (.region none [ ⟨some 4, none, .mv (.c (.bool false))⟩] [4]) .ret) .skip)) (.seq (.seq
  (.region none [ ⟨some 5, none, .mv (.c (.int .i64 0))⟩] [0, 1, 5]) (.block 0 (.loop (.seq (.seq
  (.region none [ ⟨some 11, none, .mv (.t 5)⟩, ⟨some 12, none, .mv (.t 0)⟩, ⟨some 13, none, .len (.t 12)⟩, ⟨some 14, none, .bin .lss (.t 11) (.t 13)⟩] [0, 1, 5, 14]) (.cond (.t 14) .skip (.exit 0))) (.seq (.block 1 (.seq
  (.region (some [17, 18, 19, 20, 21, 22, 23, 24]) [ ⟨some 17, none, .mv (.t 0)⟩, ⟨some 18, none, .mv (.t 5)⟩, ⟨some 19, none, .idx 1 (.t 17) (.t 18)⟩, ⟨some 20, none, .ld none (.t 19)⟩, ⟨some 21, none, .mv (.t 1)⟩, ⟨some 22, none, .mv (.t 5)⟩, ⟨some 23, none, .idx 1 (.t 21) (.t 22)⟩, ⟨some 24, none, .ld none (.t 23)⟩, ⟨some 25, none, .call (.f 141) [((.t 20), .r), ((.t 24), .r)]⟩, ⟨some 26, none, .un .not (.t 25)⟩] [0, 1, 5, 26]) (.cond (.t 26) (.seq
  (.region none [ ⟨some 4, none, .mv (.c (.bool false))⟩] [4]) .ret) .skip)))
  (.region none [ ⟨some 15, none, .mv (.t 5)⟩, ⟨some 16, none, .bin .add (.t 15) (.c (.int .i64 1))⟩, ⟨some 5, none, .mv (.t 16)⟩] [0, 1, 5])))))) (.seq
  (.region none [ ⟨some 4, none, .mv (.c (.bool true))⟩] [4]) .ret))))

def c_impl_TrivialRack : F where
 np := 1
 rs := [.cell 2 (some 1), .t 3]
 body :=
  (.seq
  (.region none [ ⟨some 2, none, .alloc [(.slice none 0 0)]⟩, ⟨some 3, none, .mv (.c (.int .i64 0))⟩] [0, 2]) (.seq (.seq
  (.region none [ ⟨some 4, none, .mv (.t 0)⟩, ⟨some 5, none, .call (.f 35) [((.t 4), .r), ((.c (.int .i64 1)), .r), ((.c (.int .i64 12)), .r)]⟩, ⟨some 6, none, .un .not (.t 5)⟩] [0, 2, 6]) (.cond (.t 6) (.seq
  (.region none [ ⟨some 7, none, .build [(.slice none 0 0)] []⟩, ⟨none, none, .st (some 1) (.t 2) (.t 7)⟩, ⟨some 3, none, .mv (.c (.int .i64 2))⟩] [2, 3]) .ret) .skip)) (.seq
  (.region none [ ⟨some 8, none, .mv (.t 0)⟩, ⟨some 9, none, .call (.f 327) [((.t 8), .r), ((.f 328), .r)]⟩, ⟨none, none, .st (some 1) (.t 2) (.t 9)⟩, ⟨some 3, none, .mv (.c (.int .i64 0))⟩] [2, 3]) .ret)))

def c_impl_rackBy : F where
 np := 2
 rs := [.cell 4 (some 1)]
 body :=
  (.seq
  (.region none [ ⟨some 3, none, .box (.t 1)⟩, ⟨some 4, none, .alloc [(.slice none 0 0)]⟩] [0, 3, 4]) (.seq
  (.region none [ ⟨some 5, none, .mv (.t 0)⟩, ⟨some 6, none, .fnc 404 [(.t 3)]⟩, ⟨some 7, none, .call (.f 376) [((.t 5), .r), ((.t 6), .r)]⟩, ⟨some 8, none, .build [(.slice none 0 0)] [(0, 1, (.t 7))]⟩, ⟨none, none, .st (some 1) (.t 4) (.t 8)⟩] [4]) .ret))

def c_impl_rackBy_1 : F where
 np := 3
 rs := [.t 5]
 body :=
  (.seq
  (.region none [ ⟨some 5, none, .mv (.c (.int .i64 0))⟩] [0, 1, 2]) (.seq
  (.region none [ ⟨some 6, none, .ld none (.t 2)⟩, ⟨some 7, none, .mv (.t 0)⟩, ⟨some 8, none, .mv (.t 1)⟩, ⟨some 9, none, .call (.t 6) [((.t 7), .r), ((.t 8), .r)]⟩, ⟨some 5, none, .mv (.t 9)⟩] [5]) .ret))

def c_impl_TrivialRack_1 : F where
 np := 2
 rs := [.t 4]
 body :=
  (.seq
  (.region none [ ⟨some 4, none, .mv (.c (.int .i64 0))⟩] [1]) (.seq
  (.region none [ ⟨some 5, none, .mv (.t 1)⟩, ⟨some 4, none, .mv (.t 5)⟩] [4]) .ret))

def c_laws_FnDerivedRacks : F where
 np := 1
 rs := [.t 2]
 body :=
  (.seq
  (.region none [ ⟨some 2, none, .mv (.c (.bool false))⟩] [0]) (.seq (.seq
  (.region none [ ⟨some 21, none, .mv (.t 0)⟩, ⟨some 22, none, .call (.f 128) [((.t 21), .r)]⟩] [0, 22]) (.cond (.t 22) (.seq
  (.region none [ ⟨some 2, none, .mv (.c (.bool true))⟩] [2]) .ret) .skip)) (.seq
  (.region none [ ⟨some 23, none, .mv (.t 0)⟩, ⟨some 24, none, .call (.f 233) [((.t 23), .r)]⟩, ⟨some 3, none, .alloc [(.slice none 0 0), (.slice none 0 0)]⟩, ⟨none, none, .st (some 2) (.t 3) (.t 24)⟩] [3]) (.seq
  (.region none [ ⟨some 26, none, .ld (some 2) (.t 3)⟩, ⟨some 27, none, .call (.f 148) [((.t 26), .r)]⟩, ⟨some 25, none, .mv (.t 27)⟩, ⟨some 28, none, .ext (.t 25) 0⟩, ⟨some 29, none, .ext (.t 25) 1⟩, ⟨some 4, none, .alloc [(.slice none 0 0)]⟩, ⟨none, none, .st (some 1) (.t 4) (.t 28)⟩, ⟨some 5, none, .mv (.t 29)⟩] [3, 4, 5]) (.seq (.seq
  (.region none [ ⟨some 31, none, .ld (some 2) (.t 3)⟩, ⟨some 32, none, .call (.f 147) [((.t 31), .r)]⟩, ⟨some 30, none, .mv (.t 32)⟩, ⟨some 33, none, .ext (.t 30) 0⟩, ⟨some 34, none, .ext (.t 30) 1⟩, ⟨some 6, none, .alloc [(.slice none 0 0)]⟩, ⟨none, none, .st (some 1) (.t 6) (.t 33)⟩, ⟨some 7, none, .mv (.t 34)⟩] [3, 4, 5, 6, 7]) (.seq
  (.region none [ ⟨some 35, none, .mv (.t 5)⟩, ⟨some 36, none, .mv (.t 7)⟩, ⟨some 37, none, .bin .neq (.t 35) (.t 36)⟩, ⟨some 38, none, .mv (.t 37)⟩, ⟨some 39, (some (38, false)), .fld 0 (.t 4)⟩, ⟨some 40, (some (38, false)), .ld none (.t 39)⟩, ⟨some 41, (some (38, false)), .fld 0 (.t 6)⟩, ⟨some 42, (some (38, false)), .ld none (.t 41)⟩, ⟨some 43, (some (38, false)), .call (.f 178) [((.t 40), .r), ((.t 42), .r)]⟩, ⟨some 44, (some (38, false)), .un .not (.t 43)⟩, ⟨some 45, none, .pick (.t 38) (.c (.bool true)) (.t 44)⟩] [3, 4, 5, 45]) (.cond (.t 45) (.seq
  (.region none [ ⟨some 2, none, .mv (.c (.bool false))⟩] [2]) .ret) .skip))) (.seq (.seq
  (.region none [ ⟨some 46, none, .mv (.t 5)⟩, ⟨some 47, none, .bin .neq (.t 46) (.c (.int .i64 0))⟩] [3, 4, 47]) (.cond (.t 47) (.seq
  (.region none [ ⟨some 48, none, .fld 0 (.t 4)⟩, ⟨some 49, none, .ld none (.t 48)⟩, ⟨some 50, none, .len (.t 49)⟩, ⟨some 51, none, .bin .eql (.t 50) (.c (.int .i64 0))⟩, ⟨some 2, none, .mv (.t 51)⟩] [2]) .ret) .skip)) (.seq
  (.region none [ ⟨some 52, none, .fld 0 (.t 3)⟩, ⟨some 53, none, .ld none (.t 52)⟩, ⟨some 54, none, .len (.t 53)⟩, ⟨some 8, none, .mv (.t 54)⟩] [3, 4, 8]) (.seq
  (.region none [ ⟨some 55, none, .bsl []⟩, ⟨some 9, none, .asg (.t 55)⟩] [3, 4, 8, 9]) (.seq (.seq
  (.region none [ ⟨some 10, none, .mv (.c (.int .i64 0))⟩] [3, 4, 8, 9, 10]) (.block 0 (.loop (.seq (.seq
  (.region none [ ⟨some 56, none, .mv (.t 10)⟩, ⟨some 57, none, .mv (.t 8)⟩, ⟨some 58, none, .bin .lss (.t 56) (.t 57)⟩] [3, 4, 8, 9, 10, 58]) (.cond (.t 58) .skip (.exit 0))) (.seq (.block 1 (.seq (.seq
  (.region (some [61, 62, 63, 64, 65, 66, 67, 68, 69, 70]) [ ⟨some 61, none, .fld 0 (.t 4)⟩, ⟨some 62, none, .ld none (.t 61)⟩, ⟨some 63, none, .fld 0 (.t 3)⟩, ⟨some 64, none, .ld none (.t 63)⟩, ⟨some 65, none, .mv (.t 10)⟩, ⟨some 66, none, .idx 1 (.t 64) (.t 65)⟩, ⟨some 67, none, .ld none (.t 66)⟩, ⟨some 68, none, .call (.f 234) [((.t 62), .r), ((.t 67), .r)]⟩, ⟨some 69, none, .fld 0 (.t 4)⟩, ⟨some 70, none, .ld none (.t 69)⟩, ⟨some 71, none, .call (.f 178) [((.t 68), .r), ((.t 70), .r)]⟩, ⟨some 72, none, .un .not (.t 71)⟩] [3, 4, 8, 9, 10, 72]) (.cond (.t 72) (.seq
  (.region none [ ⟨some 2, none, .mv (.c (.bool false))⟩] [2]) .ret) .skip))
  (.region none [ ⟨some 73, none, .mv (.t 9)⟩, ⟨some 74, none, .mv (.t 10)⟩, ⟨some 75, none, .bsl [(.t 74)]⟩, ⟨some 76, none, .app true 1 (.t 73) (.t 75)⟩, ⟨some 9, none, .asg (.t 76)⟩] [3, 4, 8, 9, 10])))
  (.region none [ ⟨some 59, none, .mv (.t 10)⟩, ⟨some 60, none, .bin .add (.t 59) (.c (.int .i64 1))⟩, ⟨some 10, none, .mv (.t 60)⟩] [3, 4, 8, 9, 10])))))) (.seq
  (.region none [ ⟨some 78, none, .mv (.t 8)⟩, ⟨some 79, none, .call (.f 196) [((.t 78), .r)]⟩, ⟨some 77, none, .mv (.t 79)⟩, ⟨some 80, none, .ext (.t 77) 0⟩, ⟨some 81, none, .ext (.t 77) 1⟩, ⟨some 11, none, .alloc [(.slice none 0 0)]⟩, ⟨none, none, .st (some 1) (.t 11) (.t 80)⟩, ⟨some 12, none, .mv (.t 81)⟩] [3, 4, 9, 11, 12]) (.seq
  (.region none [ ⟨some 83, none, .ld (some 2) (.t 3)⟩, ⟨some 84, none, .call (.f 160) [((.t 83), .r)]⟩, ⟨some 82, none, .mv (.t 84)⟩, ⟨some 85, none, .ext (.t 82) 0⟩, ⟨some 86, none, .ext (.t 82) 1⟩, ⟨some 13, none, .mv (.t 85)⟩, ⟨some 14, none, .mv (.t 86)⟩] [3, 4, 9, 11, 12, 13, 14]) (.seq
  (.region none [ ⟨some 88, none, .ld (some 1) (.t 4)⟩, ⟨some 89, none, .mv (.t 9)⟩, ⟨some 90, none, .call (.f 171) [((.t 88), .r), ((.t 89), .r)]⟩, ⟨some 87, none, .mv (.t 90)⟩, ⟨some 91, none, .ext (.t 87) 0⟩, ⟨some 92, none, .ext (.t 87) 1⟩, ⟨some 15, none, .alloc [(.slice none 0 0), (.slice none 0 0)]⟩, ⟨none, none, .st (some 2) (.t 15) (.t 91)⟩, ⟨some 16, none, .mv (.t 92)⟩] [3, 4, 11, 12, 13, 14, 15, 16]) (.seq
  (.region none [ ⟨some 94, none, .ld (some 2) (.t 3)⟩, ⟨some 95, none, .call (.f 235) [((.t 94), .r)]⟩, ⟨some 93, none, .mv (.t 95)⟩, ⟨some 96, none, .ext (.t 93) 0⟩, ⟨some 97, none, .ext (.t 93) 1⟩, ⟨some 17, none, .mv (.t 96)⟩, ⟨some 18, none, .mv (.t 97)⟩] [4, 11, 12, 13, 14, 15, 16, 17, 18]) (.seq
  (.region none [ ⟨some 99, none, .ld (some 2) (.t 15)⟩, ⟨some 100, none, .call (.f 235) [((.t 99), .r)]⟩, ⟨some 98, none, .mv (.t 100)⟩, ⟨some 101, none, .ext (.t 98) 0⟩, ⟨some 102, none, .ext (.t 98) 1⟩, ⟨some 19, none, .mv (.t 101)⟩, ⟨some 20, none, .mv (.t 102)⟩] [4, 11, 12, 13, 14, 16, 17, 18, 19, 20]) (.seq
  (.region none [ ⟨some 103, none, .mv (.t 12)⟩, ⟨some 104, none, .bin .eql (.t 103) (.c (.int .i64 0))⟩, ⟨some 105, none, .mv (.t 104)⟩, ⟨some 106, (some (105, true)), .mv (.t 14)⟩, ⟨some 107, (some (105, true)), .bin .eql (.t 106) (.c (.int .i64 0))⟩, ⟨some 108, none, .pick (.t 105) (.t 107) (.c (.bool false))⟩, ⟨some 109, none, .mv (.t 108)⟩, ⟨some 110, (some (109, true)), .mv (.t 16)⟩, ⟨some 111, (some (109, true)), .bin .eql (.t 110) (.c (.int .i64 0))⟩, ⟨some 112, none, .pick (.t 109) (.t 111) (.c (.bool false))⟩, ⟨some 113, none, .mv (.t 112)⟩, ⟨some 114, (some (113, true)), .mv (.t 18)⟩, ⟨some 115, (some (113, true)), .mv (.t 20)⟩, ⟨some 116, (some (113, true)), .bin .eql (.t 114) (.t 115)⟩, ⟨some 117, none, .pick (.t 113) (.t 116) (.c (.bool false))⟩, ⟨some 118, none, .mv (.t 117)⟩, ⟨some 119, (some (118, true)), .mv (.t 17)⟩, ⟨some 120, (some (118, true)), .mv (.t 19)⟩, ⟨some 121, (some (118, true)), .bin .eql (.t 119) (.t 120)⟩, ⟨some 122, none, .pick (.t 118) (.t 121) (.c (.bool false))⟩, ⟨some 123, none, .mv (.t 122)⟩, ⟨some 124, (some (123, true)), .ld (some 1) (.t 4)⟩, ⟨some 125, (some (123, true)), .call (.f 33) [((.t 124), .r)]⟩, ⟨some 126, none, .pick (.t 123) (.t 125) (.c (.bool false))⟩, ⟨some 127, none, .mv (.t 126)⟩, ⟨some 128, (some (127, true)), .mv (.t 13)⟩, ⟨some 129, (some (127, true)), .fld 0 (.t 4)⟩, ⟨some 130, (some (127, true)), .ld none (.t 129)⟩, ⟨some 131, (some (127, true)), .fld 0 (.t 11)⟩, ⟨some 132, (some (127, true)), .ld none (.t 131)⟩, ⟨some 133, (some (127, true)), .call (.f 178) [((.t 130), .r), ((.t 132), .r)]⟩, ⟨some 134, (some (127, true)), .beq false (.t 128) (.t 133)⟩, ⟨some 135, none, .pick (.t 127) (.t 134) (.c (.bool false))⟩, ⟨some 2, none, .mv (.t 135)⟩] [2]) .ret)))))))))))))))

def c_laws_image9 : F where
 np := 2
 rs := [.t 4]
 body :=
  (.seq
  (.region none [ ⟨some 4, none, .asg (.c (.slice none 0 0))⟩] [0, 1]) (.seq (.seq
  (.region none [ ⟨some 9, none, .mv (.t 1)⟩, ⟨some 10, none, .len (.t 9)⟩, ⟨some 11, none, .mv (.t 0)⟩, ⟨some 12, none, .len (.t 11)⟩, ⟨some 13, none, .bin .neq (.t 10) (.t 12)⟩, ⟨some 14, none, .mv (.t 13)⟩, ⟨some 15, (some (14, false)), .mv (.t 1)⟩, ⟨some 16, (some (14, false)), .call (.f 355) [((.t 15), .r)]⟩, ⟨some 17, (some (14, false)), .un .not (.t 16)⟩, ⟨some 18, none, .pick (.t 14) (.c (.bool true)) (.t 17)⟩] [0, 1, 18]) (.cond (.t 18) (.seq
  (.region none [ ⟨some 4, none, .asg (.c (.slice none 0 0))⟩] [4]) .ret) .skip)) (.seq
  (.region none [ ⟨some 19, none, .bsl []⟩, ⟨some 5, none, .asg (.t 19)⟩] [0, 1, 5]) (.seq (.seq
  (.region none [ ⟨some 6, none, .mv (.c (.int .i64 0))⟩] [0, 1, 5, 6]) (.block 0 (.loop (.seq (.seq
  (.region none [ ⟨some 20, none, .mv (.t 6)⟩, ⟨some 21, none, .mv (.t 0)⟩, ⟨some 22, none, .len (.t 21)⟩, ⟨some 23, none, .bin .lss (.t 20) (.t 22)⟩] [0, 1, 5, 6, 23]) (.cond (.t 23) .skip (.exit 0))) (.seq (.block 1
  (.region none [ ⟨some 26, none, .mv (.t 5)⟩, ⟨some 27, none, .mv (.t 0)⟩, ⟨some 28, none, .len (.t 27)⟩, ⟨some 29, none, .mks (.int .i64 0) (.t 28)⟩, ⟨some 30, none, .bsl [(.t 29)]⟩, ⟨some 31, none, .app true 1 (.t 26) (.t 30)⟩, ⟨some 5, none, .asg (.t 31)⟩] [0, 1, 5, 6]))
  (.region none [ ⟨some 24, none, .mv (.t 6)⟩, ⟨some 25, none, .bin .add (.t 24) (.c (.int .i64 1))⟩, ⟨some 6, none, .mv (.t 25)⟩] [0, 1, 5, 6])))))) (.seq (.seq
  (.region none [ ⟨some 7, none, .mv (.c (.int .i64 0))⟩] [0, 1, 5, 7]) (.block 2 (.loop (.seq (.seq
  (.region none [ ⟨some 32, none, .mv (.t 7)⟩, ⟨some 33, none, .mv (.t 0)⟩, ⟨some 34, none, .len (.t 33)⟩, ⟨some 35, none, .bin .lss (.t 32) (.t 34)⟩] [0, 1, 5, 7, 35]) (.cond (.t 35) .skip (.exit 2))) (.seq (.block 3 (.seq
  (.region none [ ⟨some 8, none, .mv (.c (.int .i64 0))⟩] [0, 1, 5, 7, 8]) (.block 4 (.loop (.seq (.seq
  (.region none [ ⟨some 38, none, .mv (.t 8)⟩, ⟨some 39, none, .mv (.t 0)⟩, ⟨some 40, none, .mv (.t 7)⟩, ⟨some 41, none, .idx 1 (.t 39) (.t 40)⟩, ⟨some 42, none, .ld none (.t 41)⟩, ⟨some 43, none, .len (.t 42)⟩, ⟨some 44, none, .bin .lss (.t 38) (.t 43)⟩, ⟨some 45, none, .mv (.t 44)⟩, ⟨some 46, (some (45, true)), .mv (.t 8)⟩, ⟨some 47, (some (45, true)), .mv (.t 0)⟩, ⟨some 48, (some (45, true)), .len (.t 47)⟩, ⟨some 49, (some (45, true)), .bin .lss (.t 46) (.t 48)⟩, ⟨some 50, none, .pick (.t 45) (.t 49) (.c (.bool false))⟩] [0, 1, 5, 7, 8, 50]) (.cond (.t 50) .skip (.exit 4))) (.seq (.block 5 (.seq (.seq
  (.region none [ ⟨some 53, none, .mv (.t 0)⟩, ⟨some 54, none, .mv (.t 7)⟩, ⟨some 55, none, .idx 1 (.t 53) (.t 54)⟩, ⟨some 56, none, .ld none (.t 55)⟩, ⟨some 57, none, .mv (.t 8)⟩, ⟨some 58, none, .idx 1 (.t 56) (.t 57)⟩, ⟨some 59, none, .ld none (.t 58)⟩, ⟨some 60, none, .bin .lss (.t 59) (.c (.int .i64 0))⟩, ⟨some 61, none, .mv (.t 60)⟩, ⟨some 62, (some (61, false)), .mv (.t 0)⟩, ⟨some 63, (some (61, false)), .mv (.t 7)⟩, ⟨some 64, (some (61, false)), .idx 1 (.t 62) (.t 63)⟩, ⟨some 65, (some (61, false)), .ld none (.t 64)⟩, ⟨some 66, (some (61, false)), .mv (.t 8)⟩, ⟨some 67, (some (61, false)), .idx 1 (.t 65) (.t 66)⟩, ⟨some 68, (some (61, false)), .ld none (.t 67)⟩, ⟨some 69, (some (61, false)), .mv (.t 1)⟩, ⟨some 70, (some (61, false)), .len (.t 69)⟩, ⟨some 71, (some (61, false)), .bin .geq (.t 68) (.t 70)⟩, ⟨some 72, none, .pick (.t 61) (.c (.bool true)) (.t 71)⟩] [0, 1, 5, 7, 8, 72]) (.cond (.t 72) (.seq
  (.region none [ ⟨some 4, none, .asg (.c (.slice none 0 0))⟩] [4]) .ret) .skip))
  (.region (some [73, 74, 75, 76, 77, 78, 79, 80, 81, 82, 83, 84, 85, 86, 87, 88, 89, 90, 91, 92, 93]) [ ⟨some 73, none, .mv (.t 5)⟩, ⟨some 74, none, .mv (.t 1)⟩, ⟨some 75, none, .mv (.t 7)⟩, ⟨some 76, none, .idx 1 (.t 74) (.t 75)⟩, ⟨some 77, none, .ld none (.t 76)⟩, ⟨some 78, none, .idx 1 (.t 73) (.t 77)⟩, ⟨some 79, none, .ld none (.t 78)⟩, ⟨some 80, none, .mv (.t 1)⟩, ⟨some 81, none, .mv (.t 8)⟩, ⟨some 82, none, .idx 1 (.t 80) (.t 81)⟩, ⟨some 83, none, .ld none (.t 82)⟩, ⟨some 84, none, .mv (.t 1)⟩, ⟨some 85, none, .mv (.t 0)⟩, ⟨some 86, none, .mv (.t 7)⟩, ⟨some 87, none, .idx 1 (.t 85) (.t 86)⟩, ⟨some 88, none, .ld none (.t 87)⟩, ⟨some 89, none, .mv (.t 8)⟩, ⟨some 90, none, .idx 1 (.t 88) (.t 89)⟩, ⟨some 91, none, .ld none (.t 90)⟩, ⟨some 92, none, .idx 1 (.t 84) (.t 91)⟩, ⟨some 93, none, .ld none (.t 92)⟩, ⟨some 94, none, .idx 1 (.t 79) (.t 83)⟩, ⟨none, none, .st none (.t 94) (.t 93)⟩] [0, 1, 5, 7, 8])))
  (.region none [ ⟨some 51, none, .mv (.t 8)⟩, ⟨some 52, none, .bin .add (.t 51) (.c (.int .i64 1))⟩, ⟨some 8, none, .mv (.t 52)⟩] [0, 1, 5, 7, 8])))))))
  (.region none [ ⟨some 36, none, .mv (.t 7)⟩, ⟨some 37, none, .bin .add (.t 36) (.c (.int .i64 1))⟩, ⟨some 7, none, .mv (.t 37)⟩] [0, 1, 5, 7])))))) (.seq
  (.region none [ ⟨some 95, none, .mv (.t 5)⟩, ⟨some 4, none, .asg (.t 95)⟩] [4]) .ret))))))

def c_spec_IsPermutation : F where
 np := 1
 rs := [.t 2]
 body :=
  (.seq
  (.region none [ ⟨some 2, none, .mv (.c (.bool false))⟩] [0]) (.seq
  (.region none [ ⟨some 3, none, .mv (.t 0)⟩, ⟨some 4, none, .call (.f 47) [((.t 3), .r)]⟩, ⟨some 2, none, .mv (.t 4)⟩] [2]) .ret))

def c_impl_OrderOfSolution : F where
 np := 1
 rs := [.t 2, .t 3]
 body :=
  (.seq
  (.region none [ ⟨some 1, none, .box (.t 0)⟩, ⟨some 2, none, .mv (.c (.int .i64 0))⟩, ⟨some 3, none, .mv (.c (.int .i64 0))⟩] [1]) (.seq (.seq
  (.region none [ ⟨some 10, none, .ld (some 2) (.t 1)⟩, ⟨some 11, none, .call (.f 42) [((.t 10), .r)]⟩, ⟨some 12, none, .un .not (.t 11)⟩] [1, 12]) (.cond (.t 12) (.seq
  (.region none [ ⟨some 2, none, .mv (.c (.int .i64 0))⟩, ⟨some 3, none, .mv (.c (.int .i64 1))⟩] [2, 3]) .ret) .skip)) (.seq
  (.region none [ ⟨some 13, none, .fld 0 (.t 1)⟩, ⟨some 14, none, .ld none (.t 13)⟩, ⟨some 15, none, .len (.t 14)⟩, ⟨some 4, none, .mv (.t 15)⟩] [1, 4]) (.seq
  (.region none [ ⟨some 5, none, .mv (.c (.int .i64 1))⟩] [1, 4, 5]) (.seq (.seq
  (.region none [ ⟨some 16, none, .mv (.t 4)⟩, ⟨some 17, none, .mv (.t 4)⟩, ⟨some 18, none, .bin .mul (.t 16) (.t 17)⟩, ⟨some 19, none, .mv (.c (.int .i64 0))⟩] [1, 4, 5, 18, 19]) (.block 0 (.loop (.seq
  (.region none [ ⟨some 20, none, .bin .lss (.t 19) (.t 18)⟩] [1, 4, 5, 18, 19, 20]) (.seq (.cond (.t 20) .skip (.exit 0)) (.seq (.block 1 (.seq
  (.region none [ ⟨some 21, none, .mv (.t 19)⟩, ⟨some 6, none, .mv (.t 21)⟩] [1, 4, 5, 6, 18, 19]) (.seq
  (.region (some [7, 22, 23, 24, 25, 26, 27, 28, 29, 30, 31, 32, 33, 34, 35, 36, 37, 38, 39, 40, 41, 42, 43, 44, 45]) [ ⟨some 22, none, .fld 0 (.t 1)⟩, ⟨some 23, none, .ld none (.t 22)⟩, ⟨some 24, none, .mv (.t 6)⟩, ⟨some 25, none, .mv (.t 4)⟩, ⟨some 26, none, .bin .quo (.t 24) (.t 25)⟩, ⟨some 27, none, .idx 1 (.t 23) (.t 26)⟩, ⟨some 28, none, .ld none (.t 27)⟩, ⟨some 29, none, .mv (.t 6)⟩, ⟨some 30, none, .mv (.t 4)⟩, ⟨some 31, none, .bin .rem (.t 29) (.t 30)⟩, ⟨some 32, none, .idx 1 (.t 28) (.t 31)⟩, ⟨some 33, none, .ld none (.t 32)⟩, ⟨some 34, none, .fld 1 (.t 1)⟩, ⟨some 35, none, .ld none (.t 34)⟩, ⟨some 36, none, .mv (.t 6)⟩, ⟨some 37, none, .mv (.t 4)⟩, ⟨some 38, none, .bin .quo (.t 36) (.t 37)⟩, ⟨some 39, none, .idx 1 (.t 35) (.t 38)⟩, ⟨some 40, none, .ld none (.t 39)⟩, ⟨some 41, none, .mv (.t 6)⟩, ⟨some 42, none, .mv (.t 4)⟩, ⟨some 43, none, .bin .rem (.t 41) (.t 42)⟩, ⟨some 44, none, .idx 1 (.t 40) (.t 43)⟩, ⟨some 45, none, .ld none (.t 44)⟩, ⟨some 7, none, .mv (.t 33)⟩, ⟨some 8, none, .mv (.t 45)⟩] [1, 4, 5, 6, 7, 8, 18, 19]) (.seq
  (.region none [ ⟨some 9, none, .mv (.c (.int .i64 1))⟩] [1, 4, 5, 6, 7, 8, 9, 18, 19]) (.seq (.block 2 (.loop (.seq (.seq
  (.region none [ ⟨some 46, none, .mv (.t 7)⟩, ⟨some 47, none, .mv (.t 4)⟩, ⟨some 48, none, .bin .mul (.t 46) (.t 47)⟩, ⟨some 49, none, .mv (.t 8)⟩, ⟨some 50, none, .bin .add (.t 48) (.t 49)⟩, ⟨some 51, none, .mv (.t 6)⟩, ⟨some 52, none, .bin .neq (.t 50) (.t 51)⟩] [1, 4, 5, 6, 7, 8, 9, 18, 19, 52]) (.cond (.t 52) .skip (.exit 2))) (.block 3 (.seq
  (.region (some [7, 53, 54, 55, 56, 57, 58, 59, 60, 61, 62, 63, 64, 65, 66, 67, 68]) [ ⟨some 53, none, .fld 0 (.t 1)⟩, ⟨some 54, none, .ld none (.t 53)⟩, ⟨some 55, none, .mv (.t 7)⟩, ⟨some 56, none, .idx 1 (.t 54) (.t 55)⟩, ⟨some 57, none, .ld none (.t 56)⟩, ⟨some 58, none, .mv (.t 8)⟩, ⟨some 59, none, .idx 1 (.t 57) (.t 58)⟩, ⟨some 60, none, .ld none (.t 59)⟩, ⟨some 61, none, .fld 1 (.t 1)⟩, ⟨some 62, none, .ld none (.t 61)⟩, ⟨some 63, none, .mv (.t 7)⟩, ⟨some 64, none, .idx 1 (.t 62) (.t 63)⟩, ⟨some 65, none, .ld none (.t 64)⟩, ⟨some 66, none, .mv (.t 8)⟩, ⟨some 67, none, .idx 1 (.t 65) (.t 66)⟩, ⟨some 68, none, .ld none (.t 67)⟩, ⟨some 7, none, .mv (.t 60)⟩, ⟨some 8, none, .mv (.t 68)⟩] [1, 4, 5, 6, 7, 8, 9, 18, 19])
  (.region none [ ⟨some 69, none, .mv (.t 9)⟩, ⟨some 70, none, .bin .add (.t 69) (.c (.int .i64 1))⟩, ⟨some 9, none, .mv (.t 70)⟩] [1, 4, 5, 6, 7, 8, 9, 18, 19])))))) (.seq
  (.region none [ ⟨some 71, none, .mv (.t 5)⟩, ⟨some 72, none, .mv (.t 5)⟩, ⟨some 73, none, .mv (.t 9)⟩, ⟨some 74, none, .call (.f 356) [((.t 72), .r), ((.t 73), .r)]⟩, ⟨some 75, none, .bin .quo (.t 71) (.t 74)⟩, ⟨some 76, none, .mv (.t 9)⟩, ⟨some 77, none, .bin .mul (.t 75) (.t 76)⟩, ⟨some 5, none, .mv (.t 77)⟩] [1, 4, 5, 18, 19]) (.seq
  (.region none [ ⟨some 78, none, .mv (.t 5)⟩, ⟨some 79, none, .bin .gtr (.t 78) (.c (.int .i64 1000000))⟩] [1, 4, 5, 18, 19, 79]) (.cond (.t 79) (.seq
  (.region none [ ⟨some 2, none, .mv (.c (.int .i64 0))⟩, ⟨some 3, none, .mv (.c (.int .i64 3))⟩] [2, 3]) .ret) .skip))))))))
  (.region none [ ⟨some 80, none, .bin .add (.t 19) (.c (.int .i64 1))⟩, ⟨some 19, none, .mv (.t 80)⟩] [1, 4, 5, 18, 19]))))))) (.seq
  (.region none [ ⟨some 81, none, .mv (.t 5)⟩, ⟨some 2, none, .mv (.t 81)⟩, ⟨some 3, none, .mv (.c (.int .i64 0))⟩] [2, 3]) .ret))))))

def c_impl_divisorOf : F where
 np := 2
 rs := [.t 4]
 body :=
  (.seq
  (.region none [ ⟨some 4, none, .mv (.c (.int .i64 0))⟩] [0, 1]) (.seq (.block 0 (.loop (.seq (.seq
  (.region none [ ⟨some 5, none, .mv (.t 1)⟩, ⟨some 6, none, .bin .gtr (.t 5) (.c (.int .i64 0))⟩] [0, 1, 6]) (.cond (.t 6) .skip (.exit 0))) (.block 1
  (.region (some [0, 7, 8, 9, 10]) [ ⟨some 7, none, .mv (.t 1)⟩, ⟨some 8, none, .mv (.t 0)⟩, ⟨some 9, none, .mv (.t 1)⟩, ⟨some 10, none, .bin .rem (.t 8) (.t 9)⟩, ⟨some 0, none, .mv (.t 7)⟩, ⟨some 1, none, .mv (.t 10)⟩] [0, 1]))))) (.seq
  (.region none [ ⟨some 11, none, .mv (.t 0)⟩, ⟨some 4, none, .mv (.t 11)⟩] [4]) .ret)))

end Go.Mch
