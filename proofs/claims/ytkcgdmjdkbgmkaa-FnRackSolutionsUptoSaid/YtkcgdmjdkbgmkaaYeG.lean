/- Compact code of draws and laws. -/
import Derived.Test.YtkcgdmjdkbgmkaaM1
namespace Go.Mch

def c_spec_l01Next : F where
 np := 2
 rs := [.t 4]
 fix := [0, 1]
 body :=
  (.seq
  (.region none [ ⟨some 4, none, .mv (.c (.int .i64 0))⟩] [0, 1]) (.seq (.seq
  (.region none [ ⟨some 6, none, .mv (.t 1)⟩, ⟨some 7, none, .bin .lss (.t 6) (.c (.int .i64 1))⟩] [0, 1, 7]) (.cond (.t 7) (.seq
  (.region none [ ⟨some 4, none, .mv (.c (.int .i64 0))⟩] [0, 1, 4]) .ret) .skip)) (.seq
  (.region none [ ⟨some 8, none, .mv (.t 0)⟩, ⟨some 9, none, .mv (.t 0)⟩, ⟨some 10, none, .nilck (.t 9)⟩, ⟨some 11, none, .fld 2 (.t 10)⟩, ⟨some 12, none, .ld none (.t 11)⟩, ⟨some 13, none, .bin .mul (.t 12) (.c (.int .u64 6364136223846793005))⟩, ⟨some 14, none, .bin .add (.t 13) (.c (.int .u64 1442695040888963407))⟩, ⟨some 15, none, .nilck (.t 8)⟩, ⟨some 16, none, .fld 2 (.t 15)⟩, ⟨none, none, .st none (.t 16) (.t 14)⟩] [0, 1]) (.seq
  (.region none [ ⟨some 17, none, .mv (.t 0)⟩, ⟨some 18, none, .nilck (.t 17)⟩, ⟨some 19, none, .fld 2 (.t 18)⟩, ⟨some 20, none, .ld none (.t 19)⟩, ⟨some 21, none, .bin .shr (.t 20) (.c (.int .u64 33))⟩, ⟨some 22, none, .bin .and (.t 21) (.c (.int .u64 16777215))⟩, ⟨some 23, none, .conv .i64 (.t 22)⟩, ⟨some 5, none, .mv (.t 23)⟩] [0, 1, 5]) (.seq (.seq
  (.region (some [24, 25, 26, 27, 28, 29, 30, 31, 32]) [ ⟨some 24, none, .mv (.t 0)⟩, ⟨some 25, none, .nilck (.t 24)⟩, ⟨some 26, none, .fld 1 (.t 25)⟩, ⟨some 27, none, .ld none (.t 26)⟩, ⟨some 28, none, .mv (.t 0)⟩, ⟨some 29, none, .nilck (.t 28)⟩, ⟨some 30, none, .fld 0 (.t 29)⟩, ⟨some 31, none, .ld none (.t 30)⟩, ⟨some 32, none, .len (.t 31)⟩, ⟨some 33, none, .bin .lss (.t 27) (.t 32)⟩] [0, 1, 5, 33]) (.cond (.t 33) (.seq
  (.region (some [34, 35, 36, 37, 38, 39, 40, 41, 42, 43, 44, 45]) [ ⟨some 34, none, .mv (.t 5)⟩, ⟨some 35, none, .mv (.t 0)⟩, ⟨some 36, none, .nilck (.t 35)⟩, ⟨some 37, none, .fld 0 (.t 36)⟩, ⟨some 38, none, .ld none (.t 37)⟩, ⟨some 39, none, .mv (.t 0)⟩, ⟨some 40, none, .nilck (.t 39)⟩, ⟨some 41, none, .fld 1 (.t 40)⟩, ⟨some 42, none, .ld none (.t 41)⟩, ⟨some 43, none, .idx 1 (.t 38) (.t 42)⟩, ⟨some 44, none, .ld none (.t 43)⟩, ⟨some 45, none, .conv .i64 (.t 44)⟩, ⟨some 46, none, .bin .add (.t 34) (.t 45)⟩, ⟨some 5, none, .mv (.t 46)⟩] [0, 1, 5])
  (.region none [ ⟨some 47, none, .mv (.t 0)⟩, ⟨some 48, none, .mv (.t 0)⟩, ⟨some 49, none, .nilck (.t 48)⟩, ⟨some 50, none, .fld 1 (.t 49)⟩, ⟨some 51, none, .ld none (.t 50)⟩, ⟨some 52, none, .bin .add (.t 51) (.c (.int .i64 1))⟩, ⟨some 53, none, .nilck (.t 47)⟩, ⟨some 54, none, .fld 1 (.t 53)⟩, ⟨none, none, .st none (.t 54) (.t 52)⟩] [0, 1, 5])) .skip)) (.seq
  (.region none [ ⟨some 55, none, .mv (.t 5)⟩, ⟨some 56, none, .mv (.t 1)⟩, ⟨some 57, none, .bin .rem (.t 55) (.t 56)⟩, ⟨some 4, none, .mv (.t 57)⟩] [0, 1, 4]) .ret))))))

def c_spec_l03Draw : F where
 np := 2
 rs := [.cell 4 (some 1)]
 fix := [0, 1]
 body :=
  (.seq
  (.region none [ ⟨some 4, none, .alloc [(.slice none 0 0)]⟩] [0, 1, 4]) (.seq
  (.region none [ ⟨some 6, none, .mvs 0⟩, ⟨some 7, none, .mv (.t 1)⟩, ⟨some 8, none, .calls (.f 444) (.t 6) 0 [(.t 7)]⟩, ⟨some 5, none, .asg (.t 8)⟩] [0, 1, 4, 5]) (.seq (.seq
  (.region none [ ⟨some 9, none, .mvs 0⟩, ⟨some 10, none, .calls (.f 336) (.t 9) 0 [(.c (.int .i64 2))]⟩, ⟨some 11, none, .bin .eql (.t 10) (.c (.int .i64 0))⟩] [0, 1, 4, 5, 11]) (.cond (.t 11)
  (.region none [ ⟨some 12, none, .mv (.t 5)⟩, ⟨some 13, none, .mvs 0⟩, ⟨some 14, none, .mv (.t 5)⟩, ⟨some 15, none, .len (.t 14)⟩, ⟨some 16, none, .calls (.f 338) (.t 13) 0 [(.t 15)]⟩, ⟨some 17, none, .call (.f 303) [((.t 12), .r), ((.t 16), .r)]⟩, ⟨some 5, none, .asg (.t 17)⟩] [0, 1, 4, 5]) .skip)) (.seq
  (.region none [ ⟨some 18, none, .mv (.t 5)⟩, ⟨some 19, none, .build [(.slice none 0 0)] [(0, 1, (.t 18))]⟩, ⟨none, none, .st (some 1) (.t 4) (.t 19)⟩] [0, 1, 4]) .ret))))

def c_spec_l03DrawTable : F where
 np := 2
 rs := [.t 4]
 fix := [0, 1]
 body :=
  (.seq
  (.region none [ ⟨some 4, none, .asg (.c (.slice none 0 0))⟩] [0, 1]) (.seq
  (.region none [ ⟨some 26, none, .mvs 0⟩, ⟨some 27, none, .mv (.t 1)⟩, ⟨some 28, none, .calls (.f 336) (.t 26) 0 [(.t 27)]⟩, ⟨some 29, none, .bin .add (.c (.int .i64 1)) (.t 28)⟩, ⟨some 5, none, .mv (.t 29)⟩] [0, 1, 5]) (.seq (.seq
  (.region none [ ⟨some 30, none, .mvs 0⟩, ⟨some 31, none, .calls (.f 336) (.t 30) 0 [(.c (.int .i64 5))]⟩] [0, 1, 5, 31]) (.block 0 (.seq
  (.region none [ ⟨some 33, none, .bin .eql (.t 31) (.c (.int .i64 0))⟩, ⟨some 32, none, .mv (.t 33)⟩] [0, 1, 5, 31, 32]) (.cond (.t 32) (.seq
  (.region none [ ⟨some 34, none, .mvs 0⟩, ⟨some 35, none, .mv (.t 5)⟩, ⟨some 36, none, .calls (.f 338) (.t 34) 0 [(.t 35)]⟩, ⟨some 6, none, .asg (.t 36)⟩] [0, 1, 5, 6]) (.seq
  (.region none [ ⟨some 37, none, .bsl []⟩, ⟨some 7, none, .asg (.t 37)⟩] [0, 1, 5, 6, 7]) (.seq (.seq
  (.region none [ ⟨some 8, none, .mv (.c (.int .i64 0))⟩] [0, 1, 5, 6, 7, 8]) (.block 1 (.loop (.seq (.seq
  (.region none [ ⟨some 38, none, .mv (.t 8)⟩, ⟨some 39, none, .mv (.t 5)⟩, ⟨some 40, none, .bin .lss (.t 38) (.t 39)⟩] [0, 1, 5, 6, 7, 8, 40]) (.cond (.t 40) .skip (.exit 1))) (.seq (.block 2
  (.region none [ ⟨some 43, none, .mv (.t 7)⟩, ⟨some 44, none, .mv (.t 6)⟩, ⟨some 45, none, .call (.f 31) [((.t 44), .r)]⟩, ⟨some 46, none, .bsl [(.t 45)]⟩, ⟨some 47, none, .app true 1 (.t 43) (.t 46)⟩, ⟨some 7, none, .asg (.t 47)⟩] [0, 1, 5, 6, 7, 8]))
  (.region none [ ⟨some 41, none, .mv (.t 8)⟩, ⟨some 42, none, .bin .add (.t 41) (.c (.int .i64 1))⟩, ⟨some 8, none, .mv (.t 42)⟩] [0, 1, 5, 6, 7, 8])))))) (.seq
  (.region none [ ⟨some 48, none, .mv (.t 7)⟩, ⟨some 4, none, .asg (.t 48)⟩] [0, 1, 4]) .ret)))) (.seq
  (.region none [ ⟨some 50, none, .bin .eql (.t 31) (.c (.int .i64 1))⟩, ⟨some 49, none, .mv (.t 50)⟩] [0, 1, 5, 31, 49]) (.cond (.t 49) (.seq
  (.region none [ ⟨some 51, none, .mv (.t 5)⟩, ⟨some 52, none, .mv (.t 5)⟩, ⟨some 53, none, .bin .sub (.t 52) (.c (.int .i64 1))⟩, ⟨some 54, none, .mv (.t 5)⟩, ⟨some 55, none, .bin .rem (.c (.int .i64 2)) (.t 54)⟩, ⟨some 56, none, .call (.f 455) [((.t 51), .r), ((.t 53), .r), ((.t 55), .r)]⟩, ⟨some 4, none, .asg (.t 56)⟩] [0, 1, 4]) .ret) (.seq
  (.region none [ ⟨some 58, none, .bin .eql (.t 31) (.c (.int .i64 2))⟩, ⟨some 57, none, .mv (.t 58)⟩] [0, 1, 5, 31, 57]) (.cond (.t 57) (.seq
  (.region none [ ⟨some 9, none, .mv (.c (.int .i64 0))⟩] [0, 1, 5, 9]) (.block 3 (.loop (.seq (.seq
  (.region none [ ⟨some 59, none, .mv (.t 9)⟩, ⟨some 60, none, .bin .lss (.t 59) (.c (.int .i64 6))⟩] [0, 1, 5, 9, 60]) (.cond (.t 60) .skip (.exit 3))) (.seq (.block 4 (.seq
  (.region none [ ⟨some 63, none, .mvs 0⟩, ⟨some 64, none, .mv (.t 5)⟩, ⟨some 65, none, .calls (.f 336) (.t 63) 0 [(.t 64)]⟩, ⟨some 10, none, .mv (.t 65)⟩] [0, 1, 5, 9, 10]) (.seq
  (.region none [ ⟨some 66, none, .mv (.t 10)⟩, ⟨some 67, none, .mv (.t 5)⟩, ⟨some 68, none, .call (.f 456) [((.t 66), .r), ((.t 67), .r)]⟩] [0, 1, 5, 9, 10, 68]) (.cond (.t 68) (.seq
  (.region none [ ⟨some 69, none, .mv (.t 5)⟩, ⟨some 70, none, .mv (.t 10)⟩, ⟨some 71, none, .mv (.t 10)⟩, ⟨some 72, none, .bin .sub (.c (.int .i64 1)) (.t 71)⟩, ⟨some 73, none, .mv (.t 5)⟩, ⟨some 74, none, .bin .add (.t 72) (.t 73)⟩, ⟨some 75, none, .mv (.t 5)⟩, ⟨some 76, none, .bin .rem (.t 74) (.t 75)⟩, ⟨some 77, none, .call (.f 455) [((.t 69), .r), ((.t 70), .r), ((.t 76), .r)]⟩, ⟨some 4, none, .asg (.t 77)⟩] [0, 1, 4]) .ret) .skip))))
  (.region none [ ⟨some 61, none, .mv (.t 9)⟩, ⟨some 62, none, .bin .add (.t 61) (.c (.int .i64 1))⟩, ⟨some 9, none, .mv (.t 62)⟩] [0, 1, 5, 9])))))) (.seq
  (.region none [ ⟨some 79, none, .bin .eql (.t 31) (.c (.int .i64 3))⟩, ⟨some 78, none, .mv (.t 79)⟩] [0, 1, 5, 78]) (.cond (.t 78) (.seq
  (.region none [ ⟨some 80, none, .mv (.t 1)⟩, ⟨some 81, none, .bin .geq (.t 80) (.c (.int .i64 6))⟩] [0, 1, 5, 81]) (.cond (.t 81) (.seq
  (.region none [ ⟨some 82, none, .call (.f 457) [((.c (.int .i64 3)), .r)]⟩, ⟨some 83, none, .bsl []⟩, ⟨some 11, none, .asg (.t 82)⟩, ⟨some 12, none, .asg (.t 83)⟩] [0, 1, 11, 12]) (.seq (.seq
  (.region none [ ⟨some 84, none, .mvs 0⟩, ⟨some 85, none, .calls (.f 336) (.t 84) 0 [(.c (.int .i64 2))]⟩, ⟨some 86, none, .bin .eql (.t 85) (.c (.int .i64 0))⟩] [0, 1, 11, 12, 86]) (.cond (.t 86)
  (.region none [ ⟨some 87, none, .bsl [(.c (.int .i64 0)), (.c (.int .i64 2)), (.c (.int .i64 1))]⟩, ⟨some 88, none, .bsl [(.c (.int .i64 1)), (.c (.int .i64 0)), (.c (.int .i64 2))]⟩, ⟨some 89, none, .bsl [(.c (.int .i64 2)), (.c (.int .i64 1)), (.c (.int .i64 0))]⟩, ⟨some 90, none, .bsl [(.t 87), (.t 88), (.t 89)]⟩, ⟨some 11, none, .asg (.t 90)⟩] [0, 1, 11, 12]) .skip)) (.seq (.seq
  (.region none [ ⟨some 13, none, .mv (.c (.int .i64 0))⟩] [0, 1, 11, 12, 13]) (.block 5 (.loop (.seq (.seq
  (.region none [ ⟨some 91, none, .mv (.t 13)⟩, ⟨some 92, none, .mv (.t 11)⟩, ⟨some 93, none, .len (.t 92)⟩, ⟨some 94, none, .bin .lss (.t 91) (.t 93)⟩] [0, 1, 11, 12, 13, 94]) (.cond (.t 94) .skip (.exit 5))) (.seq (.block 6 (.seq
  (.region none [ ⟨some 97, none, .bsl []⟩, ⟨some 14, none, .asg (.t 97)⟩] [0, 1, 11, 12, 13, 14]) (.seq (.seq
  (.region none [ ⟨some 15, none, .mv (.c (.int .i64 0))⟩] [0, 1, 11, 12, 13, 14, 15]) (.block 7 (.loop (.seq (.seq
  (.region none [ ⟨some 98, none, .mv (.t 15)⟩, ⟨some 99, none, .mv (.t 11)⟩, ⟨some 100, none, .len (.t 99)⟩, ⟨some 101, none, .bin .lss (.t 98) (.t 100)⟩] [0, 1, 11, 12, 13, 14, 15, 101]) (.cond (.t 101) .skip (.exit 7))) (.seq (.block 8 (.seq
  (.region (some [104, 105, 106, 107, 108, 109, 110, 111, 112, 113, 114, 115, 116, 117]) [ ⟨some 104, none, .mv (.t 11)⟩, ⟨some 105, none, .mv (.t 13)⟩, ⟨some 106, none, .idx 1 (.t 104) (.t 105)⟩, ⟨some 107, none, .ld none (.t 106)⟩, ⟨some 108, none, .call (.f 304) [((.t 107), .r)]⟩, ⟨some 109, none, .mv (.t 11)⟩, ⟨some 110, none, .mv (.t 15)⟩, ⟨some 111, none, .idx 1 (.t 109) (.t 110)⟩, ⟨some 112, none, .ld none (.t 111)⟩, ⟨some 113, none, .call (.f 279) [((.t 108), .r), ((.t 112), .r)]⟩, ⟨some 114, none, .mv (.t 11)⟩, ⟨some 115, none, .mv (.t 13)⟩, ⟨some 116, none, .idx 1 (.t 114) (.t 115)⟩, ⟨some 117, none, .ld none (.t 116)⟩, ⟨some 118, none, .call (.f 279) [((.t 113), .r), ((.t 117), .r)]⟩, ⟨some 16, none, .asg (.t 118)⟩] [0, 1, 11, 12, 13, 14, 15, 16]) (.seq
  (.region none [ ⟨some 17, none, .mv (.c (.int .i64 0))⟩] [0, 1, 11, 12, 13, 14, 15, 16, 17]) (.seq (.block 9 (.loop (.seq (.seq
  (.region none [ ⟨some 119, none, .mv (.t 11)⟩, ⟨some 120, none, .mv (.t 17)⟩, ⟨some 121, none, .idx 1 (.t 119) (.t 120)⟩, ⟨some 122, none, .ld none (.t 121)⟩, ⟨some 123, none, .mv (.t 16)⟩, ⟨some 124, none, .call (.f 67) [((.t 122), .r), ((.t 123), .r)]⟩, ⟨some 125, none, .un .not (.t 124)⟩] [0, 1, 11, 12, 13, 14, 15, 16, 17, 125]) (.cond (.t 125) .skip (.exit 9))) (.block 10
  (.region none [ ⟨some 126, none, .mv (.t 17)⟩, ⟨some 127, none, .bin .add (.t 126) (.c (.int .i64 1))⟩, ⟨some 17, none, .mv (.t 127)⟩] [0, 1, 11, 12, 13, 14, 15, 16, 17])))))
  (.region none [ ⟨some 128, none, .mv (.t 14)⟩, ⟨some 129, none, .mv (.t 17)⟩, ⟨some 130, none, .bsl [(.t 129)]⟩, ⟨some 131, none, .app true 1 (.t 128) (.t 130)⟩, ⟨some 14, none, .asg (.t 131)⟩] [0, 1, 11, 12, 13, 14, 15])))))
  (.region none [ ⟨some 102, none, .mv (.t 15)⟩, ⟨some 103, none, .bin .add (.t 102) (.c (.int .i64 1))⟩, ⟨some 15, none, .mv (.t 103)⟩] [0, 1, 11, 12, 13, 14, 15]))))))
  (.region none [ ⟨some 132, none, .mv (.t 12)⟩, ⟨some 133, none, .mv (.t 14)⟩, ⟨some 134, none, .bsl [(.t 133)]⟩, ⟨some 135, none, .app true 1 (.t 132) (.t 134)⟩, ⟨some 12, none, .asg (.t 135)⟩] [0, 1, 11, 12, 13]))))
  (.region none [ ⟨some 95, none, .mv (.t 13)⟩, ⟨some 96, none, .bin .add (.t 95) (.c (.int .i64 1))⟩, ⟨some 13, none, .mv (.t 96)⟩] [0, 1, 11, 12, 13])))))) (.seq
  (.region none [ ⟨some 136, none, .mv (.t 12)⟩, ⟨some 4, none, .asg (.t 136)⟩] [0, 1, 4]) .ret)))) .skip)) .skip)))))))))) (.seq
  (.region none [ ⟨some 137, none, .mvs 0⟩, ⟨some 138, none, .mv (.t 5)⟩, ⟨some 139, none, .calls (.f 336) (.t 137) 0 [(.t 138)]⟩, ⟨some 18, none, .mv (.t 139)⟩] [0, 1, 5, 18]) (.seq
  (.region (some [140, 141, 142, 143, 144, 145, 146, 147, 148, 149, 150, 151, 152, 153, 154, 155]) [ ⟨some 140, none, .mv (.t 18)⟩, ⟨some 141, none, .mm true (.c (.int .i64 1)) (.t 140)⟩, ⟨some 142, none, .mv (.t 18)⟩, ⟨some 143, none, .mm true (.c (.int .i64 1)) (.t 142)⟩, ⟨some 144, none, .bin .sub (.t 143) (.c (.int .i64 1))⟩, ⟨some 145, none, .mv (.t 18)⟩, ⟨some 146, none, .mm true (.c (.int .i64 1)) (.t 145)⟩, ⟨some 147, none, .bin .rem (.c (.int .i64 2)) (.t 146)⟩, ⟨some 148, none, .call (.f 455) [((.t 141), .r), ((.t 144), .r), ((.t 147), .r)]⟩, ⟨some 149, none, .mv (.t 5)⟩, ⟨some 150, none, .mv (.t 18)⟩, ⟨some 151, none, .bin .sub (.t 149) (.t 150)⟩, ⟨some 152, none, .mv (.t 5)⟩, ⟨some 153, none, .mv (.t 18)⟩, ⟨some 154, none, .bin .sub (.t 152) (.t 153)⟩, ⟨some 155, none, .bin .rem (.c (.int .i64 1)) (.t 154)⟩, ⟨some 156, none, .call (.f 455) [((.t 151), .r), ((.t 155), .r), ((.c (.int .i64 0)), .r)]⟩, ⟨some 19, none, .asg (.t 148)⟩, ⟨some 20, none, .asg (.t 156)⟩] [0, 1, 5, 18, 19, 20]) (.seq (.seq
  (.region none [ ⟨some 157, none, .mv (.t 18)⟩, ⟨some 158, none, .bin .eql (.t 157) (.c (.int .i64 0))⟩] [0, 1, 5, 18, 19, 20, 158]) (.cond (.t 158) (.seq
  (.region none [ ⟨some 159, none, .mv (.t 20)⟩, ⟨some 4, none, .asg (.t 159)⟩] [0, 1, 4]) .ret) .skip)) (.seq
  (.region none [ ⟨some 160, none, .mvs 0⟩, ⟨some 161, none, .mv (.t 5)⟩, ⟨some 162, none, .mv (.t 18)⟩, ⟨some 163, none, .bin .sub (.t 161) (.t 162)⟩, ⟨some 164, none, .calls (.f 338) (.t 160) 0 [(.t 163)]⟩, ⟨some 21, none, .asg (.t 164)⟩] [0, 1, 5, 18, 19, 20, 21]) (.seq
  (.region none [ ⟨some 165, none, .bsl []⟩, ⟨some 22, none, .asg (.t 165)⟩] [0, 1, 5, 18, 19, 20, 21, 22]) (.seq (.seq
  (.region none [ ⟨some 23, none, .mv (.c (.int .i64 0))⟩] [0, 1, 5, 18, 19, 20, 21, 22, 23]) (.block 11 (.loop (.seq (.seq
  (.region none [ ⟨some 166, none, .mv (.t 23)⟩, ⟨some 167, none, .mv (.t 5)⟩, ⟨some 168, none, .bin .lss (.t 166) (.t 167)⟩] [0, 1, 5, 18, 19, 20, 21, 22, 23, 168]) (.cond (.t 168) .skip (.exit 11))) (.seq (.block 12 (.seq
  (.region none [ ⟨some 171, none, .bsl []⟩, ⟨some 24, none, .asg (.t 171)⟩] [0, 1, 5, 18, 19, 20, 21, 22, 23, 24]) (.seq (.seq
  (.region none [ ⟨some 25, none, .mv (.c (.int .i64 0))⟩] [0, 1, 5, 18, 19, 20, 21, 22, 23, 24, 25]) (.block 13 (.loop (.seq (.seq
  (.region none [ ⟨some 172, none, .mv (.t 25)⟩, ⟨some 173, none, .mv (.t 5)⟩, ⟨some 174, none, .bin .lss (.t 172) (.t 173)⟩] [0, 1, 5, 18, 19, 20, 21, 22, 23, 24, 25, 174]) (.cond (.t 174) .skip (.exit 13))) (.seq (.block 14 (.block 15 (.seq
  (.region none [ ⟨some 182, none, .mv (.t 23)⟩, ⟨some 183, none, .mv (.t 18)⟩, ⟨some 184, none, .bin .lss (.t 182) (.t 183)⟩, ⟨some 185, none, .mv (.t 184)⟩, ⟨some 186, (some (185, true)), .mv (.t 25)⟩, ⟨some 187, (some (185, true)), .mv (.t 18)⟩, ⟨some 188, (some (185, true)), .bin .lss (.t 186) (.t 187)⟩, ⟨some 189, none, .pick (.t 185) (.t 188) (.c (.bool false))⟩, ⟨some 181, none, .mv (.t 189)⟩] [0, 1, 5, 18, 19, 20, 21, 22, 23, 24, 25, 181]) (.cond (.t 181)
  (.region none [ ⟨some 190, none, .mv (.t 24)⟩, ⟨some 191, none, .mv (.t 19)⟩, ⟨some 192, none, .mv (.t 23)⟩, ⟨some 193, none, .idx 1 (.t 191) (.t 192)⟩, ⟨some 194, none, .ld none (.t 193)⟩, ⟨some 195, none, .mv (.t 25)⟩, ⟨some 196, none, .idx 1 (.t 194) (.t 195)⟩, ⟨some 197, none, .ld none (.t 196)⟩, ⟨some 198, none, .bsl [(.t 197)]⟩, ⟨some 199, none, .app true 1 (.t 190) (.t 198)⟩, ⟨some 24, none, .asg (.t 199)⟩] [0, 1, 5, 18, 19, 20, 21, 22, 23, 24, 25]) (.seq
  (.region none [ ⟨some 201, none, .mv (.t 23)⟩, ⟨some 202, none, .mv (.t 18)⟩, ⟨some 203, none, .bin .geq (.t 201) (.t 202)⟩, ⟨some 204, none, .mv (.t 203)⟩, ⟨some 205, (some (204, true)), .mv (.t 25)⟩, ⟨some 206, (some (204, true)), .mv (.t 18)⟩, ⟨some 207, (some (204, true)), .bin .geq (.t 205) (.t 206)⟩, ⟨some 208, none, .pick (.t 204) (.t 207) (.c (.bool false))⟩, ⟨some 200, none, .mv (.t 208)⟩] [0, 1, 5, 18, 19, 20, 21, 22, 23, 24, 25, 200]) (.cond (.t 200)
  (.region none [ ⟨some 209, none, .mv (.t 24)⟩, ⟨some 210, none, .mv (.t 18)⟩, ⟨some 211, none, .mv (.t 21)⟩, ⟨some 212, none, .mv (.t 20)⟩, ⟨some 213, none, .mv (.t 23)⟩, ⟨some 214, none, .mv (.t 18)⟩, ⟨some 215, none, .bin .sub (.t 213) (.t 214)⟩, ⟨some 216, none, .idx 1 (.t 212) (.t 215)⟩, ⟨some 217, none, .ld none (.t 216)⟩, ⟨some 218, none, .mv (.t 25)⟩, ⟨some 219, none, .mv (.t 18)⟩, ⟨some 220, none, .bin .sub (.t 218) (.t 219)⟩, ⟨some 221, none, .idx 1 (.t 217) (.t 220)⟩, ⟨some 222, none, .ld none (.t 221)⟩, ⟨some 223, none, .idx 1 (.t 211) (.t 222)⟩, ⟨some 224, none, .ld none (.t 223)⟩, ⟨some 225, none, .bin .add (.t 210) (.t 224)⟩, ⟨some 226, none, .bsl [(.t 225)]⟩, ⟨some 227, none, .app true 1 (.t 209) (.t 226)⟩, ⟨some 24, none, .asg (.t 227)⟩] [0, 1, 5, 18, 19, 20, 21, 22, 23, 24, 25])
  (.region none [ ⟨some 177, none, .mv (.t 24)⟩, ⟨some 178, none, .mv (.t 25)⟩, ⟨some 179, none, .bsl [(.t 178)]⟩, ⟨some 180, none, .app true 1 (.t 177) (.t 179)⟩, ⟨some 24, none, .asg (.t 180)⟩] [0, 1, 5, 18, 19, 20, 21, 22, 23, 24, 25])))))))
  (.region none [ ⟨some 175, none, .mv (.t 25)⟩, ⟨some 176, none, .bin .add (.t 175) (.c (.int .i64 1))⟩, ⟨some 25, none, .mv (.t 176)⟩] [0, 1, 5, 18, 19, 20, 21, 22, 23, 24, 25]))))))
  (.region none [ ⟨some 228, none, .mv (.t 22)⟩, ⟨some 229, none, .mv (.t 24)⟩, ⟨some 230, none, .bsl [(.t 229)]⟩, ⟨some 231, none, .app true 1 (.t 228) (.t 230)⟩, ⟨some 22, none, .asg (.t 231)⟩] [0, 1, 5, 18, 19, 20, 21, 22, 23]))))
  (.region none [ ⟨some 169, none, .mv (.t 23)⟩, ⟨some 170, none, .bin .add (.t 169) (.c (.int .i64 1))⟩, ⟨some 23, none, .mv (.t 170)⟩] [0, 1, 5, 18, 19, 20, 21, 22, 23])))))) (.seq
  (.region none [ ⟨some 232, none, .mv (.t 22)⟩, ⟨some 4, none, .asg (.t 232)⟩] [0, 1, 4]) .ret))))))))))

def c_spec_l03DrawPerm : F where
 np := 2
 rs := [.t 4]
 fix := [0, 1]
 body :=
  (.seq
  (.region none [ ⟨some 4, none, .asg (.c (.slice none 0 0))⟩] [0, 1]) (.seq
  (.region none [ ⟨some 9, none, .bsl []⟩, ⟨some 5, none, .asg (.t 9)⟩] [0, 1, 5]) (.seq (.seq
  (.region none [ ⟨some 6, none, .mv (.c (.int .i64 0))⟩] [0, 1, 5, 6]) (.block 0 (.loop (.seq (.seq
  (.region none [ ⟨some 10, none, .mv (.t 6)⟩, ⟨some 11, none, .mv (.t 1)⟩, ⟨some 12, none, .bin .lss (.t 10) (.t 11)⟩] [0, 1, 5, 6, 12]) (.cond (.t 12) .skip (.exit 0))) (.seq (.block 1 (.seq
  (.region none [ ⟨some 15, none, .mvs 0⟩, ⟨some 16, none, .mv (.t 6)⟩, ⟨some 17, none, .bin .add (.t 16) (.c (.int .i64 1))⟩, ⟨some 18, none, .calls (.f 336) (.t 15) 0 [(.t 17)]⟩, ⟨some 7, none, .mv (.t 18)⟩] [0, 1, 5, 6, 7]) (.seq
  (.region none [ ⟨some 19, none, .mv (.t 6)⟩, ⟨some 20, none, .bsl [(.t 19)]⟩, ⟨some 21, none, .mv (.t 5)⟩, ⟨some 22, none, .mv (.t 7)⟩, ⟨some 23, none, .sl 1 (.t 21) (some (.t 22)) none⟩, ⟨some 24, none, .app false 1 (.t 20) (.t 23)⟩, ⟨some 8, none, .asg (.t 24)⟩] [0, 1, 5, 6, 7, 8])
  (.region none [ ⟨some 25, none, .bsl []⟩, ⟨some 26, none, .mv (.t 5)⟩, ⟨some 27, none, .mv (.t 7)⟩, ⟨some 28, none, .sl 1 (.t 26) none (some (.t 27))⟩, ⟨some 29, none, .app false 1 (.t 25) (.t 28)⟩, ⟨some 30, none, .mv (.t 8)⟩, ⟨some 31, none, .app false 1 (.t 29) (.t 30)⟩, ⟨some 5, none, .asg (.t 31)⟩] [0, 1, 5, 6]))))
  (.region none [ ⟨some 13, none, .mv (.t 6)⟩, ⟨some 14, none, .bin .add (.t 13) (.c (.int .i64 1))⟩, ⟨some 6, none, .mv (.t 14)⟩] [0, 1, 5, 6])))))) (.seq
  (.region none [ ⟨some 32, none, .mv (.t 5)⟩, ⟨some 4, none, .asg (.t 32)⟩] [0, 1, 4]) .ret))))

def c_spec_l03Alexander : F where
 np := 3
 rs := [.t 6]
 body :=
  (.seq
  (.region none [ ⟨some 6, none, .asg (.c (.slice none 0 0))⟩] [0, 1, 2]) (.seq
  (.region none [ ⟨some 11, none, .bsl []⟩, ⟨some 7, none, .asg (.t 11)⟩] [0, 1, 2, 7]) (.seq (.seq
  (.region none [ ⟨some 8, none, .mv (.c (.int .i64 0))⟩] [0, 1, 2, 7, 8]) (.block 0 (.loop (.seq (.seq
  (.region none [ ⟨some 12, none, .mv (.t 8)⟩, ⟨some 13, none, .mv (.t 0)⟩, ⟨some 14, none, .bin .lss (.t 12) (.t 13)⟩] [0, 1, 2, 7, 8, 14]) (.cond (.t 14) .skip (.exit 0))) (.seq (.block 1 (.seq
  (.region none [ ⟨some 17, none, .bsl []⟩, ⟨some 9, none, .asg (.t 17)⟩] [0, 1, 2, 7, 8, 9]) (.seq (.seq
  (.region none [ ⟨some 10, none, .mv (.c (.int .i64 0))⟩] [0, 1, 2, 7, 8, 9, 10]) (.block 2 (.loop (.seq (.seq
  (.region none [ ⟨some 18, none, .mv (.t 10)⟩, ⟨some 19, none, .mv (.t 0)⟩, ⟨some 20, none, .bin .lss (.t 18) (.t 19)⟩] [0, 1, 2, 7, 8, 9, 10, 20]) (.cond (.t 20) .skip (.exit 2))) (.seq (.block 3
  (.region none [ ⟨some 23, none, .mv (.t 9)⟩, ⟨some 24, none, .mv (.t 2)⟩, ⟨some 25, none, .mv (.t 8)⟩, ⟨some 26, none, .bin .mul (.t 24) (.t 25)⟩, ⟨some 27, none, .mv (.t 1)⟩, ⟨some 28, none, .mv (.t 10)⟩, ⟨some 29, none, .bin .mul (.t 27) (.t 28)⟩, ⟨some 30, none, .bin .add (.t 26) (.t 29)⟩, ⟨some 31, none, .mv (.t 0)⟩, ⟨some 32, none, .bin .rem (.t 30) (.t 31)⟩, ⟨some 33, none, .bsl [(.t 32)]⟩, ⟨some 34, none, .app true 1 (.t 23) (.t 33)⟩, ⟨some 9, none, .asg (.t 34)⟩] [0, 1, 2, 7, 8, 9, 10]))
  (.region none [ ⟨some 21, none, .mv (.t 10)⟩, ⟨some 22, none, .bin .add (.t 21) (.c (.int .i64 1))⟩, ⟨some 10, none, .mv (.t 22)⟩] [0, 1, 2, 7, 8, 9, 10]))))))
  (.region none [ ⟨some 35, none, .mv (.t 7)⟩, ⟨some 36, none, .mv (.t 9)⟩, ⟨some 37, none, .bsl [(.t 36)]⟩, ⟨some 38, none, .app true 1 (.t 35) (.t 37)⟩, ⟨some 7, none, .asg (.t 38)⟩] [0, 1, 2, 7, 8]))))
  (.region none [ ⟨some 15, none, .mv (.t 8)⟩, ⟨some 16, none, .bin .add (.t 15) (.c (.int .i64 1))⟩, ⟨some 8, none, .mv (.t 16)⟩] [0, 1, 2, 7, 8])))))) (.seq
  (.region none [ ⟨some 39, none, .mv (.t 7)⟩, ⟨some 6, none, .asg (.t 39)⟩] [6]) .ret))))

def c_spec_l03Coprime : F where
 np := 2
 rs := [.t 4]
 body :=
  (.seq
  (.region none [ ⟨some 4, none, .mv (.c (.bool false))⟩] [0, 1]) (.seq (.seq
  (.region none [ ⟨some 5, none, .mv (.c (.int .i64 2))⟩] [0, 1, 5]) (.block 0 (.loop (.seq (.seq
  (.region none [ ⟨some 6, none, .mv (.t 5)⟩, ⟨some 7, none, .mv (.t 1)⟩, ⟨some 8, none, .bin .leq (.t 6) (.t 7)⟩] [0, 1, 5, 8]) (.cond (.t 8) .skip (.exit 0))) (.seq (.block 1 (.seq
  (.region none [ ⟨some 11, none, .mv (.t 0)⟩, ⟨some 12, none, .mv (.t 5)⟩, ⟨some 13, none, .bin .rem (.t 11) (.t 12)⟩, ⟨some 14, none, .bin .eql (.t 13) (.c (.int .i64 0))⟩, ⟨some 15, none, .mv (.t 14)⟩, ⟨some 16, (some (15, true)), .mv (.t 1)⟩, ⟨some 17, (some (15, true)), .mv (.t 5)⟩, ⟨some 18, (some (15, true)), .bin .rem (.t 16) (.t 17)⟩, ⟨some 19, (some (15, true)), .bin .eql (.t 18) (.c (.int .i64 0))⟩, ⟨some 20, none, .pick (.t 15) (.t 19) (.c (.bool false))⟩] [0, 1, 5, 20]) (.cond (.t 20) (.seq
  (.region none [ ⟨some 4, none, .mv (.c (.bool false))⟩] [4]) .ret) .skip)))
  (.region none [ ⟨some 9, none, .mv (.t 5)⟩, ⟨some 10, none, .bin .add (.t 9) (.c (.int .i64 1))⟩, ⟨some 5, none, .mv (.t 10)⟩] [0, 1, 5])))))) (.seq
  (.region none [ ⟨some 4, none, .mv (.c (.bool true))⟩] [4]) .ret)))

def c_spec_l01Perms : F where
 np := 1
 rs := [.t 2]
 body :=
  (.seq
  (.region none [ ⟨some 2, none, .asg (.c (.slice none 0 0))⟩] [0]) (.seq
  (.region none [ ⟨some 3, none, .mv (.t 0)⟩, ⟨some 4, none, .bsl []⟩, ⟨some 5, none, .bsl []⟩, ⟨some 6, none, .callm (.f 466) [((.t 3), false), ((.t 4), false), ((.t 5), false)] []⟩, ⟨some 2, none, .asg (.t 6)⟩] [2]) .ret))

def c_spec_l01Grow : F where
 np := 3
 rs := [.t 6]
 fix := [0, 1]
 body :=
  (.seq
  (.region none [ ⟨some 6, none, .asg (.c (.slice none 0 0))⟩] [0, 1, 2]) (.seq (.seq
  (.region none [ ⟨some 8, none, .mv (.t 1)⟩, ⟨some 9, none, .len (.t 8)⟩, ⟨some 10, none, .mv (.t 0)⟩, ⟨some 11, none, .bin .eql (.t 9) (.t 10)⟩] [0, 1, 2, 11]) (.cond (.t 11) (.seq
  (.region none [ ⟨some 12, none, .mv (.t 2)⟩, ⟨some 13, none, .mv (.t 1)⟩, ⟨some 14, none, .bsl [(.t 13)]⟩, ⟨some 15, none, .app true 1 (.t 12) (.t 14)⟩, ⟨some 6, none, .asg (.t 15)⟩] [0, 1, 2, 6]) .ret) .skip)) (.seq (.seq
  (.region none [ ⟨some 7, none, .mv (.c (.int .i64 0))⟩] [0, 1, 2, 7]) (.block 0 (.loop (.seq (.seq
  (.region none [ ⟨some 16, none, .mv (.t 7)⟩, ⟨some 17, none, .mv (.t 0)⟩, ⟨some 18, none, .bin .lss (.t 16) (.t 17)⟩] [0, 1, 2, 7, 18]) (.cond (.t 18) .skip (.exit 0))) (.seq (.block 1 (.seq
  (.region none [ ⟨some 21, none, .mv (.t 1)⟩, ⟨some 22, none, .mv (.t 7)⟩, ⟨some 23, none, .call (.f 62) [((.t 21), .r), ((.t 22), .r)]⟩, ⟨some 24, none, .un .not (.t 23)⟩] [0, 1, 2, 7, 24]) (.cond (.t 24)
  (.region none [ ⟨some 25, none, .mv (.t 0)⟩, ⟨some 26, none, .mv (.t 1)⟩, ⟨some 27, none, .call (.f 31) [((.t 26), .r)]⟩, ⟨some 28, none, .mv (.t 7)⟩, ⟨some 29, none, .bsl [(.t 28)]⟩, ⟨some 30, none, .app true 1 (.t 27) (.t 29)⟩, ⟨some 31, none, .mv (.t 2)⟩, ⟨some 32, none, .callm (.f 466) [((.t 25), false), ((.t 30), false), ((.t 31), false)] []⟩, ⟨some 2, none, .asg (.t 32)⟩] [0, 1, 2, 7]) .skip)))
  (.region none [ ⟨some 19, none, .mv (.t 7)⟩, ⟨some 20, none, .bin .add (.t 19) (.c (.int .i64 1))⟩, ⟨some 7, none, .mv (.t 20)⟩] [0, 1, 2, 7])))))) (.seq
  (.region none [ ⟨some 33, none, .mv (.t 2)⟩, ⟨some 6, none, .asg (.t 33)⟩] [0, 1, 2, 6]) .ret))))

def c_spec_l03Solution : F where
 np := 1
 rs := [.cell 2 (some 2)]
 body :=
  (.seq
  (.region none [ ⟨some 1, none, .box (.t 0)⟩, ⟨some 2, none, .alloc [(.slice none 0 0), (.slice none 0 0)]⟩] [1, 2]) (.seq
  (.region none [ ⟨some 7, none, .fld 0 (.t 1)⟩, ⟨some 8, none, .ld none (.t 7)⟩, ⟨some 9, none, .call (.f 280) [((.t 8), .r)]⟩, ⟨some 10, none, .build [(.slice none 0 0), (.slice none 0 0)] [(0, 1, (.t 9))]⟩, ⟨some 3, none, .alloc [(.slice none 0 0), (.slice none 0 0)]⟩, ⟨none, none, .st (some 2) (.t 3) (.t 10)⟩] [1, 2, 3]) (.seq (.seq
  (.region none [ ⟨some 4, none, .mv (.c (.int .i64 0))⟩] [1, 2, 3, 4]) (.block 0 (.loop (.seq (.seq
  (.region none [ ⟨some 11, none, .mv (.t 4)⟩, ⟨some 12, none, .fld 0 (.t 1)⟩, ⟨some 13, none, .ld none (.t 12)⟩, ⟨some 14, none, .len (.t 13)⟩, ⟨some 15, none, .bin .lss (.t 11) (.t 14)⟩] [1, 2, 3, 4, 15]) (.cond (.t 15) .skip (.exit 0))) (.seq (.block 1 (.seq
  (.region none [ ⟨some 18, none, .bsl []⟩, ⟨some 5, none, .asg (.t 18)⟩] [1, 2, 3, 4, 5]) (.seq (.seq
  (.region none [ ⟨some 6, none, .mv (.c (.int .i64 0))⟩] [1, 2, 3, 4, 5, 6]) (.block 2 (.loop (.seq (.seq
  (.region none [ ⟨some 19, none, .mv (.t 6)⟩, ⟨some 20, none, .fld 0 (.t 1)⟩, ⟨some 21, none, .ld none (.t 20)⟩, ⟨some 22, none, .len (.t 21)⟩, ⟨some 23, none, .bin .lss (.t 19) (.t 22)⟩] [1, 2, 3, 4, 5, 6, 23]) (.cond (.t 23) .skip (.exit 2))) (.seq (.block 3
  (.region none [ ⟨some 26, none, .mv (.t 5)⟩, ⟨some 27, none, .mv (.t 4)⟩, ⟨some 28, none, .bsl [(.t 27)]⟩, ⟨some 29, none, .app true 1 (.t 26) (.t 28)⟩, ⟨some 5, none, .asg (.t 29)⟩] [1, 2, 3, 4, 5, 6]))
  (.region none [ ⟨some 24, none, .mv (.t 6)⟩, ⟨some 25, none, .bin .add (.t 24) (.c (.int .i64 1))⟩, ⟨some 6, none, .mv (.t 25)⟩] [1, 2, 3, 4, 5, 6]))))))
  (.region none [ ⟨some 30, none, .fld 1 (.t 3)⟩, ⟨some 31, none, .ld none (.t 30)⟩, ⟨some 32, none, .mv (.t 5)⟩, ⟨some 33, none, .bsl [(.t 32)]⟩, ⟨some 34, none, .app true 1 (.t 31) (.t 33)⟩, ⟨some 35, none, .fld 1 (.t 3)⟩, ⟨none, none, .st none (.t 35) (.t 34)⟩] [1, 2, 3, 4]))))
  (.region none [ ⟨some 16, none, .mv (.t 4)⟩, ⟨some 17, none, .bin .add (.t 16) (.c (.int .i64 1))⟩, ⟨some 4, none, .mv (.t 17)⟩] [1, 2, 3, 4])))))) (.seq
  (.region none [ ⟨some 36, none, .ld (some 2) (.t 3)⟩, ⟨none, none, .st (some 2) (.t 2) (.t 36)⟩] [2]) .ret))))

def c_spec_l03DrawAny : F where
 np := 2
 rs := [.cell 4 (some 1)]
 fix := [0, 1]
 body :=
  (.seq
  (.region none [ ⟨some 4, none, .alloc [(.slice none 0 0)]⟩] [0, 1, 4]) (.seq
  (.region none [ ⟨some 7, none, .mvs 0⟩, ⟨some 8, none, .mv (.t 1)⟩, ⟨some 9, none, .calls (.f 401) (.t 7) 0 [(.t 8)]⟩, ⟨some 5, none, .alloc [(.slice none 0 0)]⟩, ⟨none, none, .st (some 1) (.t 5) (.t 9)⟩] [0, 1, 4, 5]) (.seq
  (.region none [ ⟨some 10, none, .fld 0 (.t 5)⟩, ⟨some 11, none, .ld none (.t 10)⟩, ⟨some 12, none, .len (.t 11)⟩, ⟨some 6, none, .mv (.t 12)⟩] [0, 1, 4, 5, 6]) (.seq (.seq
  (.region none [ ⟨some 13, none, .mvs 0⟩, ⟨some 14, none, .calls (.f 336) (.t 13) 0 [(.c (.int .i64 24))]⟩] [0, 1, 4, 5, 6, 14]) (.block 0 (.seq
  (.region none [ ⟨some 16, none, .bin .eql (.t 14) (.c (.int .i64 0))⟩, ⟨some 15, none, .mv (.t 16)⟩] [0, 1, 4, 5, 6, 14, 15]) (.cond (.t 15)
  (.region (some [17, 18, 19, 20, 21, 22, 23, 24]) [ ⟨some 17, none, .fld 0 (.t 5)⟩, ⟨some 18, none, .ld none (.t 17)⟩, ⟨some 19, none, .mvs 0⟩, ⟨some 20, none, .mv (.t 6)⟩, ⟨some 21, none, .calls (.f 336) (.t 19) 0 [(.t 20)]⟩, ⟨some 22, none, .mvs 0⟩, ⟨some 23, none, .mv (.t 6)⟩, ⟨some 24, none, .calls (.f 338) (.t 22) 0 [(.t 23)]⟩, ⟨some 25, none, .idx 1 (.t 18) (.t 21)⟩, ⟨none, none, .st none (.t 25) (.t 24)⟩] [0, 1, 4, 5]) (.seq
  (.region none [ ⟨some 27, none, .bin .eql (.t 14) (.c (.int .i64 1))⟩, ⟨some 26, none, .mv (.t 27)⟩] [0, 1, 4, 5, 6, 14, 26]) (.cond (.t 26)
  (.region (some [28, 29, 30, 31, 32, 33, 34, 35, 36, 37, 38, 39, 40, 41]) [ ⟨some 28, none, .fld 0 (.t 5)⟩, ⟨some 29, none, .ld none (.t 28)⟩, ⟨some 30, none, .mvs 0⟩, ⟨some 31, none, .mv (.t 6)⟩, ⟨some 32, none, .calls (.f 336) (.t 30) 0 [(.t 31)]⟩, ⟨some 33, none, .idx 1 (.t 29) (.t 32)⟩, ⟨some 34, none, .ld none (.t 33)⟩, ⟨some 35, none, .mvs 0⟩, ⟨some 36, none, .mv (.t 6)⟩, ⟨some 37, none, .calls (.f 336) (.t 35) 0 [(.t 36)]⟩, ⟨some 38, none, .mvs 0⟩, ⟨some 39, none, .mv (.t 6)⟩, ⟨some 40, none, .bin .add (.t 39) (.c (.int .i64 1))⟩, ⟨some 41, none, .calls (.f 336) (.t 38) 0 [(.t 40)]⟩, ⟨some 42, none, .idx 1 (.t 34) (.t 37)⟩, ⟨none, none, .st none (.t 42) (.t 41)⟩] [0, 1, 4, 5]) (.seq
  (.region none [ ⟨some 44, none, .bin .eql (.t 14) (.c (.int .i64 2))⟩, ⟨some 43, none, .mv (.t 44)⟩] [0, 1, 4, 5, 43]) (.cond (.t 43)
  (.region none [ ⟨some 45, none, .fld 0 (.t 5)⟩, ⟨some 46, none, .ld none (.t 45)⟩, ⟨some 47, none, .sl 1 (.t 46) (some (.c (.int .i64 1))) none⟩, ⟨some 48, none, .fld 0 (.t 5)⟩, ⟨none, none, .st none (.t 48) (.t 47)⟩] [0, 1, 4, 5]) .skip)))))))) (.seq
  (.region none [ ⟨some 49, none, .ld (some 1) (.t 5)⟩, ⟨none, none, .st (some 1) (.t 4) (.t 49)⟩] [0, 1, 4]) .ret)))))

def c_spec_l01From : F where
 np := 1
 rs := [.t 2]
 body :=
  (.seq
  (.region none [ ⟨some 2, none, .asg (.c (.pointer none))⟩] [0]) (.seq
  (.region none [ ⟨some 5, none, .mv (.t 0)⟩, ⟨some 6, none, .mv (.t 0)⟩, ⟨some 7, none, .len (.t 6)⟩, ⟨some 8, none, .conv .u64 (.t 7)⟩, ⟨some 9, none, .bin .add (.c (.int .u64 6553)) (.t 8)⟩, ⟨some 10, none, .build [(.slice none 0 0), (.int .i64 0), (.int .u64 0)] [(0, 1, (.t 5)), (2, 1, (.t 9))]⟩, ⟨some 11, none, .box (.t 10)⟩, ⟨some 3, none, .asg (.t 11)⟩] [0, 3]) (.seq (.seq
  (.region none [ ⟨some 4, none, .mv (.c (.int .i64 0))⟩] [0, 3, 4]) (.block 0 (.loop (.seq (.seq
  (.region none [ ⟨some 12, none, .mv (.t 4)⟩, ⟨some 13, none, .mv (.t 0)⟩, ⟨some 14, none, .len (.t 13)⟩, ⟨some 15, none, .bin .lss (.t 12) (.t 14)⟩, ⟨some 16, none, .mv (.t 15)⟩, ⟨some 17, (some (16, true)), .mv (.t 4)⟩, ⟨some 18, (some (16, true)), .bin .lss (.t 17) (.c (.int .i64 4096))⟩, ⟨some 19, none, .pick (.t 16) (.t 18) (.c (.bool false))⟩] [0, 3, 4, 19]) (.cond (.t 19) .skip (.exit 0))) (.seq (.block 1
  (.region (some [22, 23, 24, 25, 26, 27, 28, 29, 30, 31, 32, 33, 34]) [ ⟨some 22, none, .mv (.t 3)⟩, ⟨some 23, none, .mv (.t 3)⟩, ⟨some 24, none, .nilck (.t 23)⟩, ⟨some 25, none, .fld 2 (.t 24)⟩, ⟨some 26, none, .ld none (.t 25)⟩, ⟨some 27, none, .bin .mul (.t 26) (.c (.int .u64 1099511628211))⟩, ⟨some 28, none, .mv (.t 0)⟩, ⟨some 29, none, .mv (.t 4)⟩, ⟨some 30, none, .idx 1 (.t 28) (.t 29)⟩, ⟨some 31, none, .ld none (.t 30)⟩, ⟨some 32, none, .conv .u64 (.t 31)⟩, ⟨some 33, none, .bin .add (.t 27) (.t 32)⟩, ⟨some 34, none, .bin .add (.t 33) (.c (.int .u64 11))⟩, ⟨some 35, none, .nilck (.t 22)⟩, ⟨some 36, none, .fld 2 (.t 35)⟩, ⟨none, none, .st none (.t 36) (.t 34)⟩] [0, 3, 4]))
  (.region none [ ⟨some 20, none, .mv (.t 4)⟩, ⟨some 21, none, .bin .add (.t 20) (.c (.int .i64 1))⟩, ⟨some 4, none, .mv (.t 21)⟩] [0, 3, 4])))))) (.seq
  (.region none [ ⟨some 37, none, .mv (.t 3)⟩, ⟨some 2, none, .asg (.t 37)⟩] [2]) .ret))))

def c_laws_big : F where
 np := 1
 rs := [.t 2]
 body :=
  (.seq
  (.region none [ ⟨some 2, none, .mv (.c (.bool false))⟩] [0]) (.seq
  (.region none [ ⟨some 3, none, .mv (.t 0)⟩, ⟨some 4, none, .len (.t 3)⟩, ⟨some 5, none, .bin .gtr (.t 4) (.c (.int .i64 4096))⟩, ⟨some 2, none, .mv (.t 5)⟩] [2]) .ret))

def c_laws_likeInts : F where
 np := 2
 rs := [.t 4]
 body :=
  (.seq
  (.region none [ ⟨some 4, none, .mv (.c (.bool false))⟩] [0, 1]) (.seq (.seq
  (.region none [ ⟨some 6, none, .mv (.t 0)⟩, ⟨some 7, none, .len (.t 6)⟩, ⟨some 8, none, .mv (.t 1)⟩, ⟨some 9, none, .len (.t 8)⟩, ⟨some 10, none, .bin .neq (.t 7) (.t 9)⟩] [0, 1, 10]) (.cond (.t 10) (.seq
  (.region none [ ⟨some 4, none, .mv (.c (.bool false))⟩] [4]) .ret) .skip)) (.seq (.seq
  (.region none [ ⟨some 5, none, .mv (.c (.int .i64 0))⟩] [0, 1, 5]) (.block 0 (.loop (.seq (.seq
  (.region none [ ⟨some 11, none, .mv (.t 5)⟩, ⟨some 12, none, .mv (.t 0)⟩, ⟨some 13, none, .len (.t 12)⟩, ⟨some 14, none, .bin .lss (.t 11) (.t 13)⟩] [0, 1, 5, 14]) (.cond (.t 14) .skip (.exit 0))) (.seq (.block 1 (.seq
  (.region (some [17, 18, 19, 20, 21, 22, 23, 24]) [ ⟨some 17, none, .mv (.t 0)⟩, ⟨some 18, none, .mv (.t 5)⟩, ⟨some 19, none, .idx 1 (.t 17) (.t 18)⟩, ⟨some 20, none, .ld none (.t 19)⟩, ⟨some 21, none, .mv (.t 1)⟩, ⟨some 22, none, .mv (.t 5)⟩, ⟨some 23, none, .idx 1 (.t 21) (.t 22)⟩, ⟨some 24, none, .ld none (.t 23)⟩, ⟨some 25, none, .bin .neq (.t 20) (.t 24)⟩] [0, 1, 5, 25]) (.cond (.t 25) (.seq
  (.region none [ ⟨some 4, none, .mv (.c (.bool false))⟩] [4]) .ret) .skip)))
  (.region none [ ⟨some 15, none, .mv (.t 5)⟩, ⟨some 16, none, .bin .add (.t 15) (.c (.int .i64 1))⟩, ⟨some 5, none, .mv (.t 16)⟩] [0, 1, 5])))))) (.seq
  (.region none [ ⟨some 4, none, .mv (.c (.bool true))⟩] [4]) .ret))))

def c_impl_IsNondegenerate : F where
 np := 1
 rs := [.t 2, .t 3]
 body :=
  (.seq
  (.region none [ ⟨some 1, none, .box (.t 0)⟩, ⟨some 2, none, .mv (.c (.bool false))⟩, ⟨some 3, none, .mv (.c (.int .i64 0))⟩] [1]) (.seq (.seq
  (.region none [ ⟨some 4, none, .ld (some 2) (.t 1)⟩, ⟨some 5, none, .call (.f 59) [((.t 4), .r)]⟩, ⟨some 6, none, .un .not (.t 5)⟩] [1, 6]) (.cond (.t 6) (.seq
  (.region none [ ⟨some 2, none, .mv (.c (.bool false))⟩, ⟨some 3, none, .mv (.c (.int .i64 1))⟩] [2, 3]) .ret) .skip)) (.seq
  (.region none [ ⟨some 7, none, .ld (some 2) (.t 1)⟩, ⟨some 8, none, .call (.f 285) [((.t 7), .r)]⟩, ⟨some 2, none, .mv (.t 8)⟩, ⟨some 3, none, .mv (.c (.int .i64 0))⟩] [2, 3]) .ret)))

def c_impl_IsInvolutive : F where
 np := 1
 rs := [.t 2, .t 3]
 body :=
  (.seq
  (.region none [ ⟨some 1, none, .box (.t 0)⟩, ⟨some 2, none, .mv (.c (.bool false))⟩, ⟨some 3, none, .mv (.c (.int .i64 0))⟩] [1]) (.seq (.seq
  (.region none [ ⟨some 4, none, .ld (some 2) (.t 1)⟩, ⟨some 5, none, .call (.f 59) [((.t 4), .r)]⟩, ⟨some 6, none, .un .not (.t 5)⟩] [1, 6]) (.cond (.t 6) (.seq
  (.region none [ ⟨some 2, none, .mv (.c (.bool false))⟩, ⟨some 3, none, .mv (.c (.int .i64 1))⟩] [2, 3]) .ret) .skip)) (.seq
  (.region none [ ⟨some 7, none, .ld (some 2) (.t 1)⟩, ⟨some 8, none, .call (.f 298) [((.t 7), .r)]⟩, ⟨some 2, none, .mv (.t 8)⟩, ⟨some 3, none, .mv (.c (.int .i64 0))⟩] [2, 3]) .ret)))

def c_laws_same9 : F where
 np := 2
 rs := [.t 4]
 body :=
  (.seq
  (.region none [ ⟨some 4, none, .mv (.c (.bool false))⟩] [0, 1]) (.seq (.seq
  (.region none [ ⟨some 6, none, .mv (.t 0)⟩, ⟨some 7, none, .len (.t 6)⟩, ⟨some 8, none, .mv (.t 1)⟩, ⟨some 9, none, .len (.t 8)⟩, ⟨some 10, none, .bin .neq (.t 7) (.t 9)⟩] [0, 1, 10]) (.cond (.t 10) (.seq
  (.region none [ ⟨some 4, none, .mv (.c (.bool false))⟩] [4]) .ret) .skip)) (.seq (.seq
  (.region none [ ⟨some 5, none, .mv (.c (.int .i64 0))⟩] [0, 1, 5]) (.block 0 (.loop (.seq (.seq
  (.region none [ ⟨some 11, none, .mv (.t 5)⟩, ⟨some 12, none, .mv (.t 0)⟩, ⟨some 13, none, .len (.t 12)⟩, ⟨some 14, none, .bin .lss (.t 11) (.t 13)⟩] [0, 1, 5, 14]) (.cond (.t 14) .skip (.exit 0))) (.seq (.block 1 (.seq
  (.region (some [17, 18, 19, 20, 21, 22, 23, 24]) [ ⟨some 17, none, .mv (.t 0)⟩, ⟨some 18, none, .mv (.t 5)⟩, ⟨some 19, none, .idx 1 (.t 17) (.t 18)⟩, ⟨some 20, none, .ld none (.t 19)⟩, ⟨some 21, none, .mv (.t 1)⟩, ⟨some 22, none, .mv (.t 5)⟩, ⟨some 23, none, .idx 1 (.t 21) (.t 22)⟩, ⟨some 24, none, .ld none (.t 23)⟩, ⟨some 25, none, .call (.f 141) [((.t 20), .r), ((.t 24), .r)]⟩, ⟨some 26, none, .un .not (.t 25)⟩] [0, 1, 5, 26]) (.cond (.t 26) (.seq
  (.region none [ ⟨some 4, none, .mv (.c (.bool false))⟩] [4]) .ret) .skip)))
  (.region none [ ⟨some 15, none, .mv (.t 5)⟩, ⟨some 16, none, .bin .add (.t 15) (.c (.int .i64 1))⟩, ⟨some 5, none, .mv (.t 16)⟩] [0, 1, 5])))))) (.seq
  (.region none [ ⟨some 4, none, .mv (.c (.bool true))⟩] [4]) .ret))))

def c_laws_FnRackSolutions : F where
 np := 1
 rs := [.t 2]
 body :=
  (.seq
  (.region none [ ⟨some 2, none, .mv (.c (.bool false))⟩] [0]) (.seq (.seq
  (.region none [ ⟨some 20, none, .mv (.t 0)⟩, ⟨some 21, none, .call (.f 128) [((.t 20), .r)]⟩] [0, 21]) (.cond (.t 21) (.seq
  (.region none [ ⟨some 2, none, .mv (.c (.bool true))⟩] [2]) .ret) .skip)) (.seq
  (.region none [ ⟨some 22, none, .mv (.t 0)⟩, ⟨some 23, none, .call (.f 190) [((.t 22), .r)]⟩, ⟨some 3, none, .alloc [(.slice none 0 0)]⟩, ⟨none, none, .st (some 1) (.t 3) (.t 23)⟩] [3]) (.seq
  (.region none [ ⟨some 25, none, .ld (some 1) (.t 3)⟩, ⟨some 26, none, .call (.f 191) [((.t 25), .r)]⟩, ⟨some 24, none, .mv (.t 26)⟩, ⟨some 27, none, .ext (.t 24) 0⟩, ⟨some 28, none, .ext (.t 24) 1⟩, ⟨some 4, none, .alloc [(.slice none 0 0), (.slice none 0 0)]⟩, ⟨none, none, .st (some 2) (.t 4) (.t 27)⟩, ⟨some 5, none, .mv (.t 28)⟩] [3, 4, 5]) (.seq (.seq
  (.region none [ ⟨some 30, none, .ld (some 1) (.t 3)⟩, ⟨some 31, none, .call (.f 192) [((.t 30), .r)]⟩, ⟨some 29, none, .mv (.t 31)⟩, ⟨some 32, none, .ext (.t 29) 0⟩, ⟨some 33, none, .ext (.t 29) 1⟩, ⟨some 6, none, .alloc [(.slice none 0 0), (.slice none 0 0)]⟩, ⟨none, none, .st (some 2) (.t 6) (.t 32)⟩, ⟨some 7, none, .mv (.t 33)⟩] [3, 4, 5, 6, 7]) (.seq
  (.region none [ ⟨some 34, none, .mv (.t 5)⟩, ⟨some 35, none, .mv (.t 7)⟩, ⟨some 36, none, .bin .neq (.t 34) (.t 35)⟩, ⟨some 37, none, .mv (.t 36)⟩, ⟨some 38, (some (37, false)), .ld (some 2) (.t 4)⟩, ⟨some 39, (some (37, false)), .ld (some 2) (.t 6)⟩, ⟨some 40, (some (37, false)), .call (.f 193) [((.t 38), .r), ((.t 39), .r)]⟩, ⟨some 41, (some (37, false)), .un .not (.t 40)⟩, ⟨some 42, none, .pick (.t 37) (.c (.bool true)) (.t 41)⟩] [3, 4, 5, 42]) (.cond (.t 42) (.seq
  (.region none [ ⟨some 2, none, .mv (.c (.bool false))⟩] [2]) .ret) .skip))) (.seq (.seq
  (.region none [ ⟨some 43, none, .mv (.t 5)⟩, ⟨some 44, none, .bin .neq (.t 43) (.c (.int .i64 0))⟩] [3, 4, 44]) (.cond (.t 44) (.seq
  (.region none [ ⟨some 45, none, .fld 0 (.t 4)⟩, ⟨some 46, none, .ld none (.t 45)⟩, ⟨some 47, none, .len (.t 46)⟩, ⟨some 48, none, .bin .eql (.t 47) (.c (.int .i64 0))⟩, ⟨some 2, none, .mv (.t 48)⟩] [2]) .ret) .skip)) (.seq
  (.region none [ ⟨some 50, none, .ld (some 2) (.t 4)⟩, ⟨some 51, none, .call (.f 159) [((.t 50), .r)]⟩, ⟨some 49, none, .mv (.t 51)⟩, ⟨some 52, none, .ext (.t 49) 0⟩, ⟨some 53, none, .ext (.t 49) 1⟩, ⟨some 8, none, .mv (.t 52)⟩, ⟨some 9, none, .mv (.t 53)⟩] [3, 4, 8, 9]) (.seq
  (.region none [ ⟨some 55, none, .ld (some 2) (.t 4)⟩, ⟨some 56, none, .call (.f 148) [((.t 55), .r)]⟩, ⟨some 54, none, .mv (.t 56)⟩, ⟨some 57, none, .ext (.t 54) 0⟩, ⟨some 58, none, .ext (.t 54) 1⟩, ⟨some 10, none, .alloc [(.slice none 0 0)]⟩, ⟨none, none, .st (some 1) (.t 10) (.t 57)⟩, ⟨some 11, none, .mv (.t 58)⟩] [3, 4, 8, 9, 10, 11]) (.seq
  (.region none [ ⟨some 60, none, .ld (some 2) (.t 4)⟩, ⟨some 61, none, .call (.f 194) [((.t 60), .r)]⟩, ⟨some 59, none, .mv (.t 61)⟩, ⟨some 62, none, .ext (.t 59) 0⟩, ⟨some 63, none, .ext (.t 59) 1⟩, ⟨some 12, none, .mv (.t 62)⟩, ⟨some 13, none, .mv (.t 63)⟩] [3, 4, 8, 9, 10, 11, 12, 13]) (.seq
  (.region none [ ⟨some 65, none, .ld (some 2) (.t 4)⟩, ⟨some 66, none, .call (.f 160) [((.t 65), .r)]⟩, ⟨some 64, none, .mv (.t 66)⟩, ⟨some 67, none, .ext (.t 64) 0⟩, ⟨some 68, none, .ext (.t 64) 1⟩, ⟨some 14, none, .mv (.t 67)⟩, ⟨some 15, none, .mv (.t 68)⟩] [3, 4, 8, 9, 10, 11, 12, 13, 14, 15]) (.seq
  (.region none [ ⟨some 70, none, .ld (some 1) (.t 3)⟩, ⟨some 71, none, .call (.f 195) [((.t 70), .r)]⟩, ⟨some 69, none, .mv (.t 71)⟩, ⟨some 72, none, .ext (.t 69) 0⟩, ⟨some 73, none, .ext (.t 69) 1⟩, ⟨some 16, none, .mv (.t 72)⟩, ⟨some 17, none, .mv (.t 73)⟩] [3, 4, 8, 9, 10, 11, 12, 13, 14, 15, 16, 17]) (.seq
  (.region none [ ⟨some 75, none, .fld 0 (.t 3)⟩, ⟨some 76, none, .ld none (.t 75)⟩, ⟨some 77, none, .len (.t 76)⟩, ⟨some 78, none, .call (.f 196) [((.t 77), .r)]⟩, ⟨some 74, none, .mv (.t 78)⟩, ⟨some 79, none, .ext (.t 74) 0⟩, ⟨some 80, none, .ext (.t 74) 1⟩, ⟨some 18, none, .alloc [(.slice none 0 0)]⟩, ⟨none, none, .st (some 1) (.t 18) (.t 79)⟩, ⟨some 19, none, .mv (.t 80)⟩] [3, 4, 8, 9, 10, 11, 12, 13, 14, 15, 16, 17, 18, 19]) (.seq (.seq
  (.region none [ ⟨some 81, none, .mv (.t 9)⟩, ⟨some 82, none, .bin .neq (.t 81) (.c (.int .i64 0))⟩, ⟨some 83, none, .mv (.t 82)⟩, ⟨some 84, (some (83, false)), .mv (.t 11)⟩, ⟨some 85, (some (83, false)), .bin .neq (.t 84) (.c (.int .i64 0))⟩, ⟨some 86, none, .pick (.t 83) (.c (.bool true)) (.t 85)⟩, ⟨some 87, none, .mv (.t 86)⟩, ⟨some 88, (some (87, false)), .mv (.t 13)⟩, ⟨some 89, (some (87, false)), .bin .neq (.t 88) (.c (.int .i64 0))⟩, ⟨some 90, none, .pick (.t 87) (.c (.bool true)) (.t 89)⟩, ⟨some 91, none, .mv (.t 90)⟩, ⟨some 92, (some (91, false)), .mv (.t 15)⟩, ⟨some 93, (some (91, false)), .bin .neq (.t 92) (.c (.int .i64 0))⟩, ⟨some 94, none, .pick (.t 91) (.c (.bool true)) (.t 93)⟩, ⟨some 95, none, .mv (.t 94)⟩, ⟨some 96, (some (95, false)), .mv (.t 17)⟩, ⟨some 97, (some (95, false)), .bin .neq (.t 96) (.c (.int .i64 0))⟩, ⟨some 98, none, .pick (.t 95) (.c (.bool true)) (.t 97)⟩, ⟨some 99, none, .mv (.t 98)⟩, ⟨some 100, (some (99, false)), .mv (.t 19)⟩, ⟨some 101, (some (99, false)), .bin .neq (.t 100) (.c (.int .i64 0))⟩, ⟨some 102, none, .pick (.t 99) (.c (.bool true)) (.t 101)⟩] [3, 4, 8, 10, 12, 14, 16, 18, 102]) (.cond (.t 102) (.seq
  (.region none [ ⟨some 2, none, .mv (.c (.bool false))⟩] [2]) .ret) .skip)) (.seq
  (.region none [ ⟨some 103, none, .ld (some 2) (.t 4)⟩, ⟨some 104, none, .call (.f 42) [((.t 103), .r)]⟩, ⟨some 105, none, .mv (.t 104)⟩, ⟨some 106, (some (105, true)), .mv (.t 8)⟩, ⟨some 107, none, .pick (.t 105) (.t 106) (.c (.bool false))⟩, ⟨some 108, none, .mv (.t 107)⟩, ⟨some 109, (some (108, true)), .fld 0 (.t 10)⟩, ⟨some 110, (some (108, true)), .ld none (.t 109)⟩, ⟨some 111, (some (108, true)), .fld 0 (.t 3)⟩, ⟨some 112, (some (108, true)), .ld none (.t 111)⟩, ⟨some 113, (some (108, true)), .call (.f 178) [((.t 110), .r), ((.t 112), .r)]⟩, ⟨some 114, none, .pick (.t 108) (.t 113) (.c (.bool false))⟩, ⟨some 115, none, .mv (.t 114)⟩, ⟨some 116, (some (115, true)), .mv (.t 12)⟩, ⟨some 117, (some (115, true)), .mv (.t 16)⟩, ⟨some 118, (some (115, true)), .beq false (.t 116) (.t 117)⟩, ⟨some 119, none, .pick (.t 115) (.t 118) (.c (.bool false))⟩, ⟨some 120, none, .mv (.t 119)⟩, ⟨some 121, (some (120, true)), .mv (.t 14)⟩, ⟨some 122, (some (120, true)), .fld 0 (.t 3)⟩, ⟨some 123, (some (120, true)), .ld none (.t 122)⟩, ⟨some 124, (some (120, true)), .fld 0 (.t 18)⟩, ⟨some 125, (some (120, true)), .ld none (.t 124)⟩, ⟨some 126, (some (120, true)), .call (.f 178) [((.t 123), .r), ((.t 125), .r)]⟩, ⟨some 127, (some (120, true)), .beq false (.t 121) (.t 126)⟩, ⟨some 128, none, .pick (.t 120) (.t 127) (.c (.bool false))⟩, ⟨some 2, none, .mv (.t 128)⟩] [2]) .ret))))))))))))))

def c_spec_DrawRackSolution : F where
 np := 1
 rs := [.cell 2 (some 1)]
 body :=
  (.seq
  (.region none [ ⟨some 2, none, .alloc [(.slice none 0 0)]⟩] [0, 2]) (.seq
  (.region none [ ⟨some 3, none, .mv (.t 0)⟩, ⟨some 4, none, .call (.f 269) [((.t 3), .r)]⟩, ⟨some 5, none, .callm (.f 322) [((.t 4), true), ((.c (.int .i64 12)), false)] []⟩, ⟨none, none, .st (some 1) (.t 2) (.t 5)⟩] [2]) .ret))

def c_impl_RackSolution : F where
 np := 1
 rs := [.cell 2 (some 2), .t 3]
 body :=
  (.seq
  (.region none [ ⟨some 1, none, .box (.t 0)⟩, ⟨some 2, none, .alloc [(.slice none 0 0), (.slice none 0 0)]⟩, ⟨some 3, none, .mv (.c (.int .i64 0))⟩] [1, 2]) (.seq (.seq
  (.region none [ ⟨some 4, none, .ld (some 1) (.t 1)⟩, ⟨some 5, none, .call (.f 33) [((.t 4), .r)]⟩, ⟨some 6, none, .un .not (.t 5)⟩] [1, 2, 6]) (.cond (.t 6) (.seq
  (.region none [ ⟨some 7, none, .build [(.slice none 0 0), (.slice none 0 0)] []⟩, ⟨none, none, .st (some 2) (.t 2) (.t 7)⟩, ⟨some 3, none, .mv (.c (.int .i64 1))⟩] [2, 3]) .ret) .skip)) (.seq
  (.region none [ ⟨some 8, none, .ld (some 1) (.t 1)⟩, ⟨some 9, none, .call (.f 323) [((.t 8), .r)]⟩, ⟨none, none, .st (some 2) (.t 2) (.t 9)⟩, ⟨some 3, none, .mv (.c (.int .i64 0))⟩] [2, 3]) .ret)))

def c_impl_rackSolution : F where
 np := 1
 rs := [.cell 2 (some 2)]
 body :=
  (.seq
  (.region none [ ⟨some 1, none, .box (.t 0)⟩, ⟨some 2, none, .alloc [(.slice none 0 0), (.slice none 0 0)]⟩] [1, 2]) (.seq
  (.region none [ ⟨some 3, none, .fld 0 (.t 1)⟩, ⟨some 4, none, .ld none (.t 3)⟩, ⟨some 5, none, .len (.t 4)⟩, ⟨some 6, none, .fnc 402 [(.t 1)]⟩, ⟨some 7, none, .call (.f 308) [((.t 5), .r), ((.t 6), .r)]⟩, ⟨none, none, .st (some 2) (.t 2) (.t 7)⟩] [2]) .ret))

def c_impl_rackSolution_1 : F where
 np := 3
 rs := [.t 5, .t 6]
 body :=
  (.seq
  (.region none [ ⟨some 5, none, .mv (.c (.int .i64 0))⟩, ⟨some 6, none, .mv (.c (.int .i64 0))⟩] [0, 1, 2]) (.seq
  (.region none [ ⟨some 7, none, .fld 0 (.t 2)⟩, ⟨some 8, none, .ld none (.t 7)⟩, ⟨some 9, none, .mv (.t 0)⟩, ⟨some 10, none, .idx 1 (.t 8) (.t 9)⟩, ⟨some 11, none, .ld none (.t 10)⟩, ⟨some 12, none, .mv (.t 1)⟩, ⟨some 13, none, .idx 1 (.t 11) (.t 12)⟩, ⟨some 14, none, .ld none (.t 13)⟩, ⟨some 15, none, .mv (.t 0)⟩, ⟨some 5, none, .mv (.t 14)⟩, ⟨some 6, none, .mv (.t 15)⟩] [5, 6]) .ret))

def c_spec_RackSolution : F where
 np := 1
 rs := [.cell 2 (some 2), .t 3]
 body :=
  (.seq
  (.region none [ ⟨some 1, none, .box (.t 0)⟩, ⟨some 2, none, .alloc [(.slice none 0 0), (.slice none 0 0)]⟩, ⟨some 3, none, .mv (.c (.int .i64 0))⟩] [1, 2]) (.seq (.seq
  (.region none [ ⟨some 4, none, .ld (some 1) (.t 1)⟩, ⟨some 5, none, .call (.f 28) [((.t 4), .r)]⟩, ⟨some 6, none, .un .not (.t 5)⟩] [1, 2, 6]) (.cond (.t 6) (.seq
  (.region none [ ⟨some 7, none, .build [(.slice none 0 0), (.slice none 0 0)] []⟩, ⟨none, none, .st (some 2) (.t 2) (.t 7)⟩, ⟨some 3, none, .mv (.c (.int .i64 1))⟩] [2, 3]) .ret) .skip)) (.seq
  (.region none [ ⟨some 8, none, .ld (some 1) (.t 1)⟩, ⟨some 9, none, .call (.f 324) [((.t 8), .r)]⟩, ⟨none, none, .st (some 2) (.t 2) (.t 9)⟩, ⟨some 3, none, .mv (.c (.int .i64 0))⟩] [2, 3]) .ret)))

def c_laws_solution9 : F where
 np := 2
 rs := [.t 4]
 body :=
  (.seq
  (.region none [ ⟨some 2, none, .box (.t 0)⟩, ⟨some 3, none, .box (.t 1)⟩, ⟨some 4, none, .mv (.c (.bool false))⟩] [2, 3]) (.seq
  (.region none [ ⟨some 5, none, .fld 0 (.t 2)⟩, ⟨some 6, none, .ld none (.t 5)⟩, ⟨some 7, none, .fld 0 (.t 3)⟩, ⟨some 8, none, .ld none (.t 7)⟩, ⟨some 9, none, .call (.f 178) [((.t 6), .r), ((.t 8), .r)]⟩, ⟨some 10, none, .mv (.t 9)⟩, ⟨some 11, (some (10, true)), .fld 1 (.t 2)⟩, ⟨some 12, (some (10, true)), .ld none (.t 11)⟩, ⟨some 13, (some (10, true)), .fld 1 (.t 3)⟩, ⟨some 14, (some (10, true)), .ld none (.t 13)⟩, ⟨some 15, (some (10, true)), .call (.f 178) [((.t 12), .r), ((.t 14), .r)]⟩, ⟨some 16, none, .pick (.t 10) (.t 15) (.c (.bool false))⟩, ⟨some 4, none, .mv (.t 16)⟩] [4]) .ret))

def c_impl_IsSquareFree : F where
 np := 1
 rs := [.t 2, .t 3]
 body :=
  (.seq
  (.region none [ ⟨some 1, none, .box (.t 0)⟩, ⟨some 2, none, .mv (.c (.bool false))⟩, ⟨some 3, none, .mv (.c (.int .i64 0))⟩] [1]) (.seq (.seq
  (.region none [ ⟨some 5, none, .ld (some 2) (.t 1)⟩, ⟨some 6, none, .call (.f 59) [((.t 5), .r)]⟩, ⟨some 7, none, .un .not (.t 6)⟩] [1, 7]) (.cond (.t 7) (.seq
  (.region none [ ⟨some 2, none, .mv (.c (.bool false))⟩, ⟨some 3, none, .mv (.c (.int .i64 1))⟩] [2, 3]) .ret) .skip)) (.seq (.seq
  (.region none [ ⟨some 8, none, .fld 0 (.t 1)⟩, ⟨some 9, none, .ld none (.t 8)⟩, ⟨some 10, none, .len (.t 9)⟩, ⟨some 11, none, .mv (.c (.int .i64 0))⟩] [1, 10, 11]) (.block 0 (.loop (.seq
  (.region none [ ⟨some 12, none, .bin .lss (.t 11) (.t 10)⟩] [1, 10, 11, 12]) (.seq (.cond (.t 12) .skip (.exit 0)) (.seq (.block 1 (.seq
  (.region none [ ⟨some 13, none, .mv (.t 11)⟩, ⟨some 4, none, .mv (.t 13)⟩] [1, 4, 10, 11]) (.seq
  (.region none [ ⟨some 14, none, .fld 0 (.t 1)⟩, ⟨some 15, none, .ld none (.t 14)⟩, ⟨some 16, none, .mv (.t 4)⟩, ⟨some 17, none, .idx 1 (.t 15) (.t 16)⟩, ⟨some 18, none, .ld none (.t 17)⟩, ⟨some 19, none, .mv (.t 4)⟩, ⟨some 20, none, .idx 1 (.t 18) (.t 19)⟩, ⟨some 21, none, .ld none (.t 20)⟩, ⟨some 22, none, .mv (.t 4)⟩, ⟨some 23, none, .bin .neq (.t 21) (.t 22)⟩, ⟨some 24, none, .mv (.t 23)⟩, ⟨some 25, (some (24, false)), .fld 1 (.t 1)⟩, ⟨some 26, (some (24, false)), .ld none (.t 25)⟩, ⟨some 27, (some (24, false)), .mv (.t 4)⟩, ⟨some 28, (some (24, false)), .idx 1 (.t 26) (.t 27)⟩, ⟨some 29, (some (24, false)), .ld none (.t 28)⟩, ⟨some 30, (some (24, false)), .mv (.t 4)⟩, ⟨some 31, (some (24, false)), .idx 1 (.t 29) (.t 30)⟩, ⟨some 32, (some (24, false)), .ld none (.t 31)⟩, ⟨some 33, (some (24, false)), .mv (.t 4)⟩, ⟨some 34, (some (24, false)), .bin .neq (.t 32) (.t 33)⟩, ⟨some 35, none, .pick (.t 24) (.c (.bool true)) (.t 34)⟩] [1, 10, 11, 35]) (.cond (.t 35) (.seq
  (.region none [ ⟨some 2, none, .mv (.c (.bool false))⟩, ⟨some 3, none, .mv (.c (.int .i64 0))⟩] [2, 3]) .ret) .skip))))
  (.region none [ ⟨some 36, none, .bin .add (.t 11) (.c (.int .i64 1))⟩, ⟨some 11, none, .mv (.t 36)⟩] [1, 10, 11]))))))) (.seq
  (.region none [ ⟨some 2, none, .mv (.c (.bool true))⟩, ⟨some 3, none, .mv (.c (.int .i64 0))⟩] [2, 3]) .ret))))

def c_impl_IsQuandle : F where
 np := 1
 rs := [.t 2, .t 3]
 body :=
  (.seq
  (.region none [ ⟨some 1, none, .box (.t 0)⟩, ⟨some 2, none, .mv (.c (.bool false))⟩, ⟨some 3, none, .mv (.c (.int .i64 0))⟩] [1]) (.seq (.seq
  (.region none [ ⟨some 4, none, .ld (some 1) (.t 1)⟩, ⟨some 5, none, .call (.f 33) [((.t 4), .r)]⟩, ⟨some 6, none, .un .not (.t 5)⟩] [1, 6]) (.cond (.t 6) (.seq
  (.region none [ ⟨some 2, none, .mv (.c (.bool false))⟩, ⟨some 3, none, .mv (.c (.int .i64 1))⟩] [2, 3]) .ret) .skip)) (.seq
  (.region none [ ⟨some 7, none, .ld (some 1) (.t 1)⟩, ⟨some 8, none, .call (.f 326) [((.t 7), .r)]⟩, ⟨some 9, none, .call (.f 325) [((.t 8), .r)]⟩, ⟨some 2, none, .mv (.t 9)⟩, ⟨some 3, none, .mv (.c (.int .i64 0))⟩] [2, 3]) .ret)))

def c_impl_kinkOf : F where
 np := 1
 rs := [.t 2]
 body :=
  (.seq
  (.region none [ ⟨some 1, none, .box (.t 0)⟩, ⟨some 2, none, .asg (.c (.slice none 0 0))⟩] [1]) (.seq
  (.region none [ ⟨some 5, none, .fld 0 (.t 1)⟩, ⟨some 6, none, .ld none (.t 5)⟩, ⟨some 7, none, .len (.t 6)⟩, ⟨some 8, none, .mks (.int .i64 0) (.t 7)⟩, ⟨some 3, none, .asg (.t 8)⟩] [1, 3]) (.seq (.seq
  (.region none [ ⟨some 9, none, .mv (.t 3)⟩, ⟨some 10, none, .len (.t 9)⟩, ⟨some 11, none, .mv (.c (.int .i64 0))⟩] [1, 3, 10, 11]) (.block 0 (.loop (.seq
  (.region none [ ⟨some 12, none, .bin .lss (.t 11) (.t 10)⟩] [1, 3, 10, 11, 12]) (.seq (.cond (.t 12) .skip (.exit 0)) (.seq (.block 1 (.seq
  (.region none [ ⟨some 13, none, .mv (.t 11)⟩, ⟨some 4, none, .mv (.t 13)⟩] [1, 3, 4, 10, 11])
  (.region none [ ⟨some 14, none, .mv (.t 3)⟩, ⟨some 15, none, .mv (.t 4)⟩, ⟨some 16, none, .fld 0 (.t 1)⟩, ⟨some 17, none, .ld none (.t 16)⟩, ⟨some 18, none, .mv (.t 4)⟩, ⟨some 19, none, .idx 1 (.t 17) (.t 18)⟩, ⟨some 20, none, .ld none (.t 19)⟩, ⟨some 21, none, .mv (.t 4)⟩, ⟨some 22, none, .idx 1 (.t 20) (.t 21)⟩, ⟨some 23, none, .ld none (.t 22)⟩, ⟨some 24, none, .idx 1 (.t 14) (.t 15)⟩, ⟨none, none, .st none (.t 24) (.t 23)⟩] [1, 3, 10, 11])))
  (.region none [ ⟨some 25, none, .bin .add (.t 11) (.c (.int .i64 1))⟩, ⟨some 11, none, .mv (.t 25)⟩] [1, 3, 10, 11]))))))) (.seq
  (.region none [ ⟨some 26, none, .mv (.t 3)⟩, ⟨some 2, none, .asg (.t 26)⟩] [2]) .ret))))

def c_impl_isIdentity : F where
 np := 1
 rs := [.t 2]
 body :=
  (.seq
  (.region none [ ⟨some 2, none, .mv (.c (.bool false))⟩] [0]) (.seq
  (.region none [ ⟨some 3, none, .mv (.t 0)⟩, ⟨some 4, none, .call (.f 403) [((.t 3), .r)]⟩, ⟨some 2, none, .mv (.t 4)⟩] [2]) .ret))

def c_impl_TrivialRack : F where
 np := 1
 rs := [.cell 2 (some 1), .t 3]
 body :=
  (.seq
  (.region none [ ⟨some 2, none, .alloc [(.slice none 0 0)]⟩, ⟨some 3, none, .mv (.c (.int .i64 0))⟩] [0, 2]) (.seq (.seq
  (.region none [ ⟨some 4, none, .mv (.t 0)⟩, ⟨some 5, none, .call (.f 35) [((.t 4), .r), ((.c (.int .i64 1)), .r), ((.c (.int .i64 12)), .r)]⟩, ⟨some 6, none, .un .not (.t 5)⟩] [0, 2, 6]) (.cond (.t 6) (.seq
  (.region none [ ⟨some 7, none, .build [(.slice none 0 0)] []⟩, ⟨none, none, .st (some 1) (.t 2) (.t 7)⟩, ⟨some 3, none, .mv (.c (.int .i64 2))⟩] [2, 3]) .ret) .skip)) (.seq
  (.region none [ ⟨some 8, none, .mv (.t 0)⟩, ⟨some 9, none, .call (.f 327) [((.t 8), .r), ((.f 328), .r)]⟩, ⟨none, none, .st (some 1) (.t 2) (.t 9)⟩, ⟨some 3, none, .mv (.c (.int .i64 0))⟩] [2, 3]) .ret)))

def c_impl_rackBy : F where
 np := 2
 rs := [.cell 4 (some 1)]
 body :=
  (.seq
  (.region none [ ⟨some 3, none, .box (.t 1)⟩, ⟨some 4, none, .alloc [(.slice none 0 0)]⟩] [0, 3, 4]) (.seq
  (.region none [ ⟨some 5, none, .mv (.t 0)⟩, ⟨some 6, none, .fnc 404 [(.t 3)]⟩, ⟨some 7, none, .call (.f 376) [((.t 5), .r), ((.t 6), .r)]⟩, ⟨some 8, none, .build [(.slice none 0 0)] [(0, 1, (.t 7))]⟩, ⟨none, none, .st (some 1) (.t 4) (.t 8)⟩] [4]) .ret))

def c_impl_rackBy_1 : F where
 np := 3
 rs := [.t 5]
 body :=
  (.seq
  (.region none [ ⟨some 5, none, .mv (.c (.int .i64 0))⟩] [0, 1, 2]) (.seq
  (.region none [ ⟨some 6, none, .ld none (.t 2)⟩, ⟨some 7, none, .mv (.t 0)⟩, ⟨some 8, none, .mv (.t 1)⟩, ⟨some 9, none, .call (.t 6) [((.t 7), .r), ((.t 8), .r)]⟩, ⟨some 5, none, .mv (.t 9)⟩] [5]) .ret))

def c_impl_TrivialRack_1 : F where
 np := 2
 rs := [.t 4]
 body :=
  (.seq
  (.region none [ ⟨some 4, none, .mv (.c (.int .i64 0))⟩] [1]) (.seq
  (.region none [ ⟨some 5, none, .mv (.t 1)⟩, ⟨some 4, none, .mv (.t 5)⟩] [4]) .ret))

end Go.Mch
