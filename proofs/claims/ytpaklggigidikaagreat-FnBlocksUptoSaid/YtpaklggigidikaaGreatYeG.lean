/- Compact code of draws and laws. -/
import Derived.Test.YtpaklggigidikaaGreatM1
namespace Go.Mch

def j2e : F where
 np := 2
 rs := [.cell 4 (some 2)]
 fix := [0, 1]
 body :=
  (.seq
  (.region none [ ⟨some 4, none, .alloc [(.slice none 0 0), (.slice none 0 0)]⟩] [0, 1, 4]) (.seq (.seq
  (.region none [ ⟨some 5, none, .mvs 0⟩, ⟨some 6, none, .calls (.f 336) (.t 5) 0 [(.c (.int .i64 3))]⟩, ⟨some 7, none, .bin .eql (.t 6) (.c (.int .i64 0))⟩] [0, 1, 4, 7]) (.cond (.t 7) (.seq
  (.region none [ ⟨some 8, none, .mvs 0⟩, ⟨some 9, none, .mv (.t 1)⟩, ⟨some 10, none, .calls (.f 378) (.t 8) 0 [(.t 9)]⟩, ⟨some 11, none, .call (.f 366) [((.t 10), .r)]⟩, ⟨none, none, .st (some 2) (.t 4) (.t 11)⟩] [0, 1, 4]) .ret) .skip)) (.seq
  (.region none [ ⟨some 12, none, .mvs 0⟩, ⟨some 13, none, .mv (.t 1)⟩, ⟨some 14, none, .calls (.f 379) (.t 12) 0 [(.t 13)]⟩, ⟨none, none, .st (some 2) (.t 4) (.t 14)⟩] [0, 1, 4]) .ret)))

def j3o : F where
 np := 2
 rs := [.t 4]
 fix := [0, 1]
 body :=
  (.seq
  (.region none [ ⟨some 4, none, .mv (.c (.int .i64 0))⟩] [0, 1]) (.seq (.seq
  (.region none [ ⟨some 6, none, .mv (.t 1)⟩, ⟨some 7, none, .bin .lss (.t 6) (.c (.int .i64 1))⟩] [0, 1, 7]) (.cond (.t 7) (.seq
  (.region none [ ⟨some 4, none, .mv (.c (.int .i64 0))⟩] [0, 1, 4]) .ret) .skip)) (.seq
  (.region none [ ⟨some 8, none, .mv (.t 0)⟩, ⟨some 9, none, .mv (.t 0)⟩, ⟨some 10, none, .nilck (.t 9)⟩, ⟨some 11, none, .fld 2 (.t 10)⟩, ⟨some 12, none, .ld none (.t 11)⟩, ⟨some 13, none, .bin .mul (.t 12) (.c (.int .u64 6364136223846793005))⟩, ⟨some 14, none, .bin .add (.t 13) (.c (.int .u64 1442695040888963407))⟩, ⟨some 15, none, .nilck (.t 8)⟩, ⟨some 16, none, .fld 2 (.t 15)⟩, ⟨none, none, .st none (.t 16) (.t 14)⟩] [0, 1]) (.seq
  (.region none [ ⟨some 17, none, .mv (.t 0)⟩, ⟨some 18, none, .nilck (.t 17)⟩, ⟨some 19, none, .fld 2 (.t 18)⟩, ⟨some 20, none, .ld none (.t 19)⟩, ⟨some 21, none, .bin .shr (.t 20) (.c (.int .u64 33))⟩, ⟨some 22, none, .bin .and (.t 21) (.c (.int .u64 16777215))⟩, ⟨some 23, none, .conv .i64 (.t 22)⟩, ⟨some 5, none, .mv (.t 23)⟩] [0, 1, 5]) (.seq (.seq
  (.region (some [24, 25, 26, 27, 28, 29, 30, 31, 32]) [ ⟨some 24, none, .mv (.t 0)⟩, ⟨some 25, none, .nilck (.t 24)⟩, ⟨some 26, none, .fld 1 (.t 25)⟩, ⟨some 27, none, .ld none (.t 26)⟩, ⟨some 28, none, .mv (.t 0)⟩, ⟨some 29, none, .nilck (.t 28)⟩, ⟨some 30, none, .fld 0 (.t 29)⟩, ⟨some 31, none, .ld none (.t 30)⟩, ⟨some 32, none, .len (.t 31)⟩, ⟨some 33, none, .bin .lss (.t 27) (.t 32)⟩] [0, 1, 5, 33]) (.cond (.t 33) (.seq
  (.region (some [34, 35, 36, 37, 38, 39, 40, 41, 42, 43, 44, 45]) [ ⟨some 34, none, .mv (.t 5)⟩, ⟨some 35, none, .mv (.t 0)⟩, ⟨some 36, none, .nilck (.t 35)⟩, ⟨some 37, none, .fld 0 (.t 36)⟩, ⟨some 38, none, .ld none (.t 37)⟩, ⟨some 39, none, .mv (.t 0)⟩, ⟨some 40, none, .nilck (.t 39)⟩, ⟨some 41, none, .fld 1 (.t 40)⟩, ⟨some 42, none, .ld none (.t 41)⟩, ⟨some 43, none, .idx 1 (.t 38) (.t 42)⟩, ⟨some 44, none, .ld none (.t 43)⟩, ⟨some 45, none, .conv .i64 (.t 44)⟩, ⟨some 46, none, .bin .add (.t 34) (.t 45)⟩, ⟨some 5, none, .mv (.t 46)⟩] [0, 1, 5])
  (.region none [ ⟨some 47, none, .mv (.t 0)⟩, ⟨some 48, none, .mv (.t 0)⟩, ⟨some 49, none, .nilck (.t 48)⟩, ⟨some 50, none, .fld 1 (.t 49)⟩, ⟨some 51, none, .ld none (.t 50)⟩, ⟨some 52, none, .bin .add (.t 51) (.c (.int .i64 1))⟩, ⟨some 53, none, .nilck (.t 47)⟩, ⟨some 54, none, .fld 1 (.t 53)⟩, ⟨none, none, .st none (.t 54) (.t 52)⟩] [0, 1, 5])) .skip)) (.seq
  (.region none [ ⟨some 55, none, .mv (.t 5)⟩, ⟨some 56, none, .mv (.t 1)⟩, ⟨some 57, none, .bin .rem (.t 55) (.t 56)⟩, ⟨some 4, none, .mv (.t 57)⟩] [0, 1, 4]) .ret))))))

def j2u : F where
 np := 2
 rs := [.cell 4 (some 1)]
 fix := [0, 1]
 body :=
  (.seq
  (.region none [ ⟨some 4, none, .alloc [(.slice none 0 0)]⟩] [0, 1, 4]) (.seq
  (.region none [ ⟨some 6, none, .mvs 0⟩, ⟨some 7, none, .mv (.t 1)⟩, ⟨some 8, none, .calls (.f 427) (.t 6) 0 [(.t 7)]⟩, ⟨some 5, none, .alloc [(.slice none 0 0)]⟩, ⟨none, none, .st (some 1) (.t 5) (.t 8)⟩] [0, 1, 4, 5]) (.seq (.seq
  (.region none [ ⟨some 9, none, .mvs 0⟩, ⟨some 10, none, .calls (.f 336) (.t 9) 0 [(.c (.int .i64 3))]⟩, ⟨some 11, none, .bin .gtr (.t 10) (.c (.int .i64 0))⟩] [0, 1, 4, 5, 11]) (.cond (.t 11) (.seq
  (.region (some [12, 13, 14, 15, 16, 17, 18]) [ ⟨some 12, none, .fld 0 (.t 5)⟩, ⟨some 13, none, .ld none (.t 12)⟩, ⟨some 14, none, .mvs 0⟩, ⟨some 15, none, .fld 0 (.t 5)⟩, ⟨some 16, none, .ld none (.t 15)⟩, ⟨some 17, none, .len (.t 16)⟩, ⟨some 18, none, .calls (.f 368) (.t 14) 0 [(.t 17)]⟩, ⟨some 19, none, .call (.f 367) [((.t 13), .r), ((.t 18), .r)]⟩, ⟨some 20, none, .build [(.slice none 0 0)] [(0, 1, (.t 19))]⟩, ⟨none, none, .st (some 1) (.t 4) (.t 20)⟩] [0, 1, 4]) .ret) .skip)) (.seq
  (.region none [ ⟨some 21, none, .ld (some 1) (.t 5)⟩, ⟨none, none, .st (some 1) (.t 4) (.t 21)⟩] [0, 1, 4]) .ret))))

def j3f : F where
 np := 2
 rs := [.cell 4 (some 1)]
 fix := [0, 1]
 body :=
  (.seq
  (.region none [ ⟨some 4, none, .alloc [(.slice none 0 0)]⟩] [0, 1, 4]) (.seq
  (.region none [ ⟨some 10, none, .mvs 0⟩, ⟨some 11, none, .mv (.t 1)⟩, ⟨some 12, none, .calls (.f 336) (.t 10) 0 [(.t 11)]⟩, ⟨some 13, none, .bin .add (.c (.int .i64 1)) (.t 12)⟩, ⟨some 5, none, .mv (.t 13)⟩] [0, 1, 4, 5]) (.seq (.seq
  (.region none [ ⟨some 14, none, .mvs 0⟩, ⟨some 15, none, .calls (.f 336) (.t 14) 0 [(.c (.int .i64 3))]⟩, ⟨some 16, none, .bin .eql (.t 15) (.c (.int .i64 0))⟩] [0, 1, 4, 5, 16]) (.cond (.t 16) (.seq
  (.region none [ ⟨some 6, none, .mv (.c (.int .i64 0))⟩] [0, 1, 4, 5, 6]) (.block 0 (.loop (.seq (.seq
  (.region none [ ⟨some 17, none, .mv (.t 6)⟩, ⟨some 18, none, .bin .lss (.t 17) (.c (.int .i64 30))⟩] [0, 1, 4, 5, 6, 18]) (.cond (.t 18) .skip (.exit 0))) (.seq (.block 1 (.seq
  (.region none [ ⟨some 21, none, .mv (.t 5)⟩, ⟨some 22, none, .mvs 0⟩, ⟨some 23, none, .mv (.t 5)⟩, ⟨some 24, none, .calls (.f 336) (.t 22) 0 [(.t 23)]⟩, ⟨some 25, none, .mvs 0⟩, ⟨some 26, none, .mv (.t 5)⟩, ⟨some 27, none, .calls (.f 336) (.t 25) 0 [(.t 26)]⟩, ⟨some 28, none, .mvs 0⟩, ⟨some 29, none, .mv (.t 5)⟩, ⟨some 30, none, .calls (.f 336) (.t 28) 0 [(.t 29)]⟩, ⟨some 31, none, .call (.f 424) [((.t 21), .r), ((.t 24), .r), ((.t 27), .r), ((.t 30), .r)]⟩, ⟨some 7, none, .alloc [(.slice none 0 0)]⟩, ⟨none, none, .st (some 1) (.t 7) (.t 31)⟩] [0, 1, 4, 5, 6, 7]) (.seq
  (.region none [ ⟨some 32, none, .ld (some 1) (.t 7)⟩, ⟨some 33, none, .call (.f 363) [((.t 32), .r)]⟩] [0, 1, 4, 5, 6, 7, 33]) (.cond (.t 33) (.seq
  (.region none [ ⟨some 34, none, .ld (some 1) (.t 7)⟩, ⟨none, none, .st (some 1) (.t 4) (.t 34)⟩] [0, 1, 4]) .ret) .skip))))
  (.region none [ ⟨some 19, none, .mv (.t 6)⟩, ⟨some 20, none, .bin .add (.t 19) (.c (.int .i64 1))⟩, ⟨some 6, none, .mv (.t 20)⟩] [0, 1, 4, 5, 6])))))) .skip)) (.seq (.seq
  (.region none [ ⟨some 8, none, .mv (.c (.int .i64 0))⟩] [0, 1, 4, 5, 8]) (.block 2 (.loop (.seq (.seq
  (.region none [ ⟨some 35, none, .mv (.t 8)⟩, ⟨some 36, none, .bin .lss (.t 35) (.c (.int .i64 8))⟩] [0, 1, 4, 5, 8, 36]) (.cond (.t 36) .skip (.exit 2))) (.seq (.block 3 (.seq
  (.region none [ ⟨some 39, none, .mvs 0⟩, ⟨some 40, none, .mv (.t 5)⟩, ⟨some 41, none, .calls (.f 412) (.t 39) 0 [(.t 40)]⟩, ⟨some 9, none, .alloc [(.slice none 0 0), (.slice none 0 0)]⟩, ⟨none, none, .st (some 2) (.t 9) (.t 41)⟩] [0, 1, 4, 5, 8, 9]) (.seq
  (.region none [ ⟨some 42, none, .ld (some 2) (.t 9)⟩, ⟨some 43, none, .call (.f 350) [((.t 42), .r)]⟩, ⟨some 44, none, .mv (.t 43)⟩, ⟨some 45, (some (44, true)), .ld (some 2) (.t 9)⟩, ⟨some 46, (some (44, true)), .call (.f 351) [((.t 45), .r)]⟩, ⟨some 47, none, .pick (.t 44) (.t 46) (.c (.bool false))⟩] [0, 1, 4, 5, 8, 9, 47]) (.cond (.t 47) (.seq
  (.region none [ ⟨some 48, none, .ld (some 2) (.t 9)⟩, ⟨some 49, none, .call (.f 364) [((.t 48), .r)]⟩, ⟨none, none, .st (some 1) (.t 4) (.t 49)⟩] [0, 1, 4]) .ret) .skip))))
  (.region none [ ⟨some 37, none, .mv (.t 8)⟩, ⟨some 38, none, .bin .add (.t 37) (.c (.int .i64 1))⟩, ⟨some 8, none, .mv (.t 38)⟩] [0, 1, 4, 5, 8])))))) (.seq
  (.region none [ ⟨some 50, none, .mv (.t 5)⟩, ⟨some 51, none, .call (.f 449) [((.t 50), .r)]⟩, ⟨some 52, none, .call (.f 364) [((.t 51), .r)]⟩, ⟨none, none, .st (some 1) (.t 4) (.t 52)⟩] [0, 1, 4]) .ret)))))

def j2m : F where
 np := 4
 rs := [.cell 8 (some 1)]
 body :=
  (.seq
  (.region none [ ⟨some 8, none, .alloc [(.slice none 0 0)]⟩] [0, 1, 2, 3, 8]) (.seq
  (.region none [ ⟨some 13, none, .build [(.slice none 0 0)] []⟩, ⟨some 9, none, .alloc [(.slice none 0 0)]⟩, ⟨none, none, .st (some 1) (.t 9) (.t 13)⟩] [0, 1, 2, 3, 8, 9]) (.seq (.seq
  (.region none [ ⟨some 10, none, .mv (.c (.int .i64 0))⟩] [0, 1, 2, 3, 8, 9, 10]) (.block 0 (.loop (.seq (.seq
  (.region none [ ⟨some 14, none, .mv (.t 10)⟩, ⟨some 15, none, .mv (.t 0)⟩, ⟨some 16, none, .bin .lss (.t 14) (.t 15)⟩] [0, 1, 2, 3, 8, 9, 10, 16]) (.cond (.t 16) .skip (.exit 0))) (.seq (.block 1 (.seq
  (.region none [ ⟨some 19, none, .bsl []⟩, ⟨some 11, none, .asg (.t 19)⟩] [0, 1, 2, 3, 8, 9, 10, 11]) (.seq (.seq
  (.region none [ ⟨some 12, none, .mv (.c (.int .i64 0))⟩] [0, 1, 2, 3, 8, 9, 10, 11, 12]) (.block 2 (.loop (.seq (.seq
  (.region none [ ⟨some 20, none, .mv (.t 12)⟩, ⟨some 21, none, .mv (.t 0)⟩, ⟨some 22, none, .bin .lss (.t 20) (.t 21)⟩] [0, 1, 2, 3, 8, 9, 10, 11, 12, 22]) (.cond (.t 22) .skip (.exit 2))) (.seq (.block 3
  (.region none [ ⟨some 25, none, .mv (.t 11)⟩, ⟨some 26, none, .mv (.t 1)⟩, ⟨some 27, none, .mv (.t 10)⟩, ⟨some 28, none, .bin .mul (.t 26) (.t 27)⟩, ⟨some 29, none, .mv (.t 2)⟩, ⟨some 30, none, .mv (.t 12)⟩, ⟨some 31, none, .bin .mul (.t 29) (.t 30)⟩, ⟨some 32, none, .bin .add (.t 28) (.t 31)⟩, ⟨some 33, none, .mv (.t 3)⟩, ⟨some 34, none, .bin .add (.t 32) (.t 33)⟩, ⟨some 35, none, .mv (.t 0)⟩, ⟨some 36, none, .bin .rem (.t 34) (.t 35)⟩, ⟨some 37, none, .bsl [(.t 36)]⟩, ⟨some 38, none, .app true 1 (.t 25) (.t 37)⟩, ⟨some 11, none, .asg (.t 38)⟩] [0, 1, 2, 3, 8, 9, 10, 11, 12]))
  (.region none [ ⟨some 23, none, .mv (.t 12)⟩, ⟨some 24, none, .bin .add (.t 23) (.c (.int .i64 1))⟩, ⟨some 12, none, .mv (.t 24)⟩] [0, 1, 2, 3, 8, 9, 10, 11, 12]))))))
  (.region none [ ⟨some 39, none, .fld 0 (.t 9)⟩, ⟨some 40, none, .ld none (.t 39)⟩, ⟨some 41, none, .mv (.t 11)⟩, ⟨some 42, none, .bsl [(.t 41)]⟩, ⟨some 43, none, .app true 1 (.t 40) (.t 42)⟩, ⟨some 44, none, .fld 0 (.t 9)⟩, ⟨none, none, .st none (.t 44) (.t 43)⟩] [0, 1, 2, 3, 8, 9, 10]))))
  (.region none [ ⟨some 17, none, .mv (.t 10)⟩, ⟨some 18, none, .bin .add (.t 17) (.c (.int .i64 1))⟩, ⟨some 10, none, .mv (.t 18)⟩] [0, 1, 2, 3, 8, 9, 10])))))) (.seq
  (.region none [ ⟨some 45, none, .ld (some 1) (.t 9)⟩, ⟨none, none, .st (some 1) (.t 8) (.t 45)⟩] [8]) .ret))))

def j3e : F where
 np := 1
 rs := [.t 2]
 body :=
  (.seq
  (.region none [ ⟨some 1, none, .box (.t 0)⟩, ⟨some 2, none, .mv (.c (.bool false))⟩] [1]) (.seq
  (.region none [ ⟨some 3, none, .fld 0 (.t 1)⟩, ⟨some 4, none, .ld none (.t 3)⟩, ⟨some 5, none, .call (.f 46) [((.t 4), .r)]⟩, ⟨some 6, none, .mv (.t 5)⟩, ⟨some 7, (some (6, true)), .fld 0 (.t 1)⟩, ⟨some 8, (some (6, true)), .ld none (.t 7)⟩, ⟨some 9, (some (6, true)), .call (.f 410) [((.t 8), .r)]⟩, ⟨some 10, none, .pick (.t 6) (.t 9) (.c (.bool false))⟩, ⟨some 11, none, .mv (.t 10)⟩, ⟨some 12, (some (11, true)), .fld 0 (.t 1)⟩, ⟨some 13, (some (11, true)), .ld none (.t 12)⟩, ⟨some 14, (some (11, true)), .call (.f 417) [((.t 13), .r)]⟩, ⟨some 15, (some (11, true)), .call (.f 47) [((.t 14), .r)]⟩, ⟨some 16, none, .pick (.t 11) (.t 15) (.c (.bool false))⟩, ⟨some 17, none, .mv (.t 16)⟩, ⟨some 18, (some (17, true)), .fld 0 (.t 1)⟩, ⟨some 19, (some (17, true)), .ld none (.t 18)⟩, ⟨some 20, (some (17, true)), .call (.f 418) [((.t 19), .r)]⟩, ⟨some 21, (some (17, true)), .len (.t 20)⟩, ⟨some 22, (some (17, true)), .bin .eql (.t 21) (.c (.int .i64 0))⟩, ⟨some 23, none, .pick (.t 17) (.t 22) (.c (.bool false))⟩, ⟨some 2, none, .mv (.t 23)⟩] [2]) .ret))

def j14 : F where
 np := 1
 rs := [.t 2]
 body :=
  (.seq
  (.region none [ ⟨some 2, none, .asg (.c (.slice none 0 0))⟩] [0]) (.seq
  (.region none [ ⟨some 5, none, .bsl []⟩, ⟨some 3, none, .asg (.t 5)⟩] [0, 3]) (.seq (.seq
  (.region none [ ⟨some 4, none, .mv (.c (.int .i64 0))⟩] [0, 3, 4]) (.block 0 (.loop (.seq (.seq
  (.region none [ ⟨some 6, none, .mv (.t 4)⟩, ⟨some 7, none, .mv (.t 0)⟩, ⟨some 8, none, .len (.t 7)⟩, ⟨some 9, none, .bin .lss (.t 6) (.t 8)⟩] [0, 3, 4, 9]) (.cond (.t 9) .skip (.exit 0))) (.seq (.block 1
  (.region none [ ⟨some 12, none, .mv (.t 3)⟩, ⟨some 13, none, .mv (.t 0)⟩, ⟨some 14, none, .mv (.t 4)⟩, ⟨some 15, none, .idx 1 (.t 13) (.t 14)⟩, ⟨some 16, none, .ld none (.t 15)⟩, ⟨some 17, none, .mv (.t 4)⟩, ⟨some 18, none, .idx 1 (.t 16) (.t 17)⟩, ⟨some 19, none, .ld none (.t 18)⟩, ⟨some 20, none, .bsl [(.t 19)]⟩, ⟨some 21, none, .app true 1 (.t 12) (.t 20)⟩, ⟨some 3, none, .asg (.t 21)⟩] [0, 3, 4]))
  (.region none [ ⟨some 10, none, .mv (.t 4)⟩, ⟨some 11, none, .bin .add (.t 10) (.c (.int .i64 1))⟩, ⟨some 4, none, .mv (.t 11)⟩] [0, 3, 4])))))) (.seq
  (.region none [ ⟨some 22, none, .mv (.t 3)⟩, ⟨some 2, none, .asg (.t 22)⟩] [2]) .ret))))

def j2f : F where
 np := 1
 rs := [.t 2]
 body :=
  (.seq
  (.region none [ ⟨some 2, none, .asg (.c (.slice none 0 0))⟩] [0]) (.seq
  (.region none [ ⟨some 7, none, .mv (.t 0)⟩, ⟨some 8, none, .len (.t 7)⟩, ⟨some 3, none, .mv (.t 8)⟩] [0, 3]) (.seq (.seq
  (.region none [ ⟨some 4, none, .mv (.c (.int .i64 0))⟩] [0, 3, 4]) (.block 0 (.loop (.seq (.seq
  (.region none [ ⟨some 9, none, .mv (.t 4)⟩, ⟨some 10, none, .mv (.t 3)⟩, ⟨some 11, none, .bin .lss (.t 9) (.t 10)⟩] [0, 3, 4, 11]) (.cond (.t 11) .skip (.exit 0))) (.seq (.block 1 (.seq
  (.region none [ ⟨some 5, none, .mv (.c (.int .i64 0))⟩] [0, 3, 4, 5]) (.block 2 (.loop (.seq (.seq
  (.region none [ ⟨some 14, none, .mv (.t 5)⟩, ⟨some 15, none, .mv (.t 3)⟩, ⟨some 16, none, .bin .lss (.t 14) (.t 15)⟩] [0, 3, 4, 5, 16]) (.cond (.t 16) .skip (.exit 2))) (.seq (.block 3 (.seq
  (.region none [ ⟨some 6, none, .mv (.c (.int .i64 0))⟩] [0, 3, 4, 5, 6]) (.block 4 (.loop (.seq (.seq
  (.region none [ ⟨some 19, none, .mv (.t 6)⟩, ⟨some 20, none, .mv (.t 3)⟩, ⟨some 21, none, .bin .lss (.t 19) (.t 20)⟩] [0, 3, 4, 5, 6, 21]) (.cond (.t 21) .skip (.exit 4))) (.seq (.block 5 (.seq
  (.region (some [24, 25, 26, 27, 28, 29, 30, 31, 32, 33, 34, 35, 36, 37, 38, 39, 40, 41, 42, 43, 44, 45, 46, 47, 48, 49, 50, 51, 52, 53, 54, 55, 56, 57, 58, 59, 60, 61]) [ ⟨some 24, none, .mv (.t 0)⟩, ⟨some 25, none, .mv (.t 0)⟩, ⟨some 26, none, .mv (.t 4)⟩, ⟨some 27, none, .idx 1 (.t 25) (.t 26)⟩, ⟨some 28, none, .ld none (.t 27)⟩, ⟨some 29, none, .mv (.t 5)⟩, ⟨some 30, none, .idx 1 (.t 28) (.t 29)⟩, ⟨some 31, none, .ld none (.t 30)⟩, ⟨some 32, none, .idx 1 (.t 24) (.t 31)⟩, ⟨some 33, none, .ld none (.t 32)⟩, ⟨some 34, none, .mv (.t 0)⟩, ⟨some 35, none, .mv (.t 4)⟩, ⟨some 36, none, .idx 1 (.t 34) (.t 35)⟩, ⟨some 37, none, .ld none (.t 36)⟩, ⟨some 38, none, .mv (.t 6)⟩, ⟨some 39, none, .idx 1 (.t 37) (.t 38)⟩, ⟨some 40, none, .ld none (.t 39)⟩, ⟨some 41, none, .idx 1 (.t 33) (.t 40)⟩, ⟨some 42, none, .ld none (.t 41)⟩, ⟨some 43, none, .mv (.t 0)⟩, ⟨some 44, none, .mv (.t 0)⟩, ⟨some 45, none, .mv (.t 5)⟩, ⟨some 46, none, .idx 1 (.t 44) (.t 45)⟩, ⟨some 47, none, .ld none (.t 46)⟩, ⟨some 48, none, .mv (.t 4)⟩, ⟨some 49, none, .idx 1 (.t 47) (.t 48)⟩, ⟨some 50, none, .ld none (.t 49)⟩, ⟨some 51, none, .idx 1 (.t 43) (.t 50)⟩, ⟨some 52, none, .ld none (.t 51)⟩, ⟨some 53, none, .mv (.t 0)⟩, ⟨some 54, none, .mv (.t 5)⟩, ⟨some 55, none, .idx 1 (.t 53) (.t 54)⟩, ⟨some 56, none, .ld none (.t 55)⟩, ⟨some 57, none, .mv (.t 6)⟩, ⟨some 58, none, .idx 1 (.t 56) (.t 57)⟩, ⟨some 59, none, .ld none (.t 58)⟩, ⟨some 60, none, .idx 1 (.t 52) (.t 59)⟩, ⟨some 61, none, .ld none (.t 60)⟩, ⟨some 62, none, .bin .neq (.t 42) (.t 61)⟩] [0, 3, 4, 5, 6, 62]) (.cond (.t 62) (.seq
  (.region none [ ⟨some 63, none, .mv (.t 4)⟩, ⟨some 64, none, .mv (.t 5)⟩, ⟨some 65, none, .mv (.t 6)⟩, ⟨some 66, none, .bsl [(.t 63), (.t 64), (.t 65)]⟩, ⟨some 2, none, .asg (.t 66)⟩] [2]) .ret) .skip)))
  (.region none [ ⟨some 22, none, .mv (.t 6)⟩, ⟨some 23, none, .bin .add (.t 22) (.c (.int .i64 1))⟩, ⟨some 6, none, .mv (.t 23)⟩] [0, 3, 4, 5, 6])))))))
  (.region none [ ⟨some 17, none, .mv (.t 5)⟩, ⟨some 18, none, .bin .add (.t 17) (.c (.int .i64 1))⟩, ⟨some 5, none, .mv (.t 18)⟩] [0, 3, 4, 5])))))))
  (.region none [ ⟨some 12, none, .mv (.t 4)⟩, ⟨some 13, none, .bin .add (.t 12) (.c (.int .i64 1))⟩, ⟨some 4, none, .mv (.t 13)⟩] [0, 3, 4])))))) (.seq
  (.region none [ ⟨some 67, none, .bsl []⟩, ⟨some 2, none, .asg (.t 67)⟩] [2]) .ret))))

def j2v : F where
 np := 2
 rs := [.cell 4 (some 2)]
 fix := [0, 1]
 body :=
  (.seq
  (.region none [ ⟨some 4, none, .alloc [(.slice none 0 0), (.slice none 0 0)]⟩] [0, 1, 4]) (.seq
  (.region none [ ⟨some 6, none, .mvs 0⟩, ⟨some 7, none, .mv (.t 1)⟩, ⟨some 8, none, .calls (.f 445) (.t 6) 0 [(.t 7)]⟩, ⟨some 5, none, .alloc [(.slice none 0 0), (.slice none 0 0)]⟩, ⟨none, none, .st (some 2) (.t 5) (.t 8)⟩] [0, 1, 4, 5]) (.seq (.seq
  (.region none [ ⟨some 9, none, .mvs 0⟩, ⟨some 10, none, .calls (.f 336) (.t 9) 0 [(.c (.int .i64 4))]⟩, ⟨some 11, none, .bin .gtr (.t 10) (.c (.int .i64 0))⟩] [0, 1, 4, 5, 11]) (.cond (.t 11) (.seq
  (.region (some [12, 13, 14, 15, 16, 17]) [ ⟨some 12, none, .ld (some 2) (.t 5)⟩, ⟨some 13, none, .mvs 0⟩, ⟨some 14, none, .fld 0 (.t 5)⟩, ⟨some 15, none, .ld none (.t 14)⟩, ⟨some 16, none, .len (.t 15)⟩, ⟨some 17, none, .calls (.f 368) (.t 13) 0 [(.t 16)]⟩, ⟨some 18, none, .call (.f 422) [((.t 12), .r), ((.t 17), .r)]⟩, ⟨none, none, .st (some 2) (.t 4) (.t 18)⟩] [0, 1, 4]) .ret) .skip)) (.seq
  (.region none [ ⟨some 19, none, .ld (some 2) (.t 5)⟩, ⟨none, none, .st (some 2) (.t 4) (.t 19)⟩] [0, 1, 4]) .ret))))

def j3g : F where
 np := 2
 rs := [.cell 4 (some 2)]
 fix := [0, 1]
 body :=
  (.seq
  (.region none [ ⟨some 4, none, .alloc [(.slice none 0 0), (.slice none 0 0)]⟩] [0, 1, 4]) (.seq
  (.region none [ ⟨some 9, none, .mvs 0⟩, ⟨some 10, none, .mv (.t 1)⟩, ⟨some 11, none, .calls (.f 336) (.t 9) 0 [(.t 10)]⟩, ⟨some 12, none, .bin .add (.c (.int .i64 1)) (.t 11)⟩, ⟨some 5, none, .mv (.t 12)⟩] [0, 1, 4, 5]) (.seq (.seq
  (.region none [ ⟨some 13, none, .mvs 0⟩, ⟨some 14, none, .calls (.f 336) (.t 13) 0 [(.c (.int .i64 8))]⟩] [0, 1, 4, 5, 14]) (.block 0 (.seq
  (.region none [ ⟨some 16, none, .bin .eql (.t 14) (.c (.int .i64 0))⟩, ⟨some 15, none, .mv (.t 16)⟩] [0, 1, 4, 5, 14, 15]) (.cond (.t 15) (.seq
  (.region none [ ⟨some 17, none, .mv (.t 5)⟩, ⟨some 18, none, .call (.f 449) [((.t 17), .r)]⟩, ⟨none, none, .st (some 2) (.t 4) (.t 18)⟩] [0, 1, 4]) .ret) (.seq
  (.region none [ ⟨some 20, none, .bin .eql (.t 14) (.c (.int .i64 1))⟩, ⟨some 19, none, .mv (.t 20)⟩] [0, 1, 4, 5, 14, 19]) (.cond (.t 19) (.seq
  (.region none [ ⟨some 21, none, .mv (.t 5)⟩, ⟨some 22, none, .call (.f 423) [((.t 21), .r)]⟩, ⟨none, none, .st (some 2) (.t 4) (.t 22)⟩] [0, 1, 4]) .ret) (.seq
  (.region none [ ⟨some 24, none, .bin .eql (.t 14) (.c (.int .i64 2))⟩, ⟨some 23, none, .mv (.t 24)⟩] [0, 1, 4, 5, 14, 23]) (.cond (.t 23) (.seq
  (.region none [ ⟨some 25, none, .mv (.t 5)⟩, ⟨some 26, none, .bin .geq (.t 25) (.c (.int .i64 4))⟩, ⟨some 27, none, .mv (.t 26)⟩, ⟨some 28, (some (27, true)), .mv (.t 5)⟩, ⟨some 29, (some (27, true)), .bin .rem (.t 28) (.c (.int .i64 2))⟩, ⟨some 30, (some (27, true)), .bin .eql (.t 29) (.c (.int .i64 0))⟩, ⟨some 31, none, .pick (.t 27) (.t 30) (.c (.bool false))⟩] [0, 1, 4, 5, 31]) (.cond (.t 31) (.seq
  (.region none [ ⟨some 32, none, .mvs 0⟩, ⟨some 33, none, .mv (.t 5)⟩, ⟨some 34, none, .bin .quo (.t 33) (.c (.int .i64 2))⟩, ⟨some 35, none, .calls (.f 459) (.t 32) 0 [(.t 34)]⟩, ⟨some 36, none, .mvs 0⟩, ⟨some 37, none, .calls (.f 459) (.t 36) 0 [(.c (.int .i64 2))]⟩, ⟨some 38, none, .call (.f 458) [((.t 35), .r), ((.t 37), .r)]⟩, ⟨none, none, .st (some 2) (.t 4) (.t 38)⟩] [0, 1, 4]) .ret) .skip)) (.seq
  (.region none [ ⟨some 40, none, .bin .eql (.t 14) (.c (.int .i64 3))⟩, ⟨some 39, none, .mv (.t 40)⟩] [0, 1, 4, 5, 14, 39]) (.cond (.t 39) (.seq
  (.region none [ ⟨some 41, none, .mv (.t 5)⟩, ⟨some 42, none, .bin .geq (.t 41) (.c (.int .i64 2))⟩] [0, 1, 4, 5, 42]) (.cond (.t 42) (.seq
  (.region none [ ⟨some 43, none, .mvs 0⟩, ⟨some 44, none, .mv (.t 5)⟩, ⟨some 45, none, .bin .sub (.t 44) (.c (.int .i64 1))⟩, ⟨some 46, none, .calls (.f 336) (.t 43) 0 [(.t 45)]⟩, ⟨some 47, none, .bin .add (.c (.int .i64 1)) (.t 46)⟩, ⟨some 6, none, .mv (.t 47)⟩] [0, 1, 4, 5, 6]) (.seq
  (.region none [ ⟨some 48, none, .mvs 0⟩, ⟨some 49, none, .mv (.t 6)⟩, ⟨some 50, none, .calls (.f 445) (.t 48) 0 [(.t 49)]⟩, ⟨some 51, none, .mvs 0⟩, ⟨some 52, none, .mv (.t 5)⟩, ⟨some 53, none, .mv (.t 6)⟩, ⟨some 54, none, .bin .sub (.t 52) (.t 53)⟩, ⟨some 55, none, .calls (.f 459) (.t 51) 0 [(.t 54)]⟩, ⟨some 56, none, .call (.f 460) [((.t 50), .r), ((.t 55), .r)]⟩, ⟨none, none, .st (some 2) (.t 4) (.t 56)⟩] [0, 1, 4]) .ret)) .skip)) (.seq
  (.region none [ ⟨some 58, none, .bin .eql (.t 14) (.c (.int .i64 4))⟩, ⟨some 57, none, .mv (.t 58)⟩] [0, 1, 4, 5, 14, 57]) (.cond (.t 57) (.seq
  (.region none [ ⟨some 59, none, .mv (.t 1)⟩, ⟨some 60, none, .bin .geq (.t 59) (.c (.int .i64 4))⟩] [0, 1, 4, 5, 60]) (.cond (.t 60) (.seq
  (.region none [ ⟨some 61, none, .bsl [(.c (.int .i64 0)), (.c (.int .i64 1)), (.c (.int .i64 3)), (.c (.int .i64 2))]⟩, ⟨some 62, none, .bsl [(.c (.int .i64 0)), (.c (.int .i64 1)), (.c (.int .i64 3)), (.c (.int .i64 2))]⟩, ⟨some 63, none, .bsl [(.c (.int .i64 1)), (.c (.int .i64 0)), (.c (.int .i64 2)), (.c (.int .i64 3))]⟩, ⟨some 64, none, .bsl [(.c (.int .i64 1)), (.c (.int .i64 0)), (.c (.int .i64 2)), (.c (.int .i64 3))]⟩, ⟨some 65, none, .bsl [(.t 61), (.t 62), (.t 63), (.t 64)]⟩, ⟨some 7, none, .asg (.t 65)⟩] [0, 1, 4, 7]) (.seq
  (.region none [ ⟨some 66, none, .mv (.t 7)⟩, ⟨some 67, none, .call (.f 461) [((.t 66), .r)]⟩, ⟨none, none, .st (some 2) (.t 4) (.t 67)⟩] [0, 1, 4]) .ret)) .skip)) (.seq
  (.region none [ ⟨some 69, none, .bin .eql (.t 14) (.c (.int .i64 5))⟩, ⟨some 68, none, .mv (.t 69)⟩] [0, 1, 4, 5, 14, 68]) (.cond (.t 68) (.seq
  (.region none [ ⟨some 70, none, .mv (.t 5)⟩, ⟨some 71, none, .bin .geq (.t 70) (.c (.int .i64 2))⟩] [0, 1, 4, 5, 71]) (.cond (.t 71) (.seq
  (.region none [ ⟨some 72, none, .mv (.t 5)⟩, ⟨some 73, none, .call (.f 423) [((.t 72), .r)]⟩, ⟨some 74, none, .call (.f 406) [((.t 73), .r)]⟩, ⟨none, none, .st (some 2) (.t 4) (.t 74)⟩] [0, 1, 4]) .ret) .skip)) (.seq
  (.region none [ ⟨some 76, none, .bin .eql (.t 14) (.c (.int .i64 6))⟩, ⟨some 75, none, .mv (.t 76)⟩] [0, 1, 4, 5, 75]) (.cond (.t 75) (.seq
  (.region none [ ⟨some 77, none, .mv (.t 1)⟩, ⟨some 78, none, .bin .geq (.t 77) (.c (.int .i64 3))⟩] [0, 1, 4, 5, 78]) (.cond (.t 78) (.seq
  (.region none [ ⟨some 79, none, .bsl [(.c (.int .i64 0)), (.c (.int .i64 1)), (.c (.int .i64 2))]⟩, ⟨some 80, none, .bsl [(.c (.int .i64 0)), (.c (.int .i64 1)), (.c (.int .i64 2))]⟩, ⟨some 81, none, .bsl [(.c (.int .i64 1)), (.c (.int .i64 0)), (.c (.int .i64 2))]⟩, ⟨some 82, none, .bsl [(.t 79), (.t 80), (.t 81)]⟩, ⟨some 8, none, .asg (.t 82)⟩] [0, 1, 4, 8]) (.seq
  (.region none [ ⟨some 83, none, .mv (.t 8)⟩, ⟨some 84, none, .call (.f 461) [((.t 83), .r)]⟩, ⟨none, none, .st (some 2) (.t 4) (.t 84)⟩] [0, 1, 4]) .ret)) .skip)) .skip)))))))))))))))) (.seq
  (.region none [ ⟨some 85, none, .mvs 0⟩, ⟨some 86, none, .mv (.t 5)⟩, ⟨some 87, none, .calls (.f 459) (.t 85) 0 [(.t 86)]⟩, ⟨none, none, .st (some 2) (.t 4) (.t 87)⟩] [0, 1, 4]) .ret))))

def j44 : F where
 np := 1
 rs := [.cell 2 (some 2)]
 body :=
  (.seq
  (.region none [ ⟨some 2, none, .alloc [(.slice none 0 0), (.slice none 0 0)]⟩] [0, 2]) (.seq
  (.region none [ ⟨some 4, none, .mv (.t 0)⟩, ⟨some 5, none, .call (.f 334) [((.t 4), .r)]⟩, ⟨some 3, none, .asg (.t 5)⟩] [2, 3]) (.seq
  (.region none [ ⟨some 6, none, .mv (.t 3)⟩, ⟨some 7, none, .mv (.t 3)⟩, ⟨some 8, none, .call (.f 425) [((.t 6), .r), ((.t 7), .r)]⟩, ⟨none, none, .st (some 2) (.t 2) (.t 8)⟩] [2]) .ret)))

def j24 : F where
 np := 2
 rs := [.cell 4 (some 2)]
 body :=
  (.seq
  (.region none [ ⟨some 4, none, .alloc [(.slice none 0 0), (.slice none 0 0)]⟩] [0, 1, 4]) (.seq
  (.region none [ ⟨some 9, none, .build [(.slice none 0 0), (.slice none 0 0)] []⟩, ⟨some 5, none, .alloc [(.slice none 0 0), (.slice none 0 0)]⟩, ⟨none, none, .st (some 2) (.t 5) (.t 9)⟩] [0, 1, 4, 5]) (.seq (.seq
  (.region none [ ⟨some 6, none, .mv (.c (.int .i64 0))⟩] [0, 1, 4, 5, 6]) (.block 0 (.loop (.seq (.seq
  (.region none [ ⟨some 10, none, .mv (.t 6)⟩, ⟨some 11, none, .mv (.t 0)⟩, ⟨some 12, none, .len (.t 11)⟩, ⟨some 13, none, .bin .lss (.t 10) (.t 12)⟩] [0, 1, 4, 5, 6, 13]) (.cond (.t 13) .skip (.exit 0))) (.seq (.block 1 (.seq
  (.region none [ ⟨some 16, none, .bsl []⟩, ⟨some 7, none, .asg (.t 16)⟩] [0, 1, 4, 5, 6, 7]) (.seq (.seq
  (.region none [ ⟨some 8, none, .mv (.c (.int .i64 0))⟩] [0, 1, 4, 5, 6, 7, 8]) (.block 2 (.loop (.seq (.seq
  (.region none [ ⟨some 17, none, .mv (.t 8)⟩, ⟨some 18, none, .mv (.t 0)⟩, ⟨some 19, none, .len (.t 18)⟩, ⟨some 20, none, .bin .lss (.t 17) (.t 19)⟩] [0, 1, 4, 5, 6, 7, 8, 20]) (.cond (.t 20) .skip (.exit 2))) (.seq (.block 3
  (.region none [ ⟨some 23, none, .mv (.t 7)⟩, ⟨some 24, none, .mv (.t 1)⟩, ⟨some 25, none, .mv (.t 6)⟩, ⟨some 26, none, .idx 1 (.t 24) (.t 25)⟩, ⟨some 27, none, .ld none (.t 26)⟩, ⟨some 28, none, .bsl [(.t 27)]⟩, ⟨some 29, none, .app true 1 (.t 23) (.t 28)⟩, ⟨some 7, none, .asg (.t 29)⟩] [0, 1, 4, 5, 6, 7, 8]))
  (.region none [ ⟨some 21, none, .mv (.t 8)⟩, ⟨some 22, none, .bin .add (.t 21) (.c (.int .i64 1))⟩, ⟨some 8, none, .mv (.t 22)⟩] [0, 1, 4, 5, 6, 7, 8])))))) (.seq
  (.region (some [30, 31, 32, 33, 34]) [ ⟨some 30, none, .fld 0 (.t 5)⟩, ⟨some 31, none, .ld none (.t 30)⟩, ⟨some 32, none, .mv (.t 0)⟩, ⟨some 33, none, .call (.f 31) [((.t 32), .r)]⟩, ⟨some 34, none, .bsl1 33⟩, ⟨some 35, none, .app true 1 (.t 31) (.t 34)⟩, ⟨some 36, none, .fld 0 (.t 5)⟩, ⟨none, none, .st none (.t 36) (.t 35)⟩] [0, 1, 4, 5, 6, 7])
  (.region none [ ⟨some 37, none, .fld 1 (.t 5)⟩, ⟨some 38, none, .ld none (.t 37)⟩, ⟨some 39, none, .mv (.t 7)⟩, ⟨some 40, none, .bsl [(.t 39)]⟩, ⟨some 41, none, .app true 1 (.t 38) (.t 40)⟩, ⟨some 42, none, .fld 1 (.t 5)⟩, ⟨none, none, .st none (.t 42) (.t 41)⟩] [0, 1, 4, 5, 6])))))
  (.region none [ ⟨some 14, none, .mv (.t 6)⟩, ⟨some 15, none, .bin .add (.t 14) (.c (.int .i64 1))⟩, ⟨some 6, none, .mv (.t 15)⟩] [0, 1, 4, 5, 6])))))) (.seq
  (.region none [ ⟨some 43, none, .ld (some 2) (.t 5)⟩, ⟨none, none, .st (some 2) (.t 4) (.t 43)⟩] [4]) .ret))))

def j16 : F where
 np := 1
 rs := [.cell 2 (some 2)]
 body :=
  (.seq
  (.region none [ ⟨some 2, none, .alloc [(.slice none 0 0), (.slice none 0 0)]⟩] [0, 2]) (.seq
  (.region none [ ⟨some 8, none, .build [(.slice none 0 0), (.slice none 0 0)] []⟩, ⟨some 3, none, .alloc [(.slice none 0 0), (.slice none 0 0)]⟩, ⟨none, none, .st (some 2) (.t 3) (.t 8)⟩] [0, 2, 3]) (.seq (.seq
  (.region none [ ⟨some 4, none, .mv (.c (.int .i64 0))⟩] [0, 2, 3, 4]) (.block 0 (.loop (.seq (.seq
  (.region none [ ⟨some 9, none, .mv (.t 4)⟩, ⟨some 10, none, .mv (.t 0)⟩, ⟨some 11, none, .bin .lss (.t 9) (.t 10)⟩] [0, 2, 3, 4, 11]) (.cond (.t 11) .skip (.exit 0))) (.seq (.block 1 (.seq
  (.region none [ ⟨some 14, none, .bsl []⟩, ⟨some 15, none, .bsl []⟩, ⟨some 5, none, .asg (.t 14)⟩, ⟨some 6, none, .asg (.t 15)⟩] [0, 2, 3, 4, 5, 6]) (.seq (.seq
  (.region none [ ⟨some 7, none, .mv (.c (.int .i64 0))⟩] [0, 2, 3, 4, 5, 6, 7]) (.block 2 (.loop (.seq (.seq
  (.region none [ ⟨some 16, none, .mv (.t 7)⟩, ⟨some 17, none, .mv (.t 0)⟩, ⟨some 18, none, .bin .lss (.t 16) (.t 17)⟩] [0, 2, 3, 4, 5, 6, 7, 18]) (.cond (.t 18) .skip (.exit 2))) (.seq (.block 3 (.seq
  (.region none [ ⟨some 21, none, .mv (.t 5)⟩, ⟨some 22, none, .mv (.t 4)⟩, ⟨some 23, none, .bin .mul (.c (.int .i64 2)) (.t 22)⟩, ⟨some 24, none, .mv (.t 7)⟩, ⟨some 25, none, .bin .sub (.t 23) (.t 24)⟩, ⟨some 26, none, .mv (.t 0)⟩, ⟨some 27, none, .bin .add (.t 25) (.t 26)⟩, ⟨some 28, none, .mv (.t 0)⟩, ⟨some 29, none, .bin .rem (.t 27) (.t 28)⟩, ⟨some 30, none, .bsl [(.t 29)]⟩, ⟨some 31, none, .app true 1 (.t 21) (.t 30)⟩, ⟨some 5, none, .asg (.t 31)⟩] [0, 2, 3, 4, 5, 6, 7])
  (.region none [ ⟨some 32, none, .mv (.t 6)⟩, ⟨some 33, none, .mv (.t 4)⟩, ⟨some 34, none, .bsl [(.t 33)]⟩, ⟨some 35, none, .app true 1 (.t 32) (.t 34)⟩, ⟨some 6, none, .asg (.t 35)⟩] [0, 2, 3, 4, 5, 6, 7])))
  (.region none [ ⟨some 19, none, .mv (.t 7)⟩, ⟨some 20, none, .bin .add (.t 19) (.c (.int .i64 1))⟩, ⟨some 7, none, .mv (.t 20)⟩] [0, 2, 3, 4, 5, 6, 7])))))) (.seq
  (.region none [ ⟨some 36, none, .fld 0 (.t 3)⟩, ⟨some 37, none, .ld none (.t 36)⟩, ⟨some 38, none, .mv (.t 5)⟩, ⟨some 39, none, .bsl [(.t 38)]⟩, ⟨some 40, none, .app true 1 (.t 37) (.t 39)⟩, ⟨some 41, none, .fld 0 (.t 3)⟩, ⟨none, none, .st none (.t 41) (.t 40)⟩] [0, 2, 3, 4, 6])
  (.region none [ ⟨some 42, none, .fld 1 (.t 3)⟩, ⟨some 43, none, .ld none (.t 42)⟩, ⟨some 44, none, .mv (.t 6)⟩, ⟨some 45, none, .bsl [(.t 44)]⟩, ⟨some 46, none, .app true 1 (.t 43) (.t 45)⟩, ⟨some 47, none, .fld 1 (.t 3)⟩, ⟨none, none, .st none (.t 47) (.t 46)⟩] [0, 2, 3, 4])))))
  (.region none [ ⟨some 12, none, .mv (.t 4)⟩, ⟨some 13, none, .bin .add (.t 12) (.c (.int .i64 1))⟩, ⟨some 4, none, .mv (.t 13)⟩] [0, 2, 3, 4])))))) (.seq
  (.region none [ ⟨some 48, none, .ld (some 2) (.t 3)⟩, ⟨none, none, .st (some 2) (.t 2) (.t 48)⟩] [2]) .ret))))

def j1g : F where
 np := 2
 rs := [.cell 4 (some 2)]
 fix := [0, 1]
 body :=
  (.seq
  (.region none [ ⟨some 4, none, .alloc [(.slice none 0 0), (.slice none 0 0)]⟩] [0, 1, 4]) (.seq
  (.region none [ ⟨some 8, none, .mvs 0⟩, ⟨some 9, none, .mv (.t 1)⟩, ⟨some 10, none, .calls (.f 368) (.t 8) 0 [(.t 9)]⟩, ⟨some 5, none, .asg (.t 10)⟩] [0, 1, 4, 5]) (.seq
  (.region none [ ⟨some 11, none, .mv (.t 1)⟩, ⟨some 12, none, .call (.f 334) [((.t 11), .r)]⟩, ⟨some 6, none, .asg (.t 12)⟩] [0, 1, 4, 5, 6]) (.seq (.seq
  (.region none [ ⟨some 13, none, .mvs 0⟩, ⟨some 14, none, .calls (.f 336) (.t 13) 0 [(.c (.int .i64 4))]⟩, ⟨some 7, none, .mv (.t 14)⟩] [0, 1, 4, 5, 6, 7]) (.block 0 (.loop (.seq (.seq
  (.region none [ ⟨some 15, none, .mv (.t 7)⟩, ⟨some 16, none, .bin .gtr (.t 15) (.c (.int .i64 0))⟩] [0, 1, 4, 5, 6, 7, 16]) (.cond (.t 16) .skip (.exit 0))) (.seq (.block 1
  (.region none [ ⟨some 19, none, .mv (.t 6)⟩, ⟨some 20, none, .mv (.t 5)⟩, ⟨some 21, none, .call (.f 279) [((.t 19), .r), ((.t 20), .r)]⟩, ⟨some 6, none, .asg (.t 21)⟩] [0, 1, 4, 5, 6, 7]))
  (.region none [ ⟨some 17, none, .mv (.t 7)⟩, ⟨some 18, none, .bin .sub (.t 17) (.c (.int .i64 1))⟩, ⟨some 7, none, .mv (.t 18)⟩] [0, 1, 4, 5, 6, 7])))))) (.seq (.seq
  (.region none [ ⟨some 22, none, .mvs 0⟩, ⟨some 23, none, .calls (.f 336) (.t 22) 0 [(.c (.int .i64 2))]⟩, ⟨some 24, none, .bin .eql (.t 23) (.c (.int .i64 0))⟩] [0, 1, 4, 5, 6, 24]) (.cond (.t 24) (.seq
  (.region none [ ⟨some 25, none, .mv (.t 5)⟩, ⟨some 26, none, .mv (.t 6)⟩, ⟨some 27, none, .call (.f 425) [((.t 25), .r), ((.t 26), .r)]⟩, ⟨none, none, .st (some 2) (.t 4) (.t 27)⟩] [0, 1, 4]) .ret) .skip)) (.seq
  (.region none [ ⟨some 28, none, .mv (.t 6)⟩, ⟨some 29, none, .mv (.t 5)⟩, ⟨some 30, none, .call (.f 425) [((.t 28), .r), ((.t 29), .r)]⟩, ⟨none, none, .st (some 2) (.t 4) (.t 30)⟩] [0, 1, 4]) .ret))))))

def j4e : F where
 np := 2
 rs := [.t 4]
 fix := [0, 1]
 body :=
  (.seq
  (.region none [ ⟨some 4, none, .asg (.c (.slice none 0 0))⟩] [0, 1]) (.seq
  (.region none [ ⟨some 9, none, .mv (.t 1)⟩, ⟨some 10, none, .call (.f 334) [((.t 9), .r)]⟩, ⟨some 5, none, .asg (.t 10)⟩] [0, 1, 5]) (.seq (.seq
  (.region none [ ⟨some 11, none, .mv (.t 1)⟩, ⟨some 12, none, .bin .sub (.t 11) (.c (.int .i64 1))⟩, ⟨some 6, none, .mv (.t 12)⟩] [0, 1, 5, 6]) (.block 0 (.loop (.seq (.seq
  (.region none [ ⟨some 13, none, .mv (.t 6)⟩, ⟨some 14, none, .bin .gtr (.t 13) (.c (.int .i64 0))⟩] [0, 1, 5, 6, 14]) (.cond (.t 14) .skip (.exit 0))) (.seq (.block 1 (.seq
  (.region none [ ⟨some 17, none, .mvs 0⟩, ⟨some 18, none, .mv (.t 6)⟩, ⟨some 19, none, .bin .add (.t 18) (.c (.int .i64 1))⟩, ⟨some 20, none, .calls (.f 336) (.t 17) 0 [(.t 19)]⟩, ⟨some 7, none, .mv (.t 20)⟩] [0, 1, 5, 6, 7]) (.seq
  (.region none [ ⟨some 21, none, .mv (.t 5)⟩, ⟨some 22, none, .mv (.t 6)⟩, ⟨some 23, none, .idx 1 (.t 21) (.t 22)⟩, ⟨some 24, none, .ld none (.t 23)⟩, ⟨some 8, none, .mv (.t 24)⟩] [0, 1, 5, 6, 7, 8]) (.seq
  (.region none [ ⟨some 25, none, .mv (.t 5)⟩, ⟨some 26, none, .mv (.t 6)⟩, ⟨some 27, none, .mv (.t 5)⟩, ⟨some 28, none, .mv (.t 7)⟩, ⟨some 29, none, .idx 1 (.t 27) (.t 28)⟩, ⟨some 30, none, .ld none (.t 29)⟩, ⟨some 31, none, .idx 1 (.t 25) (.t 26)⟩, ⟨none, none, .st none (.t 31) (.t 30)⟩] [0, 1, 5, 6, 7, 8])
  (.region none [ ⟨some 32, none, .mv (.t 5)⟩, ⟨some 33, none, .mv (.t 7)⟩, ⟨some 34, none, .mv (.t 8)⟩, ⟨some 35, none, .idx 1 (.t 32) (.t 33)⟩, ⟨none, none, .st none (.t 35) (.t 34)⟩] [0, 1, 5, 6])))))
  (.region none [ ⟨some 15, none, .mv (.t 6)⟩, ⟨some 16, none, .bin .sub (.t 15) (.c (.int .i64 1))⟩, ⟨some 6, none, .mv (.t 16)⟩] [0, 1, 5, 6])))))) (.seq
  (.region none [ ⟨some 36, none, .mv (.t 5)⟩, ⟨some 4, none, .asg (.t 36)⟩] [0, 1, 4]) .ret))))

def j15 : F where
 np := 2
 rs := [.cell 4 (some 2)]
 body :=
  (.seq
  (.region none [ ⟨some 2, none, .box (.t 0)⟩, ⟨some 3, none, .box (.t 1)⟩, ⟨some 4, none, .alloc [(.slice none 0 0), (.slice none 0 0)]⟩] [2, 3, 4]) (.seq
  (.region (some [5, 12, 13, 14, 15, 16, 17]) [ ⟨some 12, none, .fld 0 (.t 2)⟩, ⟨some 13, none, .ld none (.t 12)⟩, ⟨some 14, none, .len (.t 13)⟩, ⟨some 15, none, .fld 0 (.t 3)⟩, ⟨some 16, none, .ld none (.t 15)⟩, ⟨some 17, none, .len (.t 16)⟩, ⟨some 5, none, .mv (.t 14)⟩, ⟨some 6, none, .mv (.t 17)⟩] [2, 3, 4, 5, 6]) (.seq
  (.region none [ ⟨some 18, none, .build [(.slice none 0 0), (.slice none 0 0)] []⟩, ⟨some 7, none, .alloc [(.slice none 0 0), (.slice none 0 0)]⟩, ⟨none, none, .st (some 2) (.t 7) (.t 18)⟩] [2, 3, 4, 5, 6, 7]) (.seq (.seq
  (.region none [ ⟨some 8, none, .mv (.c (.int .i64 0))⟩] [2, 3, 4, 5, 6, 7, 8]) (.block 0 (.loop (.seq (.seq
  (.region none [ ⟨some 19, none, .mv (.t 8)⟩, ⟨some 20, none, .mv (.t 5)⟩, ⟨some 21, none, .mv (.t 6)⟩, ⟨some 22, none, .bin .mul (.t 20) (.t 21)⟩, ⟨some 23, none, .bin .lss (.t 19) (.t 22)⟩] [2, 3, 4, 5, 6, 7, 8, 23]) (.cond (.t 23) .skip (.exit 0))) (.seq (.block 1 (.seq
  (.region none [ ⟨some 26, none, .bsl []⟩, ⟨some 27, none, .bsl []⟩, ⟨some 9, none, .asg (.t 26)⟩, ⟨some 10, none, .asg (.t 27)⟩] [2, 3, 4, 5, 6, 7, 8, 9, 10]) (.seq (.seq
  (.region none [ ⟨some 11, none, .mv (.c (.int .i64 0))⟩] [2, 3, 4, 5, 6, 7, 8, 9, 10, 11]) (.block 2 (.loop (.seq (.seq
  (.region none [ ⟨some 28, none, .mv (.t 11)⟩, ⟨some 29, none, .mv (.t 5)⟩, ⟨some 30, none, .mv (.t 6)⟩, ⟨some 31, none, .bin .mul (.t 29) (.t 30)⟩, ⟨some 32, none, .bin .lss (.t 28) (.t 31)⟩] [2, 3, 4, 5, 6, 7, 8, 9, 10, 11, 32]) (.cond (.t 32) .skip (.exit 2))) (.seq (.block 3 (.seq
  (.region (some [35, 36, 37, 38, 39, 40, 41, 42, 43, 44, 45, 46, 47, 48, 49, 50, 51, 52, 53, 54, 55, 56, 57, 58, 59, 60, 61, 62, 63]) [ ⟨some 35, none, .mv (.t 9)⟩, ⟨some 36, none, .fld 0 (.t 2)⟩, ⟨some 37, none, .ld none (.t 36)⟩, ⟨some 38, none, .mv (.t 8)⟩, ⟨some 39, none, .mv (.t 6)⟩, ⟨some 40, none, .bin .quo (.t 38) (.t 39)⟩, ⟨some 41, none, .idx 1 (.t 37) (.t 40)⟩, ⟨some 42, none, .ld none (.t 41)⟩, ⟨some 43, none, .mv (.t 11)⟩, ⟨some 44, none, .mv (.t 6)⟩, ⟨some 45, none, .bin .quo (.t 43) (.t 44)⟩, ⟨some 46, none, .idx 1 (.t 42) (.t 45)⟩, ⟨some 47, none, .ld none (.t 46)⟩, ⟨some 48, none, .mv (.t 6)⟩, ⟨some 49, none, .bin .mul (.t 47) (.t 48)⟩, ⟨some 50, none, .fld 0 (.t 3)⟩, ⟨some 51, none, .ld none (.t 50)⟩, ⟨some 52, none, .mv (.t 8)⟩, ⟨some 53, none, .mv (.t 6)⟩, ⟨some 54, none, .bin .rem (.t 52) (.t 53)⟩, ⟨some 55, none, .idx 1 (.t 51) (.t 54)⟩, ⟨some 56, none, .ld none (.t 55)⟩, ⟨some 57, none, .mv (.t 11)⟩, ⟨some 58, none, .mv (.t 6)⟩, ⟨some 59, none, .bin .rem (.t 57) (.t 58)⟩, ⟨some 60, none, .idx 1 (.t 56) (.t 59)⟩, ⟨some 61, none, .ld none (.t 60)⟩, ⟨some 62, none, .bin .add (.t 49) (.t 61)⟩, ⟨some 63, none, .bslv 1 [(.t 62)]⟩, ⟨some 64, none, .app true 1 (.t 35) (.t 63)⟩, ⟨some 9, none, .asg (.t 64)⟩] [2, 3, 4, 5, 6, 7, 8, 9, 10, 11])
  (.region (some [65, 66, 67, 68, 69, 70, 71, 72, 73, 74, 75, 76, 77, 78, 79, 80, 81, 82, 83, 84, 85, 86, 87, 88, 89, 90, 91, 92, 93]) [ ⟨some 65, none, .mv (.t 10)⟩, ⟨some 66, none, .fld 1 (.t 2)⟩, ⟨some 67, none, .ld none (.t 66)⟩, ⟨some 68, none, .mv (.t 8)⟩, ⟨some 69, none, .mv (.t 6)⟩, ⟨some 70, none, .bin .quo (.t 68) (.t 69)⟩, ⟨some 71, none, .idx 1 (.t 67) (.t 70)⟩, ⟨some 72, none, .ld none (.t 71)⟩, ⟨some 73, none, .mv (.t 11)⟩, ⟨some 74, none, .mv (.t 6)⟩, ⟨some 75, none, .bin .quo (.t 73) (.t 74)⟩, ⟨some 76, none, .idx 1 (.t 72) (.t 75)⟩, ⟨some 77, none, .ld none (.t 76)⟩, ⟨some 78, none, .mv (.t 6)⟩, ⟨some 79, none, .bin .mul (.t 77) (.t 78)⟩, ⟨some 80, none, .fld 1 (.t 3)⟩, ⟨some 81, none, .ld none (.t 80)⟩, ⟨some 82, none, .mv (.t 8)⟩, ⟨some 83, none, .mv (.t 6)⟩, ⟨some 84, none, .bin .rem (.t 82) (.t 83)⟩, ⟨some 85, none, .idx 1 (.t 81) (.t 84)⟩, ⟨some 86, none, .ld none (.t 85)⟩, ⟨some 87, none, .mv (.t 11)⟩, ⟨some 88, none, .mv (.t 6)⟩, ⟨some 89, none, .bin .rem (.t 87) (.t 88)⟩, ⟨some 90, none, .idx 1 (.t 86) (.t 89)⟩, ⟨some 91, none, .ld none (.t 90)⟩, ⟨some 92, none, .bin .add (.t 79) (.t 91)⟩, ⟨some 93, none, .bslv 1 [(.t 92)]⟩, ⟨some 94, none, .app true 1 (.t 65) (.t 93)⟩, ⟨some 10, none, .asg (.t 94)⟩] [2, 3, 4, 5, 6, 7, 8, 9, 10, 11])))
  (.region none [ ⟨some 33, none, .mv (.t 11)⟩, ⟨some 34, none, .bin .add (.t 33) (.c (.int .i64 1))⟩, ⟨some 11, none, .mv (.t 34)⟩] [2, 3, 4, 5, 6, 7, 8, 9, 10, 11])))))) (.seq
  (.region none [ ⟨some 95, none, .fld 0 (.t 7)⟩, ⟨some 96, none, .ld none (.t 95)⟩, ⟨some 97, none, .mv (.t 9)⟩, ⟨some 98, none, .bsl [(.t 97)]⟩, ⟨some 99, none, .app true 1 (.t 96) (.t 98)⟩, ⟨some 100, none, .fld 0 (.t 7)⟩, ⟨none, none, .st none (.t 100) (.t 99)⟩] [2, 3, 4, 5, 6, 7, 8, 10])
  (.region none [ ⟨some 101, none, .fld 1 (.t 7)⟩, ⟨some 102, none, .ld none (.t 101)⟩, ⟨some 103, none, .mv (.t 10)⟩, ⟨some 104, none, .bsl [(.t 103)]⟩, ⟨some 105, none, .app true 1 (.t 102) (.t 104)⟩, ⟨some 106, none, .fld 1 (.t 7)⟩, ⟨none, none, .st none (.t 106) (.t 105)⟩] [2, 3, 4, 5, 6, 7, 8])))))
  (.region none [ ⟨some 24, none, .mv (.t 8)⟩, ⟨some 25, none, .bin .add (.t 24) (.c (.int .i64 1))⟩, ⟨some 8, none, .mv (.t 25)⟩] [2, 3, 4, 5, 6, 7, 8])))))) (.seq
  (.region none [ ⟨some 107, none, .ld (some 2) (.t 7)⟩, ⟨none, none, .st (some 2) (.t 4) (.t 107)⟩] [4]) .ret)))))

def j23 : F where
 np := 2
 rs := [.cell 4 (some 2)]
 body :=
  (.seq
  (.region none [ ⟨some 2, none, .box (.t 0)⟩, ⟨some 3, none, .box (.t 1)⟩, ⟨some 4, none, .alloc [(.slice none 0 0), (.slice none 0 0)]⟩] [2, 3, 4]) (.seq
  (.region (some [5, 12, 13, 14, 15, 16, 17]) [ ⟨some 12, none, .fld 0 (.t 2)⟩, ⟨some 13, none, .ld none (.t 12)⟩, ⟨some 14, none, .len (.t 13)⟩, ⟨some 15, none, .fld 0 (.t 3)⟩, ⟨some 16, none, .ld none (.t 15)⟩, ⟨some 17, none, .len (.t 16)⟩, ⟨some 5, none, .mv (.t 14)⟩, ⟨some 6, none, .mv (.t 17)⟩] [2, 3, 4, 5, 6]) (.seq
  (.region none [ ⟨some 18, none, .build [(.slice none 0 0), (.slice none 0 0)] []⟩, ⟨some 7, none, .alloc [(.slice none 0 0), (.slice none 0 0)]⟩, ⟨none, none, .st (some 2) (.t 7) (.t 18)⟩] [2, 3, 4, 5, 6, 7]) (.seq (.seq
  (.region none [ ⟨some 8, none, .mv (.c (.int .i64 0))⟩] [2, 3, 4, 5, 6, 7, 8]) (.block 0 (.loop (.seq (.seq
  (.region none [ ⟨some 19, none, .mv (.t 8)⟩, ⟨some 20, none, .mv (.t 5)⟩, ⟨some 21, none, .mv (.t 6)⟩, ⟨some 22, none, .bin .add (.t 20) (.t 21)⟩, ⟨some 23, none, .bin .lss (.t 19) (.t 22)⟩] [2, 3, 4, 5, 6, 7, 8, 23]) (.cond (.t 23) .skip (.exit 0))) (.seq (.block 1 (.seq
  (.region none [ ⟨some 26, none, .bsl []⟩, ⟨some 27, none, .bsl []⟩, ⟨some 9, none, .asg (.t 26)⟩, ⟨some 10, none, .asg (.t 27)⟩] [2, 3, 4, 5, 6, 7, 8, 9, 10]) (.seq (.seq
  (.region none [ ⟨some 11, none, .mv (.c (.int .i64 0))⟩] [2, 3, 4, 5, 6, 7, 8, 9, 10, 11]) (.block 2 (.loop (.seq (.seq
  (.region none [ ⟨some 28, none, .mv (.t 11)⟩, ⟨some 29, none, .mv (.t 5)⟩, ⟨some 30, none, .mv (.t 6)⟩, ⟨some 31, none, .bin .add (.t 29) (.t 30)⟩, ⟨some 32, none, .bin .lss (.t 28) (.t 31)⟩] [2, 3, 4, 5, 6, 7, 8, 9, 10, 11, 32]) (.cond (.t 32) .skip (.exit 2))) (.seq (.block 3 (.block 4 (.seq
  (.region none [ ⟨some 44, none, .mv (.t 8)⟩, ⟨some 45, none, .mv (.t 5)⟩, ⟨some 46, none, .bin .lss (.t 44) (.t 45)⟩, ⟨some 47, none, .mv (.t 46)⟩, ⟨some 48, (some (47, true)), .mv (.t 11)⟩, ⟨some 49, (some (47, true)), .mv (.t 5)⟩, ⟨some 50, (some (47, true)), .bin .lss (.t 48) (.t 49)⟩, ⟨some 51, none, .pick (.t 47) (.t 50) (.c (.bool false))⟩, ⟨some 43, none, .mv (.t 51)⟩] [2, 3, 4, 5, 6, 7, 8, 9, 10, 11, 43]) (.cond (.t 43) (.seq
  (.region none [ ⟨some 52, none, .mv (.t 9)⟩, ⟨some 53, none, .fld 0 (.t 2)⟩, ⟨some 54, none, .ld none (.t 53)⟩, ⟨some 55, none, .mv (.t 8)⟩, ⟨some 56, none, .idx 1 (.t 54) (.t 55)⟩, ⟨some 57, none, .ld none (.t 56)⟩, ⟨some 58, none, .mv (.t 11)⟩, ⟨some 59, none, .idx 1 (.t 57) (.t 58)⟩, ⟨some 60, none, .ld none (.t 59)⟩, ⟨some 61, none, .bsl [(.t 60)]⟩, ⟨some 62, none, .app true 1 (.t 52) (.t 61)⟩, ⟨some 9, none, .asg (.t 62)⟩] [2, 3, 4, 5, 6, 7, 8, 9, 10, 11])
  (.region none [ ⟨some 63, none, .mv (.t 10)⟩, ⟨some 64, none, .fld 1 (.t 2)⟩, ⟨some 65, none, .ld none (.t 64)⟩, ⟨some 66, none, .mv (.t 8)⟩, ⟨some 67, none, .idx 1 (.t 65) (.t 66)⟩, ⟨some 68, none, .ld none (.t 67)⟩, ⟨some 69, none, .mv (.t 11)⟩, ⟨some 70, none, .idx 1 (.t 68) (.t 69)⟩, ⟨some 71, none, .ld none (.t 70)⟩, ⟨some 72, none, .bsl [(.t 71)]⟩, ⟨some 73, none, .app true 1 (.t 63) (.t 72)⟩, ⟨some 10, none, .asg (.t 73)⟩] [2, 3, 4, 5, 6, 7, 8, 9, 10, 11])) (.seq
  (.region none [ ⟨some 75, none, .mv (.t 8)⟩, ⟨some 76, none, .mv (.t 5)⟩, ⟨some 77, none, .bin .geq (.t 75) (.t 76)⟩, ⟨some 78, none, .mv (.t 77)⟩, ⟨some 79, (some (78, true)), .mv (.t 11)⟩, ⟨some 80, (some (78, true)), .mv (.t 5)⟩, ⟨some 81, (some (78, true)), .bin .geq (.t 79) (.t 80)⟩, ⟨some 82, none, .pick (.t 78) (.t 81) (.c (.bool false))⟩, ⟨some 74, none, .mv (.t 82)⟩] [2, 3, 4, 5, 6, 7, 8, 9, 10, 11, 74]) (.cond (.t 74) (.seq
  (.region none [ ⟨some 83, none, .mv (.t 9)⟩, ⟨some 84, none, .fld 0 (.t 3)⟩, ⟨some 85, none, .ld none (.t 84)⟩, ⟨some 86, none, .mv (.t 8)⟩, ⟨some 87, none, .mv (.t 5)⟩, ⟨some 88, none, .bin .sub (.t 86) (.t 87)⟩, ⟨some 89, none, .idx 1 (.t 85) (.t 88)⟩, ⟨some 90, none, .ld none (.t 89)⟩, ⟨some 91, none, .mv (.t 11)⟩, ⟨some 92, none, .mv (.t 5)⟩, ⟨some 93, none, .bin .sub (.t 91) (.t 92)⟩, ⟨some 94, none, .idx 1 (.t 90) (.t 93)⟩, ⟨some 95, none, .ld none (.t 94)⟩, ⟨some 96, none, .mv (.t 5)⟩, ⟨some 97, none, .bin .add (.t 95) (.t 96)⟩, ⟨some 98, none, .bsl [(.t 97)]⟩, ⟨some 99, none, .app true 1 (.t 83) (.t 98)⟩, ⟨some 9, none, .asg (.t 99)⟩] [2, 3, 4, 5, 6, 7, 8, 9, 10, 11])
  (.region none [ ⟨some 100, none, .mv (.t 10)⟩, ⟨some 101, none, .fld 1 (.t 3)⟩, ⟨some 102, none, .ld none (.t 101)⟩, ⟨some 103, none, .mv (.t 8)⟩, ⟨some 104, none, .mv (.t 5)⟩, ⟨some 105, none, .bin .sub (.t 103) (.t 104)⟩, ⟨some 106, none, .idx 1 (.t 102) (.t 105)⟩, ⟨some 107, none, .ld none (.t 106)⟩, ⟨some 108, none, .mv (.t 11)⟩, ⟨some 109, none, .mv (.t 5)⟩, ⟨some 110, none, .bin .sub (.t 108) (.t 109)⟩, ⟨some 111, none, .idx 1 (.t 107) (.t 110)⟩, ⟨some 112, none, .ld none (.t 111)⟩, ⟨some 113, none, .mv (.t 5)⟩, ⟨some 114, none, .bin .add (.t 112) (.t 113)⟩, ⟨some 115, none, .bsl [(.t 114)]⟩, ⟨some 116, none, .app true 1 (.t 100) (.t 115)⟩, ⟨some 10, none, .asg (.t 116)⟩] [2, 3, 4, 5, 6, 7, 8, 9, 10, 11])) (.seq
  (.region none [ ⟨some 35, none, .mv (.t 9)⟩, ⟨some 36, none, .mv (.t 11)⟩, ⟨some 37, none, .bsl [(.t 36)]⟩, ⟨some 38, none, .app true 1 (.t 35) (.t 37)⟩, ⟨some 9, none, .asg (.t 38)⟩] [2, 3, 4, 5, 6, 7, 8, 9, 10, 11])
  (.region none [ ⟨some 39, none, .mv (.t 10)⟩, ⟨some 40, none, .mv (.t 8)⟩, ⟨some 41, none, .bsl [(.t 40)]⟩, ⟨some 42, none, .app true 1 (.t 39) (.t 41)⟩, ⟨some 10, none, .asg (.t 42)⟩] [2, 3, 4, 5, 6, 7, 8, 9, 10, 11]))))))))
  (.region none [ ⟨some 33, none, .mv (.t 11)⟩, ⟨some 34, none, .bin .add (.t 33) (.c (.int .i64 1))⟩, ⟨some 11, none, .mv (.t 34)⟩] [2, 3, 4, 5, 6, 7, 8, 9, 10, 11])))))) (.seq
  (.region none [ ⟨some 117, none, .fld 0 (.t 7)⟩, ⟨some 118, none, .ld none (.t 117)⟩, ⟨some 119, none, .mv (.t 9)⟩, ⟨some 120, none, .bsl [(.t 119)]⟩, ⟨some 121, none, .app true 1 (.t 118) (.t 120)⟩, ⟨some 122, none, .fld 0 (.t 7)⟩, ⟨none, none, .st none (.t 122) (.t 121)⟩] [2, 3, 4, 5, 6, 7, 8, 10])
  (.region none [ ⟨some 123, none, .fld 1 (.t 7)⟩, ⟨some 124, none, .ld none (.t 123)⟩, ⟨some 125, none, .mv (.t 10)⟩, ⟨some 126, none, .bsl [(.t 125)]⟩, ⟨some 127, none, .app true 1 (.t 124) (.t 126)⟩, ⟨some 128, none, .fld 1 (.t 7)⟩, ⟨none, none, .st none (.t 128) (.t 127)⟩] [2, 3, 4, 5, 6, 7, 8])))))
  (.region none [ ⟨some 24, none, .mv (.t 8)⟩, ⟨some 25, none, .bin .add (.t 24) (.c (.int .i64 1))⟩, ⟨some 8, none, .mv (.t 25)⟩] [2, 3, 4, 5, 6, 7, 8])))))) (.seq
  (.region none [ ⟨some 129, none, .ld (some 2) (.t 7)⟩, ⟨none, none, .st (some 2) (.t 4) (.t 129)⟩] [4]) .ret)))))

def j1j : F where
 np := 1
 rs := [.cell 2 (some 2)]
 body :=
  (.seq
  (.region none [ ⟨some 2, none, .alloc [(.slice none 0 0), (.slice none 0 0)]⟩] [0, 2]) (.seq
  (.region none [ ⟨some 7, none, .mv (.t 0)⟩, ⟨some 8, none, .call (.f 280) [((.t 7), .r)]⟩, ⟨some 9, none, .build [(.slice none 0 0), (.slice none 0 0)] [(0, 1, (.t 8))]⟩, ⟨some 3, none, .alloc [(.slice none 0 0), (.slice none 0 0)]⟩, ⟨none, none, .st (some 2) (.t 3) (.t 9)⟩] [0, 2, 3]) (.seq (.seq
  (.region none [ ⟨some 4, none, .mv (.c (.int .i64 0))⟩] [0, 2, 3, 4]) (.block 0 (.loop (.seq (.seq
  (.region none [ ⟨some 10, none, .mv (.t 4)⟩, ⟨some 11, none, .mv (.t 0)⟩, ⟨some 12, none, .len (.t 11)⟩, ⟨some 13, none, .bin .lss (.t 10) (.t 12)⟩] [0, 2, 3, 4, 13]) (.cond (.t 13) .skip (.exit 0))) (.seq (.block 1 (.seq
  (.region none [ ⟨some 16, none, .bsl []⟩, ⟨some 5, none, .asg (.t 16)⟩] [0, 2, 3, 4, 5]) (.seq (.seq
  (.region none [ ⟨some 6, none, .mv (.c (.int .i64 0))⟩] [0, 2, 3, 4, 5, 6]) (.block 2 (.loop (.seq (.seq
  (.region none [ ⟨some 17, none, .mv (.t 6)⟩, ⟨some 18, none, .mv (.t 0)⟩, ⟨some 19, none, .len (.t 18)⟩, ⟨some 20, none, .bin .lss (.t 17) (.t 19)⟩] [0, 2, 3, 4, 5, 6, 20]) (.cond (.t 20) .skip (.exit 2))) (.seq (.block 3
  (.region none [ ⟨some 23, none, .mv (.t 5)⟩, ⟨some 24, none, .mv (.t 0)⟩, ⟨some 25, none, .mv (.t 0)⟩, ⟨some 26, none, .mv (.t 4)⟩, ⟨some 27, none, .idx 1 (.t 25) (.t 26)⟩, ⟨some 28, none, .ld none (.t 27)⟩, ⟨some 29, none, .mv (.t 6)⟩, ⟨some 30, none, .idx 1 (.t 28) (.t 29)⟩, ⟨some 31, none, .ld none (.t 30)⟩, ⟨some 32, none, .idx 1 (.t 24) (.t 31)⟩, ⟨some 33, none, .ld none (.t 32)⟩, ⟨some 34, none, .mv (.t 4)⟩, ⟨some 35, none, .call (.f 69) [((.t 33), .r), ((.t 34), .r)]⟩, ⟨some 36, none, .bsl [(.t 35)]⟩, ⟨some 37, none, .app true 1 (.t 23) (.t 36)⟩, ⟨some 5, none, .asg (.t 37)⟩] [0, 2, 3, 4, 5, 6]))
  (.region none [ ⟨some 21, none, .mv (.t 6)⟩, ⟨some 22, none, .bin .add (.t 21) (.c (.int .i64 1))⟩, ⟨some 6, none, .mv (.t 22)⟩] [0, 2, 3, 4, 5, 6]))))))
  (.region none [ ⟨some 38, none, .fld 1 (.t 3)⟩, ⟨some 39, none, .ld none (.t 38)⟩, ⟨some 40, none, .mv (.t 5)⟩, ⟨some 41, none, .bsl [(.t 40)]⟩, ⟨some 42, none, .app true 1 (.t 39) (.t 41)⟩, ⟨some 43, none, .fld 1 (.t 3)⟩, ⟨none, none, .st none (.t 43) (.t 42)⟩] [0, 2, 3, 4]))))
  (.region none [ ⟨some 14, none, .mv (.t 4)⟩, ⟨some 15, none, .bin .add (.t 14) (.c (.int .i64 1))⟩, ⟨some 4, none, .mv (.t 15)⟩] [0, 2, 3, 4])))))) (.seq
  (.region none [ ⟨some 44, none, .ld (some 2) (.t 3)⟩, ⟨none, none, .st (some 2) (.t 2) (.t 44)⟩] [2]) .ret))))

def j34 : F where
 np := 2
 rs := [.cell 4 (some 2)]
 body :=
  (.seq
  (.region none [ ⟨some 2, none, .box (.t 0)⟩, ⟨some 4, none, .alloc [(.slice none 0 0), (.slice none 0 0)]⟩] [1, 2, 4]) (.seq
  (.region (some [5, 6, 7, 8, 9, 10, 11]) [ ⟨some 5, none, .fld 0 (.t 2)⟩, ⟨some 6, none, .ld none (.t 5)⟩, ⟨some 7, none, .mv (.t 1)⟩, ⟨some 8, none, .call (.f 367) [((.t 6), .r), ((.t 7), .r)]⟩, ⟨some 9, none, .fld 1 (.t 2)⟩, ⟨some 10, none, .ld none (.t 9)⟩, ⟨some 11, none, .mv (.t 1)⟩, ⟨some 12, none, .call (.f 367) [((.t 10), .r), ((.t 11), .r)]⟩, ⟨some 13, none, .build [(.slice none 0 0), (.slice none 0 0)] [(0, 1, (.t 8)), (1, 1, (.t 12))]⟩, ⟨none, none, .st (some 2) (.t 4) (.t 13)⟩] [4]) .ret))

def j35 : F where
 np := 2
 rs := [.t 4]
 body :=
  (.seq
  (.region none [ ⟨some 4, none, .asg (.c (.slice none 0 0))⟩] [0, 1]) (.seq
  (.region none [ ⟨some 10, none, .bsl []⟩, ⟨some 5, none, .asg (.t 10)⟩] [0, 1, 5]) (.seq (.seq
  (.region none [ ⟨some 6, none, .mv (.c (.int .i64 0))⟩] [0, 1, 5, 6]) (.block 0 (.loop (.seq (.seq
  (.region none [ ⟨some 11, none, .mv (.t 6)⟩, ⟨some 12, none, .mv (.t 0)⟩, ⟨some 13, none, .len (.t 12)⟩, ⟨some 14, none, .bin .lss (.t 11) (.t 13)⟩] [0, 1, 5, 6, 14]) (.cond (.t 14) .skip (.exit 0))) (.seq (.block 1
  (.region none [ ⟨some 17, none, .mv (.t 5)⟩, ⟨some 18, none, .mv (.t 0)⟩, ⟨some 19, none, .len (.t 18)⟩, ⟨some 20, none, .mks (.int .i64 0) (.t 19)⟩, ⟨some 21, none, .bsl [(.t 20)]⟩, ⟨some 22, none, .app true 1 (.t 17) (.t 21)⟩, ⟨some 5, none, .asg (.t 22)⟩] [0, 1, 5, 6]))
  (.region none [ ⟨some 15, none, .mv (.t 6)⟩, ⟨some 16, none, .bin .add (.t 15) (.c (.int .i64 1))⟩, ⟨some 6, none, .mv (.t 16)⟩] [0, 1, 5, 6])))))) (.seq (.seq
  (.region none [ ⟨some 7, none, .mv (.c (.int .i64 0))⟩] [0, 1, 5, 7]) (.block 2 (.loop (.seq (.seq
  (.region none [ ⟨some 23, none, .mv (.t 7)⟩, ⟨some 24, none, .mv (.t 0)⟩, ⟨some 25, none, .len (.t 24)⟩, ⟨some 26, none, .bin .lss (.t 23) (.t 25)⟩] [0, 1, 5, 7, 26]) (.cond (.t 26) .skip (.exit 2))) (.seq (.block 3 (.seq
  (.region none [ ⟨some 29, none, .mv (.t 5)⟩, ⟨some 30, none, .mv (.t 1)⟩, ⟨some 31, none, .mv (.t 7)⟩, ⟨some 32, none, .idx 1 (.t 30) (.t 31)⟩, ⟨some 33, none, .ld none (.t 32)⟩, ⟨some 34, none, .idx 1 (.t 29) (.t 33)⟩, ⟨some 35, none, .ld none (.t 34)⟩, ⟨some 8, none, .mv (.t 35)⟩] [0, 1, 5, 7, 8]) (.seq
  (.region none [ ⟨some 9, none, .mv (.c (.int .i64 0))⟩] [0, 1, 5, 7, 8, 9]) (.block 4 (.loop (.seq (.seq
  (.region none [ ⟨some 36, none, .mv (.t 9)⟩, ⟨some 37, none, .mv (.t 0)⟩, ⟨some 38, none, .len (.t 37)⟩, ⟨some 39, none, .bin .lss (.t 36) (.t 38)⟩] [0, 1, 5, 7, 8, 9, 39]) (.cond (.t 39) .skip (.exit 4))) (.seq (.block 5
  (.region (some [42, 43, 44, 45, 46, 47, 48, 49, 50, 51, 52, 53, 54, 55, 56]) [ ⟨some 42, none, .mv (.t 8)⟩, ⟨some 43, none, .mv (.t 1)⟩, ⟨some 44, none, .mv (.t 9)⟩, ⟨some 45, none, .idx 1 (.t 43) (.t 44)⟩, ⟨some 46, none, .ld none (.t 45)⟩, ⟨some 47, none, .mv (.t 1)⟩, ⟨some 48, none, .mv (.t 0)⟩, ⟨some 49, none, .mv (.t 7)⟩, ⟨some 50, none, .idx 1 (.t 48) (.t 49)⟩, ⟨some 51, none, .ld none (.t 50)⟩, ⟨some 52, none, .mv (.t 9)⟩, ⟨some 53, none, .idx 1 (.t 51) (.t 52)⟩, ⟨some 54, none, .ld none (.t 53)⟩, ⟨some 55, none, .idx 1 (.t 47) (.t 54)⟩, ⟨some 56, none, .ld none (.t 55)⟩, ⟨some 57, none, .idx 1 (.t 42) (.t 46)⟩, ⟨none, none, .st none (.t 57) (.t 56)⟩] [0, 1, 5, 7, 8, 9]))
  (.region none [ ⟨some 40, none, .mv (.t 9)⟩, ⟨some 41, none, .bin .add (.t 40) (.c (.int .i64 1))⟩, ⟨some 9, none, .mv (.t 41)⟩] [0, 1, 5, 7, 8, 9]))))))))
  (.region none [ ⟨some 27, none, .mv (.t 7)⟩, ⟨some 28, none, .bin .add (.t 27) (.c (.int .i64 1))⟩, ⟨some 7, none, .mv (.t 28)⟩] [0, 1, 5, 7])))))) (.seq
  (.region none [ ⟨some 58, none, .mv (.t 5)⟩, ⟨some 4, none, .asg (.t 58)⟩] [4]) .ret)))))

def j22 : F where
 np := 1
 rs := [.cell 2 (some 1)]
 body :=
  (.seq
  (.region none [ ⟨some 1, none, .box (.t 0)⟩, ⟨some 2, none, .alloc [(.slice none 0 0)]⟩] [1, 2]) (.seq
  (.region none [ ⟨some 5, none, .build [(.slice none 0 0)] []⟩, ⟨some 3, none, .alloc [(.slice none 0 0)]⟩, ⟨none, none, .st (some 1) (.t 3) (.t 5)⟩] [1, 2, 3]) (.seq (.seq
  (.region none [ ⟨some 4, none, .mv (.c (.int .i64 0))⟩] [1, 2, 3, 4]) (.block 0 (.loop (.seq (.seq
  (.region none [ ⟨some 6, none, .mv (.t 4)⟩, ⟨some 7, none, .fld 0 (.t 1)⟩, ⟨some 8, none, .ld none (.t 7)⟩, ⟨some 9, none, .len (.t 8)⟩, ⟨some 10, none, .bin .lss (.t 6) (.t 9)⟩] [1, 2, 3, 4, 10]) (.cond (.t 10) .skip (.exit 0))) (.seq (.block 1
  (.region (some [13, 14, 15, 16, 17, 18, 19, 20, 21]) [ ⟨some 13, none, .fld 0 (.t 3)⟩, ⟨some 14, none, .ld none (.t 13)⟩, ⟨some 15, none, .fld 0 (.t 1)⟩, ⟨some 16, none, .ld none (.t 15)⟩, ⟨some 17, none, .mv (.t 4)⟩, ⟨some 18, none, .idx 1 (.t 16) (.t 17)⟩, ⟨some 19, none, .ld none (.t 18)⟩, ⟨some 20, none, .call (.f 304) [((.t 19), .r)]⟩, ⟨some 21, none, .bsl1 20⟩, ⟨some 22, none, .app true 1 (.t 14) (.t 21)⟩, ⟨some 23, none, .fld 0 (.t 3)⟩, ⟨none, none, .st none (.t 23) (.t 22)⟩] [1, 2, 3, 4]))
  (.region none [ ⟨some 11, none, .mv (.t 4)⟩, ⟨some 12, none, .bin .add (.t 11) (.c (.int .i64 1))⟩, ⟨some 4, none, .mv (.t 12)⟩] [1, 2, 3, 4])))))) (.seq
  (.region none [ ⟨some 24, none, .ld (some 1) (.t 3)⟩, ⟨none, none, .st (some 1) (.t 2) (.t 24)⟩] [2]) .ret))))

def j1r : F where
 np := 1
 rs := [.cell 2 (some 2)]
 body :=
  (.seq
  (.region none [ ⟨some 1, none, .box (.t 0)⟩, ⟨some 2, none, .alloc [(.slice none 0 0), (.slice none 0 0)]⟩] [1, 2]) (.seq
  (.region none [ ⟨some 10, none, .fld 0 (.t 1)⟩, ⟨some 11, none, .ld none (.t 10)⟩, ⟨some 12, none, .len (.t 11)⟩, ⟨some 3, none, .mv (.t 12)⟩] [1, 2, 3]) (.seq
  (.region none [ ⟨some 13, none, .mv (.t 3)⟩, ⟨some 14, none, .call (.f 398) [((.t 13), .r)]⟩, ⟨some 4, none, .alloc [(.slice none 0 0), (.slice none 0 0)]⟩, ⟨none, none, .st (some 2) (.t 4) (.t 14)⟩] [1, 2, 3, 4]) (.seq (.seq
  (.region none [ ⟨some 5, none, .mv (.c (.int .i64 0))⟩] [1, 2, 3, 4, 5]) (.block 0 (.loop (.seq (.seq
  (.region none [ ⟨some 15, none, .mv (.t 5)⟩, ⟨some 16, none, .mv (.t 3)⟩, ⟨some 17, none, .bin .lss (.t 15) (.t 16)⟩] [1, 2, 3, 4, 5, 17]) (.cond (.t 17) .skip (.exit 0))) (.seq (.block 1 (.seq
  (.region (some [6, 20, 21, 22, 23, 24, 25, 26, 27, 28, 29]) [ ⟨some 20, none, .fld 0 (.t 4)⟩, ⟨some 21, none, .ld none (.t 20)⟩, ⟨some 22, none, .mv (.t 5)⟩, ⟨some 23, none, .idx 1 (.t 21) (.t 22)⟩, ⟨some 24, none, .ld none (.t 23)⟩, ⟨some 25, none, .fld 1 (.t 4)⟩, ⟨some 26, none, .ld none (.t 25)⟩, ⟨some 27, none, .mv (.t 5)⟩, ⟨some 28, none, .idx 1 (.t 26) (.t 27)⟩, ⟨some 29, none, .ld none (.t 28)⟩, ⟨some 6, none, .mv (.t 24)⟩, ⟨some 7, none, .mv (.t 29)⟩] [1, 2, 3, 4, 5, 6, 7]) (.seq
  (.region none [ ⟨some 8, none, .mv (.c (.int .i64 0))⟩] [1, 2, 3, 4, 5, 6, 7, 8]) (.block 2 (.loop (.seq (.seq
  (.region none [ ⟨some 30, none, .mv (.t 8)⟩, ⟨some 31, none, .mv (.t 3)⟩, ⟨some 32, none, .bin .lss (.t 30) (.t 31)⟩] [1, 2, 3, 4, 5, 6, 7, 8, 32]) (.cond (.t 32) .skip (.exit 2))) (.seq (.block 3 (.seq
  (.region none [ ⟨some 35, none, .fld 0 (.t 1)⟩, ⟨some 36, none, .ld none (.t 35)⟩, ⟨some 37, none, .mv (.t 5)⟩, ⟨some 38, none, .idx 1 (.t 36) (.t 37)⟩, ⟨some 39, none, .ld none (.t 38)⟩, ⟨some 40, none, .mv (.t 8)⟩, ⟨some 41, none, .call (.f 69) [((.t 39), .r), ((.t 40), .r)]⟩, ⟨some 9, none, .mv (.t 41)⟩] [1, 2, 3, 4, 5, 6, 7, 8, 9]) (.seq
  (.region none [ ⟨some 42, none, .mv (.t 6)⟩, ⟨some 43, none, .mv (.t 8)⟩, ⟨some 44, none, .mv (.t 9)⟩, ⟨some 45, none, .idx 1 (.t 42) (.t 43)⟩, ⟨none, none, .st none (.t 45) (.t 44)⟩] [1, 2, 3, 4, 5, 6, 7, 8, 9])
  (.region none [ ⟨some 46, none, .mv (.t 7)⟩, ⟨some 47, none, .mv (.t 8)⟩, ⟨some 48, none, .fld 0 (.t 1)⟩, ⟨some 49, none, .ld none (.t 48)⟩, ⟨some 50, none, .mv (.t 9)⟩, ⟨some 51, none, .idx 1 (.t 49) (.t 50)⟩, ⟨some 52, none, .ld none (.t 51)⟩, ⟨some 53, none, .mv (.t 5)⟩, ⟨some 54, none, .idx 1 (.t 52) (.t 53)⟩, ⟨some 55, none, .ld none (.t 54)⟩, ⟨some 56, none, .idx 1 (.t 46) (.t 47)⟩, ⟨none, none, .st none (.t 56) (.t 55)⟩] [1, 2, 3, 4, 5, 6, 7, 8]))))
  (.region none [ ⟨some 33, none, .mv (.t 8)⟩, ⟨some 34, none, .bin .add (.t 33) (.c (.int .i64 1))⟩, ⟨some 8, none, .mv (.t 34)⟩] [1, 2, 3, 4, 5, 6, 7, 8]))))))))
  (.region none [ ⟨some 18, none, .mv (.t 5)⟩, ⟨some 19, none, .bin .add (.t 18) (.c (.int .i64 1))⟩, ⟨some 5, none, .mv (.t 19)⟩] [1, 2, 3, 4, 5])))))) (.seq
  (.region none [ ⟨some 57, none, .ld (some 2) (.t 4)⟩, ⟨none, none, .st (some 2) (.t 2) (.t 57)⟩] [2]) .ret)))))

def j2g : F where
 np := 2
 rs := [.cell 4 (some 2)]
 fix := [0, 1]
 body :=
  (.seq
  (.region none [ ⟨some 4, none, .alloc [(.slice none 0 0), (.slice none 0 0)]⟩] [0, 1, 4]) (.seq
  (.region none [ ⟨some 8, none, .mvs 0⟩, ⟨some 9, none, .mv (.t 1)⟩, ⟨some 10, none, .calls (.f 412) (.t 8) 0 [(.t 9)]⟩, ⟨some 5, none, .alloc [(.slice none 0 0), (.slice none 0 0)]⟩, ⟨none, none, .st (some 2) (.t 5) (.t 10)⟩] [0, 1, 4, 5]) (.seq
  (.region none [ ⟨some 11, none, .fld 0 (.t 5)⟩, ⟨some 12, none, .ld none (.t 11)⟩, ⟨some 13, none, .len (.t 12)⟩, ⟨some 6, none, .mv (.t 13)⟩] [0, 1, 4, 5, 6]) (.seq (.seq
  (.region none [ ⟨some 14, none, .mvs 0⟩, ⟨some 15, none, .calls (.f 336) (.t 14) 0 [(.c (.int .i64 24))]⟩] [0, 1, 4, 5, 6, 15]) (.block 0 (.seq
  (.region none [ ⟨some 17, none, .bin .eql (.t 15) (.c (.int .i64 0))⟩, ⟨some 16, none, .mv (.t 17)⟩] [0, 1, 4, 5, 6, 15, 16]) (.cond (.t 16)
  (.region (some [18, 19, 20, 21, 22, 23, 24, 25]) [ ⟨some 18, none, .fld 0 (.t 5)⟩, ⟨some 19, none, .ld none (.t 18)⟩, ⟨some 20, none, .mvs 0⟩, ⟨some 21, none, .mv (.t 6)⟩, ⟨some 22, none, .calls (.f 336) (.t 20) 0 [(.t 21)]⟩, ⟨some 23, none, .mvs 0⟩, ⟨some 24, none, .mv (.t 6)⟩, ⟨some 25, none, .calls (.f 368) (.t 23) 0 [(.t 24)]⟩, ⟨some 26, none, .idx 1 (.t 19) (.t 22)⟩, ⟨none, none, .st none (.t 26) (.t 25)⟩] [0, 1, 4, 5]) (.seq
  (.region none [ ⟨some 28, none, .bin .eql (.t 15) (.c (.int .i64 1))⟩, ⟨some 27, none, .mv (.t 28)⟩] [0, 1, 4, 5, 6, 15, 27]) (.cond (.t 27) (.seq
  (.region (some [29, 30, 31, 32, 33]) [ ⟨some 29, none, .fld 1 (.t 5)⟩, ⟨some 30, none, .ld none (.t 29)⟩, ⟨some 31, none, .mvs 0⟩, ⟨some 32, none, .mv (.t 6)⟩, ⟨some 33, none, .calls (.f 336) (.t 31) 0 [(.t 32)]⟩, ⟨some 34, none, .idx 1 (.t 30) (.t 33)⟩, ⟨some 35, none, .ld none (.t 34)⟩, ⟨some 7, none, .mv (.t 35)⟩] [0, 1, 4, 5, 6, 7])
  (.region none [ ⟨some 36, none, .mv (.t 7)⟩, ⟨some 37, none, .mvs 0⟩, ⟨some 38, none, .mv (.t 6)⟩, ⟨some 39, none, .calls (.f 336) (.t 37) 0 [(.t 38)]⟩, ⟨some 40, none, .mvs 0⟩, ⟨some 41, none, .mv (.t 6)⟩, ⟨some 42, none, .calls (.f 336) (.t 40) 0 [(.t 41)]⟩, ⟨some 43, none, .idx 1 (.t 36) (.t 39)⟩, ⟨none, none, .st none (.t 43) (.t 42)⟩] [0, 1, 4, 5])) (.seq
  (.region none [ ⟨some 45, none, .bin .eql (.t 15) (.c (.int .i64 2))⟩, ⟨some 44, none, .mv (.t 45)⟩] [0, 1, 4, 5, 6, 15, 44]) (.cond (.t 44)
  (.region none [ ⟨some 46, none, .mvs 0⟩, ⟨some 47, none, .mv (.t 6)⟩, ⟨some 48, none, .calls (.f 428) (.t 46) 0 [(.t 47)]⟩, ⟨some 49, none, .mvs 0⟩, ⟨some 50, none, .mv (.t 6)⟩, ⟨some 51, none, .calls (.f 428) (.t 49) 0 [(.t 50)]⟩, ⟨some 52, none, .build [(.slice none 0 0), (.slice none 0 0)] [(0, 1, (.t 48)), (1, 1, (.t 51))]⟩, ⟨none, none, .st (some 2) (.t 5) (.t 52)⟩] [0, 1, 4, 5]) (.seq
  (.region none [ ⟨some 54, none, .bin .eql (.t 15) (.c (.int .i64 3))⟩, ⟨some 53, none, .mv (.t 54)⟩] [0, 1, 4, 5, 6, 15, 53]) (.cond (.t 53)
  (.region none [ ⟨some 55, none, .mvs 0⟩, ⟨some 56, none, .mv (.t 6)⟩, ⟨some 57, none, .calls (.f 413) (.t 55) 0 [(.t 56)]⟩, ⟨some 58, none, .fld 1 (.t 5)⟩, ⟨none, none, .st none (.t 58) (.t 57)⟩] [0, 1, 4, 5]) (.seq
  (.region none [ ⟨some 60, none, .bin .eql (.t 15) (.c (.int .i64 4))⟩, ⟨some 59, none, .mv (.t 60)⟩] [0, 1, 4, 5, 6, 59]) (.cond (.t 59)
  (.region none [ ⟨some 61, none, .mvs 0⟩, ⟨some 62, none, .mv (.t 6)⟩, ⟨some 63, none, .calls (.f 413) (.t 61) 0 [(.t 62)]⟩, ⟨some 64, none, .fld 0 (.t 5)⟩, ⟨none, none, .st none (.t 64) (.t 63)⟩] [0, 1, 4, 5]) .skip)))))))))))) (.seq
  (.region none [ ⟨some 65, none, .ld (some 2) (.t 5)⟩, ⟨none, none, .st (some 2) (.t 4) (.t 65)⟩] [0, 1, 4]) .ret)))))

def j29 : F where
 np := 2
 rs := [.t 4]
 fix := [0, 1]
 body :=
  (.seq
  (.region none [ ⟨some 4, none, .asg (.c (.slice none 0 0))⟩] [0, 1]) (.seq
  (.region none [ ⟨some 12, none, .bsl []⟩, ⟨some 13, none, .mvs 0⟩, ⟨some 14, none, .calls (.f 336) (.t 13) 0 [(.c (.int .i64 3))]⟩, ⟨some 5, none, .asg (.t 12)⟩, ⟨some 6, none, .mv (.t 14)⟩] [0, 1, 5, 6]) (.seq
  (.region none [ ⟨some 15, none, .mvs 0⟩, ⟨some 16, none, .mv (.t 1)⟩, ⟨some 17, none, .calls (.f 368) (.t 15) 0 [(.t 16)]⟩, ⟨some 7, none, .asg (.t 17)⟩] [0, 1, 5, 6, 7]) (.seq (.seq
  (.region none [ ⟨some 8, none, .mv (.c (.int .i64 0))⟩] [0, 1, 5, 6, 7, 8]) (.block 0 (.loop (.seq (.seq
  (.region none [ ⟨some 18, none, .mv (.t 8)⟩, ⟨some 19, none, .mv (.t 1)⟩, ⟨some 20, none, .bin .lss (.t 18) (.t 19)⟩] [0, 1, 5, 6, 7, 8, 20]) (.cond (.t 20) .skip (.exit 0))) (.seq (.block 1 (.seq
  (.region none [ ⟨some 23, none, .mvs 0⟩, ⟨some 24, none, .mv (.t 1)⟩, ⟨some 25, none, .calls (.f 368) (.t 23) 0 [(.t 24)]⟩, ⟨some 9, none, .asg (.t 25)⟩] [0, 1, 5, 6, 7, 8, 9]) (.seq (.seq
  (.region none [ ⟨some 26, none, .mv (.t 6)⟩] [0, 1, 5, 6, 7, 8, 9, 26]) (.block 2 (.seq
  (.region none [ ⟨some 28, none, .bin .eql (.t 26) (.c (.int .i64 0))⟩, ⟨some 27, none, .mv (.t 28)⟩] [0, 1, 5, 6, 7, 8, 9, 26, 27]) (.cond (.t 27) (.seq
  (.region none [ ⟨some 10, none, .mv (.c (.int .i64 0))⟩] [0, 1, 5, 6, 7, 8, 9, 10]) (.block 3 (.loop (.seq (.seq
  (.region none [ ⟨some 29, none, .mv (.t 10)⟩, ⟨some 30, none, .mv (.t 1)⟩, ⟨some 31, none, .bin .lss (.t 29) (.t 30)⟩] [0, 1, 5, 6, 7, 8, 9, 10, 31]) (.cond (.t 31) .skip (.exit 3))) (.seq (.block 4
  (.region none [ ⟨some 34, none, .mv (.t 9)⟩, ⟨some 35, none, .mv (.t 10)⟩, ⟨some 36, none, .mvs 0⟩, ⟨some 37, none, .mv (.t 1)⟩, ⟨some 38, none, .calls (.f 336) (.t 36) 0 [(.t 37)]⟩, ⟨some 39, none, .idx 1 (.t 34) (.t 35)⟩, ⟨none, none, .st none (.t 39) (.t 38)⟩] [0, 1, 5, 6, 7, 8, 9, 10]))
  (.region none [ ⟨some 32, none, .mv (.t 10)⟩, ⟨some 33, none, .bin .add (.t 32) (.c (.int .i64 1))⟩, ⟨some 10, none, .mv (.t 33)⟩] [0, 1, 5, 6, 7, 8, 9, 10])))))) (.seq
  (.region none [ ⟨some 41, none, .bin .eql (.t 26) (.c (.int .i64 1))⟩, ⟨some 40, none, .mv (.t 41)⟩] [0, 1, 5, 6, 7, 8, 9, 40]) (.cond (.t 40) (.seq
  (.region none [ ⟨some 11, none, .mv (.c (.int .i64 0))⟩] [0, 1, 5, 6, 7, 8, 9, 11]) (.block 5 (.loop (.seq (.seq
  (.region none [ ⟨some 42, none, .mv (.t 11)⟩, ⟨some 43, none, .mv (.t 1)⟩, ⟨some 44, none, .bin .lss (.t 42) (.t 43)⟩] [0, 1, 5, 6, 7, 8, 9, 11, 44]) (.cond (.t 44) .skip (.exit 5))) (.seq (.block 6
  (.region none [ ⟨some 47, none, .mv (.t 9)⟩, ⟨some 48, none, .mv (.t 11)⟩, ⟨some 49, none, .mv (.t 7)⟩, ⟨some 50, none, .mv (.t 8)⟩, ⟨some 51, none, .mv (.t 11)⟩, ⟨some 52, none, .bin .add (.t 50) (.t 51)⟩, ⟨some 53, none, .mv (.t 1)⟩, ⟨some 54, none, .bin .rem (.t 52) (.t 53)⟩, ⟨some 55, none, .idx 1 (.t 49) (.t 54)⟩, ⟨some 56, none, .ld none (.t 55)⟩, ⟨some 57, none, .idx 1 (.t 47) (.t 48)⟩, ⟨none, none, .st none (.t 57) (.t 56)⟩] [0, 1, 5, 6, 7, 8, 9, 11]))
  (.region none [ ⟨some 45, none, .mv (.t 11)⟩, ⟨some 46, none, .bin .add (.t 45) (.c (.int .i64 1))⟩, ⟨some 11, none, .mv (.t 46)⟩] [0, 1, 5, 6, 7, 8, 9, 11])))))) .skip))))))
  (.region none [ ⟨some 58, none, .mv (.t 5)⟩, ⟨some 59, none, .mv (.t 9)⟩, ⟨some 60, none, .bsl [(.t 59)]⟩, ⟨some 61, none, .app true 1 (.t 58) (.t 60)⟩, ⟨some 5, none, .asg (.t 61)⟩] [0, 1, 5, 6, 7, 8]))))
  (.region none [ ⟨some 21, none, .mv (.t 8)⟩, ⟨some 22, none, .bin .add (.t 21) (.c (.int .i64 1))⟩, ⟨some 8, none, .mv (.t 22)⟩] [0, 1, 5, 6, 7, 8])))))) (.seq
  (.region none [ ⟨some 62, none, .mv (.t 5)⟩, ⟨some 4, none, .asg (.t 62)⟩] [0, 1, 4]) .ret)))))

def j3i : F where
 np := 2
 rs := [.t 4]
 fix := [0, 1]
 body :=
  (.seq
  (.region none [ ⟨some 4, none, .asg (.c (.slice none 0 0))⟩] [0, 1]) (.seq
  (.region none [ ⟨some 6, none, .mvs 0⟩, ⟨some 7, none, .mv (.t 1)⟩, ⟨some 8, none, .calls (.f 428) (.t 6) 0 [(.t 7)]⟩, ⟨some 5, none, .asg (.t 8)⟩] [0, 1, 5]) (.seq (.seq
  (.region none [ ⟨some 9, none, .mvs 0⟩, ⟨some 10, none, .calls (.f 336) (.t 9) 0 [(.c (.int .i64 30))]⟩] [0, 1, 5, 10]) (.block 0 (.seq
  (.region none [ ⟨some 12, none, .bin .eql (.t 10) (.c (.int .i64 0))⟩, ⟨some 11, none, .mv (.t 12)⟩] [0, 1, 5, 10, 11]) (.cond (.t 11)
  (.region none [ ⟨some 13, none, .mv (.t 5)⟩, ⟨some 14, none, .mv (.t 1)⟩, ⟨some 15, none, .call (.f 334) [((.t 14), .r)]⟩, ⟨some 16, none, .bsl [(.t 15)]⟩, ⟨some 17, none, .app true 1 (.t 13) (.t 16)⟩, ⟨some 5, none, .asg (.t 17)⟩] [0, 1, 5]) (.seq
  (.region none [ ⟨some 19, none, .bin .eql (.t 10) (.c (.int .i64 1))⟩, ⟨some 18, none, .mv (.t 19)⟩] [0, 1, 5, 10, 18]) (.cond (.t 18)
  (.region none [ ⟨some 20, none, .mv (.t 5)⟩, ⟨some 21, none, .mv (.t 5)⟩, ⟨some 22, none, .idx 1 (.t 21) (.c (.int .i64 0))⟩, ⟨some 23, none, .ld none (.t 22)⟩, ⟨some 24, none, .bsl [(.c (.int .i64 0))]⟩, ⟨some 25, none, .app true 1 (.t 23) (.t 24)⟩, ⟨some 26, none, .idx 1 (.t 20) (.c (.int .i64 0))⟩, ⟨none, none, .st none (.t 26) (.t 25)⟩] [0, 1, 5]) (.seq
  (.region none [ ⟨some 28, none, .bin .eql (.t 10) (.c (.int .i64 2))⟩, ⟨some 27, none, .mv (.t 28)⟩] [0, 1, 5, 10, 27]) (.cond (.t 27)
  (.region (some [29, 30, 31, 32, 33, 34, 35]) [ ⟨some 29, none, .mv (.t 5)⟩, ⟨some 30, none, .idx 1 (.t 29) (.c (.int .i64 0))⟩, ⟨some 31, none, .ld none (.t 30)⟩, ⟨some 32, none, .mvs 0⟩, ⟨some 33, none, .mv (.t 1)⟩, ⟨some 34, none, .bslw 1 [(.c (.int .i64 (-1))), (.t 33), (.c (.int .i64 1099511627776))]⟩, ⟨some 35, none, .calls (.f 292) (.t 32) 0 [(.t 34)]⟩, ⟨some 36, none, .idx 1 (.t 31) (.c (.int .i64 0))⟩, ⟨none, none, .st none (.t 36) (.t 35)⟩] [0, 1, 5]) (.seq
  (.region none [ ⟨some 38, none, .bin .eql (.t 10) (.c (.int .i64 3))⟩, ⟨some 37, none, .mv (.t 38)⟩] [0, 1, 5, 10, 37]) (.cond (.t 37)
  (.region none [ ⟨some 39, none, .bsl []⟩, ⟨some 5, none, .asg (.t 39)⟩] [0, 1, 5]) (.seq
  (.region none [ ⟨some 41, none, .bin .eql (.t 10) (.c (.int .i64 4))⟩, ⟨some 40, none, .mv (.t 41)⟩] [0, 1, 5, 40]) (.cond (.t 40)
  (.region none [ ⟨some 42, none, .mvs 0⟩, ⟨some 43, none, .calls (.f 428) (.t 42) 0 [(.c (.int .i64 13))]⟩, ⟨some 5, none, .asg (.t 43)⟩] [0, 1, 5]) .skip)))))))))))) (.seq
  (.region none [ ⟨some 44, none, .mv (.t 5)⟩, ⟨some 4, none, .asg (.t 44)⟩] [0, 1, 4]) .ret))))

def j4d : F where
 np := 2
 rs := [.t 4]
 fix := [0, 1]
 body :=
  (.seq
  (.region none [ ⟨some 4, none, .mv (.c (.int .i64 0))⟩] [0, 1]) (.seq
  (.region none [ ⟨some 5, none, .mv (.t 1)⟩, ⟨some 6, none, .mvs 0⟩, ⟨some 7, none, .mv (.t 1)⟩, ⟨some 8, none, .len (.t 7)⟩, ⟨some 9, none, .calls (.f 336) (.t 6) 0 [(.t 8)]⟩, ⟨some 10, none, .idx 1 (.t 5) (.t 9)⟩, ⟨some 11, none, .ld none (.t 10)⟩, ⟨some 4, none, .mv (.t 11)⟩] [0, 1, 4]) .ret))

def j5b : F where
 np := 1
 rs := [.t 2]
 body :=
  (.seq
  (.region none [ ⟨some 2, none, .asg (.c (.pointer none))⟩] [0]) (.seq
  (.region none [ ⟨some 5, none, .mv (.t 0)⟩, ⟨some 6, none, .mv (.t 0)⟩, ⟨some 7, none, .len (.t 6)⟩, ⟨some 8, none, .conv .u64 (.t 7)⟩, ⟨some 9, none, .bin .add (.c (.int .u64 6553)) (.t 8)⟩, ⟨some 10, none, .build [(.slice none 0 0), (.int .i64 0), (.int .u64 0)] [(0, 1, (.t 5)), (2, 1, (.t 9))]⟩, ⟨some 11, none, .box (.t 10)⟩, ⟨some 3, none, .asg (.t 11)⟩] [0, 3]) (.seq (.seq
  (.region none [ ⟨some 4, none, .mv (.c (.int .i64 0))⟩] [0, 3, 4]) (.block 0 (.loop (.seq (.seq
  (.region none [ ⟨some 12, none, .mv (.t 4)⟩, ⟨some 13, none, .mv (.t 0)⟩, ⟨some 14, none, .len (.t 13)⟩, ⟨some 15, none, .bin .lss (.t 12) (.t 14)⟩, ⟨some 16, none, .mv (.t 15)⟩, ⟨some 17, (some (16, true)), .mv (.t 4)⟩, ⟨some 18, (some (16, true)), .bin .lss (.t 17) (.c (.int .i64 4096))⟩, ⟨some 19, none, .pick (.t 16) (.t 18) (.c (.bool false))⟩] [0, 3, 4, 19]) (.cond (.t 19) .skip (.exit 0))) (.seq (.block 1
  (.region (some [22, 23, 24, 25, 26, 27, 28, 29, 30, 31, 32, 33, 34]) [ ⟨some 22, none, .mv (.t 3)⟩, ⟨some 23, none, .mv (.t 3)⟩, ⟨some 24, none, .nilck (.t 23)⟩, ⟨some 25, none, .fld 2 (.t 24)⟩, ⟨some 26, none, .ld none (.t 25)⟩, ⟨some 27, none, .bin .mul (.t 26) (.c (.int .u64 1099511628211))⟩, ⟨some 28, none, .mv (.t 0)⟩, ⟨some 29, none, .mv (.t 4)⟩, ⟨some 30, none, .idx 1 (.t 28) (.t 29)⟩, ⟨some 31, none, .ld none (.t 30)⟩, ⟨some 32, none, .conv .u64 (.t 31)⟩, ⟨some 33, none, .bin .add (.t 27) (.t 32)⟩, ⟨some 34, none, .bin .add (.t 33) (.c (.int .u64 11))⟩, ⟨some 35, none, .nilck (.t 22)⟩, ⟨some 36, none, .fld 2 (.t 35)⟩, ⟨none, none, .st none (.t 36) (.t 34)⟩] [0, 3, 4]))
  (.region none [ ⟨some 20, none, .mv (.t 4)⟩, ⟨some 21, none, .bin .add (.t 20) (.c (.int .i64 1))⟩, ⟨some 4, none, .mv (.t 21)⟩] [0, 3, 4])))))) (.seq
  (.region none [ ⟨some 37, none, .mv (.t 3)⟩, ⟨some 2, none, .asg (.t 37)⟩] [2]) .ret))))

def j2h : F where
 np := 2
 rs := [.t 4]
 fix := [0, 1]
 body :=
  (.seq
  (.region none [ ⟨some 4, none, .mv (.c (.int .i64 0))⟩] [0, 1]) (.seq (.seq
  (.region none [ ⟨some 5, none, .mvs 0⟩, ⟨some 6, none, .calls (.f 336) (.t 5) 0 [(.c (.int .i64 14))]⟩, ⟨some 7, none, .bin .eql (.t 6) (.c (.int .i64 0))⟩] [0, 1, 7]) (.cond (.t 7) (.seq
  (.region none [ ⟨some 8, none, .mvs 0⟩, ⟨some 9, none, .mv (.t 1)⟩, ⟨some 10, none, .bin .add (.t 9) (.c (.int .i64 1))⟩, ⟨some 11, none, .bslw 1 [(.c (.int .i64 (-1))), (.t 10), (.c (.int .i64 1099511627776)), (.c (.int .i64 (-4611686018427387904)))]⟩, ⟨some 12, none, .calls (.f 292) (.t 8) 0 [(.t 11)]⟩, ⟨some 4, none, .mv (.t 12)⟩] [0, 1, 4]) .ret) .skip)) (.seq
  (.region none [ ⟨some 13, none, .mvs 0⟩, ⟨some 14, none, .mv (.t 1)⟩, ⟨some 15, none, .bin .add (.t 14) (.c (.int .i64 1))⟩, ⟨some 16, none, .calls (.f 336) (.t 13) 0 [(.t 15)]⟩, ⟨some 4, none, .mv (.t 16)⟩] [0, 1, 4]) .ret)))

def j7s : F where
 np := 1
 rs := [.t 2]
 body :=
  (.seq
  (.region none [ ⟨some 2, none, .mv (.c (.bool false))⟩] [0]) (.seq
  (.region none [ ⟨some 3, none, .mv (.t 0)⟩, ⟨some 4, none, .len (.t 3)⟩, ⟨some 5, none, .bin .gtr (.t 4) (.c (.int .i64 4096))⟩, ⟨some 2, none, .mv (.t 5)⟩] [2]) .ret))

def j3u : F where
 np := 2
 rs := [.t 4]
 body :=
  (.seq
  (.region none [ ⟨some 4, none, .mv (.c (.bool false))⟩] [0, 1]) (.seq (.seq
  (.region none [ ⟨some 6, none, .mv (.t 0)⟩, ⟨some 7, none, .len (.t 6)⟩, ⟨some 8, none, .mv (.t 1)⟩, ⟨some 9, none, .len (.t 8)⟩, ⟨some 10, none, .bin .neq (.t 7) (.t 9)⟩] [0, 1, 10]) (.cond (.t 10) (.seq
  (.region none [ ⟨some 4, none, .mv (.c (.bool false))⟩] [4]) .ret) .skip)) (.seq (.seq
  (.region none [ ⟨some 5, none, .mv (.c (.int .i64 0))⟩] [0, 1, 5]) (.block 0 (.loop (.seq (.seq
  (.region none [ ⟨some 11, none, .mv (.t 5)⟩, ⟨some 12, none, .mv (.t 0)⟩, ⟨some 13, none, .len (.t 12)⟩, ⟨some 14, none, .bin .lss (.t 11) (.t 13)⟩] [0, 1, 5, 14]) (.cond (.t 14) .skip (.exit 0))) (.seq (.block 1 (.seq
  (.region (some [17, 18, 19, 20, 21, 22, 23, 24]) [ ⟨some 17, none, .mv (.t 0)⟩, ⟨some 18, none, .mv (.t 5)⟩, ⟨some 19, none, .idx 1 (.t 17) (.t 18)⟩, ⟨some 20, none, .ld none (.t 19)⟩, ⟨some 21, none, .mv (.t 1)⟩, ⟨some 22, none, .mv (.t 5)⟩, ⟨some 23, none, .idx 1 (.t 21) (.t 22)⟩, ⟨some 24, none, .ld none (.t 23)⟩, ⟨some 25, none, .bin .neq (.t 20) (.t 24)⟩] [0, 1, 5, 25]) (.cond (.t 25) (.seq
  (.region none [ ⟨some 4, none, .mv (.c (.bool false))⟩] [4]) .ret) .skip)))
  (.region none [ ⟨some 15, none, .mv (.t 5)⟩, ⟨some 16, none, .bin .add (.t 15) (.c (.int .i64 1))⟩, ⟨some 5, none, .mv (.t 16)⟩] [0, 1, 5])))))) (.seq
  (.region none [ ⟨some 4, none, .mv (.c (.bool true))⟩] [4]) .ret))))

def j6z : F where
 np := 1
 rs := [.t 2]
 body :=
  (.seq
  (.region none [ ⟨some 2, none, .mv (.c (.int .i64 0))⟩] [0]) (.seq
  (.region none [ ⟨some 3, none, .mv (.c (.int .i64 0))⟩] [0, 3]) (.seq (.seq
  (.region none [ ⟨some 4, none, .mv (.c (.int .i64 0))⟩] [0, 3, 4]) (.block 0 (.loop (.seq (.seq
  (.region none [ ⟨some 5, none, .mv (.t 4)⟩, ⟨some 6, none, .mv (.t 0)⟩, ⟨some 7, none, .len (.t 6)⟩, ⟨some 8, none, .bin .lss (.t 5) (.t 7)⟩] [0, 3, 4, 8]) (.cond (.t 8) .skip (.exit 0))) (.seq (.block 1 (.seq
  (.region none [ ⟨some 11, none, .mv (.t 0)⟩, ⟨some 12, none, .mv (.t 4)⟩, ⟨some 13, none, .idx 1 (.t 11) (.t 12)⟩, ⟨some 14, none, .ld none (.t 13)⟩, ⟨some 15, none, .mv (.t 3)⟩, ⟨some 16, none, .bin .geq (.t 14) (.t 15)⟩] [0, 3, 4, 16]) (.cond (.t 16)
  (.region none [ ⟨some 17, none, .mv (.t 0)⟩, ⟨some 18, none, .mv (.t 4)⟩, ⟨some 19, none, .idx 1 (.t 17) (.t 18)⟩, ⟨some 20, none, .ld none (.t 19)⟩, ⟨some 21, none, .bin .add (.t 20) (.c (.int .i64 1))⟩, ⟨some 3, none, .mv (.t 21)⟩] [0, 3, 4]) .skip)))
  (.region none [ ⟨some 9, none, .mv (.t 4)⟩, ⟨some 10, none, .bin .add (.t 9) (.c (.int .i64 1))⟩, ⟨some 4, none, .mv (.t 10)⟩] [0, 3, 4])))))) (.seq
  (.region none [ ⟨some 22, none, .mv (.t 3)⟩, ⟨some 2, none, .mv (.t 22)⟩] [2]) .ret))))

def j4r : F where
 np := 1
 rs := [.t 2]
 body :=
  (.seq
  (.region none [ ⟨some 2, none, .mv (.c (.bool false))⟩] [0]) (.seq (.seq
  (.region none [ ⟨some 25, none, .mv (.t 0)⟩, ⟨some 26, none, .call (.f 128) [((.t 25), .r)]⟩] [0, 26]) (.cond (.t 26) (.seq
  (.region none [ ⟨some 2, none, .mv (.c (.bool true))⟩] [2]) .ret) .skip)) (.seq
  (.region none [ ⟨some 28, none, .mv (.t 0)⟩, ⟨some 29, none, .call (.f 252) [((.t 28), .r)]⟩, ⟨some 27, none, .mv (.t 29)⟩, ⟨some 30, none, .ext (.t 27) 0⟩, ⟨some 31, none, .ext (.t 27) 1⟩, ⟨some 32, none, .ext (.t 27) 2⟩, ⟨some 3, none, .alloc [(.slice none 0 0), (.slice none 0 0)]⟩, ⟨none, none, .st (some 2) (.t 3) (.t 30)⟩, ⟨some 4, none, .mv (.t 31)⟩, ⟨some 5, none, .mv (.t 32)⟩] [3, 4, 5]) (.seq
  (.region none [ ⟨some 34, none, .ld (some 2) (.t 3)⟩, ⟨some 35, none, .mv (.t 4)⟩, ⟨some 36, none, .mv (.t 5)⟩, ⟨some 37, none, .call (.f 206) [((.t 34), .r), ((.t 35), .r), ((.t 36), .r)]⟩, ⟨some 33, none, .mv (.t 37)⟩, ⟨some 38, none, .ext (.t 33) 0⟩, ⟨some 39, none, .ext (.t 33) 1⟩, ⟨some 6, none, .asg (.t 38)⟩, ⟨some 7, none, .mv (.t 39)⟩] [3, 4, 5, 6, 7]) (.seq
  (.region none [ ⟨some 41, none, .ld (some 2) (.t 3)⟩, ⟨some 42, none, .mv (.t 4)⟩, ⟨some 43, none, .mv (.t 5)⟩, ⟨some 44, none, .call (.f 205) [((.t 41), .r), ((.t 42), .r), ((.t 43), .r)]⟩, ⟨some 40, none, .mv (.t 44)⟩, ⟨some 45, none, .ext (.t 40) 0⟩, ⟨some 46, none, .ext (.t 40) 1⟩, ⟨some 8, none, .asg (.t 45)⟩, ⟨some 9, none, .mv (.t 46)⟩] [3, 4, 5, 6, 7, 8, 9]) (.seq
  (.region none [ ⟨some 48, none, .ld (some 2) (.t 3)⟩, ⟨some 49, none, .call (.f 198) [((.t 48), .r)]⟩, ⟨some 47, none, .mv (.t 49)⟩, ⟨some 50, none, .ext (.t 47) 0⟩, ⟨some 51, none, .ext (.t 47) 1⟩, ⟨some 10, none, .mv (.t 50)⟩, ⟨some 11, none, .mv (.t 51)⟩] [3, 4, 5, 6, 7, 8, 9, 10, 11]) (.seq
  (.region none [ ⟨some 53, none, .ld (some 2) (.t 3)⟩, ⟨some 54, none, .call (.f 197) [((.t 53), .r)]⟩, ⟨some 52, none, .mv (.t 54)⟩, ⟨some 55, none, .ext (.t 52) 0⟩, ⟨some 56, none, .ext (.t 52) 1⟩, ⟨some 12, none, .mv (.t 55)⟩, ⟨some 13, none, .mv (.t 56)⟩] [3, 4, 5, 6, 7, 8, 9, 10, 11, 12, 13]) (.seq (.seq
  (.region none [ ⟨some 57, none, .mv (.t 7)⟩, ⟨some 58, none, .mv (.t 9)⟩, ⟨some 59, none, .bin .neq (.t 57) (.t 58)⟩, ⟨some 60, none, .mv (.t 59)⟩, ⟨some 61, (some (60, false)), .mv (.t 11)⟩, ⟨some 62, (some (60, false)), .mv (.t 13)⟩, ⟨some 63, (some (60, false)), .bin .neq (.t 61) (.t 62)⟩, ⟨some 64, none, .pick (.t 60) (.c (.bool true)) (.t 63)⟩, ⟨some 65, none, .mv (.t 64)⟩, ⟨some 66, (some (65, false)), .mv (.t 10)⟩, ⟨some 67, (some (65, false)), .mv (.t 12)⟩, ⟨some 68, (some (65, false)), .beq true (.t 66) (.t 67)⟩, ⟨some 69, none, .pick (.t 65) (.c (.bool true)) (.t 68)⟩, ⟨some 70, none, .mv (.t 69)⟩, ⟨some 71, (some (70, false)), .mv (.t 6)⟩, ⟨some 72, (some (70, false)), .mv (.t 8)⟩, ⟨some 73, (some (70, false)), .call (.f 141) [((.t 71), .r), ((.t 72), .r)]⟩, ⟨some 74, (some (70, false)), .un .not (.t 73)⟩, ⟨some 75, none, .pick (.t 70) (.c (.bool true)) (.t 74)⟩] [3, 4, 5, 6, 7, 10, 75]) (.cond (.t 75) (.seq
  (.region none [ ⟨some 2, none, .mv (.c (.bool false))⟩] [2]) .ret) .skip)) (.seq (.seq
  (.region none [ ⟨some 76, none, .mv (.t 7)⟩, ⟨some 77, none, .bin .neq (.t 76) (.c (.int .i64 0))⟩] [3, 4, 5, 6, 10, 77]) (.cond (.t 77) (.seq
  (.region none [ ⟨some 2, none, .mv (.c (.bool true))⟩] [2]) .ret) .skip)) (.seq
  (.region none [ ⟨some 78, none, .mv (.t 6)⟩, ⟨some 79, none, .len (.t 78)⟩, ⟨some 14, none, .mv (.t 79)⟩] [3, 4, 5, 6, 10, 14]) (.seq
  (.region none [ ⟨some 81, none, .ld (some 2) (.t 3)⟩, ⟨some 82, none, .call (.f 135) [((.t 81), .r)]⟩, ⟨some 80, none, .mv (.t 82)⟩, ⟨some 83, none, .ext (.t 80) 0⟩, ⟨some 84, none, .ext (.t 80) 1⟩, ⟨some 15, none, .asg (.t 83)⟩, ⟨some 16, none, .mv (.t 84)⟩] [3, 4, 5, 6, 10, 14, 15, 16]) (.seq
  (.region none [ ⟨some 86, none, .ld (some 2) (.t 3)⟩, ⟨some 87, none, .call (.f 127) [((.t 86), .r)]⟩, ⟨some 85, none, .mv (.t 87)⟩, ⟨some 88, none, .ext (.t 85) 0⟩, ⟨some 89, none, .ext (.t 85) 1⟩, ⟨some 17, none, .asg (.t 88)⟩, ⟨some 18, none, .mv (.t 89)⟩] [4, 5, 6, 10, 14, 15, 16, 17, 18]) (.seq (.seq
  (.region (some [97, 98, 99, 103, 104, 105, 109, 110, 111, 112, 113, 114, 115, 116]) [ ⟨some 90, none, .mv (.t 16)⟩, ⟨some 91, none, .bin .neq (.t 90) (.c (.int .i64 0))⟩, ⟨some 92, none, .mv (.t 91)⟩, ⟨some 93, (some (92, false)), .mv (.t 18)⟩, ⟨some 94, (some (92, false)), .bin .neq (.t 93) (.c (.int .i64 0))⟩, ⟨some 95, none, .pick (.t 92) (.c (.bool true)) (.t 94)⟩, ⟨some 96, none, .mv (.t 95)⟩, ⟨some 97, (some (96, false)), .mv (.t 15)⟩, ⟨some 98, (some (96, false)), .len (.t 97)⟩, ⟨some 99, (some (96, false)), .mv (.t 14)⟩, ⟨some 100, (some (96, false)), .bin .neq (.t 98) (.t 99)⟩, ⟨some 101, none, .pick (.t 96) (.c (.bool true)) (.t 100)⟩, ⟨some 102, none, .mv (.t 101)⟩, ⟨some 103, (some (102, false)), .mv (.t 17)⟩, ⟨some 104, (some (102, false)), .len (.t 103)⟩, ⟨some 105, (some (102, false)), .mv (.t 14)⟩, ⟨some 106, (some (102, false)), .bin .neq (.t 104) (.t 105)⟩, ⟨some 107, none, .pick (.t 102) (.c (.bool true)) (.t 106)⟩, ⟨some 108, none, .mv (.t 107)⟩, ⟨some 109, (some (108, false)), .mv (.t 6)⟩, ⟨some 110, (some (108, false)), .mv (.t 4)⟩, ⟨some 111, (some (108, false)), .idx 1 (.t 109) (.t 110)⟩, ⟨some 112, (some (108, false)), .ld none (.t 111)⟩, ⟨some 113, (some (108, false)), .mv (.t 6)⟩, ⟨some 114, (some (108, false)), .mv (.t 5)⟩, ⟨some 115, (some (108, false)), .idx 1 (.t 113) (.t 114)⟩, ⟨some 116, (some (108, false)), .ld none (.t 115)⟩, ⟨some 117, (some (108, false)), .bin .neq (.t 112) (.t 116)⟩, ⟨some 118, none, .pick (.t 108) (.c (.bool true)) (.t 117)⟩, ⟨some 119, none, .mv (.t 118)⟩, ⟨some 120, (some (119, false)), .mv (.t 10)⟩, ⟨some 121, (some (119, false)), .mv (.t 120)⟩, ⟨some 122, (some (121, true)), .mv (.t 6)⟩, ⟨some 123, (some (121, true)), .call (.f 219) [((.t 122), .r)]⟩, ⟨some 124, (some (121, true)), .bin .neq (.t 123) (.c (.int .i64 1))⟩, ⟨some 125, (some (119, false)), .pick (.t 121) (.t 124) (.c (.bool false))⟩, ⟨some 126, none, .pick (.t 119) (.c (.bool true)) (.t 125)⟩] [6, 14, 15, 17, 126]) (.cond (.t 126) (.seq
  (.region none [ ⟨some 2, none, .mv (.c (.bool false))⟩] [2]) .ret) .skip)) (.seq
  (.region none [ ⟨some 127, none, .mv (.t 14)⟩, ⟨some 128, none, .mks (.int .i64 0) (.t 127)⟩, ⟨some 19, none, .asg (.t 128)⟩] [6, 14, 15, 17, 19]) (.seq (.seq
  (.region none [ ⟨some 20, none, .mv (.c (.int .i64 0))⟩] [6, 14, 15, 17, 19, 20]) (.block 0 (.loop (.seq (.seq
  (.region none [ ⟨some 129, none, .mv (.t 20)⟩, ⟨some 130, none, .mv (.t 14)⟩, ⟨some 131, none, .bin .lss (.t 129) (.t 130)⟩] [6, 14, 15, 17, 19, 20, 131]) (.cond (.t 131) .skip (.exit 0))) (.seq (.block 1
  (.region none [ ⟨some 134, none, .mv (.t 19)⟩, ⟨some 135, none, .mv (.t 6)⟩, ⟨some 136, none, .mv (.t 20)⟩, ⟨some 137, none, .idx 1 (.t 135) (.t 136)⟩, ⟨some 138, none, .ld none (.t 137)⟩, ⟨some 139, none, .idx 1 (.t 134) (.t 138)⟩, ⟨some 140, none, .ld none (.t 139)⟩, ⟨some 141, none, .bin .add (.t 140) (.c (.int .i64 1))⟩, ⟨some 142, none, .idx 1 (.t 134) (.t 138)⟩, ⟨none, none, .st none (.t 142) (.t 141)⟩] [6, 14, 15, 17, 19, 20]))
  (.region none [ ⟨some 132, none, .mv (.t 20)⟩, ⟨some 133, none, .bin .add (.t 132) (.c (.int .i64 1))⟩, ⟨some 20, none, .mv (.t 133)⟩] [6, 14, 15, 17, 19, 20])))))) (.seq (.seq
  (.region none [ ⟨some 21, none, .mv (.c (.int .i64 0))⟩] [6, 14, 15, 17, 19, 21]) (.block 2 (.loop (.seq (.seq
  (.region none [ ⟨some 143, none, .mv (.t 21)⟩, ⟨some 144, none, .mv (.t 6)⟩, ⟨some 145, none, .call (.f 219) [((.t 144), .r)]⟩, ⟨some 146, none, .bin .lss (.t 143) (.t 145)⟩] [6, 14, 15, 17, 19, 21, 146]) (.cond (.t 146) .skip (.exit 2))) (.seq (.block 3 (.seq
  (.region (some [149, 150, 151, 152, 153, 154, 155]) [ ⟨some 149, none, .mv (.t 19)⟩, ⟨some 150, none, .mv (.t 21)⟩, ⟨some 151, none, .idx 1 (.t 149) (.t 150)⟩, ⟨some 152, none, .ld none (.t 151)⟩, ⟨some 153, none, .mv (.t 19)⟩, ⟨some 154, none, .idx 1 (.t 153) (.c (.int .i64 0))⟩, ⟨some 155, none, .ld none (.t 154)⟩, ⟨some 156, none, .bin .neq (.t 152) (.t 155)⟩] [6, 14, 15, 17, 19, 21, 156]) (.cond (.t 156) (.seq
  (.region none [ ⟨some 2, none, .mv (.c (.bool false))⟩] [2]) .ret) .skip)))
  (.region none [ ⟨some 147, none, .mv (.t 21)⟩, ⟨some 148, none, .bin .add (.t 147) (.c (.int .i64 1))⟩, ⟨some 21, none, .mv (.t 148)⟩] [6, 14, 15, 17, 19, 21])))))) (.seq (.seq
  (.region none [ ⟨some 22, none, .mv (.c (.int .i64 0))⟩] [6, 14, 15, 17, 22]) (.block 4 (.loop (.seq (.seq
  (.region none [ ⟨some 157, none, .mv (.t 22)⟩, ⟨some 158, none, .mv (.t 14)⟩, ⟨some 159, none, .bin .lss (.t 157) (.t 158)⟩] [6, 14, 15, 17, 22, 159]) (.cond (.t 159) .skip (.exit 4))) (.seq (.block 5 (.seq (.seq
  (.region none [ ⟨some 162, none, .mv (.t 15)⟩, ⟨some 163, none, .mv (.t 22)⟩, ⟨some 164, none, .idx 1 (.t 162) (.t 163)⟩, ⟨some 165, none, .ld none (.t 164)⟩, ⟨some 166, none, .len (.t 165)⟩, ⟨some 167, none, .mv (.t 14)⟩, ⟨some 168, none, .bin .neq (.t 166) (.t 167)⟩, ⟨some 169, none, .mv (.t 168)⟩, ⟨some 170, (some (169, false)), .mv (.t 17)⟩, ⟨some 171, (some (169, false)), .mv (.t 22)⟩, ⟨some 172, (some (169, false)), .idx 1 (.t 170) (.t 171)⟩, ⟨some 173, (some (169, false)), .ld none (.t 172)⟩, ⟨some 174, (some (169, false)), .len (.t 173)⟩, ⟨some 175, (some (169, false)), .mv (.t 14)⟩, ⟨some 176, (some (169, false)), .bin .neq (.t 174) (.t 175)⟩, ⟨some 177, none, .pick (.t 169) (.c (.bool true)) (.t 176)⟩] [6, 14, 15, 17, 22, 177]) (.cond (.t 177) (.seq
  (.region none [ ⟨some 2, none, .mv (.c (.bool false))⟩] [2]) .ret) .skip)) (.seq
  (.region none [ ⟨some 23, none, .mv (.c (.int .i64 0))⟩] [6, 14, 15, 17, 22, 23]) (.block 6 (.loop (.seq (.seq
  (.region none [ ⟨some 178, none, .mv (.t 23)⟩, ⟨some 179, none, .mv (.t 14)⟩, ⟨some 180, none, .bin .lss (.t 178) (.t 179)⟩] [6, 14, 15, 17, 22, 23, 180]) (.cond (.t 180) .skip (.exit 6))) (.seq (.block 7 (.seq
  (.region none [ ⟨some 24, none, .mv (.c (.int .i64 0))⟩] [6, 14, 15, 17, 22, 23, 24]) (.block 8 (.loop (.seq (.seq
  (.region none [ ⟨some 183, none, .mv (.t 24)⟩, ⟨some 184, none, .mv (.t 14)⟩, ⟨some 185, none, .bin .lss (.t 183) (.t 184)⟩] [6, 14, 15, 17, 22, 23, 24, 185]) (.cond (.t 185) .skip (.exit 8))) (.seq (.block 9 (.seq
  (.region (some [188, 189, 190, 191, 192, 193, 194, 195, 198, 199, 200, 201, 202, 203, 204, 205, 206, 207, 208, 209, 210, 211, 212, 213, 214, 215, 216, 217, 220, 221, 222, 223, 224, 225, 226, 227, 228, 229, 230, 231, 232, 233, 234, 235, 236, 237, 238, 239]) [ ⟨some 188, none, .mv (.t 6)⟩, ⟨some 189, none, .mv (.t 23)⟩, ⟨some 190, none, .idx 1 (.t 188) (.t 189)⟩, ⟨some 191, none, .ld none (.t 190)⟩, ⟨some 192, none, .mv (.t 6)⟩, ⟨some 193, none, .mv (.t 24)⟩, ⟨some 194, none, .idx 1 (.t 192) (.t 193)⟩, ⟨some 195, none, .ld none (.t 194)⟩, ⟨some 196, none, .bin .eql (.t 191) (.t 195)⟩, ⟨some 197, none, .mv (.t 196)⟩, ⟨some 198, (some (197, true)), .mv (.t 6)⟩, ⟨some 199, (some (197, true)), .mv (.t 15)⟩, ⟨some 200, (some (197, true)), .mv (.t 22)⟩, ⟨some 201, (some (197, true)), .idx 1 (.t 199) (.t 200)⟩, ⟨some 202, (some (197, true)), .ld none (.t 201)⟩, ⟨some 203, (some (197, true)), .mv (.t 23)⟩, ⟨some 204, (some (197, true)), .idx 1 (.t 202) (.t 203)⟩, ⟨some 205, (some (197, true)), .ld none (.t 204)⟩, ⟨some 206, (some (197, true)), .idx 1 (.t 198) (.t 205)⟩, ⟨some 207, (some (197, true)), .ld none (.t 206)⟩, ⟨some 208, (some (197, true)), .mv (.t 6)⟩, ⟨some 209, (some (197, true)), .mv (.t 15)⟩, ⟨some 210, (some (197, true)), .mv (.t 22)⟩, ⟨some 211, (some (197, true)), .idx 1 (.t 209) (.t 210)⟩, ⟨some 212, (some (197, true)), .ld none (.t 211)⟩, ⟨some 213, (some (197, true)), .mv (.t 24)⟩, ⟨some 214, (some (197, true)), .idx 1 (.t 212) (.t 213)⟩, ⟨some 215, (some (197, true)), .ld none (.t 214)⟩, ⟨some 216, (some (197, true)), .idx 1 (.t 208) (.t 215)⟩, ⟨some 217, (some (197, true)), .ld none (.t 216)⟩, ⟨some 218, (some (197, true)), .bin .neq (.t 207) (.t 217)⟩, ⟨some 219, (some (197, true)), .mv (.t 218)⟩, ⟨some 220, (some (219, false)), .mv (.t 6)⟩, ⟨some 221, (some (219, false)), .mv (.t 17)⟩, ⟨some 222, (some (219, false)), .mv (.t 22)⟩, ⟨some 223, (some (219, false)), .idx 1 (.t 221) (.t 222)⟩, ⟨some 224, (some (219, false)), .ld none (.t 223)⟩, ⟨some 225, (some (219, false)), .mv (.t 23)⟩, ⟨some 226, (some (219, false)), .idx 1 (.t 224) (.t 225)⟩, ⟨some 227, (some (219, false)), .ld none (.t 226)⟩, ⟨some 228, (some (219, false)), .idx 1 (.t 220) (.t 227)⟩, ⟨some 229, (some (219, false)), .ld none (.t 228)⟩, ⟨some 230, (some (219, false)), .mv (.t 6)⟩, ⟨some 231, (some (219, false)), .mv (.t 17)⟩, ⟨some 232, (some (219, false)), .mv (.t 22)⟩, ⟨some 233, (some (219, false)), .idx 1 (.t 231) (.t 232)⟩, ⟨some 234, (some (219, false)), .ld none (.t 233)⟩, ⟨some 235, (some (219, false)), .mv (.t 24)⟩, ⟨some 236, (some (219, false)), .idx 1 (.t 234) (.t 235)⟩, ⟨some 237, (some (219, false)), .ld none (.t 236)⟩, ⟨some 238, (some (219, false)), .idx 1 (.t 230) (.t 237)⟩, ⟨some 239, (some (219, false)), .ld none (.t 238)⟩, ⟨some 240, (some (219, false)), .bin .neq (.t 229) (.t 239)⟩, ⟨some 241, (some (197, true)), .pick (.t 219) (.c (.bool true)) (.t 240)⟩, ⟨some 242, none, .pick (.t 197) (.t 241) (.c (.bool false))⟩] [6, 14, 15, 17, 22, 23, 24, 242]) (.cond (.t 242) (.seq
  (.region none [ ⟨some 2, none, .mv (.c (.bool false))⟩] [2]) .ret) .skip)))
  (.region none [ ⟨some 186, none, .mv (.t 24)⟩, ⟨some 187, none, .bin .add (.t 186) (.c (.int .i64 1))⟩, ⟨some 24, none, .mv (.t 187)⟩] [6, 14, 15, 17, 22, 23, 24])))))))
  (.region none [ ⟨some 181, none, .mv (.t 23)⟩, ⟨some 182, none, .bin .add (.t 181) (.c (.int .i64 1))⟩, ⟨some 23, none, .mv (.t 182)⟩] [6, 14, 15, 17, 22, 23]))))))))
  (.region none [ ⟨some 160, none, .mv (.t 22)⟩, ⟨some 161, none, .bin .add (.t 160) (.c (.int .i64 1))⟩, ⟨some 22, none, .mv (.t 161)⟩] [6, 14, 15, 17, 22])))))) (.seq
  (.region none [ ⟨some 2, none, .mv (.c (.bool true))⟩] [2]) .ret))))))))))))))))))

def j1o : F where
 np := 1
 rs := [.cell 2 (some 2), .t 3, .t 4]
 body :=
  (.seq
  (.region none [ ⟨some 2, none, .alloc [(.slice none 0 0), (.slice none 0 0)]⟩, ⟨some 3, none, .mv (.c (.int .i64 0))⟩, ⟨some 4, none, .mv (.c (.int .i64 0))⟩] [0, 2]) (.seq
  (.region none [ ⟨some 8, none, .mv (.t 0)⟩, ⟨some 9, none, .call (.f 269) [((.t 8), .r)]⟩, ⟨some 5, none, .asg (.t 9)⟩] [2, 5]) (.seq
  (.region none [ ⟨some 10, none, .mvs 5⟩, ⟨some 11, none, .calls (.f 371) (.t 10) 5 []⟩, ⟨some 6, none, .alloc [(.slice none 0 0), (.slice none 0 0)]⟩, ⟨none, none, .st (some 2) (.t 6) (.t 11)⟩] [2, 5, 6]) (.seq
  (.region none [ ⟨some 12, none, .fld 0 (.t 6)⟩, ⟨some 13, none, .ld none (.t 12)⟩, ⟨some 14, none, .len (.t 13)⟩, ⟨some 7, none, .mv (.t 14)⟩] [2, 5, 6, 7]) (.seq
  (.region (some [15, 16, 17, 18, 19, 20, 21, 22, 23]) [ ⟨some 15, none, .ld (some 2) (.t 6)⟩, ⟨some 16, none, .mvs 5⟩, ⟨some 17, none, .mv (.t 7)⟩, ⟨some 18, none, .bin .sub (.t 17) (.c (.int .i64 1))⟩, ⟨some 19, none, .calls (.f 293) (.t 16) 5 [(.t 18)]⟩, ⟨some 20, none, .mvs 5⟩, ⟨some 21, none, .mv (.t 7)⟩, ⟨some 22, none, .bin .sub (.t 21) (.c (.int .i64 1))⟩, ⟨some 23, none, .calls (.f 293) (.t 20) 5 [(.t 22)]⟩, ⟨none, none, .st (some 2) (.t 2) (.t 15)⟩, ⟨some 3, none, .mv (.t 19)⟩, ⟨some 4, none, .mv (.t 23)⟩] [2, 3, 4]) .ret)))))

def j2t : F where
 np := 1
 rs := [.cell 2 (some 2)]
 fix := [0]
 body :=
  (.seq
  (.region none [ ⟨some 2, none, .alloc [(.slice none 0 0), (.slice none 0 0)]⟩] [0, 2]) (.seq
  (.region none [ ⟨some 10, none, .mvs 0⟩, ⟨some 11, none, .calls (.f 336) (.t 10) 0 [(.c (.int .i64 12))]⟩, ⟨some 12, none, .bin .add (.c (.int .i64 1)) (.t 11)⟩, ⟨some 3, none, .mv (.t 12)⟩] [0, 2, 3]) (.seq (.seq
  (.region none [ ⟨some 13, none, .mvs 0⟩, ⟨some 14, none, .calls (.f 336) (.t 13) 0 [(.c (.int .i64 5))]⟩] [0, 2, 3, 14]) (.block 0 (.seq
  (.region none [ ⟨some 16, none, .bin .eql (.t 14) (.c (.int .i64 0))⟩, ⟨some 15, none, .mv (.t 16)⟩] [0, 2, 3, 14, 15]) (.cond (.t 15) (.seq
  (.region none [ ⟨some 17, none, .mvs 0⟩, ⟨some 18, none, .calls (.f 268) (.t 17) 0 [(.c (.int .i64 8))]⟩, ⟨none, none, .st (some 2) (.t 2) (.t 18)⟩] [0, 2]) .ret) (.seq
  (.region none [ ⟨some 20, none, .bin .eql (.t 14) (.c (.int .i64 1))⟩, ⟨some 19, none, .mv (.t 20)⟩] [0, 2, 3, 14, 19]) (.cond (.t 19) (.seq
  (.region none [ ⟨some 21, none, .mv (.t 3)⟩, ⟨some 22, none, .bin .rem (.t 21) (.c (.int .i64 2))⟩, ⟨some 23, none, .bin .eql (.t 22) (.c (.int .i64 1))⟩, ⟨some 24, none, .mv (.t 23)⟩, ⟨some 25, (some (24, true)), .mv (.t 3)⟩, ⟨some 26, (some (24, true)), .bin .lss (.t 25) (.c (.int .i64 12))⟩, ⟨some 27, none, .pick (.t 24) (.t 26) (.c (.bool false))⟩] [0, 2, 3, 27]) (.cond (.t 27) (.seq
  (.region none [ ⟨some 28, none, .mv (.t 3)⟩, ⟨some 29, none, .call (.f 423) [((.t 28), .r)]⟩, ⟨some 30, none, .mvs 0⟩, ⟨some 31, none, .mv (.t 3)⟩, ⟨some 32, none, .calls (.f 368) (.t 30) 0 [(.t 31)]⟩, ⟨some 33, none, .call (.f 422) [((.t 29), .r), ((.t 32), .r)]⟩, ⟨none, none, .st (some 2) (.t 2) (.t 33)⟩] [0, 2]) .ret) .skip)) (.seq
  (.region none [ ⟨some 35, none, .bin .eql (.t 14) (.c (.int .i64 2))⟩, ⟨some 34, none, .mv (.t 35)⟩] [0, 2, 3, 34]) (.cond (.t 34) (.seq
  (.region none [ ⟨some 4, none, .mv (.c (.int .i64 0))⟩] [0, 2, 3, 4]) (.block 1 (.loop (.seq (.seq
  (.region none [ ⟨some 36, none, .mv (.t 4)⟩, ⟨some 37, none, .bin .lss (.t 36) (.c (.int .i64 20))⟩] [0, 2, 3, 4, 37]) (.cond (.t 37) .skip (.exit 1))) (.seq (.block 2 (.seq
  (.region (some [5, 40, 41, 42, 43, 44, 45, 46, 47, 48, 49]) [ ⟨some 40, none, .mv (.t 3)⟩, ⟨some 41, none, .mvs 0⟩, ⟨some 42, none, .mv (.t 3)⟩, ⟨some 43, none, .calls (.f 336) (.t 41) 0 [(.t 42)]⟩, ⟨some 44, none, .mv (.t 3)⟩, ⟨some 45, none, .bin .rem (.c (.int .i64 1)) (.t 44)⟩, ⟨some 46, none, .mvs 0⟩, ⟨some 47, none, .mv (.t 3)⟩, ⟨some 48, none, .calls (.f 336) (.t 46) 0 [(.t 47)]⟩, ⟨some 49, none, .call (.f 424) [((.t 40), .r), ((.t 43), .r), ((.t 45), .r), ((.t 48), .r)]⟩, ⟨some 5, none, .alloc [(.slice none 0 0)]⟩, ⟨none, none, .st (some 1) (.t 5) (.t 49)⟩] [0, 2, 3, 4, 5]) (.seq
  (.region none [ ⟨some 50, none, .ld (some 1) (.t 5)⟩, ⟨some 51, none, .call (.f 363) [((.t 50), .r)]⟩] [0, 2, 3, 4, 5, 51]) (.cond (.t 51) (.seq
  (.region none [ ⟨some 52, none, .ld (some 1) (.t 5)⟩, ⟨some 53, none, .call (.f 366) [((.t 52), .r)]⟩, ⟨some 54, none, .mvs 0⟩, ⟨some 55, none, .mv (.t 3)⟩, ⟨some 56, none, .calls (.f 368) (.t 54) 0 [(.t 55)]⟩, ⟨some 57, none, .call (.f 422) [((.t 53), .r), ((.t 56), .r)]⟩, ⟨none, none, .st (some 2) (.t 2) (.t 57)⟩] [0, 2]) .ret) .skip))))
  (.region none [ ⟨some 38, none, .mv (.t 4)⟩, ⟨some 39, none, .bin .add (.t 38) (.c (.int .i64 1))⟩, ⟨some 4, none, .mv (.t 39)⟩] [0, 2, 3, 4])))))) .skip)))))))) (.seq
  (.region none [ ⟨some 58, none, .bsl []⟩, ⟨some 59, none, .bsl []⟩, ⟨some 6, none, .asg (.t 58)⟩, ⟨some 7, none, .asg (.t 59)⟩] [0, 2, 3, 6, 7]) (.seq
  (.region none [ ⟨some 60, none, .mvs 0⟩, ⟨some 61, none, .mv (.t 3)⟩, ⟨some 62, none, .calls (.f 336) (.t 60) 0 [(.t 61)]⟩, ⟨some 8, none, .mv (.t 62)⟩] [0, 2, 3, 6, 7, 8]) (.seq (.seq
  (.region none [ ⟨some 9, none, .mv (.c (.int .i64 0))⟩] [0, 2, 3, 6, 7, 8, 9]) (.block 3 (.loop (.seq (.seq
  (.region none [ ⟨some 63, none, .mv (.t 9)⟩, ⟨some 64, none, .mv (.t 3)⟩, ⟨some 65, none, .bin .lss (.t 63) (.t 64)⟩] [0, 2, 3, 6, 7, 8, 9, 65]) (.cond (.t 65) .skip (.exit 3))) (.seq (.block 4 (.seq
  (.region none [ ⟨some 68, none, .mv (.t 6)⟩, ⟨some 69, none, .mv (.t 9)⟩, ⟨some 70, none, .bin .add (.t 69) (.c (.int .i64 1))⟩, ⟨some 71, none, .mv (.t 3)⟩, ⟨some 72, none, .bin .rem (.t 70) (.t 71)⟩, ⟨some 73, none, .bsl [(.t 72)]⟩, ⟨some 74, none, .app true 1 (.t 68) (.t 73)⟩, ⟨some 6, none, .asg (.t 74)⟩] [0, 2, 3, 6, 7, 8, 9])
  (.region none [ ⟨some 75, none, .mv (.t 7)⟩, ⟨some 76, none, .mv (.t 9)⟩, ⟨some 77, none, .mv (.t 8)⟩, ⟨some 78, none, .bin .add (.t 76) (.t 77)⟩, ⟨some 79, none, .mv (.t 3)⟩, ⟨some 80, none, .bin .rem (.t 78) (.t 79)⟩, ⟨some 81, none, .bsl [(.t 80)]⟩, ⟨some 82, none, .app true 1 (.t 75) (.t 81)⟩, ⟨some 7, none, .asg (.t 82)⟩] [0, 2, 3, 6, 7, 8, 9])))
  (.region none [ ⟨some 66, none, .mv (.t 9)⟩, ⟨some 67, none, .bin .add (.t 66) (.c (.int .i64 1))⟩, ⟨some 9, none, .mv (.t 67)⟩] [0, 2, 3, 6, 7, 8, 9])))))) (.seq
  (.region none [ ⟨some 83, none, .mv (.t 6)⟩, ⟨some 84, none, .mv (.t 7)⟩, ⟨some 85, none, .call (.f 425) [((.t 83), .r), ((.t 84), .r)]⟩, ⟨some 86, none, .mvs 0⟩, ⟨some 87, none, .mv (.t 3)⟩, ⟨some 88, none, .calls (.f 368) (.t 86) 0 [(.t 87)]⟩, ⟨some 89, none, .call (.f 422) [((.t 85), .r), ((.t 88), .r)]⟩, ⟨none, none, .st (some 2) (.t 2) (.t 89)⟩] [0, 2]) .ret)))))))

end Go.Mch
