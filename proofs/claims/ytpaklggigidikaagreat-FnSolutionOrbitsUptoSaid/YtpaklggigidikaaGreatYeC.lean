/- Compact code of the functions that statements 13 to 36 reach further. -/
import Derived.Test.YtpaklggigidikaaGreatM1
namespace Go.Mch

def j3i : F where
 np := 1
 rs := [.t 2]
 body :=
  (.seq
  (.region none [ ⟨some 2, none, .mv (.c (.int .i64 0))⟩] [0]) (.seq
  (.region none [ ⟨some 3, none, .mv (.c (.int .i64 0))⟩] [0, 3]) (.seq (.seq
  (.region none [ ⟨some 4, none, .mv (.c (.int .i64 0))⟩] [0, 3, 4]) (.block 0 (.loop (.seq (.seq
  (.region none [ ⟨some 5, none, .mv (.t 4)⟩, ⟨some 6, none, .mv (.t 0)⟩, ⟨some 7, none, .len (.t 6)⟩, ⟨some 8, none, .bin .lss (.t 5) (.t 7)⟩] [0, 3, 4, 8]) (.cond (.t 8) .skip (.exit 0))) (.seq (.block 1 (.seq
  (.region none [ ⟨some 11, none, .mv (.t 0)⟩, ⟨some 12, none, .mv (.t 4)⟩, ⟨some 13, none, .idx 1 (.t 11) (.t 12)⟩, ⟨some 14, none, .ld none (.t 13)⟩, ⟨some 15, none, .mv (.t 3)⟩, ⟨some 16, none, .bin .geq (.t 14) (.t 15)⟩] [0, 3, 4, 16]) (.cond (.t 16)
  (.region none [ ⟨some 17, none, .mv (.t 0)⟩, ⟨some 18, none, .mv (.t 4)⟩, ⟨some 19, none, .idx 1 (.t 17) (.t 18)⟩, ⟨some 20, none, .ld none (.t 19)⟩, ⟨some 21, none, .bin .add (.t 20) (.c (.int .i64 1))⟩, ⟨some 3, none, .mv (.t 21)⟩] [0, 3, 4]) .skip)))
  (.region none [ ⟨some 9, none, .mv (.t 4)⟩, ⟨some 10, none, .bin .add (.t 9) (.c (.int .i64 1))⟩, ⟨some 4, none, .mv (.t 10)⟩] [0, 3, 4])))))) (.seq
  (.region none [ ⟨some 22, none, .mv (.t 3)⟩, ⟨some 2, none, .mv (.t 22)⟩] [2]) .ret))))

def j1a : F where
 np := 1
 rs := [.t 2]
 body :=
  (.seq
  (.region none [ ⟨some 2, none, .mv (.c (.int .i64 0))⟩] [0]) (.seq (.seq
  (.region none [ ⟨some 5, none, .mv (.t 0)⟩, ⟨some 6, none, .len (.t 5)⟩, ⟨some 7, none, .bin .lss (.t 6) (.c (.int .i64 1))⟩] [0, 7]) (.cond (.t 7) .stuck .skip)) (.seq
  (.region none [ ⟨some 9, none, .mv (.t 0)⟩, ⟨some 10, none, .idx 1 (.t 9) (.c (.int .i64 0))⟩, ⟨some 11, none, .ld none (.t 10)⟩, ⟨some 3, none, .mv (.t 11)⟩] [0, 3]) (.seq (.seq
  (.region none [ ⟨some 4, none, .mv (.c (.int .i64 1))⟩] [0, 3, 4]) (.block 0 (.loop (.seq (.seq
  (.region none [ ⟨some 12, none, .mv (.t 4)⟩, ⟨some 13, none, .mv (.t 0)⟩, ⟨some 14, none, .len (.t 13)⟩, ⟨some 15, none, .bin .lss (.t 12) (.t 14)⟩] [0, 3, 4, 15]) (.cond (.t 15) .skip (.exit 0))) (.seq (.block 1
  (.region none [ ⟨some 18, none, .mv (.t 3)⟩, ⟨some 19, none, .mv (.t 0)⟩, ⟨some 20, none, .mv (.t 4)⟩, ⟨some 21, none, .idx 1 (.t 19) (.t 20)⟩, ⟨some 22, none, .ld none (.t 21)⟩, ⟨some 23, none, .mm true (.t 18) (.t 22)⟩, ⟨some 3, none, .mv (.t 23)⟩] [0, 3, 4]))
  (.region none [ ⟨some 16, none, .mv (.t 4)⟩, ⟨some 17, none, .bin .add (.t 16) (.c (.int .i64 1))⟩, ⟨some 4, none, .mv (.t 17)⟩] [0, 3, 4])))))) (.seq
  (.region none [ ⟨some 24, none, .mv (.t 3)⟩, ⟨some 2, none, .mv (.t 24)⟩] [2]) .ret)))))

def j42 : F where
 np := 1
 rs := [.t 2]
 body :=
  (.seq
  (.region none [ ⟨some 1, none, .box (.t 0)⟩, ⟨some 2, none, .asg (.c (.slice none 0 0))⟩] [1]) (.seq
  (.region (some [3, 4, 5, 6, 7]) [ ⟨some 3, none, .fld 0 (.t 1)⟩, ⟨some 4, none, .ld none (.t 3)⟩, ⟨some 5, none, .call (.f 280) [((.t 4), .r)]⟩, ⟨some 6, none, .fld 1 (.t 1)⟩, ⟨some 7, none, .ld none (.t 6)⟩, ⟨some 8, none, .call (.f 265) [((.t 7), .r)]⟩, ⟨some 9, none, .app true 1 (.t 5) (.t 8)⟩, ⟨some 2, none, .asg (.t 9)⟩] [2]) .ret))

def j4p : F where
 np := 2
 rs := [.t 4]
 body :=
  (.seq
  (.region none [ ⟨some 4, none, .asg (.c (.slice none 0 0))⟩] [0, 1]) (.seq
  (.region none [ ⟨some 8, none, .mv (.t 1)⟩, ⟨some 9, none, .bsl [(.t 8)]⟩, ⟨some 5, none, .asg (.t 9)⟩] [0, 5]) (.seq (.seq
  (.region none [ ⟨some 6, none, .mv (.c (.int .i64 0))⟩] [0, 5, 6]) (.block 0 (.loop (.seq (.seq
  (.region none [ ⟨some 10, none, .mv (.t 6)⟩, ⟨some 11, none, .mv (.t 5)⟩, ⟨some 12, none, .len (.t 11)⟩, ⟨some 13, none, .bin .lss (.t 10) (.t 12)⟩] [0, 5, 6, 13]) (.cond (.t 13) .skip (.exit 0))) (.seq (.block 1 (.seq
  (.region none [ ⟨some 7, none, .mv (.c (.int .i64 0))⟩] [0, 5, 6, 7]) (.block 2 (.loop (.seq (.seq
  (.region none [ ⟨some 16, none, .mv (.t 7)⟩, ⟨some 17, none, .mv (.t 0)⟩, ⟨some 18, none, .len (.t 17)⟩, ⟨some 19, none, .bin .lss (.t 16) (.t 18)⟩] [0, 5, 6, 7, 19]) (.cond (.t 19) .skip (.exit 2))) (.seq (.block 3 (.seq
  (.region (some [22, 23, 24, 25, 26, 27, 28, 29, 30, 31, 32]) [ ⟨some 22, none, .mv (.t 5)⟩, ⟨some 23, none, .mv (.t 0)⟩, ⟨some 24, none, .mv (.t 7)⟩, ⟨some 25, none, .idx 1 (.t 23) (.t 24)⟩, ⟨some 26, none, .ld none (.t 25)⟩, ⟨some 27, none, .mv (.t 5)⟩, ⟨some 28, none, .mv (.t 6)⟩, ⟨some 29, none, .idx 1 (.t 27) (.t 28)⟩, ⟨some 30, none, .ld none (.t 29)⟩, ⟨some 31, none, .idx 1 (.t 26) (.t 30)⟩, ⟨some 32, none, .ld none (.t 31)⟩, ⟨some 33, none, .call (.f 62) [((.t 22), .r), ((.t 32), .r)]⟩, ⟨some 34, none, .un .not (.t 33)⟩] [0, 5, 6, 7, 34]) (.cond (.t 34)
  (.region (some [35, 36, 37, 38, 39, 40, 41, 42, 43, 44, 45, 46]) [ ⟨some 35, none, .mv (.t 5)⟩, ⟨some 36, none, .mv (.t 0)⟩, ⟨some 37, none, .mv (.t 7)⟩, ⟨some 38, none, .idx 1 (.t 36) (.t 37)⟩, ⟨some 39, none, .ld none (.t 38)⟩, ⟨some 40, none, .mv (.t 5)⟩, ⟨some 41, none, .mv (.t 6)⟩, ⟨some 42, none, .idx 1 (.t 40) (.t 41)⟩, ⟨some 43, none, .ld none (.t 42)⟩, ⟨some 44, none, .idx 1 (.t 39) (.t 43)⟩, ⟨some 45, none, .ld none (.t 44)⟩, ⟨some 46, none, .bslv 1 [(.t 45)]⟩, ⟨some 47, none, .app true 1 (.t 35) (.t 46)⟩, ⟨some 5, none, .asg (.t 47)⟩] [0, 5, 6, 7]) .skip)))
  (.region none [ ⟨some 20, none, .mv (.t 7)⟩, ⟨some 21, none, .bin .add (.t 20) (.c (.int .i64 1))⟩, ⟨some 7, none, .mv (.t 21)⟩] [0, 5, 6, 7])))))))
  (.region none [ ⟨some 14, none, .mv (.t 6)⟩, ⟨some 15, none, .bin .add (.t 14) (.c (.int .i64 1))⟩, ⟨some 6, none, .mv (.t 15)⟩] [0, 5, 6])))))) (.seq
  (.region none [ ⟨some 48, none, .mv (.t 5)⟩, ⟨some 4, none, .asg (.t 48)⟩] [4]) .ret))))

def j1r : F where
 np := 1
 rs := [.t 2, .t 3]
 body :=
  (.seq
  (.region none [ ⟨some 1, none, .box (.t 0)⟩, ⟨some 2, none, .mv (.c (.bool false))⟩, ⟨some 3, none, .mv (.c (.int .i64 0))⟩] [1]) (.seq (.seq
  (.region none [ ⟨some 4, none, .ld (some 2) (.t 1)⟩, ⟨some 5, none, .call (.f 266) [((.t 4), .r)]⟩, ⟨some 6, none, .un .not (.t 5)⟩] [1, 6]) (.cond (.t 6) (.seq
  (.region none [ ⟨some 2, none, .mv (.c (.bool false))⟩, ⟨some 3, none, .mv (.c (.int .i64 1))⟩] [2, 3]) .ret) .skip)) (.seq
  (.region none [ ⟨some 7, none, .ld (some 2) (.t 1)⟩, ⟨some 8, none, .call (.f 300) [((.t 7), .r)]⟩, ⟨some 2, none, .mv (.t 8)⟩, ⟨some 3, none, .mv (.c (.int .i64 0))⟩] [2, 3]) .ret)))

def j1p : F where
 np := 1
 rs := [.t 2]
 body :=
  (.seq
  (.region none [ ⟨some 1, none, .box (.t 0)⟩, ⟨some 2, none, .mv (.c (.bool false))⟩] [1]) (.seq
  (.region none [ ⟨some 3, none, .ld (some 2) (.t 1)⟩, ⟨some 4, none, .call (.f 301) [((.t 3), .r)]⟩, ⟨some 5, none, .call (.f 290) [((.t 4), .r)]⟩, ⟨some 6, none, .bin .eql (.t 5) (.c (.int .i64 0))⟩, ⟨some 2, none, .mv (.t 6)⟩] [2]) .ret))

def j3k : F where
 np := 1
 rs := [.t 2]
 body :=
  (.seq
  (.region none [ ⟨some 1, none, .box (.t 0)⟩, ⟨some 2, none, .asg (.c (.slice none 0 0))⟩] [1]) (.seq
  (.region (some [3, 4, 5, 6, 7]) [ ⟨some 3, none, .fld 0 (.t 1)⟩, ⟨some 4, none, .ld none (.t 3)⟩, ⟨some 5, none, .fld 1 (.t 1)⟩, ⟨some 6, none, .ld none (.t 5)⟩, ⟨some 7, none, .call (.f 267) [((.t 6), .r)]⟩, ⟨some 8, none, .bsls 1 true true [(.t 4), (.t 7)]⟩, ⟨some 9, none, .call (.f 381) [((.t 8), .r)]⟩, ⟨some 2, none, .asg (.t 9)⟩] [2]) .ret))

def j0x : F where
 np := 1
 rs := [.t 2]
 body :=
  (.seq
  (.region none [ ⟨some 2, none, .asg (.c (.slice none 0 0))⟩] [0]) (.seq
  (.region none [ ⟨some 3, none, .mv (.c (.int .i64 0))⟩] [0, 3]) (.seq (.seq
  (.region none [ ⟨some 9, none, .mv (.t 0)⟩, ⟨some 10, none, .len (.t 9)⟩, ⟨some 11, none, .mv (.c (.int .i64 0))⟩] [0, 3, 9, 10, 11]) (.block 0 (.loop (.seq
  (.region none [ ⟨some 12, none, .bin .lss (.t 11) (.t 10)⟩] [0, 3, 9, 10, 11, 12]) (.seq (.cond (.t 12) .skip (.exit 0)) (.seq (.block 1 (.seq
  (.region none [ ⟨some 13, none, .idx 1 (.t 9) (.t 11)⟩, ⟨some 14, none, .ld none (.t 13)⟩, ⟨some 5, none, .asg (.t 14)⟩] [0, 3, 5, 9, 10, 11]) (.seq
  (.region none [ ⟨some 15, none, .mv (.t 3)⟩, ⟨some 16, none, .mv (.t 5)⟩, ⟨some 17, none, .len (.t 16)⟩, ⟨some 18, none, .bin .add (.t 15) (.t 17)⟩, ⟨some 3, none, .mv (.t 18)⟩] [0, 3, 9, 10, 11]) (.seq
  (.region none [ ⟨some 19, none, .mv (.t 3)⟩, ⟨some 20, none, .bin .lss (.t 19) (.c (.int .i64 0))⟩] [0, 3, 9, 10, 11, 20]) (.cond (.t 20) .stuck .skip)))))
  (.region none [ ⟨some 22, none, .bin .add (.t 11) (.c (.int .i64 1))⟩, ⟨some 11, none, .mv (.t 22)⟩] [0, 3, 9, 10, 11]))))))) (.seq
  (.region none [ ⟨some 23, none, .mv (.t 3)⟩, ⟨some 24, none, .call (.f 429) [((.c (.slice none 0 0)), .r), ((.t 23), .r)]⟩, ⟨some 6, none, .asg (.t 24)⟩] [0, 6]) (.seq (.seq
  (.region none [ ⟨some 25, none, .mv (.t 0)⟩, ⟨some 26, none, .len (.t 25)⟩, ⟨some 27, none, .mv (.c (.int .i64 0))⟩] [6, 25, 26, 27]) (.block 2 (.loop (.seq
  (.region none [ ⟨some 28, none, .bin .lss (.t 27) (.t 26)⟩] [6, 25, 26, 27, 28]) (.seq (.cond (.t 28) .skip (.exit 2)) (.seq (.block 3 (.seq
  (.region none [ ⟨some 29, none, .idx 1 (.t 25) (.t 27)⟩, ⟨some 30, none, .ld none (.t 29)⟩, ⟨some 8, none, .asg (.t 30)⟩] [6, 8, 25, 26, 27])
  (.region none [ ⟨some 31, none, .mv (.t 6)⟩, ⟨some 32, none, .mv (.t 8)⟩, ⟨some 33, none, .app false 1 (.t 31) (.t 32)⟩, ⟨some 6, none, .asg (.t 33)⟩] [6, 25, 26, 27])))
  (.region none [ ⟨some 34, none, .bin .add (.t 27) (.c (.int .i64 1))⟩, ⟨some 27, none, .mv (.t 34)⟩] [6, 25, 26, 27]))))))) (.seq
  (.region none [ ⟨some 35, none, .mv (.t 6)⟩, ⟨some 2, none, .asg (.t 35)⟩] [2]) .ret))))))

def j0z : F where
 np := 2
 rs := [.t 4]
 body :=
  (.seq
  (.region none [ ⟨some 4, none, .asg (.c (.slice none 0 0))⟩] [0, 1]) (.seq (.seq
  (.region none [ ⟨some 5, none, .mv (.t 1)⟩, ⟨some 6, none, .bin .lss (.t 5) (.c (.int .i64 0))⟩] [0, 1, 6]) (.cond (.t 6) .stuck .skip)) (.seq (.seq
  (.region none [ ⟨some 8, none, .mv (.t 1)⟩, ⟨some 9, none, .mv (.t 0)⟩, ⟨some 10, none, .cap0 (.t 9)⟩, ⟨some 11, none, .mv (.t 0)⟩, ⟨some 12, none, .len (.t 11)⟩, ⟨some 13, none, .bin .sub (.t 10) (.t 12)⟩, ⟨some 14, none, .bin .sub (.t 8) (.t 13)⟩, ⟨some 1, none, .mv (.t 14)⟩] [0, 1]) (.seq
  (.region none [ ⟨some 15, none, .mv (.t 1)⟩, ⟨some 16, none, .bin .gtr (.t 15) (.c (.int .i64 0))⟩] [0, 1, 16]) (.cond (.t 16)
  (.region none [ ⟨some 17, none, .mv (.t 0)⟩, ⟨some 18, none, .mv (.t 0)⟩, ⟨some 19, none, .cap0 (.t 18)⟩, ⟨some 20, none, .sl 1 (.t 17) none (some (.t 19))⟩, ⟨some 21, none, .mv (.t 1)⟩, ⟨some 22, none, .apz (.slice none 0 0) (.t 20) (.t 21)⟩, ⟨some 23, none, .mv (.t 0)⟩, ⟨some 24, none, .len (.t 23)⟩, ⟨some 25, none, .sl 1 (.t 22) none (some (.t 24))⟩, ⟨some 0, none, .asg (.t 25)⟩] [0]) .skip))) (.seq
  (.region none [ ⟨some 26, none, .mv (.t 0)⟩, ⟨some 4, none, .asg (.t 26)⟩] [4]) .ret))))

def j3l : F where
 np := 2
 rs := [.t 4]
 body :=
  (.seq
  (.region none [ ⟨some 4, none, .asg (.c (.slice none 0 0))⟩] [0, 1]) (.seq
  (.region none [ ⟨some 13, none, .mv (.t 0)⟩, ⟨some 14, none, .mks (.int .i64 0) (.t 13)⟩, ⟨some 5, none, .asg (.t 14)⟩] [1, 5]) (.seq (.seq
  (.region none [ ⟨some 15, none, .mv (.t 5)⟩, ⟨some 16, none, .len (.t 15)⟩, ⟨some 17, none, .mv (.c (.int .i64 0))⟩] [1, 5, 16, 17]) (.block 0 (.loop (.seq
  (.region none [ ⟨some 18, none, .bin .lss (.t 17) (.t 16)⟩] [1, 5, 16, 17, 18]) (.seq (.cond (.t 18) .skip (.exit 0)) (.seq (.block 1 (.seq
  (.region none [ ⟨some 19, none, .mv (.t 17)⟩, ⟨some 6, none, .mv (.t 19)⟩] [1, 5, 6, 16, 17])
  (.region none [ ⟨some 20, none, .mv (.t 5)⟩, ⟨some 21, none, .mv (.t 6)⟩, ⟨some 22, none, .idx 1 (.t 20) (.t 21)⟩, ⟨none, none, .st none (.t 22) (.c (.int .i64 (-1)))⟩] [1, 5, 16, 17])))
  (.region none [ ⟨some 23, none, .bin .add (.t 17) (.c (.int .i64 1))⟩, ⟨some 17, none, .mv (.t 23)⟩] [1, 5, 16, 17]))))))) (.seq
  (.region none [ ⟨some 7, none, .mv (.c (.int .i64 0))⟩] [1, 5, 7]) (.seq (.seq
  (.region none [ ⟨some 24, none, .mv (.t 5)⟩, ⟨some 25, none, .len (.t 24)⟩, ⟨some 26, none, .mv (.c (.int .i64 0))⟩] [1, 5, 7, 25, 26]) (.block 2 (.loop (.seq
  (.region none [ ⟨some 27, none, .bin .lss (.t 26) (.t 25)⟩] [1, 5, 7, 25, 26, 27]) (.seq (.cond (.t 27) .skip (.exit 2)) (.seq (.block 3 (.seq
  (.region none [ ⟨some 28, none, .mv (.t 26)⟩, ⟨some 8, none, .mv (.t 28)⟩] [1, 5, 7, 8, 25, 26]) (.seq (.seq
  (.region none [ ⟨some 29, none, .mv (.t 5)⟩, ⟨some 30, none, .mv (.t 8)⟩, ⟨some 31, none, .idx 1 (.t 29) (.t 30)⟩, ⟨some 32, none, .ld none (.t 31)⟩, ⟨some 33, none, .bin .geq (.t 32) (.c (.int .i64 0))⟩] [1, 5, 7, 8, 25, 26, 33]) (.cond (.t 33) (.exit 3) .skip)) (.seq
  (.region none [ ⟨some 34, none, .mv (.t 5)⟩, ⟨some 35, none, .mv (.t 8)⟩, ⟨some 36, none, .mv (.t 7)⟩, ⟨some 37, none, .idx 1 (.t 34) (.t 35)⟩, ⟨none, none, .st none (.t 37) (.t 36)⟩] [1, 5, 7, 8, 25, 26]) (.seq (.seq
  (.region none [ ⟨some 38, none, .mv (.t 8)⟩, ⟨some 39, none, .bsl [(.t 38)]⟩, ⟨some 9, none, .asg (.t 39)⟩] [1, 5, 7, 9, 25, 26]) (.block 4 (.loop (.seq (.seq
  (.region none [ ⟨some 40, none, .mv (.t 9)⟩, ⟨some 41, none, .len (.t 40)⟩, ⟨some 42, none, .bin .gtr (.t 41) (.c (.int .i64 0))⟩] [1, 5, 7, 9, 25, 26, 42]) (.cond (.t 42) .skip (.exit 4))) (.seq (.block 5 (.seq
  (.region none [ ⟨some 45, none, .mv (.t 1)⟩, ⟨some 46, none, .len (.t 45)⟩, ⟨some 47, none, .mv (.c (.int .i64 0))⟩] [1, 5, 7, 9, 25, 26, 45, 46, 47]) (.block 6 (.loop (.seq
  (.region none [ ⟨some 48, none, .bin .lss (.t 47) (.t 46)⟩] [1, 5, 7, 9, 25, 26, 45, 46, 47, 48]) (.seq (.cond (.t 48) .skip (.exit 6)) (.seq (.block 7 (.seq
  (.region none [ ⟨some 49, none, .idx 1 (.t 45) (.t 47)⟩, ⟨some 50, none, .ld none (.t 49)⟩, ⟨some 11, none, .asg (.t 50)⟩] [1, 5, 7, 9, 11, 25, 26, 45, 46, 47]) (.seq
  (.region none [ ⟨some 51, none, .mv (.t 11)⟩, ⟨some 52, none, .mv (.t 9)⟩, ⟨some 53, none, .idx 1 (.t 52) (.c (.int .i64 0))⟩, ⟨some 54, none, .ld none (.t 53)⟩, ⟨some 55, none, .idx 1 (.t 51) (.t 54)⟩, ⟨some 56, none, .ld none (.t 55)⟩, ⟨some 12, none, .mv (.t 56)⟩] [1, 5, 7, 9, 12, 25, 26, 45, 46, 47]) (.seq
  (.region none [ ⟨some 57, none, .mv (.t 5)⟩, ⟨some 58, none, .mv (.t 12)⟩, ⟨some 59, none, .idx 1 (.t 57) (.t 58)⟩, ⟨some 60, none, .ld none (.t 59)⟩, ⟨some 61, none, .bin .lss (.t 60) (.c (.int .i64 0))⟩] [1, 5, 7, 9, 12, 25, 26, 45, 46, 47, 61]) (.cond (.t 61) (.seq
  (.region none [ ⟨some 62, none, .mv (.t 5)⟩, ⟨some 63, none, .mv (.t 12)⟩, ⟨some 64, none, .mv (.t 7)⟩, ⟨some 65, none, .idx 1 (.t 62) (.t 63)⟩, ⟨none, none, .st none (.t 65) (.t 64)⟩] [1, 5, 7, 9, 12, 25, 26, 45, 46, 47])
  (.region none [ ⟨some 66, none, .mv (.t 9)⟩, ⟨some 67, none, .mv (.t 12)⟩, ⟨some 68, none, .bsl [(.t 67)]⟩, ⟨some 69, none, .app true 1 (.t 66) (.t 68)⟩, ⟨some 9, none, .asg (.t 69)⟩] [1, 5, 7, 9, 25, 26, 45, 46, 47])) .skip)))))
  (.region none [ ⟨some 70, none, .bin .add (.t 47) (.c (.int .i64 1))⟩, ⟨some 47, none, .mv (.t 70)⟩] [1, 5, 7, 9, 25, 26, 45, 46, 47]))))))))
  (.region none [ ⟨some 43, none, .mv (.t 9)⟩, ⟨some 44, none, .sl 1 (.t 43) (some (.c (.int .i64 1))) none⟩, ⟨some 9, none, .asg (.t 44)⟩] [1, 5, 7, 9, 25, 26]))))))
  (.region none [ ⟨some 71, none, .mv (.t 7)⟩, ⟨some 72, none, .bin .add (.t 71) (.c (.int .i64 1))⟩, ⟨some 7, none, .mv (.t 72)⟩] [1, 5, 7, 25, 26]))))))
  (.region none [ ⟨some 73, none, .bin .add (.t 26) (.c (.int .i64 1))⟩, ⟨some 26, none, .mv (.t 73)⟩] [1, 5, 7, 25, 26]))))))) (.seq
  (.region none [ ⟨some 74, none, .mv (.t 5)⟩, ⟨some 4, none, .asg (.t 74)⟩] [4]) .ret))))))

def j45 : F where
 np := 1
 rs := [.t 2]
 body :=
  (.seq
  (.region none [ ⟨some 2, none, .asg (.c (.slice none 0 0))⟩] [0]) (.seq
  (.region none [ ⟨some 5, none, .bsl []⟩, ⟨some 3, none, .asg (.t 5)⟩] [0, 3]) (.seq (.seq
  (.region none [ ⟨some 4, none, .mv (.c (.int .i64 0))⟩] [0, 3, 4]) (.block 0 (.loop (.seq (.seq
  (.region none [ ⟨some 6, none, .mv (.t 4)⟩, ⟨some 7, none, .mv (.t 0)⟩, ⟨some 8, none, .bin .lss (.t 6) (.t 7)⟩] [0, 3, 4, 8]) (.cond (.t 8) .skip (.exit 0))) (.seq (.block 1
  (.region none [ ⟨some 11, none, .mv (.t 3)⟩, ⟨some 12, none, .mv (.t 4)⟩, ⟨some 13, none, .bsl [(.t 12)]⟩, ⟨some 14, none, .app true 1 (.t 11) (.t 13)⟩, ⟨some 3, none, .asg (.t 14)⟩] [0, 3, 4]))
  (.region none [ ⟨some 9, none, .mv (.t 4)⟩, ⟨some 10, none, .bin .add (.t 9) (.c (.int .i64 1))⟩, ⟨some 4, none, .mv (.t 10)⟩] [0, 3, 4])))))) (.seq
  (.region none [ ⟨some 15, none, .mv (.t 3)⟩, ⟨some 2, none, .asg (.t 15)⟩] [2]) .ret))))

def j5c : F where
 np := 1
 rs := [.t 2]
 body :=
  (.seq
  (.region none [ ⟨some 2, none, .asg (.c (.slice none 0 0))⟩] [0]) (.seq
  (.region none [ ⟨some 5, none, .mv (.t 0)⟩, ⟨some 6, none, .len (.t 5)⟩, ⟨some 7, none, .mks (.int .i64 0) (.t 6)⟩, ⟨some 3, none, .asg (.t 7)⟩] [0, 3]) (.seq (.seq
  (.region none [ ⟨some 4, none, .mv (.c (.int .i64 0))⟩] [0, 3, 4]) (.block 0 (.loop (.seq (.seq
  (.region none [ ⟨some 8, none, .mv (.t 4)⟩, ⟨some 9, none, .mv (.t 0)⟩, ⟨some 10, none, .len (.t 9)⟩, ⟨some 11, none, .bin .lss (.t 8) (.t 10)⟩] [0, 3, 4, 11]) (.cond (.t 11) .skip (.exit 0))) (.seq (.block 1
  (.region none [ ⟨some 14, none, .mv (.t 3)⟩, ⟨some 15, none, .mv (.t 0)⟩, ⟨some 16, none, .mv (.t 4)⟩, ⟨some 17, none, .idx 1 (.t 15) (.t 16)⟩, ⟨some 18, none, .ld none (.t 17)⟩, ⟨some 19, none, .mv (.t 4)⟩, ⟨some 20, none, .idx 1 (.t 14) (.t 18)⟩, ⟨none, none, .st none (.t 20) (.t 19)⟩] [0, 3, 4]))
  (.region none [ ⟨some 12, none, .mv (.t 4)⟩, ⟨some 13, none, .bin .add (.t 12) (.c (.int .i64 1))⟩, ⟨some 4, none, .mv (.t 13)⟩] [0, 3, 4])))))) (.seq
  (.region none [ ⟨some 21, none, .mv (.t 3)⟩, ⟨some 2, none, .asg (.t 21)⟩] [2]) .ret))))

def j3x : F where
 np := 2
 rs := [.cell 4 (some 2)]
 body :=
  (.seq
  (.region none [ ⟨some 3, none, .box (.t 1)⟩, ⟨some 4, none, .alloc [(.slice none 0 0), (.slice none 0 0)]⟩] [0, 3, 4]) (.seq
  (.region none [ ⟨some 5, none, .mv (.t 0)⟩, ⟨some 6, none, .fnc 391 [(.t 3)]⟩, ⟨some 7, none, .call (.f 376) [((.t 5), .r), ((.t 6), .r)]⟩, ⟨some 8, none, .mv (.t 0)⟩, ⟨some 9, none, .fnc 392 [(.t 3)]⟩, ⟨some 10, none, .call (.f 376) [((.t 8), .r), ((.t 9), .r)]⟩, ⟨some 11, none, .build [(.slice none 0 0), (.slice none 0 0)] [(0, 1, (.t 7)), (1, 1, (.t 10))]⟩, ⟨none, none, .st (some 2) (.t 4) (.t 11)⟩] [4]) .ret))

def j27 : F where
 np := 3
 rs := [.t 5]
 body :=
  (.seq
  (.region none [ ⟨some 5, none, .mv (.c (.int .i64 0))⟩] [0, 1, 2]) (.seq
  (.region none [ ⟨some 9, none, .ld none (.t 2)⟩, ⟨some 10, none, .mv (.t 0)⟩, ⟨some 11, none, .mv (.t 1)⟩, ⟨some 12, none, .call (.t 9) [((.t 10), .r), ((.t 11), .r)]⟩, ⟨some 8, none, .mv (.t 12)⟩, ⟨some 13, none, .ext (.t 8) 0⟩, ⟨some 14, none, .ext (.t 8) 1⟩, ⟨some 6, none, .mv (.t 13)⟩, ⟨some 7, none, .mv (.t 14)⟩] [6]) (.seq
  (.region none [ ⟨some 15, none, .mv (.t 6)⟩, ⟨some 5, none, .mv (.t 15)⟩] [5]) .ret)))

def j26 : F where
 np := 3
 rs := [.t 5]
 body :=
  (.seq
  (.region none [ ⟨some 5, none, .mv (.c (.int .i64 0))⟩] [0, 1, 2]) (.seq
  (.region none [ ⟨some 9, none, .ld none (.t 2)⟩, ⟨some 10, none, .mv (.t 0)⟩, ⟨some 11, none, .mv (.t 1)⟩, ⟨some 12, none, .call (.t 9) [((.t 10), .r), ((.t 11), .r)]⟩, ⟨some 8, none, .mv (.t 12)⟩, ⟨some 13, none, .ext (.t 8) 0⟩, ⟨some 14, none, .ext (.t 8) 1⟩, ⟨some 6, none, .mv (.t 13)⟩, ⟨some 7, none, .mv (.t 14)⟩] [7]) (.seq
  (.region none [ ⟨some 15, none, .mv (.t 7)⟩, ⟨some 5, none, .mv (.t 15)⟩] [5]) .ret)))

def j3u : F where
 np := 2
 rs := [.t 4]
 body :=
  (.seq
  (.region none [ ⟨some 4, none, .asg (.c (.slice none 0 0))⟩] [0, 1]) (.seq
  (.region none [ ⟨some 7, none, .bsl []⟩, ⟨some 5, none, .asg (.t 7)⟩] [0, 1, 5]) (.seq (.seq
  (.region none [ ⟨some 6, none, .mv (.c (.int .i64 0))⟩] [0, 1, 5, 6]) (.block 0 (.loop (.seq (.seq
  (.region none [ ⟨some 8, none, .mv (.t 6)⟩, ⟨some 9, none, .mv (.t 0)⟩, ⟨some 10, none, .len (.t 9)⟩, ⟨some 11, none, .bin .lss (.t 8) (.t 10)⟩] [0, 1, 5, 6, 11]) (.cond (.t 11) .skip (.exit 0))) (.seq (.block 1 (.seq
  (.region none [ ⟨some 14, none, .mv (.t 0)⟩, ⟨some 15, none, .mv (.t 6)⟩, ⟨some 16, none, .idx 1 (.t 14) (.t 15)⟩, ⟨some 17, none, .ld none (.t 16)⟩, ⟨some 18, none, .mv (.t 1)⟩, ⟨some 19, none, .bin .eql (.t 17) (.t 18)⟩] [0, 1, 5, 6, 19]) (.cond (.t 19)
  (.region none [ ⟨some 20, none, .mv (.t 5)⟩, ⟨some 21, none, .mv (.t 6)⟩, ⟨some 22, none, .bsl [(.t 21)]⟩, ⟨some 23, none, .app true 1 (.t 20) (.t 22)⟩, ⟨some 5, none, .asg (.t 23)⟩] [0, 1, 5, 6]) .skip)))
  (.region none [ ⟨some 12, none, .mv (.t 6)⟩, ⟨some 13, none, .bin .add (.t 12) (.c (.int .i64 1))⟩, ⟨some 6, none, .mv (.t 13)⟩] [0, 1, 5, 6])))))) (.seq
  (.region none [ ⟨some 24, none, .mv (.t 5)⟩, ⟨some 4, none, .asg (.t 24)⟩] [4]) .ret))))

def j1f : F where
 np := 1
 rs := [.t 2, .t 3]
 body :=
  (.seq
  (.region none [ ⟨some 1, none, .box (.t 0)⟩, ⟨some 2, none, .asg (.c (.slice none 0 0))⟩, ⟨some 3, none, .mv (.c (.int .i64 0))⟩] [1]) (.seq (.seq
  (.region none [ ⟨some 6, none, .ld (some 2) (.t 1)⟩, ⟨some 7, none, .call (.f 266) [((.t 6), .r)]⟩, ⟨some 8, none, .un .not (.t 7)⟩] [1, 8]) (.cond (.t 8) (.seq
  (.region none [ ⟨some 2, none, .asg (.c (.slice none 0 0))⟩, ⟨some 3, none, .mv (.c (.int .i64 1))⟩] [2, 3]) .ret) .skip)) (.seq
  (.region none [ ⟨some 4, none, .asg (.c (.slice none 0 0))⟩] [1, 4]) (.seq (.seq
  (.region none [ ⟨some 9, none, .fld 0 (.t 1)⟩, ⟨some 10, none, .ld none (.t 9)⟩, ⟨some 11, none, .len (.t 10)⟩, ⟨some 12, none, .mv (.c (.int .i64 0))⟩] [1, 4, 11, 12]) (.block 0 (.loop (.seq
  (.region none [ ⟨some 13, none, .bin .lss (.t 12) (.t 11)⟩] [1, 4, 11, 12, 13]) (.seq (.cond (.t 13) .skip (.exit 0)) (.seq (.block 1 (.seq
  (.region none [ ⟨some 14, none, .mv (.t 12)⟩, ⟨some 5, none, .alloc [(.int .i64 0)]⟩, ⟨none, none, .st none (.t 5) (.t 14)⟩] [1, 4, 5, 11, 12]) (.seq
  (.region none [ ⟨some 15, none, .ld (some 2) (.t 1)⟩, ⟨some 16, none, .call (.f 271) [((.t 15), .r)]⟩, ⟨some 17, none, .fnc 317 [(.t 5)]⟩, ⟨some 18, none, .call (.f 63) [((.t 16), .r), ((.t 17), .r)]⟩, ⟨some 19, none, .un .not (.t 18)⟩] [1, 4, 5, 11, 12, 19]) (.cond (.t 19)
  (.region none [ ⟨some 20, none, .mv (.t 4)⟩, ⟨some 21, none, .ld none (.t 5)⟩, ⟨some 22, none, .bsl [(.t 21)]⟩, ⟨some 23, none, .app true 1 (.t 20) (.t 22)⟩, ⟨some 4, none, .asg (.t 23)⟩] [1, 4, 11, 12]) .skip))))
  (.region none [ ⟨some 24, none, .bin .add (.t 12) (.c (.int .i64 1))⟩, ⟨some 12, none, .mv (.t 24)⟩] [1, 4, 11, 12]))))))) (.seq
  (.region none [ ⟨some 25, none, .mv (.t 4)⟩, ⟨some 2, none, .asg (.t 25)⟩, ⟨some 3, none, .mv (.c (.int .i64 0))⟩] [2, 3]) .ret)))))

def j1w : F where
 np := 2
 rs := [.t 3]
 body :=
  (.seq
  (.region none [ ⟨some 3, none, .mv (.c (.bool false))⟩] [0, 1]) (.seq
  (.region (some [4, 5, 6, 7, 8]) [ ⟨some 4, none, .mv (.t 0)⟩, ⟨some 5, none, .ld none (.t 1)⟩, ⟨some 6, none, .idx 1 (.t 4) (.t 5)⟩, ⟨some 7, none, .ld none (.t 6)⟩, ⟨some 8, none, .ld none (.t 1)⟩, ⟨some 9, none, .bin .neq (.t 7) (.t 8)⟩, ⟨some 3, none, .mv (.t 9)⟩] [3]) .ret))

def j1x : F where
 np := 1
 rs := [.t 2, .t 3, .t 4]
 body :=
  (.seq
  (.region none [ ⟨some 1, none, .box (.t 0)⟩, ⟨some 2, none, .asg (.c (.slice none 0 0))⟩, ⟨some 3, none, .asg (.c (.slice none 0 0))⟩, ⟨some 4, none, .mv (.c (.int .i64 0))⟩] [1]) (.seq (.seq
  (.region none [ ⟨some 9, none, .ld (some 2) (.t 1)⟩, ⟨some 10, none, .call (.f 266) [((.t 9), .r)]⟩, ⟨some 11, none, .un .not (.t 10)⟩] [1, 11]) (.cond (.t 11) (.seq
  (.region none [ ⟨some 2, none, .asg (.c (.slice none 0 0))⟩, ⟨some 3, none, .asg (.c (.slice none 0 0))⟩, ⟨some 4, none, .mv (.c (.int .i64 1))⟩] [2, 3, 4]) .ret) .skip)) (.seq
  (.region none [ ⟨some 12, none, .ld (some 2) (.t 1)⟩, ⟨some 13, none, .call (.f 301) [((.t 12), .r)]⟩, ⟨some 5, none, .asg (.t 13)⟩] [5]) (.seq (.seq
  (.region none [ ⟨some 14, none, .mv (.t 5)⟩, ⟨some 15, none, .call (.f 290) [((.t 14), .r)]⟩, ⟨some 16, none, .bin .eql (.t 15) (.c (.int .i64 0))⟩] [5, 16]) (.cond (.t 16) (.seq
  (.region none [ ⟨some 2, none, .asg (.c (.slice none 0 0))⟩, ⟨some 3, none, .asg (.c (.slice none 0 0))⟩, ⟨some 4, none, .mv (.c (.int .i64 4))⟩] [2, 3, 4]) .ret) .skip)) (.seq
  (.region none [ ⟨some 6, none, .asg (.c (.slice none 0 0))⟩] [5, 6]) (.seq (.seq
  (.region none [ ⟨some 17, none, .mv (.t 5)⟩, ⟨some 18, none, .len (.t 17)⟩, ⟨some 19, none, .mv (.c (.int .i64 0))⟩] [5, 6, 17, 18, 19]) (.block 0 (.loop (.seq
  (.region none [ ⟨some 20, none, .bin .lss (.t 19) (.t 18)⟩] [5, 6, 17, 18, 19, 20]) (.seq (.cond (.t 20) .skip (.exit 0)) (.seq (.block 1 (.seq
  (.region none [ ⟨some 21, none, .mv (.t 19)⟩, ⟨some 22, none, .idx 1 (.t 17) (.t 19)⟩, ⟨some 23, none, .ld none (.t 22)⟩, ⟨some 7, none, .mv (.t 21)⟩, ⟨some 8, none, .mv (.t 23)⟩] [5, 6, 7, 8, 17, 18, 19]) (.seq
  (.region none [ ⟨some 24, none, .mv (.t 8)⟩, ⟨some 25, none, .bin .gtr (.t 24) (.c (.int .i64 0))⟩] [5, 6, 7, 17, 18, 19, 25]) (.cond (.t 25)
  (.region none [ ⟨some 26, none, .mv (.t 6)⟩, ⟨some 27, none, .mv (.t 7)⟩, ⟨some 28, none, .bsl [(.t 27)]⟩, ⟨some 29, none, .app true 1 (.t 26) (.t 28)⟩, ⟨some 6, none, .asg (.t 29)⟩] [5, 6, 17, 18, 19]) .skip))))
  (.region none [ ⟨some 30, none, .bin .add (.t 19) (.c (.int .i64 1))⟩, ⟨some 19, none, .mv (.t 30)⟩] [5, 6, 17, 18, 19]))))))) (.seq
  (.region none [ ⟨some 31, none, .mv (.t 5)⟩, ⟨some 32, none, .call (.f 318) [((.t 31), .r), ((.c (.int .i64 0)), .r)]⟩, ⟨some 33, none, .mv (.t 6)⟩, ⟨some 2, none, .asg (.t 32)⟩, ⟨some 3, none, .asg (.t 33)⟩, ⟨some 4, none, .mv (.c (.int .i64 0))⟩] [2, 3, 4]) .ret)))))))

def j4r : F where
 np := 2
 rs := [.t 4]
 body :=
  (.seq
  (.region none [ ⟨some 4, none, .asg (.c (.slice none 0 0))⟩] [0, 1]) (.seq
  (.region none [ ⟨some 5, none, .asg (.c (.slice none 0 0))⟩] [0, 1, 5]) (.seq (.seq
  (.region none [ ⟨some 8, none, .mv (.t 0)⟩, ⟨some 9, none, .len (.t 8)⟩, ⟨some 10, none, .mv (.c (.int .i64 0))⟩] [1, 5, 8, 9, 10]) (.block 0 (.loop (.seq
  (.region none [ ⟨some 11, none, .bin .lss (.t 10) (.t 9)⟩] [1, 5, 8, 9, 10, 11]) (.seq (.cond (.t 11) .skip (.exit 0)) (.seq (.block 1 (.seq
  (.region none [ ⟨some 12, none, .mv (.t 10)⟩, ⟨some 13, none, .idx 1 (.t 8) (.t 10)⟩, ⟨some 14, none, .ld none (.t 13)⟩, ⟨some 6, none, .mv (.t 12)⟩, ⟨some 7, none, .mv (.t 14)⟩] [1, 5, 6, 7, 8, 9, 10]) (.seq
  (.region none [ ⟨some 15, none, .mv (.t 7)⟩, ⟨some 16, none, .mv (.t 1)⟩, ⟨some 17, none, .bin .eql (.t 15) (.t 16)⟩] [1, 5, 6, 8, 9, 10, 17]) (.cond (.t 17)
  (.region none [ ⟨some 18, none, .mv (.t 5)⟩, ⟨some 19, none, .mv (.t 6)⟩, ⟨some 20, none, .bsl [(.t 19)]⟩, ⟨some 21, none, .app true 1 (.t 18) (.t 20)⟩, ⟨some 5, none, .asg (.t 21)⟩] [1, 5, 8, 9, 10]) .skip))))
  (.region none [ ⟨some 22, none, .bin .add (.t 10) (.c (.int .i64 1))⟩, ⟨some 10, none, .mv (.t 22)⟩] [1, 5, 8, 9, 10]))))))) (.seq
  (.region none [ ⟨some 23, none, .mv (.t 5)⟩, ⟨some 4, none, .asg (.t 23)⟩] [4]) .ret))))

def j4n : F where
 np := 1
 rs := [.cell 2 (some 2)]
 body :=
  (.seq
  (.region none [ ⟨some 2, none, .alloc [(.slice none 0 0), (.slice none 0 0)]⟩] [0, 2]) (.seq
  (.region none [ ⟨some 5, none, .build [(.slice none 0 0), (.slice none 0 0)] []⟩, ⟨some 3, none, .alloc [(.slice none 0 0), (.slice none 0 0)]⟩, ⟨none, none, .st (some 2) (.t 3) (.t 5)⟩] [0, 2, 3]) (.seq (.seq
  (.region none [ ⟨some 4, none, .mv (.c (.int .i64 0))⟩] [0, 2, 3, 4]) (.block 0 (.loop (.seq (.seq
  (.region none [ ⟨some 6, none, .mv (.t 4)⟩, ⟨some 7, none, .mv (.t 0)⟩, ⟨some 8, none, .bin .lss (.t 6) (.t 7)⟩] [0, 2, 3, 4, 8]) (.cond (.t 8) .skip (.exit 0))) (.seq (.block 1 (.seq
  (.region (some [11, 12, 13, 14, 15]) [ ⟨some 11, none, .fld 0 (.t 3)⟩, ⟨some 12, none, .ld none (.t 11)⟩, ⟨some 13, none, .mv (.t 0)⟩, ⟨some 14, none, .mks (.int .i64 0) (.t 13)⟩, ⟨some 15, none, .bsl1 14⟩, ⟨some 16, none, .app true 1 (.t 12) (.t 15)⟩, ⟨some 17, none, .fld 0 (.t 3)⟩, ⟨none, none, .st none (.t 17) (.t 16)⟩] [0, 2, 3, 4])
  (.region (some [18, 19, 20, 21, 22]) [ ⟨some 18, none, .fld 1 (.t 3)⟩, ⟨some 19, none, .ld none (.t 18)⟩, ⟨some 20, none, .mv (.t 0)⟩, ⟨some 21, none, .mks (.int .i64 0) (.t 20)⟩, ⟨some 22, none, .bsl1 21⟩, ⟨some 23, none, .app true 1 (.t 19) (.t 22)⟩, ⟨some 24, none, .fld 1 (.t 3)⟩, ⟨none, none, .st none (.t 24) (.t 23)⟩] [0, 2, 3, 4])))
  (.region none [ ⟨some 9, none, .mv (.t 4)⟩, ⟨some 10, none, .bin .add (.t 9) (.c (.int .i64 1))⟩, ⟨some 4, none, .mv (.t 10)⟩] [0, 2, 3, 4])))))) (.seq
  (.region none [ ⟨some 25, none, .ld (some 2) (.t 3)⟩, ⟨none, none, .st (some 2) (.t 2) (.t 25)⟩] [2]) .ret))))

def j5x : F where
 np := 2
 rs := [.cell 4 (some 2)]
 body :=
  (.seq
  (.region none [ ⟨some 2, none, .box (.t 0)⟩, ⟨some 4, none, .alloc [(.slice none 0 0), (.slice none 0 0)]⟩] [1, 2, 4]) (.seq
  (.region none [ ⟨some 10, none, .build [(.slice none 0 0), (.slice none 0 0)] []⟩, ⟨some 5, none, .alloc [(.slice none 0 0), (.slice none 0 0)]⟩, ⟨none, none, .st (some 2) (.t 5) (.t 10)⟩] [1, 2, 4, 5]) (.seq (.seq
  (.region none [ ⟨some 6, none, .mv (.c (.int .i64 0))⟩] [1, 2, 4, 5, 6]) (.block 0 (.loop (.seq (.seq
  (.region none [ ⟨some 11, none, .mv (.t 6)⟩, ⟨some 12, none, .mv (.t 1)⟩, ⟨some 13, none, .len (.t 12)⟩, ⟨some 14, none, .bin .lss (.t 11) (.t 13)⟩] [1, 2, 4, 5, 6, 14]) (.cond (.t 14) .skip (.exit 0))) (.seq (.block 1 (.seq
  (.region none [ ⟨some 17, none, .bsl []⟩, ⟨some 18, none, .bsl []⟩, ⟨some 7, none, .asg (.t 17)⟩, ⟨some 8, none, .asg (.t 18)⟩] [1, 2, 4, 5, 6, 7, 8]) (.seq (.seq
  (.region none [ ⟨some 9, none, .mv (.c (.int .i64 0))⟩] [1, 2, 4, 5, 6, 7, 8, 9]) (.block 2 (.loop (.seq (.seq
  (.region none [ ⟨some 19, none, .mv (.t 9)⟩, ⟨some 20, none, .mv (.t 1)⟩, ⟨some 21, none, .len (.t 20)⟩, ⟨some 22, none, .bin .lss (.t 19) (.t 21)⟩] [1, 2, 4, 5, 6, 7, 8, 9, 22]) (.cond (.t 22) .skip (.exit 2))) (.seq (.block 3 (.seq
  (.region (some [25, 26, 27, 28, 29, 30, 31, 32, 33, 34, 35, 36, 37, 38, 39, 40, 41, 42]) [ ⟨some 25, none, .mv (.t 7)⟩, ⟨some 26, none, .mv (.t 1)⟩, ⟨some 27, none, .fld 0 (.t 2)⟩, ⟨some 28, none, .ld none (.t 27)⟩, ⟨some 29, none, .mv (.t 1)⟩, ⟨some 30, none, .mv (.t 6)⟩, ⟨some 31, none, .idx 1 (.t 29) (.t 30)⟩, ⟨some 32, none, .ld none (.t 31)⟩, ⟨some 33, none, .idx 1 (.t 28) (.t 32)⟩, ⟨some 34, none, .ld none (.t 33)⟩, ⟨some 35, none, .mv (.t 1)⟩, ⟨some 36, none, .mv (.t 9)⟩, ⟨some 37, none, .idx 1 (.t 35) (.t 36)⟩, ⟨some 38, none, .ld none (.t 37)⟩, ⟨some 39, none, .idx 1 (.t 34) (.t 38)⟩, ⟨some 40, none, .ld none (.t 39)⟩, ⟨some 41, none, .call (.f 69) [((.t 26), .r), ((.t 40), .r)]⟩, ⟨some 42, none, .bslv 1 [(.t 41)]⟩, ⟨some 43, none, .app true 1 (.t 25) (.t 42)⟩, ⟨some 7, none, .asg (.t 43)⟩] [1, 2, 4, 5, 6, 7, 8, 9])
  (.region (some [44, 45, 46, 47, 48, 49, 50, 51, 52, 53, 54, 55, 56, 57, 58, 59, 60, 61]) [ ⟨some 44, none, .mv (.t 8)⟩, ⟨some 45, none, .mv (.t 1)⟩, ⟨some 46, none, .fld 1 (.t 2)⟩, ⟨some 47, none, .ld none (.t 46)⟩, ⟨some 48, none, .mv (.t 1)⟩, ⟨some 49, none, .mv (.t 6)⟩, ⟨some 50, none, .idx 1 (.t 48) (.t 49)⟩, ⟨some 51, none, .ld none (.t 50)⟩, ⟨some 52, none, .idx 1 (.t 47) (.t 51)⟩, ⟨some 53, none, .ld none (.t 52)⟩, ⟨some 54, none, .mv (.t 1)⟩, ⟨some 55, none, .mv (.t 9)⟩, ⟨some 56, none, .idx 1 (.t 54) (.t 55)⟩, ⟨some 57, none, .ld none (.t 56)⟩, ⟨some 58, none, .idx 1 (.t 53) (.t 57)⟩, ⟨some 59, none, .ld none (.t 58)⟩, ⟨some 60, none, .call (.f 69) [((.t 45), .r), ((.t 59), .r)]⟩, ⟨some 61, none, .bslv 1 [(.t 60)]⟩, ⟨some 62, none, .app true 1 (.t 44) (.t 61)⟩, ⟨some 8, none, .asg (.t 62)⟩] [1, 2, 4, 5, 6, 7, 8, 9])))
  (.region none [ ⟨some 23, none, .mv (.t 9)⟩, ⟨some 24, none, .bin .add (.t 23) (.c (.int .i64 1))⟩, ⟨some 9, none, .mv (.t 24)⟩] [1, 2, 4, 5, 6, 7, 8, 9])))))) (.seq
  (.region none [ ⟨some 63, none, .fld 0 (.t 5)⟩, ⟨some 64, none, .ld none (.t 63)⟩, ⟨some 65, none, .mv (.t 7)⟩, ⟨some 66, none, .bsl [(.t 65)]⟩, ⟨some 67, none, .app true 1 (.t 64) (.t 66)⟩, ⟨some 68, none, .fld 0 (.t 5)⟩, ⟨none, none, .st none (.t 68) (.t 67)⟩] [1, 2, 4, 5, 6, 8])
  (.region none [ ⟨some 69, none, .fld 1 (.t 5)⟩, ⟨some 70, none, .ld none (.t 69)⟩, ⟨some 71, none, .mv (.t 8)⟩, ⟨some 72, none, .bsl [(.t 71)]⟩, ⟨some 73, none, .app true 1 (.t 70) (.t 72)⟩, ⟨some 74, none, .fld 1 (.t 5)⟩, ⟨none, none, .st none (.t 74) (.t 73)⟩] [1, 2, 4, 5, 6])))))
  (.region none [ ⟨some 15, none, .mv (.t 6)⟩, ⟨some 16, none, .bin .add (.t 15) (.c (.int .i64 1))⟩, ⟨some 6, none, .mv (.t 16)⟩] [1, 2, 4, 5, 6])))))) (.seq
  (.region none [ ⟨some 75, none, .ld (some 2) (.t 5)⟩, ⟨none, none, .st (some 2) (.t 4) (.t 75)⟩] [4]) .ret))))

def j4s : F where
 np := 2
 rs := [.t 4]
 body :=
  (.seq
  (.region none [ ⟨some 2, none, .box (.t 0)⟩, ⟨some 4, none, .mv (.c (.bool false))⟩] [1, 2]) (.seq (.seq
  (.region none [ ⟨some 9, none, .mv (.t 1)⟩, ⟨some 10, none, .len (.t 9)⟩, ⟨some 11, none, .mv (.c (.int .i64 0))⟩] [1, 2, 9, 10, 11]) (.block 0 (.loop (.seq
  (.region none [ ⟨some 12, none, .bin .lss (.t 11) (.t 10)⟩] [1, 2, 9, 10, 11, 12]) (.seq (.cond (.t 12) .skip (.exit 0)) (.seq (.block 1 (.seq
  (.region none [ ⟨some 13, none, .idx 1 (.t 9) (.t 11)⟩, ⟨some 14, none, .ld none (.t 13)⟩, ⟨some 6, none, .mv (.t 14)⟩] [1, 2, 6, 9, 10, 11]) (.seq
  (.region none [ ⟨some 15, none, .mv (.t 1)⟩, ⟨some 16, none, .len (.t 15)⟩, ⟨some 17, none, .mv (.c (.int .i64 0))⟩] [1, 2, 6, 9, 10, 11, 15, 16, 17]) (.block 2 (.loop (.seq
  (.region none [ ⟨some 18, none, .bin .lss (.t 17) (.t 16)⟩] [1, 2, 6, 9, 10, 11, 15, 16, 17, 18]) (.seq (.cond (.t 18) .skip (.exit 2)) (.seq (.block 3 (.seq
  (.region none [ ⟨some 19, none, .idx 1 (.t 15) (.t 17)⟩, ⟨some 20, none, .ld none (.t 19)⟩, ⟨some 8, none, .mv (.t 20)⟩] [1, 2, 6, 8, 9, 10, 11, 15, 16, 17]) (.seq
  (.region none [ ⟨some 21, none, .mv (.t 1)⟩, ⟨some 22, none, .fld 0 (.t 2)⟩, ⟨some 23, none, .ld none (.t 22)⟩, ⟨some 24, none, .mv (.t 6)⟩, ⟨some 25, none, .idx 1 (.t 23) (.t 24)⟩, ⟨some 26, none, .ld none (.t 25)⟩, ⟨some 27, none, .mv (.t 8)⟩, ⟨some 28, none, .idx 1 (.t 26) (.t 27)⟩, ⟨some 29, none, .ld none (.t 28)⟩, ⟨some 30, none, .call (.f 405) [((.t 21), .r), ((.t 29), .r)]⟩, ⟨some 31, none, .un .not (.t 30)⟩, ⟨some 32, none, .mv (.t 31)⟩, ⟨some 33, (some (32, false)), .mv (.t 1)⟩, ⟨some 34, (some (32, false)), .fld 1 (.t 2)⟩, ⟨some 35, (some (32, false)), .ld none (.t 34)⟩, ⟨some 36, (some (32, false)), .mv (.t 6)⟩, ⟨some 37, (some (32, false)), .idx 1 (.t 35) (.t 36)⟩, ⟨some 38, (some (32, false)), .ld none (.t 37)⟩, ⟨some 39, (some (32, false)), .mv (.t 8)⟩, ⟨some 40, (some (32, false)), .idx 1 (.t 38) (.t 39)⟩, ⟨some 41, (some (32, false)), .ld none (.t 40)⟩, ⟨some 42, (some (32, false)), .call (.f 405) [((.t 33), .r), ((.t 41), .r)]⟩, ⟨some 43, (some (32, false)), .un .not (.t 42)⟩, ⟨some 44, none, .pick (.t 32) (.c (.bool true)) (.t 43)⟩] [1, 2, 6, 9, 10, 11, 15, 16, 17, 44]) (.cond (.t 44) (.seq
  (.region none [ ⟨some 4, none, .mv (.c (.bool false))⟩] [4]) .ret) .skip))))
  (.region none [ ⟨some 45, none, .bin .add (.t 17) (.c (.int .i64 1))⟩, ⟨some 17, none, .mv (.t 45)⟩] [1, 2, 6, 9, 10, 11, 15, 16, 17])))))))))
  (.region none [ ⟨some 46, none, .bin .add (.t 11) (.c (.int .i64 1))⟩, ⟨some 11, none, .mv (.t 46)⟩] [1, 2, 9, 10, 11]))))))) (.seq
  (.region none [ ⟨some 4, none, .mv (.c (.bool true))⟩] [4]) .ret)))

def j00 : F where
 np := 2
 rs := [.t 4]
 body :=
  (.seq
  (.region none [ ⟨some 4, none, .mv (.c (.bool false))⟩] [0, 1]) (.seq
  (.region none [ ⟨some 5, none, .mv (.t 0)⟩, ⟨some 6, none, .mv (.t 1)⟩, ⟨some 7, none, .call (.f 384) [((.t 5), .r), ((.t 6), .r)]⟩, ⟨some 8, none, .bin .geq (.t 7) (.c (.int .i64 0))⟩, ⟨some 4, none, .mv (.t 8)⟩] [4]) .ret))

def j3n : F where
 np := 2
 rs := [.cell 4 (some 2), .t 5]
 body :=
  (.seq
  (.region none [ ⟨some 2, none, .box (.t 0)⟩, ⟨some 3, none, .box (.t 1)⟩, ⟨some 4, none, .alloc [(.slice none 0 0), (.slice none 0 0)]⟩, ⟨some 5, none, .mv (.c (.int .i64 0))⟩] [2, 3, 4]) (.seq (.seq
  (.region none [ ⟨some 6, none, .ld (some 2) (.t 2)⟩, ⟨some 7, none, .call (.f 59) [((.t 6), .r)]⟩, ⟨some 8, none, .un .not (.t 7)⟩] [2, 3, 4, 8]) (.cond (.t 8) (.seq
  (.region none [ ⟨some 9, none, .build [(.slice none 0 0), (.slice none 0 0)] []⟩, ⟨none, none, .st (some 2) (.t 4) (.t 9)⟩, ⟨some 5, none, .mv (.c (.int .i64 1))⟩] [4, 5]) .ret) .skip)) (.seq (.seq
  (.region none [ ⟨some 10, none, .fld 0 (.t 2)⟩, ⟨some 11, none, .ld none (.t 10)⟩, ⟨some 12, none, .len (.t 11)⟩, ⟨some 13, none, .ld none (.t 3)⟩, ⟨some 14, none, .call (.f 357) [((.t 12), .r), ((.t 13), .r)]⟩, ⟨some 15, none, .un .not (.t 14)⟩] [2, 3, 4, 15]) (.cond (.t 15) (.seq
  (.region none [ ⟨some 16, none, .build [(.slice none 0 0), (.slice none 0 0)] []⟩, ⟨none, none, .st (some 2) (.t 4) (.t 16)⟩, ⟨some 5, none, .mv (.c (.int .i64 2))⟩] [4, 5]) .ret) .skip)) (.seq (.seq
  (.region none [ ⟨some 17, none, .ld (some 2) (.t 2)⟩, ⟨some 18, none, .ld none (.t 3)⟩, ⟨some 19, none, .call (.f 333) [((.t 17), .r), ((.t 18), .r)]⟩, ⟨some 20, none, .un .not (.t 19)⟩] [2, 3, 4, 20]) (.cond (.t 20) (.seq
  (.region none [ ⟨some 21, none, .build [(.slice none 0 0), (.slice none 0 0)] []⟩, ⟨none, none, .st (some 2) (.t 4) (.t 21)⟩, ⟨some 5, none, .mv (.c (.int .i64 5))⟩] [4, 5]) .ret) .skip)) (.seq
  (.region none [ ⟨some 22, none, .ld none (.t 3)⟩, ⟨some 23, none, .len (.t 22)⟩, ⟨some 24, none, .fnc 358 [(.t 3), (.t 2)]⟩, ⟨some 25, none, .call (.f 308) [((.t 23), .r), ((.t 24), .r)]⟩, ⟨none, none, .st (some 2) (.t 4) (.t 25)⟩, ⟨some 5, none, .mv (.c (.int .i64 0))⟩] [4, 5]) .ret)))))

def j6j : F where
 np := 2
 rs := [.t 4]
 body :=
  (.seq
  (.region none [ ⟨some 4, none, .mv (.c (.bool false))⟩] [0, 1]) (.seq
  (.region none [ ⟨some 5, none, .mv (.t 1)⟩, ⟨some 6, none, .len (.t 5)⟩, ⟨some 7, none, .bin .gtr (.t 6) (.c (.int .i64 0))⟩, ⟨some 8, none, .mv (.t 7)⟩, ⟨some 9, (some (8, true)), .mv (.t 0)⟩, ⟨some 10, (some (8, true)), .mv (.t 1)⟩, ⟨some 11, (some (8, true)), .call (.f 39) [((.t 9), .r), ((.t 10), .r)]⟩, ⟨some 12, none, .pick (.t 8) (.t 11) (.c (.bool false))⟩, ⟨some 13, none, .mv (.t 12)⟩, ⟨some 14, (some (13, true)), .mv (.t 1)⟩, ⟨some 15, (some (13, true)), .call (.f 403) [((.t 14), .r)]⟩, ⟨some 16, none, .pick (.t 13) (.t 15) (.c (.bool false))⟩, ⟨some 4, none, .mv (.t 16)⟩] [4]) .ret))

def j3z : F where
 np := 1
 rs := [.t 2]
 body :=
  (.seq
  (.region none [ ⟨some 2, none, .mv (.c (.bool false))⟩] [0]) (.seq (.seq
  (.region none [ ⟨some 3, none, .mv (.c (.int .i64 1))⟩] [0, 3]) (.block 0 (.loop (.seq (.seq
  (.region none [ ⟨some 4, none, .mv (.t 3)⟩, ⟨some 5, none, .mv (.t 0)⟩, ⟨some 6, none, .len (.t 5)⟩, ⟨some 7, none, .bin .lss (.t 4) (.t 6)⟩] [0, 3, 7]) (.cond (.t 7) .skip (.exit 0))) (.seq (.block 1 (.seq
  (.region (some [10, 11, 12, 13, 14, 15, 16, 17, 18]) [ ⟨some 10, none, .mv (.t 0)⟩, ⟨some 11, none, .mv (.t 3)⟩, ⟨some 12, none, .bin .sub (.t 11) (.c (.int .i64 1))⟩, ⟨some 13, none, .idx 1 (.t 10) (.t 12)⟩, ⟨some 14, none, .ld none (.t 13)⟩, ⟨some 15, none, .mv (.t 0)⟩, ⟨some 16, none, .mv (.t 3)⟩, ⟨some 17, none, .idx 1 (.t 15) (.t 16)⟩, ⟨some 18, none, .ld none (.t 17)⟩, ⟨some 19, none, .bin .geq (.t 14) (.t 18)⟩] [0, 3, 19]) (.cond (.t 19) (.seq
  (.region none [ ⟨some 2, none, .mv (.c (.bool false))⟩] [2]) .ret) .skip)))
  (.region none [ ⟨some 8, none, .mv (.t 3)⟩, ⟨some 9, none, .bin .add (.t 8) (.c (.int .i64 1))⟩, ⟨some 3, none, .mv (.t 9)⟩] [0, 3])))))) (.seq
  (.region none [ ⟨some 2, none, .mv (.c (.bool true))⟩] [2]) .ret)))

def j2r : F where
 np := 4
 rs := [.t 6, .t 7]
 body :=
  (.seq
  (.region none [ ⟨some 6, none, .mv (.c (.int .i64 0))⟩, ⟨some 7, none, .mv (.c (.int .i64 0))⟩] [0, 1, 2, 3]) (.seq
  (.region (some [8, 9, 10, 11, 12, 13, 14, 15, 16, 17, 18, 19, 20, 21, 22, 23, 24, 25, 26, 27, 28, 29, 30, 31, 32, 33, 34, 35, 36, 37, 38]) [ ⟨some 8, none, .ld none (.t 2)⟩, ⟨some 9, none, .fld 0 (.t 3)⟩, ⟨some 10, none, .ld none (.t 9)⟩, ⟨some 11, none, .ld none (.t 2)⟩, ⟨some 12, none, .mv (.t 0)⟩, ⟨some 13, none, .idx 1 (.t 11) (.t 12)⟩, ⟨some 14, none, .ld none (.t 13)⟩, ⟨some 15, none, .idx 1 (.t 10) (.t 14)⟩, ⟨some 16, none, .ld none (.t 15)⟩, ⟨some 17, none, .ld none (.t 2)⟩, ⟨some 18, none, .mv (.t 1)⟩, ⟨some 19, none, .idx 1 (.t 17) (.t 18)⟩, ⟨some 20, none, .ld none (.t 19)⟩, ⟨some 21, none, .idx 1 (.t 16) (.t 20)⟩, ⟨some 22, none, .ld none (.t 21)⟩, ⟨some 23, none, .call (.f 287) [((.t 8), .r), ((.t 22), .r)]⟩, ⟨some 24, none, .ld none (.t 2)⟩, ⟨some 25, none, .fld 1 (.t 3)⟩, ⟨some 26, none, .ld none (.t 25)⟩, ⟨some 27, none, .ld none (.t 2)⟩, ⟨some 28, none, .mv (.t 0)⟩, ⟨some 29, none, .idx 1 (.t 27) (.t 28)⟩, ⟨some 30, none, .ld none (.t 29)⟩, ⟨some 31, none, .idx 1 (.t 26) (.t 30)⟩, ⟨some 32, none, .ld none (.t 31)⟩, ⟨some 33, none, .ld none (.t 2)⟩, ⟨some 34, none, .mv (.t 1)⟩, ⟨some 35, none, .idx 1 (.t 33) (.t 34)⟩, ⟨some 36, none, .ld none (.t 35)⟩, ⟨some 37, none, .idx 1 (.t 32) (.t 36)⟩, ⟨some 38, none, .ld none (.t 37)⟩, ⟨some 39, none, .call (.f 287) [((.t 24), .r), ((.t 38), .r)]⟩, ⟨some 6, none, .mv (.t 23)⟩, ⟨some 7, none, .mv (.t 39)⟩] [6, 7]) .ret))

def j2g : F where
 np := 1
 rs := [.t 2, .t 3]
 body :=
  (.seq
  (.region none [ ⟨some 1, none, .box (.t 0)⟩, ⟨some 2, none, .asg (.c (.slice none 0 0))⟩, ⟨some 3, none, .mv (.c (.int .i64 0))⟩] [1]) (.seq (.seq
  (.region none [ ⟨some 7, none, .ld (some 2) (.t 1)⟩, ⟨some 8, none, .call (.f 264) [((.t 7), .r)]⟩, ⟨some 9, none, .un .not (.t 8)⟩] [1, 9]) (.cond (.t 9) (.seq
  (.region none [ ⟨some 2, none, .asg (.c (.slice none 0 0))⟩, ⟨some 3, none, .mv (.c (.int .i64 1))⟩] [2, 3]) .ret) .skip)) (.seq
  (.region none [ ⟨some 10, none, .ld (some 2) (.t 1)⟩, ⟨some 11, none, .call (.f 299) [((.t 10), .r)]⟩, ⟨some 12, none, .bsls 2 false false []⟩, ⟨some 4, none, .asg (.t 11)⟩, ⟨some 5, none, .asg (.t 12)⟩] [1, 4, 5]) (.seq (.seq
  (.region none [ ⟨some 6, none, .mv (.c (.int .i64 0))⟩] [1, 4, 5, 6]) (.block 0 (.loop (.seq (.seq
  (.region none [ ⟨some 13, none, .mv (.t 6)⟩, ⟨some 14, none, .mv (.t 4)⟩, ⟨some 15, none, .call (.f 288) [((.t 14), .r)]⟩, ⟨some 16, none, .bin .lss (.t 13) (.t 15)⟩] [1, 4, 5, 6, 16]) (.cond (.t 16) .skip (.exit 0))) (.seq (.block 1
  (.region (some [19, 20, 21, 22, 23, 24, 25]) [ ⟨some 19, none, .mv (.t 5)⟩, ⟨some 20, none, .ld (some 2) (.t 1)⟩, ⟨some 21, none, .mv (.t 4)⟩, ⟨some 22, none, .mv (.t 6)⟩, ⟨some 23, none, .call (.f 316) [((.t 21), .r), ((.t 22), .r)]⟩, ⟨some 24, none, .call (.f 332) [((.t 20), .r), ((.t 23), .r)]⟩, ⟨some 25, none, .tk1 (some 2) 24⟩, ⟨some 26, none, .app true 2 (.t 19) (.t 25)⟩, ⟨some 5, none, .asg (.t 26)⟩] [1, 4, 5, 6]))
  (.region none [ ⟨some 17, none, .mv (.t 6)⟩, ⟨some 18, none, .bin .add (.t 17) (.c (.int .i64 1))⟩, ⟨some 6, none, .mv (.t 18)⟩] [1, 4, 5, 6])))))) (.seq
  (.region none [ ⟨some 27, none, .mv (.t 5)⟩, ⟨some 2, none, .asg (.t 27)⟩, ⟨some 3, none, .mv (.c (.int .i64 0))⟩] [2, 3]) .ret)))))

def j2i : F where
 np := 1
 rs := [.t 2, .t 3]
 body :=
  (.seq
  (.region none [ ⟨some 1, none, .box (.t 0)⟩, ⟨some 2, none, .asg (.c (.slice none 0 0))⟩, ⟨some 3, none, .mv (.c (.int .i64 0))⟩] [1]) (.seq (.seq
  (.region none [ ⟨some 9, none, .ld (some 2) (.t 1)⟩, ⟨some 10, none, .call (.f 266) [((.t 9), .r)]⟩, ⟨some 11, none, .un .not (.t 10)⟩] [1, 11]) (.cond (.t 11) (.seq
  (.region none [ ⟨some 2, none, .asg (.c (.slice none 0 0))⟩, ⟨some 3, none, .mv (.c (.int .i64 1))⟩] [2, 3]) .ret) .skip)) (.seq
  (.region none [ ⟨some 12, none, .ld (some 2) (.t 1)⟩, ⟨some 13, none, .call (.f 301) [((.t 12), .r)]⟩, ⟨some 4, none, .asg (.t 13)⟩] [1, 4]) (.seq
  (.region none [ ⟨some 5, none, .asg (.c (.slice none 0 0))⟩] [1, 4, 5]) (.seq (.seq
  (.region none [ ⟨some 14, none, .mv (.t 4)⟩, ⟨some 15, none, .call (.f 290) [((.t 14), .r)]⟩, ⟨some 16, none, .bin .add (.t 15) (.c (.int .i64 1))⟩, ⟨some 17, none, .mv (.c (.int .i64 0))⟩] [1, 4, 5, 16, 17]) (.block 0 (.loop (.seq
  (.region none [ ⟨some 18, none, .bin .lss (.t 17) (.t 16)⟩] [1, 4, 5, 16, 17, 18]) (.seq (.cond (.t 18) .skip (.exit 0)) (.seq (.block 1 (.seq
  (.region none [ ⟨some 19, none, .mv (.t 17)⟩, ⟨some 6, none, .mv (.t 19)⟩] [1, 4, 5, 6, 16, 17]) (.seq
  (.region (some [7, 20, 21, 22, 23, 24, 25, 26, 27]) [ ⟨some 21, none, .ld (some 2) (.t 1)⟩, ⟨some 22, none, .mv (.t 4)⟩, ⟨some 23, none, .mv (.t 6)⟩, ⟨some 24, none, .call (.f 318) [((.t 22), .r), ((.t 23), .r)]⟩, ⟨some 25, none, .call (.f 239) [((.t 21), .r), ((.t 24), .r)]⟩, ⟨some 20, none, .tk1 none 25⟩, ⟨some 26, none, .ext (.t 20) 0⟩, ⟨some 27, none, .exts 20 1⟩, ⟨some 7, none, .alloc [(.slice none 0 0), (.slice none 0 0)]⟩, ⟨none, none, .st (some 2) (.t 7) (.t 26)⟩, ⟨some 8, none, .mv (.t 27)⟩] [1, 4, 5, 7, 16, 17])
  (.region none [ ⟨some 28, none, .mv (.t 5)⟩, ⟨some 29, none, .ld (some 2) (.t 7)⟩, ⟨some 30, none, .bsls 2 false false [(.t 29)]⟩, ⟨some 31, none, .app true 2 (.t 28) (.t 30)⟩, ⟨some 5, none, .asg (.t 31)⟩] [1, 4, 5, 16, 17]))))
  (.region none [ ⟨some 32, none, .bin .add (.t 17) (.c (.int .i64 1))⟩, ⟨some 17, none, .mv (.t 32)⟩] [1, 4, 5, 16, 17]))))))) (.seq
  (.region none [ ⟨some 33, none, .mv (.t 5)⟩, ⟨some 2, none, .asg (.t 33)⟩, ⟨some 3, none, .mv (.c (.int .i64 0))⟩] [2, 3]) .ret))))))

end Go.Mch
