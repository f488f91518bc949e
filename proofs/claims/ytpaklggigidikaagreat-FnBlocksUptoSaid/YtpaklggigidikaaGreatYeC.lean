/- Compact code of the functions that statements 13 to 36 reach further. -/
import Derived.Test.YtpaklggigidikaaGreatM1
namespace Go.Mch

def j3d : F where
 np := 1
 rs := [.t 2]
 body :=
  (.seq
  (.region none [ ⟨some 2, none, .asg (.c (.slice none 0 0))⟩] [0]) (.seq
  (.region none [ ⟨some 6, none, .bsl []⟩, ⟨some 7, none, .bsl []⟩, ⟨some 3, none, .asg (.t 6)⟩, ⟨some 4, none, .asg (.t 7)⟩] [0, 3, 4]) (.seq (.seq
  (.region none [ ⟨some 5, none, .mv (.c (.int .i64 0))⟩] [0, 3, 4, 5]) (.block 0 (.loop (.seq (.seq
  (.region none [ ⟨some 8, none, .mv (.t 5)⟩, ⟨some 9, none, .mv (.t 0)⟩, ⟨some 10, none, .len (.t 9)⟩, ⟨some 11, none, .bin .lss (.t 8) (.t 10)⟩] [0, 3, 4, 5, 11]) (.cond (.t 11) .skip (.exit 0))) (.seq (.block 1 (.seq (.seq
  (.region none [ ⟨some 14, none, .mv (.t 3)⟩, ⟨some 15, none, .mv (.t 0)⟩, ⟨some 16, none, .mv (.t 5)⟩, ⟨some 17, none, .idx 1 (.t 15) (.t 16)⟩, ⟨some 18, none, .ld none (.t 17)⟩, ⟨some 19, none, .call (.f 62) [((.t 14), .r), ((.t 18), .r)]⟩, ⟨some 20, none, .un .not (.t 19)⟩] [0, 3, 4, 5, 20]) (.cond (.t 20)
  (.region none [ ⟨some 21, none, .mv (.t 3)⟩, ⟨some 22, none, .mv (.t 0)⟩, ⟨some 23, none, .mv (.t 5)⟩, ⟨some 24, none, .idx 1 (.t 22) (.t 23)⟩, ⟨some 25, none, .ld none (.t 24)⟩, ⟨some 26, none, .bsl [(.t 25)]⟩, ⟨some 27, none, .app true 1 (.t 21) (.t 26)⟩, ⟨some 3, none, .asg (.t 27)⟩] [0, 3, 4, 5]) .skip))
  (.region none [ ⟨some 28, none, .mv (.t 4)⟩, ⟨some 29, none, .mv (.t 3)⟩, ⟨some 30, none, .mv (.t 0)⟩, ⟨some 31, none, .mv (.t 5)⟩, ⟨some 32, none, .idx 1 (.t 30) (.t 31)⟩, ⟨some 33, none, .ld none (.t 32)⟩, ⟨some 34, none, .call (.f 69) [((.t 29), .r), ((.t 33), .r)]⟩, ⟨some 35, none, .bsl [(.t 34)]⟩, ⟨some 36, none, .app true 1 (.t 28) (.t 35)⟩, ⟨some 4, none, .asg (.t 36)⟩] [0, 3, 4, 5])))
  (.region none [ ⟨some 12, none, .mv (.t 5)⟩, ⟨some 13, none, .bin .add (.t 12) (.c (.int .i64 1))⟩, ⟨some 5, none, .mv (.t 13)⟩] [0, 3, 4, 5])))))) (.seq
  (.region none [ ⟨some 37, none, .mv (.t 4)⟩, ⟨some 2, none, .asg (.t 37)⟩] [2]) .ret))))

def j3h : F where
 np := 1
 rs := [.t 2]
 body :=
  (.seq
  (.region none [ ⟨some 2, none, .mv (.c (.int .i64 0))⟩] [0]) (.seq
  (.region none [ ⟨some 3, none, .mv (.c (.int .i64 0))⟩] [0, 3]) (.seq (.seq
  (.region none [ ⟨some 4, none, .mv (.c (.int .i64 0))⟩] [0, 3, 4]) (.block 0 (.loop (.seq (.seq
  (.region none [ ⟨some 5, none, .mv (.t 4)⟩, ⟨some 6, none, .mv (.t 0)⟩, ⟨some 7, none, .len (.t 6)⟩, ⟨some 8, none, .bin .lss (.t 5) (.t 7)⟩] [0, 3, 4, 8]) (.cond (.t 8) .skip (.exit 0))) (.seq (.block 1 (.seq
  (.region none [ ⟨some 11, none, .mv (.t 0)⟩, ⟨some 12, none, .mv (.t 4)⟩, ⟨some 13, none, .idx 1 (.t 11) (.t 12)⟩, ⟨some 14, none, .ld none (.t 13)⟩, ⟨some 15, none, .mv (.t 3)⟩, ⟨some 16, none, .bin .geq (.t 14) (.t 15)⟩] [0, 3, 4, 16]) (.cond (.t 16)
  (.region none [ ⟨some 17, none, .mv (.t 0)⟩, ⟨some 18, none, .mv (.t 4)⟩, ⟨some 19, none, .idx 1 (.t 17) (.t 18)⟩, ⟨some 20, none, .ld none (.t 19)⟩, ⟨some 21, none, .bin .add (.t 20) (.c (.int .i64 1))⟩, ⟨some 3, none, .mv (.t 21)⟩] [0, 3, 4]) .skip)))
  (.region none [ ⟨some 9, none, .mv (.t 4)⟩, ⟨some 10, none, .bin .add (.t 9) (.c (.int .i64 1))⟩, ⟨some 4, none, .mv (.t 10)⟩] [0, 3, 4])))))) (.seq
  (.region none [ ⟨some 22, none, .mv (.t 3)⟩, ⟨some 2, none, .mv (.t 22)⟩] [2]) .ret))))

def j4t : F where
 np := 1
 rs := [.t 2]
 body :=
  (.seq
  (.region none [ ⟨some 2, none, .asg (.c (.slice none 0 0))⟩] [0]) (.seq
  (.region none [ ⟨some 5, none, .mv (.t 0)⟩, ⟨some 6, none, .mks (.int .i64 0) (.t 5)⟩, ⟨some 3, none, .asg (.t 6)⟩] [3]) (.seq (.seq
  (.region none [ ⟨some 7, none, .mv (.t 3)⟩, ⟨some 8, none, .len (.t 7)⟩, ⟨some 9, none, .mv (.c (.int .i64 0))⟩] [3, 8, 9]) (.block 0 (.loop (.seq
  (.region none [ ⟨some 10, none, .bin .lss (.t 9) (.t 8)⟩] [3, 8, 9, 10]) (.seq (.cond (.t 10) .skip (.exit 0)) (.seq (.block 1 (.seq
  (.region none [ ⟨some 11, none, .mv (.t 9)⟩, ⟨some 4, none, .mv (.t 11)⟩] [3, 4, 8, 9])
  (.region none [ ⟨some 12, none, .mv (.t 3)⟩, ⟨some 13, none, .mv (.t 4)⟩, ⟨some 14, none, .mv (.t 4)⟩, ⟨some 15, none, .idx 1 (.t 12) (.t 13)⟩, ⟨none, none, .st none (.t 15) (.t 14)⟩] [3, 8, 9])))
  (.region none [ ⟨some 16, none, .bin .add (.t 9) (.c (.int .i64 1))⟩, ⟨some 9, none, .mv (.t 16)⟩] [3, 8, 9]))))))) (.seq
  (.region none [ ⟨some 17, none, .mv (.t 3)⟩, ⟨some 2, none, .asg (.t 17)⟩] [2]) .ret))))

def j4s : F where
 np := 1
 rs := [.t 2]
 body :=
  (.seq
  (.region none [ ⟨some 2, none, .asg (.c (.slice none 0 0))⟩] [0]) (.seq
  (.region none [ ⟨some 3, none, .asg (.c (.slice none 0 0))⟩] [0, 3]) (.seq
  (.region none [ ⟨some 8, none, .mv (.t 0)⟩, ⟨some 9, none, .len (.t 8)⟩, ⟨some 10, none, .mks (.int .i64 0) (.t 9)⟩, ⟨some 4, none, .asg (.t 10)⟩] [0, 3, 4]) (.seq (.seq
  (.region none [ ⟨some 11, none, .mv (.t 0)⟩, ⟨some 12, none, .len (.t 11)⟩, ⟨some 13, none, .mv (.c (.int .i64 0))⟩] [3, 4, 11, 12, 13]) (.block 0 (.loop (.seq
  (.region none [ ⟨some 14, none, .bin .lss (.t 13) (.t 12)⟩] [3, 4, 11, 12, 13, 14]) (.seq (.cond (.t 14) .skip (.exit 0)) (.seq (.block 1 (.seq
  (.region none [ ⟨some 15, none, .mv (.t 13)⟩, ⟨some 16, none, .idx 1 (.t 11) (.t 13)⟩, ⟨some 17, none, .ld none (.t 16)⟩, ⟨some 5, none, .mv (.t 15)⟩, ⟨some 6, none, .mv (.t 17)⟩] [3, 4, 5, 6, 11, 12, 13]) (.seq
  (.region none [ ⟨some 18, none, .mv (.t 3)⟩, ⟨some 19, none, .mv (.t 6)⟩, ⟨some 20, none, .call (.f 384) [((.t 18), .r), ((.t 19), .r)]⟩, ⟨some 7, none, .mv (.t 20)⟩] [3, 4, 5, 6, 7, 11, 12, 13]) (.seq (.seq
  (.region none [ ⟨some 21, none, .mv (.t 7)⟩, ⟨some 22, none, .bin .lss (.t 21) (.c (.int .i64 0))⟩] [3, 4, 5, 6, 7, 11, 12, 13, 22]) (.cond (.t 22) (.seq
  (.region none [ ⟨some 23, none, .mv (.t 3)⟩, ⟨some 24, none, .len (.t 23)⟩, ⟨some 7, none, .mv (.t 24)⟩] [3, 4, 5, 6, 7, 11, 12, 13])
  (.region none [ ⟨some 25, none, .mv (.t 3)⟩, ⟨some 26, none, .mv (.t 6)⟩, ⟨some 27, none, .bsl [(.t 26)]⟩, ⟨some 28, none, .app true 1 (.t 25) (.t 27)⟩, ⟨some 3, none, .asg (.t 28)⟩] [3, 4, 5, 7, 11, 12, 13])) .skip))
  (.region none [ ⟨some 29, none, .mv (.t 4)⟩, ⟨some 30, none, .mv (.t 5)⟩, ⟨some 31, none, .mv (.t 7)⟩, ⟨some 32, none, .idx 1 (.t 29) (.t 30)⟩, ⟨none, none, .st none (.t 32) (.t 31)⟩] [3, 4, 11, 12, 13])))))
  (.region none [ ⟨some 33, none, .bin .add (.t 13) (.c (.int .i64 1))⟩, ⟨some 13, none, .mv (.t 33)⟩] [3, 4, 11, 12, 13]))))))) (.seq
  (.region none [ ⟨some 34, none, .mv (.t 4)⟩, ⟨some 2, none, .asg (.t 34)⟩] [2]) .ret)))))

def j1c : F where
 np := 1
 rs := [.t 2]
 body :=
  (.seq
  (.region none [ ⟨some 2, none, .mv (.c (.int .i64 0))⟩] [0]) (.seq (.seq
  (.region none [ ⟨some 5, none, .mv (.t 0)⟩, ⟨some 6, none, .len (.t 5)⟩, ⟨some 7, none, .bin .lss (.t 6) (.c (.int .i64 1))⟩] [0, 7]) (.cond (.t 7) .stuck .skip)) (.seq
  (.region none [ ⟨some 9, none, .mv (.t 0)⟩, ⟨some 10, none, .idx 1 (.t 9) (.c (.int .i64 0))⟩, ⟨some 11, none, .ld none (.t 10)⟩, ⟨some 3, none, .mv (.t 11)⟩] [0, 3]) (.seq (.seq
  (.region none [ ⟨some 4, none, .mv (.c (.int .i64 1))⟩] [0, 3, 4]) (.block 0 (.loop (.seq (.seq
  (.region none [ ⟨some 12, none, .mv (.t 4)⟩, ⟨some 13, none, .mv (.t 0)⟩, ⟨some 14, none, .len (.t 13)⟩, ⟨some 15, none, .bin .lss (.t 12) (.t 14)⟩] [0, 3, 4, 15]) (.cond (.t 15) .skip (.exit 0))) (.seq (.block 1
  (.region none [ ⟨some 18, none, .mv (.t 3)⟩, ⟨some 19, none, .mv (.t 0)⟩, ⟨some 20, none, .mv (.t 4)⟩, ⟨some 21, none, .idx 1 (.t 19) (.t 20)⟩, ⟨some 22, none, .ld none (.t 21)⟩, ⟨some 23, none, .mm true (.t 18) (.t 22)⟩, ⟨some 3, none, .mv (.t 23)⟩] [0, 3, 4]))
  (.region none [ ⟨some 16, none, .mv (.t 4)⟩, ⟨some 17, none, .bin .add (.t 16) (.c (.int .i64 1))⟩, ⟨some 4, none, .mv (.t 17)⟩] [0, 3, 4])))))) (.seq
  (.region none [ ⟨some 24, none, .mv (.t 3)⟩, ⟨some 2, none, .mv (.t 24)⟩] [2]) .ret)))))

def j42 : F where
 np := 1
 rs := [.t 2]
 body :=
  (.seq
  (.region none [ ⟨some 1, none, .box (.t 0)⟩, ⟨some 2, none, .asg (.c (.slice none 0 0))⟩] [1]) (.seq
  (.region (some [3, 4, 5, 6, 7]) [ ⟨some 3, none, .fld 0 (.t 1)⟩, ⟨some 4, none, .ld none (.t 3)⟩, ⟨some 5, none, .call (.f 280) [((.t 4), .r)]⟩, ⟨some 6, none, .fld 1 (.t 1)⟩, ⟨some 7, none, .ld none (.t 6)⟩, ⟨some 8, none, .call (.f 265) [((.t 7), .r)]⟩, ⟨some 9, none, .app true 1 (.t 5) (.t 8)⟩, ⟨some 2, none, .asg (.t 9)⟩] [2]) .ret))

def j4p : F where
 np := 2
 rs := [.t 4]
 body :=
  (.seq
  (.region none [ ⟨some 4, none, .asg (.c (.slice none 0 0))⟩] [0, 1]) (.seq
  (.region none [ ⟨some 8, none, .mv (.t 1)⟩, ⟨some 9, none, .bsl [(.t 8)]⟩, ⟨some 5, none, .asg (.t 9)⟩] [0, 5]) (.seq (.seq
  (.region none [ ⟨some 6, none, .mv (.c (.int .i64 0))⟩] [0, 5, 6]) (.block 0 (.loop (.seq (.seq
  (.region none [ ⟨some 10, none, .mv (.t 6)⟩, ⟨some 11, none, .mv (.t 5)⟩, ⟨some 12, none, .len (.t 11)⟩, ⟨some 13, none, .bin .lss (.t 10) (.t 12)⟩] [0, 5, 6, 13]) (.cond (.t 13) .skip (.exit 0))) (.seq (.block 1 (.seq
  (.region none [ ⟨some 7, none, .mv (.c (.int .i64 0))⟩] [0, 5, 6, 7]) (.block 2 (.loop (.seq (.seq
  (.region none [ ⟨some 16, none, .mv (.t 7)⟩, ⟨some 17, none, .mv (.t 0)⟩, ⟨some 18, none, .len (.t 17)⟩, ⟨some 19, none, .bin .lss (.t 16) (.t 18)⟩] [0, 5, 6, 7, 19]) (.cond (.t 19) .skip (.exit 2))) (.seq (.block 3 (.seq
  (.region (some [22, 23, 24, 25, 26, 27, 28, 29, 30, 31, 32]) [ ⟨some 22, none, .mv (.t 5)⟩, ⟨some 23, none, .mv (.t 0)⟩, ⟨some 24, none, .mv (.t 7)⟩, ⟨some 25, none, .idx 1 (.t 23) (.t 24)⟩, ⟨some 26, none, .ld none (.t 25)⟩, ⟨some 27, none, .mv (.t 5)⟩, ⟨some 28, none, .mv (.t 6)⟩, ⟨some 29, none, .idx 1 (.t 27) (.t 28)⟩, ⟨some 30, none, .ld none (.t 29)⟩, ⟨some 31, none, .idx 1 (.t 26) (.t 30)⟩, ⟨some 32, none, .ld none (.t 31)⟩, ⟨some 33, none, .call (.f 62) [((.t 22), .r), ((.t 32), .r)]⟩, ⟨some 34, none, .un .not (.t 33)⟩] [0, 5, 6, 7, 34]) (.cond (.t 34)
  (.region (some [35, 36, 37, 38, 39, 40, 41, 42, 43, 44, 45, 46]) [ ⟨some 35, none, .mv (.t 5)⟩, ⟨some 36, none, .mv (.t 0)⟩, ⟨some 37, none, .mv (.t 7)⟩, ⟨some 38, none, .idx 1 (.t 36) (.t 37)⟩, ⟨some 39, none, .ld none (.t 38)⟩, ⟨some 40, none, .mv (.t 5)⟩, ⟨some 41, none, .mv (.t 6)⟩, ⟨some 42, none, .idx 1 (.t 40) (.t 41)⟩, ⟨some 43, none, .ld none (.t 42)⟩, ⟨some 44, none, .idx 1 (.t 39) (.t 43)⟩, ⟨some 45, none, .ld none (.t 44)⟩, ⟨some 46, none, .bslv 1 [(.t 45)]⟩, ⟨some 47, none, .app true 1 (.t 35) (.t 46)⟩, ⟨some 5, none, .asg (.t 47)⟩] [0, 5, 6, 7]) .skip)))
  (.region none [ ⟨some 20, none, .mv (.t 7)⟩, ⟨some 21, none, .bin .add (.t 20) (.c (.int .i64 1))⟩, ⟨some 7, none, .mv (.t 21)⟩] [0, 5, 6, 7])))))))
  (.region none [ ⟨some 14, none, .mv (.t 6)⟩, ⟨some 15, none, .bin .add (.t 14) (.c (.int .i64 1))⟩, ⟨some 6, none, .mv (.t 15)⟩] [0, 5, 6])))))) (.seq
  (.region none [ ⟨some 48, none, .mv (.t 5)⟩, ⟨some 4, none, .asg (.t 48)⟩] [4]) .ret))))

def j1s : F where
 np := 1
 rs := [.t 2]
 body :=
  (.seq
  (.region none [ ⟨some 1, none, .box (.t 0)⟩, ⟨some 2, none, .mv (.c (.bool false))⟩] [1]) (.seq
  (.region none [ ⟨some 3, none, .ld (some 2) (.t 1)⟩, ⟨some 4, none, .call (.f 301) [((.t 3), .r)]⟩, ⟨some 5, none, .call (.f 290) [((.t 4), .r)]⟩, ⟨some 6, none, .bin .eql (.t 5) (.c (.int .i64 0))⟩, ⟨some 2, none, .mv (.t 6)⟩] [2]) .ret))

def j3j : F where
 np := 1
 rs := [.t 2]
 body :=
  (.seq
  (.region none [ ⟨some 1, none, .box (.t 0)⟩, ⟨some 2, none, .asg (.c (.slice none 0 0))⟩] [1]) (.seq
  (.region (some [3, 4, 5, 6, 7]) [ ⟨some 3, none, .fld 0 (.t 1)⟩, ⟨some 4, none, .ld none (.t 3)⟩, ⟨some 5, none, .fld 1 (.t 1)⟩, ⟨some 6, none, .ld none (.t 5)⟩, ⟨some 7, none, .call (.f 267) [((.t 6), .r)]⟩, ⟨some 8, none, .bsls 1 true true [(.t 4), (.t 7)]⟩, ⟨some 9, none, .call (.f 381) [((.t 8), .r)]⟩, ⟨some 2, none, .asg (.t 9)⟩] [2]) .ret))

def j0w : F where
 np := 1
 rs := [.t 2]
 body :=
  (.seq
  (.region none [ ⟨some 2, none, .asg (.c (.slice none 0 0))⟩] [0]) (.seq
  (.region none [ ⟨some 3, none, .mv (.c (.int .i64 0))⟩] [0, 3]) (.seq (.seq
  (.region none [ ⟨some 9, none, .mv (.t 0)⟩, ⟨some 10, none, .len (.t 9)⟩, ⟨some 11, none, .mv (.c (.int .i64 0))⟩] [0, 3, 9, 10, 11]) (.block 0 (.loop (.seq
  (.region none [ ⟨some 12, none, .bin .lss (.t 11) (.t 10)⟩] [0, 3, 9, 10, 11, 12]) (.seq (.cond (.t 12) .skip (.exit 0)) (.seq (.block 1 (.seq
  (.region none [ ⟨some 13, none, .idx 1 (.t 9) (.t 11)⟩, ⟨some 14, none, .ld none (.t 13)⟩, ⟨some 5, none, .asg (.t 14)⟩] [0, 3, 5, 9, 10, 11]) (.seq
  (.region none [ ⟨some 15, none, .mv (.t 3)⟩, ⟨some 16, none, .mv (.t 5)⟩, ⟨some 17, none, .len (.t 16)⟩, ⟨some 18, none, .bin .add (.t 15) (.t 17)⟩, ⟨some 3, none, .mv (.t 18)⟩] [0, 3, 9, 10, 11]) (.seq
  (.region none [ ⟨some 19, none, .mv (.t 3)⟩, ⟨some 20, none, .bin .lss (.t 19) (.c (.int .i64 0))⟩] [0, 3, 9, 10, 11, 20]) (.cond (.t 20) .stuck .skip)))))
  (.region none [ ⟨some 22, none, .bin .add (.t 11) (.c (.int .i64 1))⟩, ⟨some 11, none, .mv (.t 22)⟩] [0, 3, 9, 10, 11]))))))) (.seq
  (.region none [ ⟨some 23, none, .mv (.t 3)⟩, ⟨some 24, none, .call (.f 429) [((.c (.slice none 0 0)), .r), ((.t 23), .r)]⟩, ⟨some 6, none, .asg (.t 24)⟩] [0, 6]) (.seq (.seq
  (.region none [ ⟨some 25, none, .mv (.t 0)⟩, ⟨some 26, none, .len (.t 25)⟩, ⟨some 27, none, .mv (.c (.int .i64 0))⟩] [6, 25, 26, 27]) (.block 2 (.loop (.seq
  (.region none [ ⟨some 28, none, .bin .lss (.t 27) (.t 26)⟩] [6, 25, 26, 27, 28]) (.seq (.cond (.t 28) .skip (.exit 2)) (.seq (.block 3 (.seq
  (.region none [ ⟨some 29, none, .idx 1 (.t 25) (.t 27)⟩, ⟨some 30, none, .ld none (.t 29)⟩, ⟨some 8, none, .asg (.t 30)⟩] [6, 8, 25, 26, 27])
  (.region none [ ⟨some 31, none, .mv (.t 6)⟩, ⟨some 32, none, .mv (.t 8)⟩, ⟨some 33, none, .app false 1 (.t 31) (.t 32)⟩, ⟨some 6, none, .asg (.t 33)⟩] [6, 25, 26, 27])))
  (.region none [ ⟨some 34, none, .bin .add (.t 27) (.c (.int .i64 1))⟩, ⟨some 27, none, .mv (.t 34)⟩] [6, 25, 26, 27]))))))) (.seq
  (.region none [ ⟨some 35, none, .mv (.t 6)⟩, ⟨some 2, none, .asg (.t 35)⟩] [2]) .ret))))))

def j0y : F where
 np := 2
 rs := [.t 4]
 body :=
  (.seq
  (.region none [ ⟨some 4, none, .asg (.c (.slice none 0 0))⟩] [0, 1]) (.seq (.seq
  (.region none [ ⟨some 5, none, .mv (.t 1)⟩, ⟨some 6, none, .bin .lss (.t 5) (.c (.int .i64 0))⟩] [0, 1, 6]) (.cond (.t 6) .stuck .skip)) (.seq (.seq
  (.region none [ ⟨some 8, none, .mv (.t 1)⟩, ⟨some 9, none, .mv (.t 0)⟩, ⟨some 10, none, .cap0 (.t 9)⟩, ⟨some 11, none, .mv (.t 0)⟩, ⟨some 12, none, .len (.t 11)⟩, ⟨some 13, none, .bin .sub (.t 10) (.t 12)⟩, ⟨some 14, none, .bin .sub (.t 8) (.t 13)⟩, ⟨some 1, none, .mv (.t 14)⟩] [0, 1]) (.seq
  (.region none [ ⟨some 15, none, .mv (.t 1)⟩, ⟨some 16, none, .bin .gtr (.t 15) (.c (.int .i64 0))⟩] [0, 1, 16]) (.cond (.t 16)
  (.region none [ ⟨some 17, none, .mv (.t 0)⟩, ⟨some 18, none, .mv (.t 0)⟩, ⟨some 19, none, .cap0 (.t 18)⟩, ⟨some 20, none, .sl 1 (.t 17) none (some (.t 19))⟩, ⟨some 21, none, .mv (.t 1)⟩, ⟨some 22, none, .apz (.slice none 0 0) (.t 20) (.t 21)⟩, ⟨some 23, none, .mv (.t 0)⟩, ⟨some 24, none, .len (.t 23)⟩, ⟨some 25, none, .sl 1 (.t 22) none (some (.t 24))⟩, ⟨some 0, none, .asg (.t 25)⟩] [0]) .skip))) (.seq
  (.region none [ ⟨some 26, none, .mv (.t 0)⟩, ⟨some 4, none, .asg (.t 26)⟩] [4]) .ret))))

def j3k : F where
 np := 2
 rs := [.t 4]
 body :=
  (.seq
  (.region none [ ⟨some 4, none, .asg (.c (.slice none 0 0))⟩] [0, 1]) (.seq
  (.region none [ ⟨some 13, none, .mv (.t 0)⟩, ⟨some 14, none, .mks (.int .i64 0) (.t 13)⟩, ⟨some 5, none, .asg (.t 14)⟩] [1, 5]) (.seq (.seq
  (.region none [ ⟨some 15, none, .mv (.t 5)⟩, ⟨some 16, none, .len (.t 15)⟩, ⟨some 17, none, .mv (.c (.int .i64 0))⟩] [1, 5, 16, 17]) (.block 0 (.loop (.seq
  (.region none [ ⟨some 18, none, .bin .lss (.t 17) (.t 16)⟩] [1, 5, 16, 17, 18]) (.seq (.cond (.t 18) .skip (.exit 0)) (.seq (.block 1 (.seq
  (.region none [ ⟨some 19, none, .mv (.t 17)⟩, ⟨some 6, none, .mv (.t 19)⟩] [1, 5, 6, 16, 17])
  (.region none [ ⟨some 20, none, .mv (.t 5)⟩, ⟨some 21, none, .mv (.t 6)⟩, ⟨some 22, none, .idx 1 (.t 20) (.t 21)⟩, ⟨none, none, .st none (.t 22) (.c (.int .i64 (-1)))⟩] [1, 5, 16, 17])))
  (.region none [ ⟨some 23, none, .bin .add (.t 17) (.c (.int .i64 1))⟩, ⟨some 17, none, .mv (.t 23)⟩] [1, 5, 16, 17]))))))) (.seq
  (.region none [ ⟨some 7, none, .mv (.c (.int .i64 0))⟩] [1, 5, 7]) (.seq (.seq
  (.region none [ ⟨some 24, none, .mv (.t 5)⟩, ⟨some 25, none, .len (.t 24)⟩, ⟨some 26, none, .mv (.c (.int .i64 0))⟩] [1, 5, 7, 25, 26]) (.block 2 (.loop (.seq
  (.region none [ ⟨some 27, none, .bin .lss (.t 26) (.t 25)⟩] [1, 5, 7, 25, 26, 27]) (.seq (.cond (.t 27) .skip (.exit 2)) (.seq (.block 3 (.seq
  (.region none [ ⟨some 28, none, .mv (.t 26)⟩, ⟨some 8, none, .mv (.t 28)⟩] [1, 5, 7, 8, 25, 26]) (.seq (.seq
  (.region none [ ⟨some 29, none, .mv (.t 5)⟩, ⟨some 30, none, .mv (.t 8)⟩, ⟨some 31, none, .idx 1 (.t 29) (.t 30)⟩, ⟨some 32, none, .ld none (.t 31)⟩, ⟨some 33, none, .bin .geq (.t 32) (.c (.int .i64 0))⟩] [1, 5, 7, 8, 25, 26, 33]) (.cond (.t 33) (.exit 3) .skip)) (.seq
  (.region none [ ⟨some 34, none, .mv (.t 5)⟩, ⟨some 35, none, .mv (.t 8)⟩, ⟨some 36, none, .mv (.t 7)⟩, ⟨some 37, none, .idx 1 (.t 34) (.t 35)⟩, ⟨none, none, .st none (.t 37) (.t 36)⟩] [1, 5, 7, 8, 25, 26]) (.seq (.seq
  (.region none [ ⟨some 38, none, .mv (.t 8)⟩, ⟨some 39, none, .bsl [(.t 38)]⟩, ⟨some 9, none, .asg (.t 39)⟩] [1, 5, 7, 9, 25, 26]) (.block 4 (.loop (.seq (.seq
  (.region none [ ⟨some 40, none, .mv (.t 9)⟩, ⟨some 41, none, .len (.t 40)⟩, ⟨some 42, none, .bin .gtr (.t 41) (.c (.int .i64 0))⟩] [1, 5, 7, 9, 25, 26, 42]) (.cond (.t 42) .skip (.exit 4))) (.seq (.block 5 (.seq
  (.region none [ ⟨some 45, none, .mv (.t 1)⟩, ⟨some 46, none, .len (.t 45)⟩, ⟨some 47, none, .mv (.c (.int .i64 0))⟩] [1, 5, 7, 9, 25, 26, 45, 46, 47]) (.block 6 (.loop (.seq
  (.region none [ ⟨some 48, none, .bin .lss (.t 47) (.t 46)⟩] [1, 5, 7, 9, 25, 26, 45, 46, 47, 48]) (.seq (.cond (.t 48) .skip (.exit 6)) (.seq (.block 7 (.seq
  (.region none [ ⟨some 49, none, .idx 1 (.t 45) (.t 47)⟩, ⟨some 50, none, .ld none (.t 49)⟩, ⟨some 11, none, .asg (.t 50)⟩] [1, 5, 7, 9, 11, 25, 26, 45, 46, 47]) (.seq
  (.region none [ ⟨some 51, none, .mv (.t 11)⟩, ⟨some 52, none, .mv (.t 9)⟩, ⟨some 53, none, .idx 1 (.t 52) (.c (.int .i64 0))⟩, ⟨some 54, none, .ld none (.t 53)⟩, ⟨some 55, none, .idx 1 (.t 51) (.t 54)⟩, ⟨some 56, none, .ld none (.t 55)⟩, ⟨some 12, none, .mv (.t 56)⟩] [1, 5, 7, 9, 12, 25, 26, 45, 46, 47]) (.seq
  (.region none [ ⟨some 57, none, .mv (.t 5)⟩, ⟨some 58, none, .mv (.t 12)⟩, ⟨some 59, none, .idx 1 (.t 57) (.t 58)⟩, ⟨some 60, none, .ld none (.t 59)⟩, ⟨some 61, none, .bin .lss (.t 60) (.c (.int .i64 0))⟩] [1, 5, 7, 9, 12, 25, 26, 45, 46, 47, 61]) (.cond (.t 61) (.seq
  (.region none [ ⟨some 62, none, .mv (.t 5)⟩, ⟨some 63, none, .mv (.t 12)⟩, ⟨some 64, none, .mv (.t 7)⟩, ⟨some 65, none, .idx 1 (.t 62) (.t 63)⟩, ⟨none, none, .st none (.t 65) (.t 64)⟩] [1, 5, 7, 9, 12, 25, 26, 45, 46, 47])
  (.region none [ ⟨some 66, none, .mv (.t 9)⟩, ⟨some 67, none, .mv (.t 12)⟩, ⟨some 68, none, .bsl [(.t 67)]⟩, ⟨some 69, none, .app true 1 (.t 66) (.t 68)⟩, ⟨some 9, none, .asg (.t 69)⟩] [1, 5, 7, 9, 25, 26, 45, 46, 47])) .skip)))))
  (.region none [ ⟨some 70, none, .bin .add (.t 47) (.c (.int .i64 1))⟩, ⟨some 47, none, .mv (.t 70)⟩] [1, 5, 7, 9, 25, 26, 45, 46, 47]))))))))
  (.region none [ ⟨some 43, none, .mv (.t 9)⟩, ⟨some 44, none, .sl 1 (.t 43) (some (.c (.int .i64 1))) none⟩, ⟨some 9, none, .asg (.t 44)⟩] [1, 5, 7, 9, 25, 26]))))))
  (.region none [ ⟨some 71, none, .mv (.t 7)⟩, ⟨some 72, none, .bin .add (.t 71) (.c (.int .i64 1))⟩, ⟨some 7, none, .mv (.t 72)⟩] [1, 5, 7, 25, 26]))))))
  (.region none [ ⟨some 73, none, .bin .add (.t 26) (.c (.int .i64 1))⟩, ⟨some 26, none, .mv (.t 73)⟩] [1, 5, 7, 25, 26]))))))) (.seq
  (.region none [ ⟨some 74, none, .mv (.t 5)⟩, ⟨some 4, none, .asg (.t 74)⟩] [4]) .ret))))))

def j45 : F where
 np := 1
 rs := [.t 2]
 body :=
  (.seq
  (.region none [ ⟨some 2, none, .asg (.c (.slice none 0 0))⟩] [0]) (.seq
  (.region none [ ⟨some 5, none, .bsl []⟩, ⟨some 3, none, .asg (.t 5)⟩] [0, 3]) (.seq (.seq
  (.region none [ ⟨some 4, none, .mv (.c (.int .i64 0))⟩] [0, 3, 4]) (.block 0 (.loop (.seq (.seq
  (.region none [ ⟨some 6, none, .mv (.t 4)⟩, ⟨some 7, none, .mv (.t 0)⟩, ⟨some 8, none, .bin .lss (.t 6) (.t 7)⟩] [0, 3, 4, 8]) (.cond (.t 8) .skip (.exit 0))) (.seq (.block 1
  (.region none [ ⟨some 11, none, .mv (.t 3)⟩, ⟨some 12, none, .mv (.t 4)⟩, ⟨some 13, none, .bsl [(.t 12)]⟩, ⟨some 14, none, .app true 1 (.t 11) (.t 13)⟩, ⟨some 3, none, .asg (.t 14)⟩] [0, 3, 4]))
  (.region none [ ⟨some 9, none, .mv (.t 4)⟩, ⟨some 10, none, .bin .add (.t 9) (.c (.int .i64 1))⟩, ⟨some 4, none, .mv (.t 10)⟩] [0, 3, 4])))))) (.seq
  (.region none [ ⟨some 15, none, .mv (.t 3)⟩, ⟨some 2, none, .asg (.t 15)⟩] [2]) .ret))))

def j5c : F where
 np := 1
 rs := [.t 2]
 body :=
  (.seq
  (.region none [ ⟨some 2, none, .asg (.c (.slice none 0 0))⟩] [0]) (.seq
  (.region none [ ⟨some 5, none, .mv (.t 0)⟩, ⟨some 6, none, .len (.t 5)⟩, ⟨some 7, none, .mks (.int .i64 0) (.t 6)⟩, ⟨some 3, none, .asg (.t 7)⟩] [0, 3]) (.seq (.seq
  (.region none [ ⟨some 4, none, .mv (.c (.int .i64 0))⟩] [0, 3, 4]) (.block 0 (.loop (.seq (.seq
  (.region none [ ⟨some 8, none, .mv (.t 4)⟩, ⟨some 9, none, .mv (.t 0)⟩, ⟨some 10, none, .len (.t 9)⟩, ⟨some 11, none, .bin .lss (.t 8) (.t 10)⟩] [0, 3, 4, 11]) (.cond (.t 11) .skip (.exit 0))) (.seq (.block 1
  (.region none [ ⟨some 14, none, .mv (.t 3)⟩, ⟨some 15, none, .mv (.t 0)⟩, ⟨some 16, none, .mv (.t 4)⟩, ⟨some 17, none, .idx 1 (.t 15) (.t 16)⟩, ⟨some 18, none, .ld none (.t 17)⟩, ⟨some 19, none, .mv (.t 4)⟩, ⟨some 20, none, .idx 1 (.t 14) (.t 18)⟩, ⟨none, none, .st none (.t 20) (.t 19)⟩] [0, 3, 4]))
  (.region none [ ⟨some 12, none, .mv (.t 4)⟩, ⟨some 13, none, .bin .add (.t 12) (.c (.int .i64 1))⟩, ⟨some 4, none, .mv (.t 13)⟩] [0, 3, 4])))))) (.seq
  (.region none [ ⟨some 21, none, .mv (.t 3)⟩, ⟨some 2, none, .asg (.t 21)⟩] [2]) .ret))))

def j4n : F where
 np := 1
 rs := [.cell 2 (some 2)]
 body :=
  (.seq
  (.region none [ ⟨some 2, none, .alloc [(.slice none 0 0), (.slice none 0 0)]⟩] [0, 2]) (.seq
  (.region none [ ⟨some 5, none, .build [(.slice none 0 0), (.slice none 0 0)] []⟩, ⟨some 3, none, .alloc [(.slice none 0 0), (.slice none 0 0)]⟩, ⟨none, none, .st (some 2) (.t 3) (.t 5)⟩] [0, 2, 3]) (.seq (.seq
  (.region none [ ⟨some 4, none, .mv (.c (.int .i64 0))⟩] [0, 2, 3, 4]) (.block 0 (.loop (.seq (.seq
  (.region none [ ⟨some 6, none, .mv (.t 4)⟩, ⟨some 7, none, .mv (.t 0)⟩, ⟨some 8, none, .bin .lss (.t 6) (.t 7)⟩] [0, 2, 3, 4, 8]) (.cond (.t 8) .skip (.exit 0))) (.seq (.block 1 (.seq
  (.region (some [11, 12, 13, 14, 15]) [ ⟨some 11, none, .fld 0 (.t 3)⟩, ⟨some 12, none, .ld none (.t 11)⟩, ⟨some 13, none, .mv (.t 0)⟩, ⟨some 14, none, .mks (.int .i64 0) (.t 13)⟩, ⟨some 15, none, .bsl1 14⟩, ⟨some 16, none, .app true 1 (.t 12) (.t 15)⟩, ⟨some 17, none, .fld 0 (.t 3)⟩, ⟨none, none, .st none (.t 17) (.t 16)⟩] [0, 2, 3, 4])
  (.region (some [18, 19, 20, 21, 22]) [ ⟨some 18, none, .fld 1 (.t 3)⟩, ⟨some 19, none, .ld none (.t 18)⟩, ⟨some 20, none, .mv (.t 0)⟩, ⟨some 21, none, .mks (.int .i64 0) (.t 20)⟩, ⟨some 22, none, .bsl1 21⟩, ⟨some 23, none, .app true 1 (.t 19) (.t 22)⟩, ⟨some 24, none, .fld 1 (.t 3)⟩, ⟨none, none, .st none (.t 24) (.t 23)⟩] [0, 2, 3, 4])))
  (.region none [ ⟨some 9, none, .mv (.t 4)⟩, ⟨some 10, none, .bin .add (.t 9) (.c (.int .i64 1))⟩, ⟨some 4, none, .mv (.t 10)⟩] [0, 2, 3, 4])))))) (.seq
  (.region none [ ⟨some 25, none, .ld (some 2) (.t 3)⟩, ⟨none, none, .st (some 2) (.t 2) (.t 25)⟩] [2]) .ret))))

def j1h : F where
 np := 1
 rs := [.t 2, .t 3]
 body :=
  (.seq
  (.region none [ ⟨some 1, none, .box (.t 0)⟩, ⟨some 2, none, .mv (.c (.bool false))⟩, ⟨some 3, none, .mv (.c (.int .i64 0))⟩] [1]) (.seq (.seq
  (.region none [ ⟨some 5, none, .ld (some 2) (.t 1)⟩, ⟨some 6, none, .call (.f 264) [((.t 5), .r)]⟩, ⟨some 7, none, .un .not (.t 6)⟩] [1, 7]) (.cond (.t 7) (.seq
  (.region none [ ⟨some 2, none, .mv (.c (.bool false))⟩, ⟨some 3, none, .mv (.c (.int .i64 1))⟩] [2, 3]) .ret) .skip)) (.seq (.seq
  (.region none [ ⟨some 8, none, .ld (some 2) (.t 1)⟩, ⟨some 9, none, .call (.f 299) [((.t 8), .r)]⟩, ⟨some 10, none, .call (.f 288) [((.t 9), .r)]⟩, ⟨some 11, none, .bin .gtr (.t 10) (.c (.int .i64 1))⟩] [1, 11]) (.cond (.t 11) (.seq
  (.region none [ ⟨some 2, none, .mv (.c (.bool false))⟩, ⟨some 3, none, .mv (.c (.int .i64 0))⟩] [2, 3]) .ret) .skip)) (.seq (.seq
  (.region none [ ⟨some 4, none, .mv (.c (.int .i64 1))⟩] [1, 4]) (.block 0 (.loop (.seq (.seq
  (.region none [ ⟨some 12, none, .mv (.t 4)⟩, ⟨some 13, none, .fld 0 (.t 1)⟩, ⟨some 14, none, .ld none (.t 13)⟩, ⟨some 15, none, .len (.t 14)⟩, ⟨some 16, none, .bin .lss (.t 12) (.t 15)⟩] [1, 4, 16]) (.cond (.t 16) .skip (.exit 0))) (.seq (.block 1 (.seq
  (.region none [ ⟨some 19, none, .ld (some 2) (.t 1)⟩, ⟨some 20, none, .mv (.t 4)⟩, ⟨some 21, none, .call (.f 329) [((.t 19), .r), ((.c (.int .i64 0)), .r), ((.t 20), .r)]⟩, ⟨some 22, none, .call (.f 288) [((.t 21), .r)]⟩, ⟨some 23, none, .bin .gtr (.t 22) (.c (.int .i64 1))⟩] [1, 4, 23]) (.cond (.t 23) (.seq
  (.region none [ ⟨some 2, none, .mv (.c (.bool false))⟩, ⟨some 3, none, .mv (.c (.int .i64 0))⟩] [2, 3]) .ret) .skip)))
  (.region none [ ⟨some 17, none, .mv (.t 4)⟩, ⟨some 18, none, .bin .add (.t 17) (.c (.int .i64 1))⟩, ⟨some 4, none, .mv (.t 18)⟩] [1, 4])))))) (.seq
  (.region none [ ⟨some 2, none, .mv (.c (.bool true))⟩, ⟨some 3, none, .mv (.c (.int .i64 0))⟩] [2, 3]) .ret)))))

def j33 : F where
 np := 3
 rs := [.t 6]
 body :=
  (.seq
  (.region none [ ⟨some 3, none, .box (.t 0)⟩, ⟨some 6, none, .asg (.c (.slice none 0 0))⟩] [1, 2, 3]) (.seq
  (.region (some [16, 17, 18, 19, 20]) [ ⟨some 16, none, .ld (some 2) (.t 3)⟩, ⟨some 17, none, .call (.f 273) [((.t 16), .r)]⟩, ⟨some 18, none, .fld 0 (.t 3)⟩, ⟨some 19, none, .ld none (.t 18)⟩, ⟨some 20, none, .len (.t 19)⟩, ⟨some 21, none, .call (.f 334) [((.t 20), .r)]⟩, ⟨some 7, none, .asg (.t 17)⟩, ⟨some 8, none, .asg (.t 21)⟩] [1, 2, 7, 8]) (.seq
  (.region none [ ⟨some 22, none, .mv (.t 8)⟩, ⟨some 23, none, .mv (.t 2)⟩, ⟨some 24, none, .mv (.t 1)⟩, ⟨some 25, none, .idx 1 (.t 22) (.t 23)⟩, ⟨none, none, .st none (.t 25) (.t 24)⟩] [7, 8]) (.seq (.seq
  (.region none [ ⟨some 9, none, .mv (.c (.bool true))⟩] [7, 8, 9]) (.block 0 (.loop (.seq (.seq
  (.region none [ ⟨some 26, none, .mv (.t 9)⟩] [7, 8, 26]) (.cond (.t 26) .skip (.exit 0))) (.block 1 (.seq
  (.region none [ ⟨some 9, none, .mv (.c (.bool false))⟩] [7, 8, 9]) (.seq
  (.region none [ ⟨some 10, none, .mv (.c (.int .i64 0))⟩] [7, 8, 9, 10]) (.block 2 (.loop (.seq (.seq
  (.region none [ ⟨some 27, none, .mv (.t 10)⟩, ⟨some 28, none, .mv (.t 8)⟩, ⟨some 29, none, .len (.t 28)⟩, ⟨some 30, none, .bin .lss (.t 27) (.t 29)⟩] [7, 8, 9, 10, 30]) (.cond (.t 30) .skip (.exit 2))) (.seq (.block 3 (.seq
  (.region none [ ⟨some 11, none, .mv (.c (.int .i64 0))⟩] [7, 8, 9, 10, 11]) (.block 4 (.loop (.seq (.seq
  (.region none [ ⟨some 33, none, .mv (.t 11)⟩, ⟨some 34, none, .mv (.t 10)⟩, ⟨some 35, none, .bin .lss (.t 33) (.t 34)⟩] [7, 8, 9, 10, 11, 35]) (.cond (.t 35) .skip (.exit 4))) (.seq (.block 5 (.seq (.seq
  (.region (some [38, 39, 40, 41, 42, 43, 44, 45]) [ ⟨some 38, none, .mv (.t 8)⟩, ⟨some 39, none, .mv (.t 10)⟩, ⟨some 40, none, .idx 1 (.t 38) (.t 39)⟩, ⟨some 41, none, .ld none (.t 40)⟩, ⟨some 42, none, .mv (.t 8)⟩, ⟨some 43, none, .mv (.t 11)⟩, ⟨some 44, none, .idx 1 (.t 42) (.t 43)⟩, ⟨some 45, none, .ld none (.t 44)⟩, ⟨some 46, none, .bin .neq (.t 41) (.t 45)⟩] [7, 8, 9, 10, 11, 46]) (.cond (.t 46) (.exit 5) .skip)) (.seq
  (.region none [ ⟨some 12, none, .mv (.c (.int .i64 0))⟩] [7, 8, 9, 10, 11, 12]) (.block 6 (.loop (.seq (.seq
  (.region none [ ⟨some 47, none, .mv (.t 12)⟩, ⟨some 48, none, .mv (.t 7)⟩, ⟨some 49, none, .len (.t 48)⟩, ⟨some 50, none, .bin .lss (.t 47) (.t 49)⟩] [7, 8, 9, 10, 11, 12, 50]) (.cond (.t 50) .skip (.exit 6))) (.seq (.block 7 (.seq
  (.region (some [13, 53, 54, 55, 56, 57, 58, 59, 60, 61, 62, 63, 64, 65, 66, 67, 68, 69, 70, 71, 72]) [ ⟨some 53, none, .mv (.t 8)⟩, ⟨some 54, none, .mv (.t 7)⟩, ⟨some 55, none, .mv (.t 12)⟩, ⟨some 56, none, .idx 1 (.t 54) (.t 55)⟩, ⟨some 57, none, .ld none (.t 56)⟩, ⟨some 58, none, .mv (.t 10)⟩, ⟨some 59, none, .idx 1 (.t 57) (.t 58)⟩, ⟨some 60, none, .ld none (.t 59)⟩, ⟨some 61, none, .idx 1 (.t 53) (.t 60)⟩, ⟨some 62, none, .ld none (.t 61)⟩, ⟨some 63, none, .mv (.t 8)⟩, ⟨some 64, none, .mv (.t 7)⟩, ⟨some 65, none, .mv (.t 12)⟩, ⟨some 66, none, .idx 1 (.t 64) (.t 65)⟩, ⟨some 67, none, .ld none (.t 66)⟩, ⟨some 68, none, .mv (.t 11)⟩, ⟨some 69, none, .idx 1 (.t 67) (.t 68)⟩, ⟨some 70, none, .ld none (.t 69)⟩, ⟨some 71, none, .idx 1 (.t 63) (.t 70)⟩, ⟨some 72, none, .ld none (.t 71)⟩, ⟨some 13, none, .mv (.t 62)⟩, ⟨some 14, none, .mv (.t 72)⟩] [7, 8, 9, 10, 11, 12, 13, 14]) (.seq
  (.region none [ ⟨some 15, none, .mv (.c (.int .i64 0))⟩] [7, 8, 9, 10, 11, 12, 13, 14, 15]) (.block 8 (.loop (.seq (.seq
  (.region none [ ⟨some 73, none, .mv (.t 15)⟩, ⟨some 74, none, .mv (.t 8)⟩, ⟨some 75, none, .len (.t 74)⟩, ⟨some 76, none, .bin .lss (.t 73) (.t 75)⟩, ⟨some 77, none, .mv (.t 76)⟩, ⟨some 78, (some (77, true)), .mv (.t 13)⟩, ⟨some 79, (some (77, true)), .mv (.t 14)⟩, ⟨some 80, (some (77, true)), .bin .neq (.t 78) (.t 79)⟩, ⟨some 81, none, .pick (.t 77) (.t 80) (.c (.bool false))⟩] [7, 8, 9, 10, 11, 12, 13, 14, 15, 81]) (.cond (.t 81) .skip (.exit 8))) (.seq (.block 9 (.seq
  (.region none [ ⟨some 84, none, .mv (.t 8)⟩, ⟨some 85, none, .mv (.t 15)⟩, ⟨some 86, none, .idx 1 (.t 84) (.t 85)⟩, ⟨some 87, none, .ld none (.t 86)⟩, ⟨some 88, none, .mv (.t 13)⟩, ⟨some 89, none, .bin .eql (.t 87) (.t 88)⟩] [7, 8, 9, 10, 11, 12, 13, 14, 15, 89]) (.cond (.t 89) (.seq
  (.region none [ ⟨some 90, none, .mv (.t 8)⟩, ⟨some 91, none, .mv (.t 15)⟩, ⟨some 92, none, .mv (.t 14)⟩, ⟨some 93, none, .idx 1 (.t 90) (.t 91)⟩, ⟨none, none, .st none (.t 93) (.t 92)⟩] [7, 8, 10, 11, 12, 13, 14, 15])
  (.region none [ ⟨some 9, none, .mv (.c (.bool true))⟩] [7, 8, 9, 10, 11, 12, 13, 14, 15])) .skip)))
  (.region none [ ⟨some 82, none, .mv (.t 15)⟩, ⟨some 83, none, .bin .add (.t 82) (.c (.int .i64 1))⟩, ⟨some 15, none, .mv (.t 83)⟩] [7, 8, 9, 10, 11, 12, 13, 14, 15]))))))))
  (.region none [ ⟨some 51, none, .mv (.t 12)⟩, ⟨some 52, none, .bin .add (.t 51) (.c (.int .i64 1))⟩, ⟨some 12, none, .mv (.t 52)⟩] [7, 8, 9, 10, 11, 12]))))))))
  (.region none [ ⟨some 36, none, .mv (.t 11)⟩, ⟨some 37, none, .bin .add (.t 36) (.c (.int .i64 1))⟩, ⟨some 11, none, .mv (.t 37)⟩] [7, 8, 9, 10, 11])))))))
  (.region none [ ⟨some 31, none, .mv (.t 10)⟩, ⟨some 32, none, .bin .add (.t 31) (.c (.int .i64 1))⟩, ⟨some 10, none, .mv (.t 32)⟩] [7, 8, 9, 10])))))))))))) (.seq
  (.region none [ ⟨some 94, none, .mv (.t 8)⟩, ⟨some 95, none, .call (.f 385) [((.t 94), .r)]⟩, ⟨some 6, none, .asg (.t 95)⟩] [6]) .ret)))))

def j1i : F where
 np := 1
 rs := [.t 2, .t 3]
 body :=
  (.seq
  (.region none [ ⟨some 1, none, .box (.t 0)⟩, ⟨some 2, none, .mv (.c (.bool false))⟩, ⟨some 3, none, .mv (.c (.int .i64 0))⟩] [1]) (.seq (.seq
  (.region none [ ⟨some 5, none, .ld (some 2) (.t 1)⟩, ⟨some 6, none, .call (.f 266) [((.t 5), .r)]⟩, ⟨some 7, none, .un .not (.t 6)⟩] [1, 7]) (.cond (.t 7) (.seq
  (.region none [ ⟨some 2, none, .mv (.c (.bool false))⟩, ⟨some 3, none, .mv (.c (.int .i64 1))⟩] [2, 3]) .ret) .skip)) (.seq (.seq
  (.region none [ ⟨some 8, none, .ld (some 2) (.t 1)⟩, ⟨some 9, none, .call (.f 300) [((.t 8), .r)]⟩, ⟨some 10, none, .un .not (.t 9)⟩] [1, 10]) (.cond (.t 10) (.seq
  (.region none [ ⟨some 2, none, .mv (.c (.bool false))⟩, ⟨some 3, none, .mv (.c (.int .i64 0))⟩] [2, 3]) .ret) .skip)) (.seq (.seq
  (.region none [ ⟨some 4, none, .mv (.c (.int .i64 1))⟩] [1, 4]) (.block 0 (.loop (.seq (.seq
  (.region none [ ⟨some 11, none, .mv (.t 4)⟩, ⟨some 12, none, .fld 0 (.t 1)⟩, ⟨some 13, none, .ld none (.t 12)⟩, ⟨some 14, none, .len (.t 13)⟩, ⟨some 15, none, .bin .lss (.t 11) (.t 14)⟩] [1, 4, 15]) (.cond (.t 15) .skip (.exit 0))) (.seq (.block 1 (.seq
  (.region none [ ⟨some 18, none, .ld (some 2) (.t 1)⟩, ⟨some 19, none, .mv (.t 4)⟩, ⟨some 20, none, .call (.f 330) [((.t 18), .r), ((.c (.int .i64 0)), .r), ((.t 19), .r)]⟩, ⟨some 21, none, .call (.f 290) [((.t 20), .r)]⟩, ⟨some 22, none, .bin .gtr (.t 21) (.c (.int .i64 0))⟩] [1, 4, 22]) (.cond (.t 22) (.seq
  (.region none [ ⟨some 2, none, .mv (.c (.bool false))⟩, ⟨some 3, none, .mv (.c (.int .i64 0))⟩] [2, 3]) .ret) .skip)))
  (.region none [ ⟨some 16, none, .mv (.t 4)⟩, ⟨some 17, none, .bin .add (.t 16) (.c (.int .i64 1))⟩, ⟨some 4, none, .mv (.t 17)⟩] [1, 4])))))) (.seq
  (.region none [ ⟨some 2, none, .mv (.c (.bool true))⟩, ⟨some 3, none, .mv (.c (.int .i64 0))⟩] [2, 3]) .ret)))))

def j3l : F where
 np := 3
 rs := [.t 6]
 body :=
  (.seq
  (.region none [ ⟨some 3, none, .box (.t 0)⟩, ⟨some 6, none, .asg (.c (.slice none 0 0))⟩] [1, 2, 3]) (.seq
  (.region none [ ⟨some 18, none, .fld 0 (.t 3)⟩, ⟨some 19, none, .ld none (.t 18)⟩, ⟨some 20, none, .len (.t 19)⟩, ⟨some 21, none, .call (.f 335) [((.t 20), .r)]⟩, ⟨some 7, none, .asg (.t 21)⟩] [1, 2, 3, 7]) (.seq
  (.region none [ ⟨some 22, none, .mv (.t 1)⟩, ⟨some 23, none, .mv (.t 2)⟩, ⟨some 24, none, .build [(.int .i64 0), (.int .i64 0)] [(0, 1, (.t 22)), (1, 1, (.t 23))]⟩, ⟨some 25, none, .bsls 2 false false [(.t 24)]⟩, ⟨some 8, none, .asg (.t 25)⟩] [3, 7, 8]) (.seq (.seq
  (.region none [ ⟨some 9, none, .mv (.c (.int .i64 0))⟩] [3, 7, 8, 9]) (.block 0 (.loop (.seq (.seq
  (.region none [ ⟨some 26, none, .mv (.t 9)⟩, ⟨some 27, none, .mv (.t 8)⟩, ⟨some 28, none, .len (.t 27)⟩, ⟨some 29, none, .bin .lss (.t 26) (.t 28)⟩] [3, 7, 8, 9, 29]) (.cond (.t 29) .skip (.exit 0))) (.seq (.block 1 (.seq
  (.region (some [10, 32, 33, 34, 35, 36, 37, 38, 39, 40, 41]) [ ⟨some 32, none, .mv (.t 8)⟩, ⟨some 33, none, .mv (.t 9)⟩, ⟨some 34, none, .idx 2 (.t 32) (.t 33)⟩, ⟨some 35, none, .fld 0 (.t 34)⟩, ⟨some 36, none, .ld none (.t 35)⟩, ⟨some 37, none, .mv (.t 8)⟩, ⟨some 38, none, .mv (.t 9)⟩, ⟨some 39, none, .idx 2 (.t 37) (.t 38)⟩, ⟨some 40, none, .fld 1 (.t 39)⟩, ⟨some 41, none, .ld none (.t 40)⟩, ⟨some 10, none, .mv (.t 36)⟩, ⟨some 11, none, .mv (.t 41)⟩] [3, 7, 8, 9, 10, 11]) (.seq
  (.region (some [12, 42, 43, 44, 45, 46, 47, 48, 49, 50, 51, 52, 53, 54, 55, 56, 57, 58, 59]) [ ⟨some 42, none, .mv (.t 7)⟩, ⟨some 43, none, .mv (.t 10)⟩, ⟨some 44, none, .idx 1 (.t 42) (.t 43)⟩, ⟨some 45, none, .ld none (.t 44)⟩, ⟨some 46, none, .mv (.t 7)⟩, ⟨some 47, none, .mv (.t 11)⟩, ⟨some 48, none, .idx 1 (.t 46) (.t 47)⟩, ⟨some 49, none, .ld none (.t 48)⟩, ⟨some 50, none, .mm true (.t 45) (.t 49)⟩, ⟨some 51, none, .mv (.t 7)⟩, ⟨some 52, none, .mv (.t 10)⟩, ⟨some 53, none, .idx 1 (.t 51) (.t 52)⟩, ⟨some 54, none, .ld none (.t 53)⟩, ⟨some 55, none, .mv (.t 7)⟩, ⟨some 56, none, .mv (.t 11)⟩, ⟨some 57, none, .idx 1 (.t 55) (.t 56)⟩, ⟨some 58, none, .ld none (.t 57)⟩, ⟨some 59, none, .mm false (.t 54) (.t 58)⟩, ⟨some 12, none, .mv (.t 50)⟩, ⟨some 13, none, .mv (.t 59)⟩] [3, 7, 8, 9, 10, 11, 12, 13]) (.seq (.seq
  (.region none [ ⟨some 60, none, .mv (.t 12)⟩, ⟨some 61, none, .mv (.t 13)⟩, ⟨some 62, none, .bin .eql (.t 60) (.t 61)⟩] [3, 7, 8, 9, 10, 11, 12, 13, 62]) (.cond (.t 62) (.exit 1) .skip)) (.seq (.seq
  (.region none [ ⟨some 63, none, .mv (.t 7)⟩, ⟨some 64, none, .len (.t 63)⟩, ⟨some 65, none, .mv (.c (.int .i64 0))⟩] [3, 7, 8, 9, 10, 11, 12, 13, 63, 64, 65]) (.block 2 (.loop (.seq
  (.region none [ ⟨some 66, none, .bin .lss (.t 65) (.t 64)⟩] [3, 7, 8, 9, 10, 11, 12, 13, 63, 64, 65, 66]) (.seq (.cond (.t 66) .skip (.exit 2)) (.seq (.block 3 (.seq
  (.region none [ ⟨some 67, none, .mv (.t 65)⟩, ⟨some 68, none, .idx 1 (.t 63) (.t 65)⟩, ⟨some 69, none, .ld none (.t 68)⟩, ⟨some 14, none, .mv (.t 67)⟩, ⟨some 15, none, .mv (.t 69)⟩] [3, 7, 8, 9, 10, 11, 12, 13, 14, 15, 63, 64, 65]) (.seq
  (.region none [ ⟨some 70, none, .mv (.t 15)⟩, ⟨some 71, none, .mv (.t 12)⟩, ⟨some 72, none, .bin .eql (.t 70) (.t 71)⟩] [3, 7, 8, 9, 10, 11, 12, 13, 14, 63, 64, 65, 72]) (.cond (.t 72)
  (.region none [ ⟨some 73, none, .mv (.t 7)⟩, ⟨some 74, none, .mv (.t 14)⟩, ⟨some 75, none, .mv (.t 13)⟩, ⟨some 76, none, .idx 1 (.t 73) (.t 74)⟩, ⟨none, none, .st none (.t 76) (.t 75)⟩] [3, 7, 8, 9, 10, 11, 12, 13, 63, 64, 65]) .skip))))
  (.region none [ ⟨some 77, none, .bin .add (.t 65) (.c (.int .i64 1))⟩, ⟨some 65, none, .mv (.t 77)⟩] [3, 7, 8, 9, 10, 11, 12, 13, 63, 64, 65]))))))) (.seq
  (.region none [ ⟨some 78, none, .ld (some 2) (.t 3)⟩, ⟨some 79, none, .call (.f 271) [((.t 78), .r)]⟩, ⟨some 80, none, .len (.t 79)⟩, ⟨some 81, none, .mv (.c (.int .i64 0))⟩] [3, 7, 8, 9, 10, 11, 79, 80, 81]) (.block 4 (.loop (.seq
  (.region none [ ⟨some 82, none, .bin .lss (.t 81) (.t 80)⟩] [3, 7, 8, 9, 10, 11, 79, 80, 81, 82]) (.seq (.cond (.t 82) .skip (.exit 4)) (.seq (.block 5 (.seq
  (.region none [ ⟨some 83, none, .idx 1 (.t 79) (.t 81)⟩, ⟨some 84, none, .ld none (.t 83)⟩, ⟨some 17, none, .asg (.t 84)⟩] [3, 7, 8, 9, 10, 11, 17, 79, 80, 81])
  (.region (some [85, 86, 87, 88, 89, 90, 91, 92, 93, 94, 95]) [ ⟨some 85, none, .mv (.t 8)⟩, ⟨some 86, none, .mv (.t 17)⟩, ⟨some 87, none, .mv (.t 10)⟩, ⟨some 88, none, .idx 1 (.t 86) (.t 87)⟩, ⟨some 89, none, .ld none (.t 88)⟩, ⟨some 90, none, .mv (.t 17)⟩, ⟨some 91, none, .mv (.t 11)⟩, ⟨some 92, none, .idx 1 (.t 90) (.t 91)⟩, ⟨some 93, none, .ld none (.t 92)⟩, ⟨some 94, none, .build [(.int .i64 0), (.int .i64 0)] [(0, 1, (.t 89)), (1, 1, (.t 93))]⟩, ⟨some 95, none, .bslv 2 [(.t 94)]⟩, ⟨some 96, none, .app true 2 (.t 85) (.t 95)⟩, ⟨some 8, none, .asg (.t 96)⟩] [3, 7, 8, 9, 10, 11, 79, 80, 81])))
  (.region none [ ⟨some 97, none, .bin .add (.t 81) (.c (.int .i64 1))⟩, ⟨some 81, none, .mv (.t 97)⟩] [3, 7, 8, 9, 10, 11, 79, 80, 81]))))))))))))
  (.region none [ ⟨some 30, none, .mv (.t 9)⟩, ⟨some 31, none, .bin .add (.t 30) (.c (.int .i64 1))⟩, ⟨some 9, none, .mv (.t 31)⟩] [3, 7, 8, 9])))))) (.seq
  (.region none [ ⟨some 98, none, .mv (.t 7)⟩, ⟨some 99, none, .call (.f 386) [((.t 98), .r)]⟩, ⟨some 6, none, .asg (.t 99)⟩] [6]) .ret)))))

def j03 : F where
 np := 3
 rs := [.t 6, .t 7]
 body :=
  (.seq
  (.region none [ ⟨some 3, none, .box (.t 0)⟩, ⟨some 6, none, .asg (.c (.slice none 0 0))⟩, ⟨some 7, none, .mv (.c (.int .i64 0))⟩] [1, 2, 3]) (.seq (.seq
  (.region none [ ⟨some 9, none, .ld (some 2) (.t 3)⟩, ⟨some 10, none, .call (.f 264) [((.t 9), .r)]⟩, ⟨some 11, none, .un .not (.t 10)⟩] [1, 2, 3, 11]) (.cond (.t 11) (.seq
  (.region none [ ⟨some 6, none, .asg (.c (.slice none 0 0))⟩, ⟨some 7, none, .mv (.c (.int .i64 1))⟩] [6, 7]) .ret) .skip)) (.seq
  (.region none [ ⟨some 12, none, .fld 0 (.t 3)⟩, ⟨some 13, none, .ld none (.t 12)⟩, ⟨some 14, none, .len (.t 13)⟩, ⟨some 8, none, .mv (.t 14)⟩] [1, 2, 3, 8]) (.seq (.seq
  (.region none [ ⟨some 15, none, .mv (.t 1)⟩, ⟨some 16, none, .mv (.t 8)⟩, ⟨some 17, none, .bin .sub (.t 16) (.c (.int .i64 1))⟩, ⟨some 18, none, .call (.f 30) [((.t 15), .r), ((.c (.int .i64 0)), .r), ((.t 17), .r)]⟩, ⟨some 19, none, .un .not (.t 18)⟩, ⟨some 20, none, .mv (.t 19)⟩, ⟨some 21, (some (20, false)), .mv (.t 2)⟩, ⟨some 22, (some (20, false)), .mv (.t 8)⟩, ⟨some 23, (some (20, false)), .bin .sub (.t 22) (.c (.int .i64 1))⟩, ⟨some 24, (some (20, false)), .call (.f 30) [((.t 21), .r), ((.c (.int .i64 0)), .r), ((.t 23), .r)]⟩, ⟨some 25, (some (20, false)), .un .not (.t 24)⟩, ⟨some 26, none, .pick (.t 20) (.c (.bool true)) (.t 25)⟩, ⟨some 27, none, .mv (.t 26)⟩, ⟨some 28, (some (27, false)), .mv (.t 1)⟩, ⟨some 29, (some (27, false)), .mv (.t 2)⟩, ⟨some 30, (some (27, false)), .bin .eql (.t 28) (.t 29)⟩, ⟨some 31, none, .pick (.t 27) (.c (.bool true)) (.t 30)⟩] [1, 2, 3, 31]) (.cond (.t 31) (.seq
  (.region none [ ⟨some 6, none, .asg (.c (.slice none 0 0))⟩, ⟨some 7, none, .mv (.c (.int .i64 2))⟩] [6, 7]) .ret) .skip)) (.seq (.seq
  (.region none [ ⟨some 32, none, .ld (some 2) (.t 3)⟩, ⟨some 33, none, .call (.f 299) [((.t 32), .r)]⟩, ⟨some 34, none, .call (.f 288) [((.t 33), .r)]⟩, ⟨some 35, none, .bin .gtr (.t 34) (.c (.int .i64 1))⟩] [1, 2, 3, 35]) (.cond (.t 35) (.seq
  (.region none [ ⟨some 6, none, .asg (.c (.slice none 0 0))⟩, ⟨some 7, none, .mv (.c (.int .i64 5))⟩] [6, 7]) .ret) .skip)) (.seq
  (.region none [ ⟨some 36, none, .ld (some 2) (.t 3)⟩, ⟨some 37, none, .mv (.t 1)⟩, ⟨some 38, none, .mv (.t 2)⟩, ⟨some 39, none, .call (.f 329) [((.t 36), .r), ((.t 37), .r), ((.t 38), .r)]⟩, ⟨some 6, none, .asg (.t 39)⟩, ⟨some 7, none, .mv (.c (.int .i64 0))⟩] [6, 7]) .ret))))))

def j04 : F where
 np := 3
 rs := [.t 6, .t 7]
 body :=
  (.seq
  (.region none [ ⟨some 3, none, .box (.t 0)⟩, ⟨some 6, none, .asg (.c (.slice none 0 0))⟩, ⟨some 7, none, .mv (.c (.int .i64 0))⟩] [1, 2, 3]) (.seq (.seq
  (.region none [ ⟨some 8, none, .ld (some 2) (.t 3)⟩, ⟨some 9, none, .call (.f 266) [((.t 8), .r)]⟩, ⟨some 10, none, .un .not (.t 9)⟩] [1, 2, 3, 10]) (.cond (.t 10) (.seq
  (.region none [ ⟨some 6, none, .asg (.c (.slice none 0 0))⟩, ⟨some 7, none, .mv (.c (.int .i64 1))⟩] [6, 7]) .ret) .skip)) (.seq (.seq
  (.region none [ ⟨some 11, none, .fld 0 (.t 3)⟩, ⟨some 12, none, .ld none (.t 11)⟩, ⟨some 13, none, .len (.t 12)⟩, ⟨some 14, none, .mv (.t 1)⟩, ⟨some 15, none, .mv (.t 2)⟩, ⟨some 16, none, .bsl [(.t 14), (.t 15)]⟩, ⟨some 17, none, .call (.f 39) [((.t 13), .r), ((.t 16), .r)]⟩, ⟨some 18, none, .un .not (.t 17)⟩, ⟨some 19, none, .mv (.t 18)⟩, ⟨some 20, (some (19, false)), .mv (.t 1)⟩, ⟨some 21, (some (19, false)), .mv (.t 2)⟩, ⟨some 22, (some (19, false)), .bin .eql (.t 20) (.t 21)⟩, ⟨some 23, none, .pick (.t 19) (.c (.bool true)) (.t 22)⟩] [1, 2, 3, 23]) (.cond (.t 23) (.seq
  (.region none [ ⟨some 6, none, .asg (.c (.slice none 0 0))⟩, ⟨some 7, none, .mv (.c (.int .i64 2))⟩] [6, 7]) .ret) .skip)) (.seq (.seq
  (.region none [ ⟨some 24, none, .ld (some 2) (.t 3)⟩, ⟨some 25, none, .call (.f 300) [((.t 24), .r)]⟩, ⟨some 26, none, .un .not (.t 25)⟩] [1, 2, 3, 26]) (.cond (.t 26) (.seq
  (.region none [ ⟨some 6, none, .asg (.c (.slice none 0 0))⟩, ⟨some 7, none, .mv (.c (.int .i64 5))⟩] [6, 7]) .ret) .skip)) (.seq
  (.region none [ ⟨some 27, none, .ld (some 2) (.t 3)⟩, ⟨some 28, none, .mv (.t 1)⟩, ⟨some 29, none, .mv (.t 2)⟩, ⟨some 30, none, .call (.f 330) [((.t 27), .r), ((.t 28), .r), ((.t 29), .r)]⟩, ⟨some 6, none, .asg (.t 30)⟩, ⟨some 7, none, .mv (.c (.int .i64 0))⟩] [6, 7]) .ret)))))

end Go.Mch
