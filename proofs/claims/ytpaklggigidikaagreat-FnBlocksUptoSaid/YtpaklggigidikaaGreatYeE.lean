/- Compact code of the sorting of rows. -/
import Derived.Test.YtpaklggigidikaaGreatM1
namespace Go.Mch

def j32 : F where
 np := 1
 rs := [.t 2]
 body :=
  (.seq
  (.region none [ ⟨some 1, none, .box (.t 0)⟩, ⟨some 2, none, .asg (.c (.slice none 0 0))⟩] [1]) (.seq
  (.region (some [3, 4, 5, 6, 7]) [ ⟨some 3, none, .fld 0 (.t 1)⟩, ⟨some 4, none, .ld none (.t 3)⟩, ⟨some 5, none, .len (.t 4)⟩, ⟨some 6, none, .ld (some 2) (.t 1)⟩, ⟨some 7, none, .call (.f 273) [((.t 6), .r)]⟩, ⟨some 8, none, .call (.f 387) [((.t 5), .r), ((.t 7), .r)]⟩, ⟨some 2, none, .asg (.t 8)⟩] [2]) .ret))

def j36 : F where
 np := 2
 rs := [.t 4]
 body :=
  (.seq
  (.region none [ ⟨some 4, none, .asg (.c (.slice none 0 0))⟩] [0, 1]) (.seq
  (.region none [ ⟨some 11, none, .bsl []⟩, ⟨some 5, none, .asg (.t 11)⟩] [0, 1, 5]) (.seq (.seq
  (.region none [ ⟨some 6, none, .mv (.c (.int .i64 0))⟩] [0, 1, 5, 6]) (.block 0 (.loop (.seq (.seq
  (.region none [ ⟨some 12, none, .mv (.t 6)⟩, ⟨some 13, none, .mv (.t 0)⟩, ⟨some 14, none, .bin .lss (.t 12) (.t 13)⟩] [0, 1, 5, 6, 14]) (.cond (.t 14) .skip (.exit 0))) (.seq (.block 1
  (.region none [ ⟨some 17, none, .mv (.t 5)⟩, ⟨some 18, none, .bsl [(.c (.int .i64 (-1)))]⟩, ⟨some 19, none, .app true 1 (.t 17) (.t 18)⟩, ⟨some 5, none, .asg (.t 19)⟩] [0, 1, 5, 6]))
  (.region none [ ⟨some 15, none, .mv (.t 6)⟩, ⟨some 16, none, .bin .add (.t 15) (.c (.int .i64 1))⟩, ⟨some 6, none, .mv (.t 16)⟩] [0, 1, 5, 6])))))) (.seq
  (.region none [ ⟨some 7, none, .mv (.c (.int .i64 0))⟩] [0, 1, 5, 7]) (.seq (.seq
  (.region none [ ⟨some 8, none, .mv (.c (.int .i64 0))⟩] [0, 1, 5, 7, 8]) (.block 2 (.loop (.seq (.seq
  (.region none [ ⟨some 20, none, .mv (.t 8)⟩, ⟨some 21, none, .mv (.t 0)⟩, ⟨some 22, none, .bin .lss (.t 20) (.t 21)⟩] [0, 1, 5, 7, 8, 22]) (.cond (.t 22) .skip (.exit 2))) (.seq (.block 3 (.seq (.seq
  (.region none [ ⟨some 25, none, .mv (.t 5)⟩, ⟨some 26, none, .mv (.t 8)⟩, ⟨some 27, none, .idx 1 (.t 25) (.t 26)⟩, ⟨some 28, none, .ld none (.t 27)⟩, ⟨some 29, none, .bin .geq (.t 28) (.c (.int .i64 0))⟩] [0, 1, 5, 7, 8, 29]) (.cond (.t 29) (.exit 3) .skip)) (.seq
  (.region none [ ⟨some 30, none, .mv (.t 1)⟩, ⟨some 31, none, .mv (.t 8)⟩, ⟨some 32, none, .call (.f 430) [((.t 30), .r), ((.t 31), .r)]⟩, ⟨some 9, none, .asg (.t 32)⟩] [0, 1, 5, 7, 8, 9]) (.seq (.seq
  (.region none [ ⟨some 10, none, .mv (.c (.int .i64 0))⟩] [0, 1, 5, 7, 8, 9, 10]) (.block 4 (.loop (.seq (.seq
  (.region none [ ⟨some 33, none, .mv (.t 10)⟩, ⟨some 34, none, .mv (.t 9)⟩, ⟨some 35, none, .len (.t 34)⟩, ⟨some 36, none, .bin .lss (.t 33) (.t 35)⟩] [0, 1, 5, 7, 8, 9, 10, 36]) (.cond (.t 36) .skip (.exit 4))) (.seq (.block 5
  (.region none [ ⟨some 39, none, .mv (.t 5)⟩, ⟨some 40, none, .mv (.t 9)⟩, ⟨some 41, none, .mv (.t 10)⟩, ⟨some 42, none, .idx 1 (.t 40) (.t 41)⟩, ⟨some 43, none, .ld none (.t 42)⟩, ⟨some 44, none, .mv (.t 7)⟩, ⟨some 45, none, .idx 1 (.t 39) (.t 43)⟩, ⟨none, none, .st none (.t 45) (.t 44)⟩] [0, 1, 5, 7, 8, 9, 10]))
  (.region none [ ⟨some 37, none, .mv (.t 10)⟩, ⟨some 38, none, .bin .add (.t 37) (.c (.int .i64 1))⟩, ⟨some 10, none, .mv (.t 38)⟩] [0, 1, 5, 7, 8, 9, 10]))))))
  (.region none [ ⟨some 46, none, .mv (.t 7)⟩, ⟨some 47, none, .bin .add (.t 46) (.c (.int .i64 1))⟩, ⟨some 7, none, .mv (.t 47)⟩] [0, 1, 5, 7, 8])))))
  (.region none [ ⟨some 23, none, .mv (.t 8)⟩, ⟨some 24, none, .bin .add (.t 23) (.c (.int .i64 1))⟩, ⟨some 8, none, .mv (.t 24)⟩] [0, 1, 5, 7, 8])))))) (.seq
  (.region none [ ⟨some 48, none, .mv (.t 5)⟩, ⟨some 4, none, .asg (.t 48)⟩] [4]) .ret))))))

def j2i : F where
 np := 1
 rs := [.t 2]
 body :=
  (.seq
  (.region none [ ⟨some 1, none, .box (.t 0)⟩, ⟨some 2, none, .asg (.c (.slice none 0 0))⟩] [1]) (.seq
  (.region (some [3, 4, 5, 6, 7]) [ ⟨some 3, none, .fld 0 (.t 1)⟩, ⟨some 4, none, .ld none (.t 3)⟩, ⟨some 5, none, .len (.t 4)⟩, ⟨some 6, none, .ld (some 2) (.t 1)⟩, ⟨some 7, none, .call (.f 271) [((.t 6), .r)]⟩, ⟨some 8, none, .call (.f 388) [((.t 5), .r), ((.t 7), .r)]⟩, ⟨some 2, none, .asg (.t 8)⟩] [2]) .ret))

end Go.Mch
