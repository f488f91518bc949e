/- Compact code of the functions that statements 13 to 36 reach further. -/
import Derived.Test.YtkcgdmjdkbgmkaaM1
namespace Go.Mch

def c_spec_l03Image : F where
 np := 2
 rs := [.t 4]
 body :=
  (.seq
  (.region none [ ⟨some 4, none, .asg (.c (.slice none 0 0))⟩] [0, 1]) (.seq
  (.region none [ ⟨some 8, none, .mv (.t 0)⟩, ⟨some 9, none, .call (.f 280) [((.t 8), .r)]⟩, ⟨some 5, none, .asg (.t 9)⟩] [0, 1, 5]) (.seq (.seq
  (.region none [ ⟨some 6, none, .mv (.c (.int .i64 0))⟩] [0, 1, 5, 6]) (.block 0 (.loop (.seq (.seq
  (.region none [ ⟨some 10, none, .mv (.t 6)⟩, ⟨some 11, none, .mv (.t 0)⟩, ⟨some 12, none, .len (.t 11)⟩, ⟨some 13, none, .bin .lss (.t 10) (.t 12)⟩] [0, 1, 5, 6, 13]) (.cond (.t 13) .skip (.exit 0))) (.seq (.block 1 (.seq
  (.region none [ ⟨some 7, none, .mv (.c (.int .i64 0))⟩] [0, 1, 5, 6, 7]) (.block 2 (.loop (.seq (.seq
  (.region none [ ⟨some 16, none, .mv (.t 7)⟩, ⟨some 17, none, .mv (.t 0)⟩, ⟨some 18, none, .len (.t 17)⟩, ⟨some 19, none, .bin .lss (.t 16) (.t 18)⟩] [0, 1, 5, 6, 7, 19]) (.cond (.t 19) .skip (.exit 2))) (.seq (.block 3
  (.region (some [22, 23, 24, 25, 26, 27, 28, 29, 30, 31, 32, 33, 34, 35, 36, 37, 38, 39, 40, 41, 42]) [ ⟨some 22, none, .mv (.t 5)⟩, ⟨some 23, none, .mv (.t 1)⟩, ⟨some 24, none, .mv (.t 6)⟩, ⟨some 25, none, .idx 1 (.t 23) (.t 24)⟩, ⟨some 26, none, .ld none (.t 25)⟩, ⟨some 27, none, .idx 1 (.t 22) (.t 26)⟩, ⟨some 28, none, .ld none (.t 27)⟩, ⟨some 29, none, .mv (.t 1)⟩, ⟨some 30, none, .mv (.t 7)⟩, ⟨some 31, none, .idx 1 (.t 29) (.t 30)⟩, ⟨some 32, none, .ld none (.t 31)⟩, ⟨some 33, none, .mv (.t 1)⟩, ⟨some 34, none, .mv (.t 0)⟩, ⟨some 35, none, .mv (.t 6)⟩, ⟨some 36, none, .idx 1 (.t 34) (.t 35)⟩, ⟨some 37, none, .ld none (.t 36)⟩, ⟨some 38, none, .mv (.t 7)⟩, ⟨some 39, none, .idx 1 (.t 37) (.t 38)⟩, ⟨some 40, none, .ld none (.t 39)⟩, ⟨some 41, none, .idx 1 (.t 33) (.t 40)⟩, ⟨some 42, none, .ld none (.t 41)⟩, ⟨some 43, none, .idx 1 (.t 28) (.t 32)⟩, ⟨none, none, .st none (.t 43) (.t 42)⟩] [0, 1, 5, 6, 7]))
  (.region none [ ⟨some 20, none, .mv (.t 7)⟩, ⟨some 21, none, .bin .add (.t 20) (.c (.int .i64 1))⟩, ⟨some 7, none, .mv (.t 21)⟩] [0, 1, 5, 6, 7])))))))
  (.region none [ ⟨some 14, none, .mv (.t 6)⟩, ⟨some 15, none, .bin .add (.t 14) (.c (.int .i64 1))⟩, ⟨some 6, none, .mv (.t 15)⟩] [0, 1, 5, 6])))))) (.seq
  (.region none [ ⟨some 44, none, .mv (.t 5)⟩, ⟨some 4, none, .asg (.t 44)⟩] [4]) .ret))))

def c_spec_l01Back : F where
 np := 1
 rs := [.t 2]
 body :=
  (.seq
  (.region none [ ⟨some 2, none, .asg (.c (.slice none 0 0))⟩] [0]) (.seq
  (.region none [ ⟨some 5, none, .mv (.t 0)⟩, ⟨some 6, none, .len (.t 5)⟩, ⟨some 7, none, .mks (.int .i64 0) (.t 6)⟩, ⟨some 3, none, .asg (.t 7)⟩] [0, 3]) (.seq (.seq
  (.region none [ ⟨some 4, none, .mv (.c (.int .i64 0))⟩] [0, 3, 4]) (.block 0 (.loop (.seq (.seq
  (.region none [ ⟨some 8, none, .mv (.t 4)⟩, ⟨some 9, none, .mv (.t 0)⟩, ⟨some 10, none, .len (.t 9)⟩, ⟨some 11, none, .bin .lss (.t 8) (.t 10)⟩] [0, 3, 4, 11]) (.cond (.t 11) .skip (.exit 0))) (.seq (.block 1
  (.region none [ ⟨some 14, none, .mv (.t 3)⟩, ⟨some 15, none, .mv (.t 0)⟩, ⟨some 16, none, .mv (.t 4)⟩, ⟨some 17, none, .idx 1 (.t 15) (.t 16)⟩, ⟨some 18, none, .ld none (.t 17)⟩, ⟨some 19, none, .mv (.t 4)⟩, ⟨some 20, none, .idx 1 (.t 14) (.t 18)⟩, ⟨none, none, .st none (.t 20) (.t 19)⟩] [0, 3, 4]))
  (.region none [ ⟨some 12, none, .mv (.t 4)⟩, ⟨some 13, none, .bin .add (.t 12) (.c (.int .i64 1))⟩, ⟨some 4, none, .mv (.t 13)⟩] [0, 3, 4])))))) (.seq
  (.region none [ ⟨some 21, none, .mv (.t 3)⟩, ⟨some 2, none, .asg (.t 21)⟩] [2]) .ret))))

def c_impl_solutionBy : F where
 np := 2
 rs := [.cell 4 (some 2)]
 body :=
  (.seq
  (.region none [ ⟨some 3, none, .box (.t 1)⟩, ⟨some 4, none, .alloc [(.slice none 0 0), (.slice none 0 0)]⟩] [0, 3, 4]) (.seq
  (.region none [ ⟨some 5, none, .mv (.t 0)⟩, ⟨some 6, none, .fnc 391 [(.t 3)]⟩, ⟨some 7, none, .call (.f 376) [((.t 5), .r), ((.t 6), .r)]⟩, ⟨some 8, none, .mv (.t 0)⟩, ⟨some 9, none, .fnc 392 [(.t 3)]⟩, ⟨some 10, none, .call (.f 376) [((.t 8), .r), ((.t 9), .r)]⟩, ⟨some 11, none, .build [(.slice none 0 0), (.slice none 0 0)] [(0, 1, (.t 7)), (1, 1, (.t 10))]⟩, ⟨none, none, .st (some 2) (.t 4) (.t 11)⟩] [4]) .ret))

def c_impl_solutionBy_1 : F where
 np := 3
 rs := [.t 5]
 body :=
  (.seq
  (.region none [ ⟨some 5, none, .mv (.c (.int .i64 0))⟩] [0, 1, 2]) (.seq
  (.region none [ ⟨some 9, none, .ld none (.t 2)⟩, ⟨some 10, none, .mv (.t 0)⟩, ⟨some 11, none, .mv (.t 1)⟩, ⟨some 12, none, .call (.t 9) [((.t 10), .r), ((.t 11), .r)]⟩, ⟨some 8, none, .mv (.t 12)⟩, ⟨some 13, none, .ext (.t 8) 0⟩, ⟨some 14, none, .ext (.t 8) 1⟩, ⟨some 6, none, .mv (.t 13)⟩, ⟨some 7, none, .mv (.t 14)⟩] [6]) (.seq
  (.region none [ ⟨some 15, none, .mv (.t 6)⟩, ⟨some 5, none, .mv (.t 15)⟩] [5]) .ret)))

def c_impl_solutionBy_2 : F where
 np := 3
 rs := [.t 5]
 body :=
  (.seq
  (.region none [ ⟨some 5, none, .mv (.c (.int .i64 0))⟩] [0, 1, 2]) (.seq
  (.region none [ ⟨some 9, none, .ld none (.t 2)⟩, ⟨some 10, none, .mv (.t 0)⟩, ⟨some 11, none, .mv (.t 1)⟩, ⟨some 12, none, .call (.t 9) [((.t 10), .r), ((.t 11), .r)]⟩, ⟨some 8, none, .mv (.t 12)⟩, ⟨some 13, none, .ext (.t 8) 0⟩, ⟨some 14, none, .ext (.t 8) 1⟩, ⟨some 6, none, .mv (.t 13)⟩, ⟨some 7, none, .mv (.t 14)⟩] [7]) (.seq
  (.region none [ ⟨some 15, none, .mv (.t 7)⟩, ⟨some 5, none, .mv (.t 15)⟩] [5]) .ret)))

def c_impl_increasing : F where
 np := 1
 rs := [.t 2]
 body :=
  (.seq
  (.region none [ ⟨some 2, none, .mv (.c (.bool false))⟩] [0]) (.seq (.seq
  (.region none [ ⟨some 3, none, .mv (.c (.int .i64 1))⟩] [0, 3]) (.block 0 (.loop (.seq (.seq
  (.region none [ ⟨some 4, none, .mv (.t 3)⟩, ⟨some 5, none, .mv (.t 0)⟩, ⟨some 6, none, .len (.t 5)⟩, ⟨some 7, none, .bin .lss (.t 4) (.t 6)⟩] [0, 3, 7]) (.cond (.t 7) .skip (.exit 0))) (.seq (.block 1 (.seq
  (.region (some [10, 11, 12, 13, 14, 15, 16, 17, 18]) [ ⟨some 10, none, .mv (.t 0)⟩, ⟨some 11, none, .mv (.t 3)⟩, ⟨some 12, none, .bin .sub (.t 11) (.c (.int .i64 1))⟩, ⟨some 13, none, .idx 1 (.t 10) (.t 12)⟩, ⟨some 14, none, .ld none (.t 13)⟩, ⟨some 15, none, .mv (.t 0)⟩, ⟨some 16, none, .mv (.t 3)⟩, ⟨some 17, none, .idx 1 (.t 15) (.t 16)⟩, ⟨some 18, none, .ld none (.t 17)⟩, ⟨some 19, none, .bin .geq (.t 14) (.t 18)⟩] [0, 3, 19]) (.cond (.t 19) (.seq
  (.region none [ ⟨some 2, none, .mv (.c (.bool false))⟩] [2]) .ret) .skip)))
  (.region none [ ⟨some 8, none, .mv (.t 3)⟩, ⟨some 9, none, .bin .add (.t 8) (.c (.int .i64 1))⟩, ⟨some 3, none, .mv (.t 9)⟩] [0, 3])))))) (.seq
  (.region none [ ⟨some 2, none, .mv (.c (.bool true))⟩] [2]) .ret)))

end Go.Mch
