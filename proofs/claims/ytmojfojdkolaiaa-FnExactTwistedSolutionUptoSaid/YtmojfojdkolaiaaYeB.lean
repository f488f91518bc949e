/- Compact code of the functions that statements 5, 6 and 8 to 12 reach further. -/
import Derived.Test.YtmojfojdkolaiaaM1
namespace Go.Mch

/-- impl.tableBy -/
def c_impl_tableBy : F where
  np := 2
  rs := [.t 4]
  body :=
    (.seq
    (.region none [ ⟨some 4, none, .asg (.c (.slice none 0 0))⟩] [0, 1]) (.seq
    (.region none [ ⟨some 8, none, .mv (.t 0)⟩, ⟨some 9, none, .mks (.slice none 0 0) (.t 8)⟩, ⟨some 5, none, .asg (.t 9)⟩] [0, 1, 5]) (.seq (.seq
    (.region none [ ⟨some 10, none, .mv (.t 5)⟩, ⟨some 11, none, .len (.t 10)⟩, ⟨some 12, none, .mv (.c (.int .i64 0))⟩] [0, 1, 5, 11, 12]) (.block 0 (.loop (.seq
    (.region none [ ⟨some 13, none, .bin .lss (.t 12) (.t 11)⟩] [0, 1, 5, 11, 12, 13]) (.seq (.cond (.t 13) .skip (.exit 0)) (.seq (.block 1 (.seq
    (.region none [ ⟨some 14, none, .mv (.t 12)⟩, ⟨some 6, none, .mv (.t 14)⟩] [0, 1, 5, 6, 11, 12]) (.seq
    (.region none [ ⟨some 15, none, .mv (.t 5)⟩, ⟨some 16, none, .mv (.t 6)⟩, ⟨some 17, none, .mv (.t 0)⟩, ⟨some 18, none, .mks (.int .i64 0) (.t 17)⟩, ⟨some 19, none, .idx 1 (.t 15) (.t 16)⟩, ⟨none, none, .st none (.t 19) (.t 18)⟩] [0, 1, 5, 6, 11, 12]) (.seq
    (.region none [ ⟨some 20, none, .mv (.t 5)⟩, ⟨some 21, none, .mv (.t 6)⟩, ⟨some 22, none, .idx 1 (.t 20) (.t 21)⟩, ⟨some 23, none, .ld none (.t 22)⟩, ⟨some 24, none, .len (.t 23)⟩, ⟨some 25, none, .mv (.c (.int .i64 0))⟩] [0, 1, 5, 6, 11, 12, 24, 25]) (.block 2 (.loop (.seq
    (.region none [ ⟨some 26, none, .bin .lss (.t 25) (.t 24)⟩] [0, 1, 5, 6, 11, 12, 24, 25, 26]) (.seq (.cond (.t 26) .skip (.exit 2)) (.seq (.block 3 (.seq
    (.region none [ ⟨some 27, none, .mv (.t 25)⟩, ⟨some 7, none, .mv (.t 27)⟩] [0, 1, 5, 6, 7, 11, 12, 24, 25])
    (.region (some [28, 29, 30, 31, 32, 33, 34, 35, 36]) [ ⟨some 28, none, .mv (.t 5)⟩, ⟨some 29, none, .mv (.t 6)⟩, ⟨some 30, none, .idx 1 (.t 28) (.t 29)⟩, ⟨some 31, none, .ld none (.t 30)⟩, ⟨some 32, none, .mv (.t 7)⟩, ⟨some 33, none, .mv (.t 1)⟩, ⟨some 34, none, .mv (.t 6)⟩, ⟨some 35, none, .mv (.t 7)⟩, ⟨some 36, none, .call (.t 33) [((.t 34), .r), ((.t 35), .r)]⟩, ⟨some 37, none, .idx 1 (.t 31) (.t 32)⟩, ⟨none, none, .st none (.t 37) (.t 36)⟩] [0, 1, 5, 6, 11, 12, 24, 25])))
    (.region none [ ⟨some 38, none, .bin .add (.t 25) (.c (.int .i64 1))⟩, ⟨some 25, none, .mv (.t 38)⟩] [0, 1, 5, 6, 11, 12, 24, 25]))))))))))
    (.region none [ ⟨some 39, none, .bin .add (.t 12) (.c (.int .i64 1))⟩, ⟨some 12, none, .mv (.t 39)⟩] [0, 1, 5, 11, 12]))))))) (.seq
    (.region none [ ⟨some 40, none, .mv (.t 5)⟩, ⟨some 4, none, .asg (.t 40)⟩] [4]) .ret))))

/-- spec.l01Own2 -/
def c_spec_l01Own2 : F where
  np := 1
  rs := [.t 2]
  body :=
    (.seq
    (.region none [ ⟨some 2, none, .asg (.c (.slice none 0 0))⟩] [0]) (.seq
    (.region none [ ⟨some 5, none, .bsl []⟩, ⟨some 3, none, .asg (.t 5)⟩] [0, 3]) (.seq (.seq
    (.region none [ ⟨some 4, none, .mv (.c (.int .i64 0))⟩] [0, 3, 4]) (.block 0 (.loop (.seq (.seq
    (.region none [ ⟨some 6, none, .mv (.t 4)⟩, ⟨some 7, none, .mv (.t 0)⟩, ⟨some 8, none, .len (.t 7)⟩, ⟨some 9, none, .bin .lss (.t 6) (.t 8)⟩] [0, 3, 4, 9]) (.cond (.t 9) .skip (.exit 0))) (.seq (.block 1
    (.region none [ ⟨some 12, none, .mv (.t 3)⟩, ⟨some 13, none, .mv (.t 0)⟩, ⟨some 14, none, .mv (.t 4)⟩, ⟨some 15, none, .idx 1 (.t 13) (.t 14)⟩, ⟨some 16, none, .ld none (.t 15)⟩, ⟨some 17, none, .call (.f 31) [((.t 16), .r)]⟩, ⟨some 18, none, .bsl [(.t 17)]⟩, ⟨some 19, none, .app true 1 (.t 12) (.t 18)⟩, ⟨some 3, none, .asg (.t 19)⟩] [0, 3, 4]))
    (.region none [ ⟨some 10, none, .mv (.t 4)⟩, ⟨some 11, none, .bin .add (.t 10) (.c (.int .i64 1))⟩, ⟨some 4, none, .mv (.t 11)⟩] [0, 3, 4])))))) (.seq
    (.region none [ ⟨some 20, none, .mv (.t 3)⟩, ⟨some 2, none, .asg (.t 20)⟩] [2]) .ret))))

end Go.Mch
