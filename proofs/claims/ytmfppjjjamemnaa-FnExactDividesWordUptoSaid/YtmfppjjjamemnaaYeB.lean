/- Compact code of the functions that statements 5, 6 and 8 to 12 reach further. -/
import Derived.Test.YtmfppjjjamemnaaM1
namespace Go.Mch

/-- slices.Equal[[]int64,int64] -/
def c_slices_Equal___int64_int64_ : F where
  np := 2
  rs := [.t 4]
  body :=
    (.seq
    (.region none [ ⟨some 4, none, .mv (.c (.bool false))⟩] [0, 1]) (.seq (.seq
    (.region none [ ⟨some 6, none, .mv (.t 0)⟩, ⟨some 7, none, .len (.t 6)⟩, ⟨some 8, none, .mv (.t 1)⟩, ⟨some 9, none, .len (.t 8)⟩, ⟨some 10, none, .bin .neq (.t 7) (.t 9)⟩] [0, 1, 10]) (.cond (.t 10) (.seq
    (.region none [ ⟨some 4, none, .mv (.c (.bool false))⟩] [4]) .ret) .skip)) (.seq (.seq
    (.region none [ ⟨some 11, none, .mv (.t 0)⟩, ⟨some 12, none, .len (.t 11)⟩, ⟨some 13, none, .mv (.c (.int .i64 0))⟩] [0, 1, 12, 13]) (.block 0 (.loop (.seq
    (.region none [ ⟨some 14, none, .bin .lss (.t 13) (.t 12)⟩] [0, 1, 12, 13, 14]) (.seq (.cond (.t 14) .skip (.exit 0)) (.seq (.block 1 (.seq
    (.region none [ ⟨some 15, none, .mv (.t 13)⟩, ⟨some 5, none, .mv (.t 15)⟩] [0, 1, 5, 12, 13]) (.seq
    (.region (some [16, 17, 18, 19, 20, 21, 22, 23]) [ ⟨some 16, none, .mv (.t 0)⟩, ⟨some 17, none, .mv (.t 5)⟩, ⟨some 18, none, .idx 1 (.t 16) (.t 17)⟩, ⟨some 19, none, .ld none (.t 18)⟩, ⟨some 20, none, .mv (.t 1)⟩, ⟨some 21, none, .mv (.t 5)⟩, ⟨some 22, none, .idx 1 (.t 20) (.t 21)⟩, ⟨some 23, none, .ld none (.t 22)⟩, ⟨some 24, none, .bin .neq (.t 19) (.t 23)⟩] [0, 1, 12, 13, 24]) (.cond (.t 24) (.seq
    (.region none [ ⟨some 4, none, .mv (.c (.bool false))⟩] [4]) .ret) .skip))))
    (.region none [ ⟨some 25, none, .bin .add (.t 13) (.c (.int .i64 1))⟩, ⟨some 13, none, .mv (.t 25)⟩] [0, 1, 12, 13]))))))) (.seq
    (.region none [ ⟨some 4, none, .mv (.c (.bool true))⟩] [4]) .ret))))

/-- spec.l01Own2 -/
def c_spec_l01Own2 : F where
  np := 1
  rs := [.t 2]
  body :=
    (.seq
    (.region none [ ⟨some 2, none, .asg (.c (.slice none 0 0))⟩] [0]) (.seq
    (.region none [ ⟨some 5, none, .bsl []⟩, ⟨some 3, none, .asg (.t 5)⟩] [0, 3]) (.seq (.seq
    (.region none [ ⟨some 4, none, .mv (.c (.int .i64 0))⟩] [0, 3, 4]) (.block 0 (.loop (.seq (.seq
    (.region none [ ⟨some 6, none, .mv (.t 4)⟩, ⟨some 7, none, .mv (.t 0)⟩, ⟨some 8, none, .len (.t 7)⟩, ⟨some 9, none, .bin .lss (.t 6) (.t 8)⟩] [0, 3, 4, 9]) (.cond (.t 9) .skip (.exit 0))) (.seq (.block 1
    (.region none [ ⟨some 12, none, .mv (.t 3)⟩, ⟨some 13, none, .mv (.t 0)⟩, ⟨some 14, none, .mv (.t 4)⟩, ⟨some 15, none, .idx 1 (.t 13) (.t 14)⟩, ⟨some 16, none, .ld none (.t 15)⟩, ⟨some 17, none, .call (.f 31) [((.t 16), .r)]⟩, ⟨some 18, none, .bsl [(.t 17)]⟩, ⟨some 19, none, .app true 1 (.t 12) (.t 18)⟩, ⟨some 3, none, .asg (.t 19)⟩] [0, 3, 4]))
    (.region none [ ⟨some 10, none, .mv (.t 4)⟩, ⟨some 11, none, .bin .add (.t 10) (.c (.int .i64 1))⟩, ⟨some 4, none, .mv (.t 11)⟩] [0, 3, 4])))))) (.seq
    (.region none [ ⟨some 20, none, .mv (.t 3)⟩, ⟨some 2, none, .asg (.t 20)⟩] [2]) .ret))))

/-- impl.cloneTable -/
def c_impl_cloneTable : F where
  np := 1
  rs := [.t 2]
  body :=
    (.seq
    (.region none [ ⟨some 2, none, .asg (.c (.slice none 0 0))⟩] [0]) (.seq
    (.region none [ ⟨some 6, none, .mv (.t 0)⟩, ⟨some 7, none, .len (.t 6)⟩, ⟨some 8, none, .mks (.slice none 0 0) (.t 7)⟩, ⟨some 3, none, .asg (.t 8)⟩] [0, 3]) (.seq (.seq
    (.region none [ ⟨some 9, none, .mv (.t 0)⟩, ⟨some 10, none, .len (.t 9)⟩, ⟨some 11, none, .mv (.c (.int .i64 0))⟩] [3, 9, 10, 11]) (.block 0 (.loop (.seq
    (.region none [ ⟨some 12, none, .bin .lss (.t 11) (.t 10)⟩] [3, 9, 10, 11, 12]) (.seq (.cond (.t 12) .skip (.exit 0)) (.seq (.block 1 (.seq
    (.region none [ ⟨some 13, none, .mv (.t 11)⟩, ⟨some 14, none, .idx 1 (.t 9) (.t 11)⟩, ⟨some 15, none, .ld none (.t 14)⟩, ⟨some 4, none, .mv (.t 13)⟩, ⟨some 5, none, .asg (.t 15)⟩] [3, 4, 5, 9, 10, 11])
    (.region none [ ⟨some 16, none, .mv (.t 3)⟩, ⟨some 17, none, .mv (.t 4)⟩, ⟨some 18, none, .mv (.t 5)⟩, ⟨some 19, none, .call (.f 36) [((.t 18), .r)]⟩, ⟨some 20, none, .idx 1 (.t 16) (.t 17)⟩, ⟨none, none, .st none (.t 20) (.t 19)⟩] [3, 9, 10, 11])))
    (.region none [ ⟨some 21, none, .bin .add (.t 11) (.c (.int .i64 1))⟩, ⟨some 11, none, .mv (.t 21)⟩] [3, 9, 10, 11]))))))) (.seq
    (.region none [ ⟨some 22, none, .mv (.t 3)⟩, ⟨some 2, none, .asg (.t 22)⟩] [2]) .ret))))

end Go.Mch
