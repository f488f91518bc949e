/- Compact code of the functions that the first laws reach. -/
import Derived.Test.YtmojfojdkolaiaaM1
namespace Go.Mch

/-- laws.szRack -/
def c_laws_szRack : F where
  np := 2
  rs := [.t 4]
  body :=
    (.seq
    (.region none [ ⟨some 2, none, .box (.t 0)⟩, ⟨some 4, none, .mv (.c (.int .i64 0))⟩] [1, 2]) (.seq
    (.region none [ ⟨some 5, none, .fld 0 (.t 2)⟩, ⟨some 6, none, .ld none (.t 5)⟩, ⟨some 7, none, .mv (.t 1)⟩, ⟨some 8, none, .call (.f 27) [((.t 6), .r), ((.t 7), .r)]⟩, ⟨some 1, none, .mv (.t 8)⟩] [1]) (.seq (.seq
    (.region none [ ⟨some 9, none, .mv (.t 1)⟩, ⟨some 10, none, .bin .lss (.t 9) (.c (.int .i64 0))⟩] [1, 10]) (.cond (.t 10) (.seq
    (.region none [ ⟨some 4, none, .mv (.c (.int .i64 (-1)))⟩] [4]) .ret) .skip)) (.seq
    (.region none [ ⟨some 11, none, .mv (.t 1)⟩, ⟨some 4, none, .mv (.t 11)⟩] [4]) .ret))))

/-- laws.toRack -/
def c_laws_toRack : F where
  np := 1
  rs := [.cell 2 (some 1)]
  body :=
    (.seq
    (.region none [ ⟨some 1, none, .box (.t 0)⟩, ⟨some 2, none, .alloc [(.slice none 0 0)]⟩] [1, 2]) (.seq
    (.region none [ ⟨some 3, none, .alloc [(.slice none 0 0)]⟩] [1, 2, 3]) (.seq
    (.region none [ ⟨some 4, none, .fld 0 (.t 1)⟩, ⟨some 5, none, .ld none (.t 4)⟩, ⟨some 6, none, .call (.f 32) [((.t 5), .r)]⟩, ⟨some 7, none, .fld 0 (.t 3)⟩, ⟨none, none, .st none (.t 7) (.t 6)⟩] [2, 3]) (.seq
    (.region none [ ⟨some 8, none, .ld (some 1) (.t 3)⟩, ⟨none, none, .st (some 1) (.t 2) (.t 8)⟩] [2]) .ret))))

/-- laws.toInt64S -/
def c_laws_toInt64S : F where
  np := 1
  rs := [.t 2]
  body :=
    (.seq
    (.region none [ ⟨some 2, none, .asg (.c (.slice none 0 0))⟩] [0]) (.seq
    (.region none [ ⟨some 5, none, .mv (.t 0)⟩, ⟨some 6, none, .len (.t 5)⟩, ⟨some 7, none, .mks (.int .i64 0) (.t 6)⟩, ⟨some 3, none, .asg (.t 7)⟩] [0, 3]) (.seq (.seq
    (.region none [ ⟨some 4, none, .mv (.c (.int .i64 0))⟩] [0, 3, 4]) (.block 0 (.loop (.seq (.seq
    (.region none [ ⟨some 8, none, .mv (.t 4)⟩, ⟨some 9, none, .mv (.t 0)⟩, ⟨some 10, none, .len (.t 9)⟩, ⟨some 11, none, .bin .lss (.t 8) (.t 10)⟩] [0, 3, 4, 11]) (.cond (.t 11) .skip (.exit 0))) (.seq (.block 1
    (.region none [ ⟨some 14, none, .mv (.t 3)⟩, ⟨some 15, none, .mv (.t 4)⟩, ⟨some 16, none, .mv (.t 0)⟩, ⟨some 17, none, .mv (.t 4)⟩, ⟨some 18, none, .idx 1 (.t 16) (.t 17)⟩, ⟨some 19, none, .ld none (.t 18)⟩, ⟨some 20, none, .idx 1 (.t 14) (.t 15)⟩, ⟨none, none, .st none (.t 20) (.t 19)⟩] [0, 3, 4]))
    (.region none [ ⟨some 12, none, .mv (.t 4)⟩, ⟨some 13, none, .bin .add (.t 12) (.c (.int .i64 1))⟩, ⟨some 4, none, .mv (.t 13)⟩] [0, 3, 4])))))) (.seq
    (.region none [ ⟨some 21, none, .mv (.t 3)⟩, ⟨some 2, none, .asg (.t 21)⟩] [2]) .ret))))

/-- laws.eqInt64S -/
def c_laws_eqInt64S : F where
  np := 2
  rs := [.t 4]
  body :=
    (.seq
    (.region none [ ⟨some 4, none, .mv (.c (.bool false))⟩] [0, 1]) (.seq (.seq
    (.region none [ ⟨some 6, none, .mv (.t 0)⟩, ⟨some 7, none, .len (.t 6)⟩, ⟨some 8, none, .mv (.t 1)⟩, ⟨some 9, none, .len (.t 8)⟩, ⟨some 10, none, .bin .neq (.t 7) (.t 9)⟩] [0, 1, 10]) (.cond (.t 10) (.seq
    (.region none [ ⟨some 4, none, .mv (.c (.bool false))⟩] [4]) .ret) .skip)) (.seq (.seq
    (.region none [ ⟨some 5, none, .mv (.c (.int .i64 0))⟩] [0, 1, 5]) (.block 0 (.loop (.seq (.seq
    (.region none [ ⟨some 11, none, .mv (.t 5)⟩, ⟨some 12, none, .mv (.t 0)⟩, ⟨some 13, none, .len (.t 12)⟩, ⟨some 14, none, .bin .lss (.t 11) (.t 13)⟩] [0, 1, 5, 14]) (.cond (.t 14) .skip (.exit 0))) (.seq (.block 1 (.seq
    (.region (some [17, 18, 19, 20, 21, 22, 23, 24]) [ ⟨some 17, none, .mv (.t 0)⟩, ⟨some 18, none, .mv (.t 5)⟩, ⟨some 19, none, .idx 1 (.t 17) (.t 18)⟩, ⟨some 20, none, .ld none (.t 19)⟩, ⟨some 21, none, .mv (.t 1)⟩, ⟨some 22, none, .mv (.t 5)⟩, ⟨some 23, none, .idx 1 (.t 21) (.t 22)⟩, ⟨some 24, none, .ld none (.t 23)⟩, ⟨some 25, none, .bin .neq (.t 20) (.t 24)⟩] [0, 1, 5, 25]) (.cond (.t 25) (.seq
    (.region none [ ⟨some 4, none, .mv (.c (.bool false))⟩] [4]) .ret) .skip)))
    (.region none [ ⟨some 15, none, .mv (.t 5)⟩, ⟨some 16, none, .bin .add (.t 15) (.c (.int .i64 1))⟩, ⟨some 5, none, .mv (.t 16)⟩] [0, 1, 5])))))) (.seq
    (.region none [ ⟨some 4, none, .mv (.c (.bool true))⟩] [4]) .ret))))

/-- laws.eqRack -/
def c_laws_eqRack : F where
  np := 2
  rs := [.t 4]
  body :=
    (.seq
    (.region none [ ⟨some 2, none, .box (.t 0)⟩, ⟨some 3, none, .box (.t 1)⟩, ⟨some 4, none, .mv (.c (.bool false))⟩] [2, 3]) (.seq (.seq
    (.region none [ ⟨some 5, none, .fld 0 (.t 2)⟩, ⟨some 6, none, .ld none (.t 5)⟩, ⟨some 7, none, .fld 0 (.t 3)⟩, ⟨some 8, none, .ld none (.t 7)⟩, ⟨some 9, none, .call (.f 21) [((.t 6), .r), ((.t 8), .r)]⟩, ⟨some 10, none, .un .not (.t 9)⟩] [10]) (.cond (.t 10) (.seq
    (.region none [ ⟨some 4, none, .mv (.c (.bool false))⟩] [4]) .ret) .skip)) (.seq
    (.region none [ ⟨some 4, none, .mv (.c (.bool true))⟩] [4]) .ret)))

/-- laws.markRack -/
def c_laws_markRack : F where
  np := 2
  rs := [.t 4]
  fix := [0]
  body :=
    (.seq
    (.region none [ ⟨some 2, none, .boxk 0⟩, ⟨some 4, none, .mv (.c (.int .i64 0))⟩] [0, 1, 2]) (.seq
    (.region none [ ⟨some 5, none, .fld 0 (.t 2)⟩, ⟨some 6, none, .ld none (.t 5)⟩, ⟨some 7, none, .mv (.t 1)⟩, ⟨some 8, none, .callm (.f 23) [((.t 6), true), ((.t 7), false)] [0]⟩, ⟨some 1, none, .mv (.t 8)⟩] [0, 1, 2]) (.seq
    (.region none [ ⟨some 9, none, .mv (.t 1)⟩, ⟨some 4, none, .mv (.t 9)⟩, ⟨none, none, .settle 0⟩] [0, 1, 4]) .ret)))

/-- laws.markInt64S -/
def c_laws_markInt64S : F where
  np := 2
  rs := [.t 4]
  fix := [0]
  body :=
    (.seq
    (.region none [ ⟨some 4, none, .mv (.c (.int .i64 0))⟩] [0, 1]) (.seq (.seq
    (.region none [ ⟨some 5, none, .mv (.c (.int .i64 0))⟩] [0, 1, 5]) (.block 0 (.loop (.seq (.seq
    (.region none [ ⟨some 6, none, .mv (.t 5)⟩, ⟨some 7, none, .mv (.t 0)⟩, ⟨some 8, none, .len (.t 7)⟩, ⟨some 9, none, .bin .lss (.t 6) (.t 8)⟩] [0, 1, 5, 9]) (.cond (.t 9) .skip (.exit 0))) (.seq (.block 1 (.seq
    (.region none [ ⟨some 12, none, .mv (.t 0)⟩, ⟨some 13, none, .mv (.t 5)⟩, ⟨some 14, none, .mv (.t 1)⟩, ⟨some 15, none, .idx 1 (.t 12) (.t 13)⟩, ⟨none, none, .st none (.t 15) (.t 14)⟩] [0, 1, 5])
    (.region none [ ⟨some 16, none, .mv (.t 1)⟩, ⟨some 17, none, .bin .add (.t 16) (.c (.int .i64 1))⟩, ⟨some 1, none, .mv (.t 17)⟩] [0, 1, 5])))
    (.region none [ ⟨some 10, none, .mv (.t 5)⟩, ⟨some 11, none, .bin .add (.t 10) (.c (.int .i64 1))⟩, ⟨some 5, none, .mv (.t 11)⟩] [0, 1, 5])))))) (.seq
    (.region none [ ⟨some 18, none, .mv (.t 1)⟩, ⟨some 4, none, .mv (.t 18)⟩] [0, 1, 4]) .ret)))

/-- laws.heldInt64S -/
def c_laws_heldInt64S : F where
  np := 2
  rs := [.t 4]
  body :=
    (.seq
    (.region none [ ⟨some 4, none, .mv (.c (.int .i64 0))⟩] [0, 1]) (.seq (.seq
    (.region none [ ⟨some 5, none, .mv (.c (.int .i64 0))⟩] [0, 1, 5]) (.block 0 (.loop (.seq (.seq
    (.region none [ ⟨some 6, none, .mv (.t 5)⟩, ⟨some 7, none, .mv (.t 0)⟩, ⟨some 8, none, .len (.t 7)⟩, ⟨some 9, none, .bin .lss (.t 6) (.t 8)⟩] [0, 1, 5, 9]) (.cond (.t 9) .skip (.exit 0))) (.seq (.block 1 (.seq (.seq
    (.region none [ ⟨some 12, none, .mv (.t 0)⟩, ⟨some 13, none, .mv (.t 5)⟩, ⟨some 14, none, .idx 1 (.t 12) (.t 13)⟩, ⟨some 15, none, .ld none (.t 14)⟩, ⟨some 16, none, .mv (.t 1)⟩, ⟨some 17, none, .bin .neq (.t 15) (.t 16)⟩] [0, 1, 5, 17]) (.cond (.t 17) (.seq
    (.region none [ ⟨some 4, none, .mv (.c (.int .i64 (-1)))⟩] [4]) .ret) .skip))
    (.region none [ ⟨some 18, none, .mv (.t 1)⟩, ⟨some 19, none, .bin .add (.t 18) (.c (.int .i64 1))⟩, ⟨some 1, none, .mv (.t 19)⟩] [0, 1, 5])))
    (.region none [ ⟨some 10, none, .mv (.t 5)⟩, ⟨some 11, none, .bin .add (.t 10) (.c (.int .i64 1))⟩, ⟨some 5, none, .mv (.t 11)⟩] [0, 1, 5])))))) (.seq
    (.region none [ ⟨some 20, none, .mv (.t 1)⟩, ⟨some 4, none, .mv (.t 20)⟩] [4]) .ret)))

/-- laws.eqSolution -/
def c_laws_eqSolution : F where
  np := 2
  rs := [.t 4]
  body :=
    (.seq
    (.region none [ ⟨some 2, none, .box (.t 0)⟩, ⟨some 3, none, .box (.t 1)⟩, ⟨some 4, none, .mv (.c (.bool false))⟩] [2, 3]) (.seq (.seq
    (.region none [ ⟨some 5, none, .fld 0 (.t 2)⟩, ⟨some 6, none, .ld none (.t 5)⟩, ⟨some 7, none, .fld 0 (.t 3)⟩, ⟨some 8, none, .ld none (.t 7)⟩, ⟨some 9, none, .call (.f 21) [((.t 6), .r), ((.t 8), .r)]⟩, ⟨some 10, none, .un .not (.t 9)⟩] [2, 3, 10]) (.cond (.t 10) (.seq
    (.region none [ ⟨some 4, none, .mv (.c (.bool false))⟩] [4]) .ret) .skip)) (.seq (.seq
    (.region none [ ⟨some 11, none, .fld 1 (.t 2)⟩, ⟨some 12, none, .ld none (.t 11)⟩, ⟨some 13, none, .fld 1 (.t 3)⟩, ⟨some 14, none, .ld none (.t 13)⟩, ⟨some 15, none, .call (.f 21) [((.t 12), .r), ((.t 14), .r)]⟩, ⟨some 16, none, .un .not (.t 15)⟩] [16]) (.cond (.t 16) (.seq
    (.region none [ ⟨some 4, none, .mv (.c (.bool false))⟩] [4]) .ret) .skip)) (.seq
    (.region none [ ⟨some 4, none, .mv (.c (.bool true))⟩] [4]) .ret))))

/-- laws.eqInt64SS -/
def c_laws_eqInt64SS : F where
  np := 2
  rs := [.t 4]
  body :=
    (.seq
    (.region none [ ⟨some 4, none, .mv (.c (.bool false))⟩] [0, 1]) (.seq (.seq
    (.region none [ ⟨some 6, none, .mv (.t 0)⟩, ⟨some 7, none, .len (.t 6)⟩, ⟨some 8, none, .mv (.t 1)⟩, ⟨some 9, none, .len (.t 8)⟩, ⟨some 10, none, .bin .neq (.t 7) (.t 9)⟩] [0, 1, 10]) (.cond (.t 10) (.seq
    (.region none [ ⟨some 4, none, .mv (.c (.bool false))⟩] [4]) .ret) .skip)) (.seq (.seq
    (.region none [ ⟨some 5, none, .mv (.c (.int .i64 0))⟩] [0, 1, 5]) (.block 0 (.loop (.seq (.seq
    (.region none [ ⟨some 11, none, .mv (.t 5)⟩, ⟨some 12, none, .mv (.t 0)⟩, ⟨some 13, none, .len (.t 12)⟩, ⟨some 14, none, .bin .lss (.t 11) (.t 13)⟩] [0, 1, 5, 14]) (.cond (.t 14) .skip (.exit 0))) (.seq (.block 1 (.seq
    (.region (some [17, 18, 19, 20, 21, 22, 23, 24]) [ ⟨some 17, none, .mv (.t 0)⟩, ⟨some 18, none, .mv (.t 5)⟩, ⟨some 19, none, .idx 1 (.t 17) (.t 18)⟩, ⟨some 20, none, .ld none (.t 19)⟩, ⟨some 21, none, .mv (.t 1)⟩, ⟨some 22, none, .mv (.t 5)⟩, ⟨some 23, none, .idx 1 (.t 21) (.t 22)⟩, ⟨some 24, none, .ld none (.t 23)⟩, ⟨some 25, none, .call (.f 9) [((.t 20), .r), ((.t 24), .r)]⟩, ⟨some 26, none, .un .not (.t 25)⟩] [0, 1, 5, 26]) (.cond (.t 26) (.seq
    (.region none [ ⟨some 4, none, .mv (.c (.bool false))⟩] [4]) .ret) .skip)))
    (.region none [ ⟨some 15, none, .mv (.t 5)⟩, ⟨some 16, none, .bin .add (.t 15) (.c (.int .i64 1))⟩, ⟨some 5, none, .mv (.t 16)⟩] [0, 1, 5])))))) (.seq
    (.region none [ ⟨some 4, none, .mv (.c (.bool true))⟩] [4]) .ret))))

/-- laws.markSolution -/
def c_laws_markSolution : F where
  np := 2
  rs := [.t 4]
  fix := [0]
  body :=
    (.seq
    (.region none [ ⟨some 2, none, .boxk 0⟩, ⟨some 4, none, .mv (.c (.int .i64 0))⟩] [0, 1, 2]) (.seq
    (.region none [ ⟨some 5, none, .fld 0 (.t 2)⟩, ⟨some 6, none, .ld none (.t 5)⟩, ⟨some 7, none, .mv (.t 1)⟩, ⟨some 8, none, .callm (.f 23) [((.t 6), true), ((.t 7), false)] [0]⟩, ⟨some 1, none, .mv (.t 8)⟩] [0, 1, 2]) (.seq
    (.region none [ ⟨some 9, none, .fld 1 (.t 2)⟩, ⟨some 10, none, .ld none (.t 9)⟩, ⟨some 11, none, .mv (.t 1)⟩, ⟨some 12, none, .callm (.f 23) [((.t 10), true), ((.t 11), false)] [0]⟩, ⟨some 1, none, .mv (.t 12)⟩] [0, 1, 2]) (.seq
    (.region none [ ⟨some 13, none, .mv (.t 1)⟩, ⟨some 4, none, .mv (.t 13)⟩, ⟨none, none, .settle 0⟩] [0, 1, 4]) .ret))))

/-- laws.markInt64SS -/
def c_laws_markInt64SS : F where
  np := 2
  rs := [.t 4]
  fix := [0]
  body :=
    (.seq
    (.region none [ ⟨some 4, none, .mv (.c (.int .i64 0))⟩] [0, 1]) (.seq (.seq
    (.region none [ ⟨some 5, none, .mv (.c (.int .i64 0))⟩] [0, 1, 5]) (.block 0 (.loop (.seq (.seq
    (.region none [ ⟨some 6, none, .mv (.t 5)⟩, ⟨some 7, none, .mv (.t 0)⟩, ⟨some 8, none, .len (.t 7)⟩, ⟨some 9, none, .bin .lss (.t 6) (.t 8)⟩] [0, 1, 5, 9]) (.cond (.t 9) .skip (.exit 0))) (.seq (.block 1
    (.region none [ ⟨some 12, none, .mv (.t 0)⟩, ⟨some 13, none, .mv (.t 5)⟩, ⟨some 14, none, .idx 1 (.t 12) (.t 13)⟩, ⟨some 15, none, .ld none (.t 14)⟩, ⟨some 16, none, .mv (.t 1)⟩, ⟨some 17, none, .callm (.f 12) [((.t 15), true), ((.t 16), false)] []⟩, ⟨some 1, none, .mv (.t 17)⟩] [0, 1, 5]))
    (.region none [ ⟨some 10, none, .mv (.t 5)⟩, ⟨some 11, none, .bin .add (.t 10) (.c (.int .i64 1))⟩, ⟨some 5, none, .mv (.t 11)⟩] [0, 1, 5])))))) (.seq
    (.region none [ ⟨some 18, none, .mv (.t 1)⟩, ⟨some 4, none, .mv (.t 18)⟩] [0, 1, 4]) .ret)))

/-- laws.heldInt64SS -/
def c_laws_heldInt64SS : F where
  np := 2
  rs := [.t 4]
  body :=
    (.seq
    (.region none [ ⟨some 4, none, .mv (.c (.int .i64 0))⟩] [0, 1]) (.seq (.seq
    (.region none [ ⟨some 5, none, .mv (.c (.int .i64 0))⟩] [0, 1, 5]) (.block 0 (.loop (.seq (.seq
    (.region none [ ⟨some 6, none, .mv (.t 5)⟩, ⟨some 7, none, .mv (.t 0)⟩, ⟨some 8, none, .len (.t 7)⟩, ⟨some 9, none, .bin .lss (.t 6) (.t 8)⟩] [0, 1, 5, 9]) (.cond (.t 9) .skip (.exit 0))) (.seq (.block 1 (.seq
    (.region none [ ⟨some 12, none, .mv (.t 0)⟩, ⟨some 13, none, .mv (.t 5)⟩, ⟨some 14, none, .idx 1 (.t 12) (.t 13)⟩, ⟨some 15, none, .ld none (.t 14)⟩, ⟨some 16, none, .mv (.t 1)⟩, ⟨some 17, none, .call (.f 13) [((.t 15), .r), ((.t 16), .r)]⟩, ⟨some 1, none, .mv (.t 17)⟩] [0, 1, 5]) (.seq
    (.region none [ ⟨some 18, none, .mv (.t 1)⟩, ⟨some 19, none, .bin .lss (.t 18) (.c (.int .i64 0))⟩] [0, 1, 5, 19]) (.cond (.t 19) (.seq
    (.region none [ ⟨some 4, none, .mv (.c (.int .i64 (-1)))⟩] [4]) .ret) .skip))))
    (.region none [ ⟨some 10, none, .mv (.t 5)⟩, ⟨some 11, none, .bin .add (.t 10) (.c (.int .i64 1))⟩, ⟨some 5, none, .mv (.t 11)⟩] [0, 1, 5])))))) (.seq
    (.region none [ ⟨some 20, none, .mv (.t 1)⟩, ⟨some 4, none, .mv (.t 20)⟩] [4]) .ret)))

/-- laws.szInt64SS -/
def c_laws_szInt64SS : F where
  np := 2
  rs := [.t 4]
  body :=
    (.seq
    (.region none [ ⟨some 4, none, .mv (.c (.int .i64 0))⟩] [0, 1]) (.seq
    (.region none [ ⟨some 6, none, .mv (.t 1)⟩, ⟨some 7, none, .mv (.t 0)⟩, ⟨some 8, none, .len (.t 7)⟩, ⟨some 9, none, .bin .sub (.t 6) (.t 8)⟩, ⟨some 1, none, .mv (.t 9)⟩] [0, 1]) (.seq (.seq
    (.region none [ ⟨some 10, none, .mv (.t 1)⟩, ⟨some 11, none, .bin .lss (.t 10) (.c (.int .i64 0))⟩] [0, 1, 11]) (.cond (.t 11) (.seq
    (.region none [ ⟨some 4, none, .mv (.c (.int .i64 (-1)))⟩] [4]) .ret) .skip)) (.seq (.seq
    (.region none [ ⟨some 5, none, .mv (.c (.int .i64 0))⟩] [0, 1, 5]) (.block 0 (.loop (.seq (.seq
    (.region none [ ⟨some 12, none, .mv (.t 5)⟩, ⟨some 13, none, .mv (.t 0)⟩, ⟨some 14, none, .len (.t 13)⟩, ⟨some 15, none, .bin .lss (.t 12) (.t 14)⟩] [0, 1, 5, 15]) (.cond (.t 15) .skip (.exit 0))) (.seq (.block 1 (.seq
    (.region none [ ⟨some 18, none, .mv (.t 0)⟩, ⟨some 19, none, .mv (.t 5)⟩, ⟨some 20, none, .idx 1 (.t 18) (.t 19)⟩, ⟨some 21, none, .ld none (.t 20)⟩, ⟨some 22, none, .mv (.t 1)⟩, ⟨some 23, none, .call (.f 45) [((.t 21), .r), ((.t 22), .r)]⟩, ⟨some 1, none, .mv (.t 23)⟩] [0, 1, 5]) (.seq
    (.region none [ ⟨some 24, none, .mv (.t 1)⟩, ⟨some 25, none, .bin .lss (.t 24) (.c (.int .i64 0))⟩] [0, 1, 5, 25]) (.cond (.t 25) (.seq
    (.region none [ ⟨some 4, none, .mv (.c (.int .i64 (-1)))⟩] [4]) .ret) .skip))))
    (.region none [ ⟨some 16, none, .mv (.t 5)⟩, ⟨some 17, none, .bin .add (.t 16) (.c (.int .i64 1))⟩, ⟨some 5, none, .mv (.t 17)⟩] [0, 1, 5])))))) (.seq
    (.region none [ ⟨some 26, none, .mv (.t 1)⟩, ⟨some 4, none, .mv (.t 26)⟩] [4]) .ret)))))

/-- spec.l03Is -/
def c_spec_l03Is : F where
  np := 1
  rs := [.t 2]
  body :=
    (.seq
    (.region none [ ⟨some 1, none, .box (.t 0)⟩, ⟨some 2, none, .mv (.c (.bool false))⟩] [1]) (.seq (.seq
    (.region none [ ⟨some 4, none, .fld 0 (.t 1)⟩, ⟨some 5, none, .ld none (.t 4)⟩, ⟨some 6, none, .call (.f 46) [((.t 5), .r)]⟩, ⟨some 7, none, .un .not (.t 6)⟩] [1, 7]) (.cond (.t 7) (.seq
    (.region none [ ⟨some 2, none, .mv (.c (.bool false))⟩] [2]) .ret) .skip)) (.seq (.seq
    (.region none [ ⟨some 3, none, .mv (.c (.int .i64 0))⟩] [1, 3]) (.block 0 (.loop (.seq (.seq
    (.region none [ ⟨some 8, none, .mv (.t 3)⟩, ⟨some 9, none, .fld 0 (.t 1)⟩, ⟨some 10, none, .ld none (.t 9)⟩, ⟨some 11, none, .len (.t 10)⟩, ⟨some 12, none, .bin .lss (.t 8) (.t 11)⟩] [1, 3, 12]) (.cond (.t 12) .skip (.exit 0))) (.seq (.block 1 (.seq
    (.region none [ ⟨some 15, none, .fld 0 (.t 1)⟩, ⟨some 16, none, .ld none (.t 15)⟩, ⟨some 17, none, .mv (.t 3)⟩, ⟨some 18, none, .idx 1 (.t 16) (.t 17)⟩, ⟨some 19, none, .ld none (.t 18)⟩, ⟨some 20, none, .call (.f 47) [((.t 19), .r)]⟩, ⟨some 21, none, .un .not (.t 20)⟩] [1, 3, 21]) (.cond (.t 21) (.seq
    (.region none [ ⟨some 2, none, .mv (.c (.bool false))⟩] [2]) .ret) .skip)))
    (.region none [ ⟨some 13, none, .mv (.t 3)⟩, ⟨some 14, none, .bin .add (.t 13) (.c (.int .i64 1))⟩, ⟨some 3, none, .mv (.t 14)⟩] [1, 3])))))) (.seq
    (.region none [ ⟨some 22, none, .fld 0 (.t 1)⟩, ⟨some 23, none, .ld none (.t 22)⟩, ⟨some 24, none, .call (.f 48) [((.t 23), .r)]⟩, ⟨some 25, none, .len (.t 24)⟩, ⟨some 26, none, .bin .eql (.t 25) (.c (.int .i64 0))⟩, ⟨some 2, none, .mv (.t 26)⟩] [2]) .ret))))

/-- spec.l01In -/
def c_spec_l01In : F where
  np := 3
  rs := [.t 6]
  body :=
    (.seq
    (.region none [ ⟨some 6, none, .mv (.c (.bool false))⟩] [0, 1, 2]) (.seq
    (.region none [ ⟨some 7, none, .mv (.t 0)⟩, ⟨some 8, none, .mv (.t 1)⟩, ⟨some 9, none, .bin .geq (.t 7) (.t 8)⟩, ⟨some 10, none, .mv (.t 9)⟩, ⟨some 11, (some (10, true)), .mv (.t 0)⟩, ⟨some 12, (some (10, true)), .mv (.t 2)⟩, ⟨some 13, (some (10, true)), .bin .leq (.t 11) (.t 12)⟩, ⟨some 14, none, .pick (.t 10) (.t 13) (.c (.bool false))⟩, ⟨some 6, none, .mv (.t 14)⟩] [6]) .ret))

/-- spec.l01Own -/
def c_spec_l01Own : F where
  np := 1
  rs := [.t 2]
  body :=
    (.seq
    (.region none [ ⟨some 2, none, .asg (.c (.slice none 0 0))⟩] [0]) (.seq
    (.region none [ ⟨some 3, none, .bsl []⟩, ⟨some 4, none, .mv (.t 0)⟩, ⟨some 5, none, .app false 1 (.t 3) (.t 4)⟩, ⟨some 2, none, .asg (.t 5)⟩] [2]) .ret))

/-- laws.toInt64SS -/
def c_laws_toInt64SS : F where
  np := 1
  rs := [.t 2]
  body :=
    (.seq
    (.region none [ ⟨some 2, none, .asg (.c (.slice none 0 0))⟩] [0]) (.seq
    (.region none [ ⟨some 5, none, .mv (.t 0)⟩, ⟨some 6, none, .len (.t 5)⟩, ⟨some 7, none, .mks (.slice none 0 0) (.t 6)⟩, ⟨some 3, none, .asg (.t 7)⟩] [0, 3]) (.seq (.seq
    (.region none [ ⟨some 4, none, .mv (.c (.int .i64 0))⟩] [0, 3, 4]) (.block 0 (.loop (.seq (.seq
    (.region none [ ⟨some 8, none, .mv (.t 4)⟩, ⟨some 9, none, .mv (.t 0)⟩, ⟨some 10, none, .len (.t 9)⟩, ⟨some 11, none, .bin .lss (.t 8) (.t 10)⟩] [0, 3, 4, 11]) (.cond (.t 11) .skip (.exit 0))) (.seq (.block 1
    (.region none [ ⟨some 14, none, .mv (.t 3)⟩, ⟨some 15, none, .mv (.t 4)⟩, ⟨some 16, none, .mv (.t 0)⟩, ⟨some 17, none, .mv (.t 4)⟩, ⟨some 18, none, .idx 1 (.t 16) (.t 17)⟩, ⟨some 19, none, .ld none (.t 18)⟩, ⟨some 20, none, .call (.f 7) [((.t 19), .r)]⟩, ⟨some 21, none, .idx 1 (.t 14) (.t 15)⟩, ⟨none, none, .st none (.t 21) (.t 20)⟩] [0, 3, 4]))
    (.region none [ ⟨some 12, none, .mv (.t 4)⟩, ⟨some 13, none, .bin .add (.t 12) (.c (.int .i64 1))⟩, ⟨some 4, none, .mv (.t 13)⟩] [0, 3, 4])))))) (.seq
    (.region none [ ⟨some 22, none, .mv (.t 3)⟩, ⟨some 2, none, .asg (.t 22)⟩] [2]) .ret))))

/-- impl.IsRack -/
def c_impl_IsRack : F where
  np := 1
  rs := [.t 2]
  body :=
    (.seq
    (.region none [ ⟨some 1, none, .box (.t 0)⟩, ⟨some 2, none, .mv (.c (.bool false))⟩] [1]) (.seq
    (.region none [ ⟨some 3, none, .fld 0 (.t 1)⟩, ⟨some 4, none, .ld none (.t 3)⟩, ⟨some 5, none, .call (.f 50) [((.t 4), .r)]⟩, ⟨some 6, none, .mv (.t 5)⟩, ⟨some 7, (some (6, true)), .fld 0 (.t 1)⟩, ⟨some 8, (some (6, true)), .ld none (.t 7)⟩, ⟨some 9, (some (6, true)), .call (.f 51) [((.t 8), .r)]⟩, ⟨some 10, none, .pick (.t 6) (.t 9) (.c (.bool false))⟩, ⟨some 11, none, .mv (.t 10)⟩, ⟨some 12, (some (11, true)), .fld 0 (.t 1)⟩, ⟨some 13, (some (11, true)), .ld none (.t 12)⟩, ⟨some 14, (some (11, true)), .call (.f 52) [((.t 13), .r)]⟩, ⟨some 15, (some (11, true)), .isnil false (.t 14)⟩, ⟨some 16, none, .pick (.t 11) (.t 15) (.c (.bool false))⟩, ⟨some 2, none, .mv (.t 16)⟩] [2]) .ret))

/-- impl.within -/
def c_impl_within : F where
  np := 3
  rs := [.t 6]
  body :=
    (.seq
    (.region none [ ⟨some 6, none, .mv (.c (.bool false))⟩] [0, 1, 2]) (.seq
    (.region none [ ⟨some 7, none, .mv (.t 0)⟩, ⟨some 8, none, .mv (.t 1)⟩, ⟨some 9, none, .bin .geq (.t 7) (.t 8)⟩, ⟨some 10, none, .mv (.t 9)⟩, ⟨some 11, (some (10, true)), .mv (.t 0)⟩, ⟨some 12, (some (10, true)), .mv (.t 2)⟩, ⟨some 13, (some (10, true)), .bin .leq (.t 11) (.t 12)⟩, ⟨some 14, none, .pick (.t 10) (.t 13) (.c (.bool false))⟩, ⟨some 6, none, .mv (.t 14)⟩] [6]) .ret))

/-- laws.szInt64S -/
def c_laws_szInt64S : F where
  np := 2
  rs := [.t 4]
  body :=
    (.seq
    (.region none [ ⟨some 4, none, .mv (.c (.int .i64 0))⟩] [0, 1]) (.seq
    (.region none [ ⟨some 5, none, .mv (.t 1)⟩, ⟨some 6, none, .mv (.t 0)⟩, ⟨some 7, none, .len (.t 6)⟩, ⟨some 8, none, .bin .sub (.t 5) (.t 7)⟩, ⟨some 1, none, .mv (.t 8)⟩] [1]) (.seq (.seq
    (.region none [ ⟨some 9, none, .mv (.t 1)⟩, ⟨some 10, none, .bin .lss (.t 9) (.c (.int .i64 0))⟩] [1, 10]) (.cond (.t 10) (.seq
    (.region none [ ⟨some 4, none, .mv (.c (.int .i64 (-1)))⟩] [4]) .ret) .skip)) (.seq
    (.region none [ ⟨some 11, none, .mv (.t 1)⟩, ⟨some 4, none, .mv (.t 11)⟩] [4]) .ret))))

/-- spec.l01Table -/
def c_spec_l01Table : F where
  np := 1
  rs := [.t 2]
  body :=
    (.seq
    (.region none [ ⟨some 2, none, .mv (.c (.bool false))⟩] [0]) (.seq
    (.region none [ ⟨some 6, none, .mv (.t 0)⟩, ⟨some 7, none, .len (.t 6)⟩, ⟨some 3, none, .mv (.t 7)⟩] [0, 3]) (.seq (.seq
    (.region none [ ⟨some 8, none, .mv (.t 3)⟩, ⟨some 9, none, .call (.f 30) [((.t 8), .r), ((.c (.int .i64 1)), .r), ((.c (.int .i64 12)), .r)]⟩, ⟨some 10, none, .un .not (.t 9)⟩] [0, 3, 10]) (.cond (.t 10) (.seq
    (.region none [ ⟨some 2, none, .mv (.c (.bool false))⟩] [2]) .ret) .skip)) (.seq (.seq
    (.region none [ ⟨some 4, none, .mv (.c (.int .i64 0))⟩] [0, 3, 4]) (.block 0 (.loop (.seq (.seq
    (.region none [ ⟨some 11, none, .mv (.t 4)⟩, ⟨some 12, none, .mv (.t 0)⟩, ⟨some 13, none, .len (.t 12)⟩, ⟨some 14, none, .bin .lss (.t 11) (.t 13)⟩] [0, 3, 4, 14]) (.cond (.t 14) .skip (.exit 0))) (.seq (.block 1 (.seq (.seq
    (.region none [ ⟨some 17, none, .mv (.t 0)⟩, ⟨some 18, none, .mv (.t 4)⟩, ⟨some 19, none, .idx 1 (.t 17) (.t 18)⟩, ⟨some 20, none, .ld none (.t 19)⟩, ⟨some 21, none, .len (.t 20)⟩, ⟨some 22, none, .mv (.t 3)⟩, ⟨some 23, none, .bin .neq (.t 21) (.t 22)⟩] [0, 3, 4, 23]) (.cond (.t 23) (.seq
    (.region none [ ⟨some 2, none, .mv (.c (.bool false))⟩] [2]) .ret) .skip)) (.seq
    (.region none [ ⟨some 5, none, .mv (.c (.int .i64 0))⟩] [0, 3, 4, 5]) (.block 2 (.loop (.seq (.seq
    (.region none [ ⟨some 24, none, .mv (.t 5)⟩, ⟨some 25, none, .mv (.t 0)⟩, ⟨some 26, none, .len (.t 25)⟩, ⟨some 27, none, .bin .lss (.t 24) (.t 26)⟩] [0, 3, 4, 5, 27]) (.cond (.t 27) .skip (.exit 2))) (.seq (.block 3 (.seq
    (.region none [ ⟨some 30, none, .mv (.t 0)⟩, ⟨some 31, none, .mv (.t 4)⟩, ⟨some 32, none, .idx 1 (.t 30) (.t 31)⟩, ⟨some 33, none, .ld none (.t 32)⟩, ⟨some 34, none, .mv (.t 5)⟩, ⟨some 35, none, .idx 1 (.t 33) (.t 34)⟩, ⟨some 36, none, .ld none (.t 35)⟩, ⟨some 37, none, .mv (.t 3)⟩, ⟨some 38, none, .bin .sub (.t 37) (.c (.int .i64 1))⟩, ⟨some 39, none, .call (.f 30) [((.t 36), .r), ((.c (.int .i64 0)), .r), ((.t 38), .r)]⟩, ⟨some 40, none, .un .not (.t 39)⟩] [0, 3, 4, 5, 40]) (.cond (.t 40) (.seq
    (.region none [ ⟨some 2, none, .mv (.c (.bool false))⟩] [2]) .ret) .skip)))
    (.region none [ ⟨some 28, none, .mv (.t 5)⟩, ⟨some 29, none, .bin .add (.t 28) (.c (.int .i64 1))⟩, ⟨some 5, none, .mv (.t 29)⟩] [0, 3, 4, 5]))))))))
    (.region none [ ⟨some 15, none, .mv (.t 4)⟩, ⟨some 16, none, .bin .add (.t 15) (.c (.int .i64 1))⟩, ⟨some 4, none, .mv (.t 16)⟩] [0, 3, 4])))))) (.seq
    (.region none [ ⟨some 2, none, .mv (.c (.bool true))⟩] [2]) .ret)))))

/-- spec.l01Perm -/
def c_spec_l01Perm : F where
  np := 1
  rs := [.t 2]
  body :=
    (.seq
    (.region none [ ⟨some 2, none, .mv (.c (.bool false))⟩] [0]) (.seq
    (.region none [ ⟨some 5, none, .mv (.t 0)⟩, ⟨some 6, none, .len (.t 5)⟩, ⟨some 3, none, .mv (.t 6)⟩] [0, 3]) (.seq (.seq
    (.region none [ ⟨some 7, none, .mv (.t 3)⟩, ⟨some 8, none, .call (.f 30) [((.t 7), .r), ((.c (.int .i64 1)), .r), ((.c (.int .i64 12)), .r)]⟩, ⟨some 9, none, .un .not (.t 8)⟩] [0, 3, 9]) (.cond (.t 9) (.seq
    (.region none [ ⟨some 2, none, .mv (.c (.bool false))⟩] [2]) .ret) .skip)) (.seq (.seq
    (.region none [ ⟨some 4, none, .mv (.c (.int .i64 0))⟩] [0, 3, 4]) (.block 0 (.loop (.seq (.seq
    (.region none [ ⟨some 10, none, .mv (.t 4)⟩, ⟨some 11, none, .mv (.t 3)⟩, ⟨some 12, none, .bin .lss (.t 10) (.t 11)⟩] [0, 3, 4, 12]) (.cond (.t 12) .skip (.exit 0))) (.seq (.block 1 (.seq
    (.region none [ ⟨some 15, none, .mv (.t 0)⟩, ⟨some 16, none, .mv (.t 4)⟩, ⟨some 17, none, .call (.f 62) [((.t 15), .r), ((.t 16), .r)]⟩, ⟨some 18, none, .un .not (.t 17)⟩] [0, 3, 4, 18]) (.cond (.t 18) (.seq
    (.region none [ ⟨some 2, none, .mv (.c (.bool false))⟩] [2]) .ret) .skip)))
    (.region none [ ⟨some 13, none, .mv (.t 4)⟩, ⟨some 14, none, .bin .add (.t 13) (.c (.int .i64 1))⟩, ⟨some 4, none, .mv (.t 14)⟩] [0, 3, 4])))))) (.seq
    (.region none [ ⟨some 2, none, .mv (.c (.bool true))⟩] [2]) .ret)))))

/-- spec.l03Fault -/
def c_spec_l03Fault : F where
  np := 1
  rs := [.t 2]
  body :=
    (.seq
    (.region none [ ⟨some 2, none, .asg (.c (.slice none 0 0))⟩] [0]) (.seq
    (.region none [ ⟨some 7, none, .mv (.t 0)⟩, ⟨some 8, none, .len (.t 7)⟩, ⟨some 3, none, .mv (.t 8)⟩] [0, 3]) (.seq (.seq
    (.region none [ ⟨some 4, none, .mv (.c (.int .i64 0))⟩] [0, 3, 4]) (.block 0 (.loop (.seq (.seq
    (.region none [ ⟨some 9, none, .mv (.t 4)⟩, ⟨some 10, none, .mv (.t 3)⟩, ⟨some 11, none, .bin .lss (.t 9) (.t 10)⟩] [0, 3, 4, 11]) (.cond (.t 11) .skip (.exit 0))) (.seq (.block 1 (.seq
    (.region none [ ⟨some 5, none, .mv (.c (.int .i64 0))⟩] [0, 3, 4, 5]) (.block 2 (.loop (.seq (.seq
    (.region none [ ⟨some 14, none, .mv (.t 5)⟩, ⟨some 15, none, .mv (.t 3)⟩, ⟨some 16, none, .bin .lss (.t 14) (.t 15)⟩] [0, 3, 4, 5, 16]) (.cond (.t 16) .skip (.exit 2))) (.seq (.block 3 (.seq
    (.region none [ ⟨some 6, none, .mv (.c (.int .i64 0))⟩] [0, 3, 4, 5, 6]) (.block 4 (.loop (.seq (.seq
    (.region none [ ⟨some 19, none, .mv (.t 6)⟩, ⟨some 20, none, .mv (.t 3)⟩, ⟨some 21, none, .bin .lss (.t 19) (.t 20)⟩] [0, 3, 4, 5, 6, 21]) (.cond (.t 21) .skip (.exit 4))) (.seq (.block 5 (.seq
    (.region (some [24, 25, 26, 27, 28, 29, 30, 31, 32, 33, 34, 35, 36, 37, 38, 39, 40, 41, 42, 43, 44, 45, 46, 47, 48, 49, 50, 51, 52, 53, 54, 55]) [ ⟨some 24, none, .mv (.t 0)⟩, ⟨some 25, none, .mv (.t 4)⟩, ⟨some 26, none, .idx 1 (.t 24) (.t 25)⟩, ⟨some 27, none, .ld none (.t 26)⟩, ⟨some 28, none, .mv (.t 0)⟩, ⟨some 29, none, .mv (.t 5)⟩, ⟨some 30, none, .idx 1 (.t 28) (.t 29)⟩, ⟨some 31, none, .ld none (.t 30)⟩, ⟨some 32, none, .mv (.t 6)⟩, ⟨some 33, none, .idx 1 (.t 31) (.t 32)⟩, ⟨some 34, none, .ld none (.t 33)⟩, ⟨some 35, none, .idx 1 (.t 27) (.t 34)⟩, ⟨some 36, none, .ld none (.t 35)⟩, ⟨some 37, none, .mv (.t 0)⟩, ⟨some 38, none, .mv (.t 0)⟩, ⟨some 39, none, .mv (.t 4)⟩, ⟨some 40, none, .idx 1 (.t 38) (.t 39)⟩, ⟨some 41, none, .ld none (.t 40)⟩, ⟨some 42, none, .mv (.t 5)⟩, ⟨some 43, none, .idx 1 (.t 41) (.t 42)⟩, ⟨some 44, none, .ld none (.t 43)⟩, ⟨some 45, none, .idx 1 (.t 37) (.t 44)⟩, ⟨some 46, none, .ld none (.t 45)⟩, ⟨some 47, none, .mv (.t 0)⟩, ⟨some 48, none, .mv (.t 4)⟩, ⟨some 49, none, .idx 1 (.t 47) (.t 48)⟩, ⟨some 50, none, .ld none (.t 49)⟩, ⟨some 51, none, .mv (.t 6)⟩, ⟨some 52, none, .idx 1 (.t 50) (.t 51)⟩, ⟨some 53, none, .ld none (.t 52)⟩, ⟨some 54, none, .idx 1 (.t 46) (.t 53)⟩, ⟨some 55, none, .ld none (.t 54)⟩, ⟨some 56, none, .bin .neq (.t 36) (.t 55)⟩] [0, 3, 4, 5, 6, 56]) (.cond (.t 56) (.seq
    (.region none [ ⟨some 57, none, .mv (.t 4)⟩, ⟨some 58, none, .mv (.t 5)⟩, ⟨some 59, none, .mv (.t 6)⟩, ⟨some 60, none, .bsl [(.t 57), (.t 58), (.t 59)]⟩, ⟨some 2, none, .asg (.t 60)⟩] [2]) .ret) .skip)))
    (.region none [ ⟨some 22, none, .mv (.t 6)⟩, ⟨some 23, none, .bin .add (.t 22) (.c (.int .i64 1))⟩, ⟨some 6, none, .mv (.t 23)⟩] [0, 3, 4, 5, 6])))))))
    (.region none [ ⟨some 17, none, .mv (.t 5)⟩, ⟨some 18, none, .bin .add (.t 17) (.c (.int .i64 1))⟩, ⟨some 5, none, .mv (.t 18)⟩] [0, 3, 4, 5])))))))
    (.region none [ ⟨some 12, none, .mv (.t 4)⟩, ⟨some 13, none, .bin .add (.t 12) (.c (.int .i64 1))⟩, ⟨some 4, none, .mv (.t 13)⟩] [0, 3, 4])))))) (.seq
    (.region none [ ⟨some 2, none, .asg (.c (.slice none 0 0))⟩] [2]) .ret))))

/-- impl.IsTable -/
def c_impl_IsTable : F where
  np := 1
  rs := [.t 2]
  body :=
    (.seq
    (.region none [ ⟨some 2, none, .mv (.c (.bool false))⟩] [0]) (.seq
    (.region none [ ⟨some 4, none, .mv (.t 0)⟩, ⟨some 5, none, .len (.t 4)⟩, ⟨some 3, none, .alloc [(.int .i64 0)]⟩, ⟨none, none, .st none (.t 3) (.t 5)⟩] [0, 3]) (.seq
    (.region none [ ⟨some 6, none, .ld none (.t 3)⟩, ⟨some 7, none, .call (.f 35) [((.t 6), .r), ((.c (.int .i64 1)), .r), ((.c (.int .i64 12)), .r)]⟩, ⟨some 8, none, .mv (.t 7)⟩, ⟨some 9, (some (8, true)), .mv (.t 0)⟩, ⟨some 10, (some (8, true)), .fnc 64 [(.t 3)]⟩, ⟨some 11, (some (8, true)), .call (.f 63) [((.t 9), .r), ((.t 10), .r)]⟩, ⟨some 12, (some (8, true)), .un .not (.t 11)⟩, ⟨some 13, none, .pick (.t 8) (.t 12) (.c (.bool false))⟩, ⟨some 2, none, .mv (.t 13)⟩] [2]) .ret)))

/-- impl.permutationRows -/
def c_impl_permutationRows : F where
  np := 1
  rs := [.t 2]
  body :=
    (.seq
    (.region none [ ⟨some 2, none, .mv (.c (.bool false))⟩] [0]) (.seq
    (.region none [ ⟨some 3, none, .mv (.t 0)⟩, ⟨some 4, none, .call (.f 63) [((.t 3), .r), ((.f 65), .r)]⟩, ⟨some 5, none, .un .not (.t 4)⟩, ⟨some 2, none, .mv (.t 5)⟩] [2]) .ret))

/-- impl.rackFault -/
def c_impl_rackFault : F where
  np := 1
  rs := [.t 2]
  body :=
    (.seq
    (.region none [ ⟨some 2, none, .asg (.c (.slice none 0 0))⟩] [0]) (.seq
    (.region none [ ⟨some 7, none, .mv (.t 0)⟩, ⟨some 8, none, .len (.t 7)⟩, ⟨some 3, none, .mv (.t 8)⟩] [0, 3]) (.seq (.seq
    (.region none [ ⟨some 9, none, .mv (.t 3)⟩, ⟨some 10, none, .mv (.c (.int .i64 0))⟩] [0, 3, 9, 10]) (.block 0 (.loop (.seq
    (.region none [ ⟨some 11, none, .bin .lss (.t 10) (.t 9)⟩] [0, 3, 9, 10, 11]) (.seq (.cond (.t 11) .skip (.exit 0)) (.seq (.block 1 (.seq
    (.region none [ ⟨some 12, none, .mv (.t 10)⟩, ⟨some 4, none, .mv (.t 12)⟩] [0, 3, 4, 9, 10]) (.seq
    (.region none [ ⟨some 13, none, .mv (.t 3)⟩, ⟨some 14, none, .mv (.c (.int .i64 0))⟩] [0, 3, 4, 9, 10, 13, 14]) (.block 2 (.loop (.seq
    (.region none [ ⟨some 15, none, .bin .lss (.t 14) (.t 13)⟩] [0, 3, 4, 9, 10, 13, 14, 15]) (.seq (.cond (.t 15) .skip (.exit 2)) (.seq (.block 3 (.seq
    (.region none [ ⟨some 16, none, .mv (.t 14)⟩, ⟨some 5, none, .mv (.t 16)⟩] [0, 3, 4, 5, 9, 10, 13, 14]) (.seq
    (.region none [ ⟨some 17, none, .mv (.t 3)⟩, ⟨some 18, none, .mv (.c (.int .i64 0))⟩] [0, 3, 4, 5, 9, 10, 13, 14, 17, 18]) (.block 4 (.loop (.seq
    (.region none [ ⟨some 19, none, .bin .lss (.t 18) (.t 17)⟩] [0, 3, 4, 5, 9, 10, 13, 14, 17, 18, 19]) (.seq (.cond (.t 19) .skip (.exit 4)) (.seq (.block 5 (.seq
    (.region none [ ⟨some 20, none, .mv (.t 18)⟩, ⟨some 6, none, .mv (.t 20)⟩] [0, 3, 4, 5, 6, 9, 10, 13, 14, 17, 18]) (.seq
    (.region (some [21, 22, 23, 24, 25, 26, 27, 28, 29, 30, 31, 32, 33, 34, 35, 36, 37, 38, 39, 40, 41, 42, 43, 44, 45, 46, 47, 48, 49, 50, 51, 52]) [ ⟨some 21, none, .mv (.t 0)⟩, ⟨some 22, none, .mv (.t 4)⟩, ⟨some 23, none, .idx 1 (.t 21) (.t 22)⟩, ⟨some 24, none, .ld none (.t 23)⟩, ⟨some 25, none, .mv (.t 0)⟩, ⟨some 26, none, .mv (.t 5)⟩, ⟨some 27, none, .idx 1 (.t 25) (.t 26)⟩, ⟨some 28, none, .ld none (.t 27)⟩, ⟨some 29, none, .mv (.t 6)⟩, ⟨some 30, none, .idx 1 (.t 28) (.t 29)⟩, ⟨some 31, none, .ld none (.t 30)⟩, ⟨some 32, none, .idx 1 (.t 24) (.t 31)⟩, ⟨some 33, none, .ld none (.t 32)⟩, ⟨some 34, none, .mv (.t 0)⟩, ⟨some 35, none, .mv (.t 0)⟩, ⟨some 36, none, .mv (.t 4)⟩, ⟨some 37, none, .idx 1 (.t 35) (.t 36)⟩, ⟨some 38, none, .ld none (.t 37)⟩, ⟨some 39, none, .mv (.t 5)⟩, ⟨some 40, none, .idx 1 (.t 38) (.t 39)⟩, ⟨some 41, none, .ld none (.t 40)⟩, ⟨some 42, none, .idx 1 (.t 34) (.t 41)⟩, ⟨some 43, none, .ld none (.t 42)⟩, ⟨some 44, none, .mv (.t 0)⟩, ⟨some 45, none, .mv (.t 4)⟩, ⟨some 46, none, .idx 1 (.t 44) (.t 45)⟩, ⟨some 47, none, .ld none (.t 46)⟩, ⟨some 48, none, .mv (.t 6)⟩, ⟨some 49, none, .idx 1 (.t 47) (.t 48)⟩, ⟨some 50, none, .ld none (.t 49)⟩, ⟨some 51, none, .idx 1 (.t 43) (.t 50)⟩, ⟨some 52, none, .ld none (.t 51)⟩, ⟨some 53, none, .bin .neq (.t 33) (.t 52)⟩] [0, 3, 4, 5, 6, 9, 10, 13, 14, 17, 18, 53]) (.cond (.t 53) (.seq
    (.region none [ ⟨some 54, none, .mv (.t 4)⟩, ⟨some 55, none, .mv (.t 5)⟩, ⟨some 56, none, .mv (.t 6)⟩, ⟨some 57, none, .bsl [(.t 54), (.t 55), (.t 56)]⟩, ⟨some 2, none, .asg (.t 57)⟩] [2]) .ret) .skip))))
    (.region none [ ⟨some 58, none, .bin .add (.t 18) (.c (.int .i64 1))⟩, ⟨some 18, none, .mv (.t 58)⟩] [0, 3, 4, 5, 9, 10, 13, 14, 17, 18])))))))))
    (.region none [ ⟨some 59, none, .bin .add (.t 14) (.c (.int .i64 1))⟩, ⟨some 14, none, .mv (.t 59)⟩] [0, 3, 4, 9, 10, 13, 14])))))))))
    (.region none [ ⟨some 60, none, .bin .add (.t 10) (.c (.int .i64 1))⟩, ⟨some 10, none, .mv (.t 60)⟩] [0, 3, 9, 10]))))))) (.seq
    (.region none [ ⟨some 2, none, .asg (.c (.slice none 0 0))⟩] [2]) .ret))))

/-- impl.allWithin -/
def c_impl_allWithin : F where
  np := 3
  rs := [.t 6]
  body :=
    (.seq
    (.region none [ ⟨some 6, none, .mv (.c (.bool false))⟩] [0, 1, 2]) (.seq (.seq
    (.region none [ ⟨some 9, none, .mv (.t 0)⟩, ⟨some 10, none, .len (.t 9)⟩, ⟨some 11, none, .mv (.c (.int .i64 0))⟩] [1, 2, 9, 10, 11]) (.block 0 (.loop (.seq
    (.region none [ ⟨some 12, none, .bin .lss (.t 11) (.t 10)⟩] [1, 2, 9, 10, 11, 12]) (.seq (.cond (.t 12) .skip (.exit 0)) (.seq (.block 1 (.seq
    (.region none [ ⟨some 13, none, .idx 1 (.t 9) (.t 11)⟩, ⟨some 14, none, .ld none (.t 13)⟩, ⟨some 8, none, .mv (.t 14)⟩] [1, 2, 8, 9, 10, 11]) (.seq
    (.region none [ ⟨some 15, none, .mv (.t 8)⟩, ⟨some 16, none, .mv (.t 1)⟩, ⟨some 17, none, .mv (.t 2)⟩, ⟨some 18, none, .call (.f 35) [((.t 15), .r), ((.t 16), .r), ((.t 17), .r)]⟩, ⟨some 19, none, .un .not (.t 18)⟩] [1, 2, 9, 10, 11, 19]) (.cond (.t 19) (.seq
    (.region none [ ⟨some 6, none, .mv (.c (.bool false))⟩] [6]) .ret) .skip))))
    (.region none [ ⟨some 20, none, .bin .add (.t 11) (.c (.int .i64 1))⟩, ⟨some 11, none, .mv (.t 20)⟩] [1, 2, 9, 10, 11]))))))) (.seq
    (.region none [ ⟨some 6, none, .mv (.c (.bool true))⟩] [6]) .ret)))

/-- spec.l01Has -/
def c_spec_l01Has : F where
  np := 2
  rs := [.t 4]
  body :=
    (.seq
    (.region none [ ⟨some 4, none, .mv (.c (.bool false))⟩] [0, 1]) (.seq
    (.region none [ ⟨some 5, none, .mv (.t 0)⟩, ⟨some 6, none, .mv (.t 1)⟩, ⟨some 7, none, .call (.f 69) [((.t 5), .r), ((.t 6), .r)]⟩, ⟨some 8, none, .bin .geq (.t 7) (.c (.int .i64 0))⟩, ⟨some 4, none, .mv (.t 8)⟩] [4]) .ret))

/-- slices.ContainsFunc[[][]int64,[]int64] -/
def c_slices_ContainsFunc_____int64___int64_ : F where
  np := 2
  rs := [.t 4]
  body :=
    (.seq
    (.region none [ ⟨some 4, none, .mv (.c (.bool false))⟩] [0, 1]) (.seq
    (.region none [ ⟨some 5, none, .mv (.t 0)⟩, ⟨some 6, none, .mv (.t 1)⟩, ⟨some 7, none, .call (.f 70) [((.t 5), .r), ((.t 6), .r)]⟩, ⟨some 8, none, .bin .geq (.t 7) (.c (.int .i64 0))⟩, ⟨some 4, none, .mv (.t 8)⟩] [4]) .ret))

/-- impl.IsTable$1 -/
def c_impl_IsTable_1 : F where
  np := 2
  rs := [.t 3]
  body :=
    (.seq
    (.region none [ ⟨some 3, none, .mv (.c (.bool false))⟩] [0, 1]) (.seq
    (.region none [ ⟨some 4, none, .mv (.t 0)⟩, ⟨some 5, none, .len (.t 4)⟩, ⟨some 6, none, .ld none (.t 1)⟩, ⟨some 7, none, .bin .neq (.t 5) (.t 6)⟩, ⟨some 8, none, .mv (.t 7)⟩, ⟨some 9, (some (8, false)), .mv (.t 0)⟩, ⟨some 10, (some (8, false)), .ld none (.t 1)⟩, ⟨some 11, (some (8, false)), .bin .sub (.t 10) (.c (.int .i64 1))⟩, ⟨some 12, (some (8, false)), .call (.f 54) [((.t 9), .r), ((.c (.int .i64 0)), .r), ((.t 11), .r)]⟩, ⟨some 13, (some (8, false)), .un .not (.t 12)⟩, ⟨some 14, none, .pick (.t 8) (.c (.bool true)) (.t 13)⟩, ⟨some 3, none, .mv (.t 14)⟩] [3]) .ret))

/-- impl.permutationRows$1 -/
def c_impl_permutationRows_1 : F where
  np := 1
  rs := [.t 2]
  body :=
    (.seq
    (.region none [ ⟨some 2, none, .mv (.c (.bool false))⟩] [0]) (.seq
    (.region none [ ⟨some 3, none, .mv (.t 0)⟩, ⟨some 4, none, .call (.f 66) [((.t 3), .r)]⟩, ⟨some 5, none, .un .not (.t 4)⟩, ⟨some 2, none, .mv (.t 5)⟩] [2]) .ret))

/-- impl.isPermuted -/
def c_impl_isPermuted : F where
  np := 1
  rs := [.t 2]
  body :=
    (.seq
    (.region none [ ⟨some 2, none, .mv (.c (.bool false))⟩] [0]) (.seq
    (.region none [ ⟨some 6, none, .mv (.t 0)⟩, ⟨some 7, none, .len (.t 6)⟩, ⟨some 8, none, .mks (.bool false) (.t 7)⟩, ⟨some 3, none, .asg (.t 8)⟩] [0, 3]) (.seq (.seq
    (.region none [ ⟨some 9, none, .mv (.t 0)⟩, ⟨some 10, none, .len (.t 9)⟩, ⟨some 11, none, .mv (.c (.int .i64 0))⟩] [0, 3, 9, 10, 11]) (.block 0 (.loop (.seq
    (.region none [ ⟨some 12, none, .bin .lss (.t 11) (.t 10)⟩] [0, 3, 9, 10, 11, 12]) (.seq (.cond (.t 12) .skip (.exit 0)) (.seq (.block 1 (.seq
    (.region none [ ⟨some 13, none, .idx 1 (.t 9) (.t 11)⟩, ⟨some 14, none, .ld none (.t 13)⟩, ⟨some 5, none, .mv (.t 14)⟩] [0, 3, 5, 9, 10, 11]) (.seq (.seq
    (.region none [ ⟨some 15, none, .mv (.t 5)⟩, ⟨some 16, none, .mv (.t 0)⟩, ⟨some 17, none, .len (.t 16)⟩, ⟨some 18, none, .bin .sub (.t 17) (.c (.int .i64 1))⟩, ⟨some 19, none, .call (.f 35) [((.t 15), .r), ((.c (.int .i64 0)), .r), ((.t 18), .r)]⟩, ⟨some 20, none, .un .not (.t 19)⟩, ⟨some 21, none, .mv (.t 20)⟩, ⟨some 22, (some (21, false)), .mv (.t 3)⟩, ⟨some 23, (some (21, false)), .mv (.t 5)⟩, ⟨some 24, (some (21, false)), .idx 1 (.t 22) (.t 23)⟩, ⟨some 25, (some (21, false)), .ld none (.t 24)⟩, ⟨some 26, none, .pick (.t 21) (.c (.bool true)) (.t 25)⟩] [0, 3, 5, 9, 10, 11, 26]) (.cond (.t 26) (.seq
    (.region none [ ⟨some 2, none, .mv (.c (.bool false))⟩] [2]) .ret) .skip))
    (.region none [ ⟨some 27, none, .mv (.t 3)⟩, ⟨some 28, none, .mv (.t 5)⟩, ⟨some 29, none, .idx 1 (.t 27) (.t 28)⟩, ⟨none, none, .st none (.t 29) (.c (.bool true))⟩] [0, 3, 9, 10, 11]))))
    (.region none [ ⟨some 30, none, .bin .add (.t 11) (.c (.int .i64 1))⟩, ⟨some 11, none, .mv (.t 30)⟩] [0, 3, 9, 10, 11]))))))) (.seq
    (.region none [ ⟨some 2, none, .mv (.c (.bool true))⟩] [2]) .ret))))

/-- spec.l01Same -/
def c_spec_l01Same : F where
  np := 2
  rs := [.t 4]
  body :=
    (.seq
    (.region none [ ⟨some 4, none, .mv (.c (.bool false))⟩] [0, 1]) (.seq (.seq
    (.region none [ ⟨some 6, none, .mv (.t 0)⟩, ⟨some 7, none, .len (.t 6)⟩, ⟨some 8, none, .mv (.t 1)⟩, ⟨some 9, none, .len (.t 8)⟩, ⟨some 10, none, .bin .neq (.t 7) (.t 9)⟩] [0, 1, 10]) (.cond (.t 10) (.seq
    (.region none [ ⟨some 4, none, .mv (.c (.bool false))⟩] [4]) .ret) .skip)) (.seq (.seq
    (.region none [ ⟨some 5, none, .mv (.c (.int .i64 0))⟩] [0, 1, 5]) (.block 0 (.loop (.seq (.seq
    (.region none [ ⟨some 11, none, .mv (.t 5)⟩, ⟨some 12, none, .mv (.t 0)⟩, ⟨some 13, none, .len (.t 12)⟩, ⟨some 14, none, .bin .lss (.t 11) (.t 13)⟩] [0, 1, 5, 14]) (.cond (.t 14) .skip (.exit 0))) (.seq (.block 1 (.seq
    (.region (some [17, 18, 19, 20, 21, 22, 23, 24]) [ ⟨some 17, none, .mv (.t 0)⟩, ⟨some 18, none, .mv (.t 5)⟩, ⟨some 19, none, .idx 1 (.t 17) (.t 18)⟩, ⟨some 20, none, .ld none (.t 19)⟩, ⟨some 21, none, .mv (.t 1)⟩, ⟨some 22, none, .mv (.t 5)⟩, ⟨some 23, none, .idx 1 (.t 21) (.t 22)⟩, ⟨some 24, none, .ld none (.t 23)⟩, ⟨some 25, none, .bin .neq (.t 20) (.t 24)⟩] [0, 1, 5, 25]) (.cond (.t 25) (.seq
    (.region none [ ⟨some 4, none, .mv (.c (.bool false))⟩] [4]) .ret) .skip)))
    (.region none [ ⟨some 15, none, .mv (.t 5)⟩, ⟨some 16, none, .bin .add (.t 15) (.c (.int .i64 1))⟩, ⟨some 5, none, .mv (.t 16)⟩] [0, 1, 5])))))) (.seq
    (.region none [ ⟨some 4, none, .mv (.c (.bool true))⟩] [4]) .ret))))

/-- spec.l01Index -/
def c_spec_l01Index : F where
  np := 2
  rs := [.t 4]
  body :=
    (.seq
    (.region none [ ⟨some 4, none, .mv (.c (.int .i64 0))⟩] [0, 1]) (.seq (.seq
    (.region none [ ⟨some 5, none, .mv (.c (.int .i64 0))⟩] [0, 1, 5]) (.block 0 (.loop (.seq (.seq
    (.region none [ ⟨some 6, none, .mv (.t 5)⟩, ⟨some 7, none, .mv (.t 0)⟩, ⟨some 8, none, .len (.t 7)⟩, ⟨some 9, none, .bin .lss (.t 6) (.t 8)⟩] [0, 1, 5, 9]) (.cond (.t 9) .skip (.exit 0))) (.seq (.block 1 (.seq
    (.region none [ ⟨some 12, none, .mv (.t 0)⟩, ⟨some 13, none, .mv (.t 5)⟩, ⟨some 14, none, .idx 1 (.t 12) (.t 13)⟩, ⟨some 15, none, .ld none (.t 14)⟩, ⟨some 16, none, .mv (.t 1)⟩, ⟨some 17, none, .bin .eql (.t 15) (.t 16)⟩] [0, 1, 5, 17]) (.cond (.t 17) (.seq
    (.region none [ ⟨some 18, none, .mv (.t 5)⟩, ⟨some 4, none, .mv (.t 18)⟩] [4]) .ret) .skip)))
    (.region none [ ⟨some 10, none, .mv (.t 5)⟩, ⟨some 11, none, .bin .add (.t 10) (.c (.int .i64 1))⟩, ⟨some 5, none, .mv (.t 11)⟩] [0, 1, 5])))))) (.seq
    (.region none [ ⟨some 4, none, .mv (.c (.int .i64 (-1)))⟩] [4]) .ret)))

/-- slices.IndexFunc[[][]int64,[]int64] -/
def c_slices_IndexFunc_____int64___int64_ : F where
  np := 2
  rs := [.t 4]
  body :=
    (.seq
    (.region none [ ⟨some 4, none, .mv (.c (.int .i64 0))⟩] [0, 1]) (.seq (.seq
    (.region none [ ⟨some 6, none, .mv (.t 0)⟩, ⟨some 7, none, .len (.t 6)⟩, ⟨some 8, none, .mv (.c (.int .i64 0))⟩] [0, 1, 7, 8]) (.block 0 (.loop (.seq
    (.region none [ ⟨some 9, none, .bin .lss (.t 8) (.t 7)⟩] [0, 1, 7, 8, 9]) (.seq (.cond (.t 9) .skip (.exit 0)) (.seq (.block 1 (.seq
    (.region none [ ⟨some 10, none, .mv (.t 8)⟩, ⟨some 5, none, .mv (.t 10)⟩] [0, 1, 5, 7, 8]) (.seq
    (.region none [ ⟨some 11, none, .mv (.t 1)⟩, ⟨some 12, none, .mv (.t 0)⟩, ⟨some 13, none, .mv (.t 5)⟩, ⟨some 14, none, .idx 1 (.t 12) (.t 13)⟩, ⟨some 15, none, .ld none (.t 14)⟩, ⟨some 16, none, .call (.t 11) [((.t 15), .r)]⟩] [0, 1, 5, 7, 8, 16]) (.cond (.t 16) (.seq
    (.region none [ ⟨some 17, none, .mv (.t 5)⟩, ⟨some 4, none, .mv (.t 17)⟩] [4]) .ret) .skip))))
    (.region none [ ⟨some 18, none, .bin .add (.t 8) (.c (.int .i64 1))⟩, ⟨some 8, none, .mv (.t 18)⟩] [0, 1, 7, 8]))))))) (.seq
    (.region none [ ⟨some 4, none, .mv (.c (.int .i64 (-1)))⟩] [4]) .ret)))

end Go.Mch
