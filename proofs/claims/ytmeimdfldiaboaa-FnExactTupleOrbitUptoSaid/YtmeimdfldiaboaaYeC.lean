/- Compact code of the functions that statements 13 to 36 reach further. -/
import Derived.Test.YtmeimdfldiaboaaM1
namespace Go.Mch

/-- spec.l01Less -/
def c_spec_l01Less : F where
  np := 2
  rs := [.t 4]
  body :=
    (.seq
    (.region none [ ⟨some 4, none, .mv (.c (.bool false))⟩] [0, 1]) (.seq (.seq
    (.region none [ ⟨some 5, none, .mv (.c (.int .i64 0))⟩] [0, 1, 5]) (.block 0 (.loop (.seq (.seq
    (.region none [ ⟨some 6, none, .mv (.t 5)⟩, ⟨some 7, none, .mv (.t 0)⟩, ⟨some 8, none, .len (.t 7)⟩, ⟨some 9, none, .bin .lss (.t 6) (.t 8)⟩, ⟨some 10, none, .mv (.t 9)⟩, ⟨some 11, (some (10, true)), .mv (.t 5)⟩, ⟨some 12, (some (10, true)), .mv (.t 1)⟩, ⟨some 13, (some (10, true)), .len (.t 12)⟩, ⟨some 14, (some (10, true)), .bin .lss (.t 11) (.t 13)⟩, ⟨some 15, none, .pick (.t 10) (.t 14) (.c (.bool false))⟩] [0, 1, 5, 15]) (.cond (.t 15) .skip (.exit 0))) (.seq (.block 1 (.seq
    (.region (some [18, 19, 20, 21, 22, 23, 24, 25]) [ ⟨some 18, none, .mv (.t 0)⟩, ⟨some 19, none, .mv (.t 5)⟩, ⟨some 20, none, .idx 1 (.t 18) (.t 19)⟩, ⟨some 21, none, .ld none (.t 20)⟩, ⟨some 22, none, .mv (.t 1)⟩, ⟨some 23, none, .mv (.t 5)⟩, ⟨some 24, none, .idx 1 (.t 22) (.t 23)⟩, ⟨some 25, none, .ld none (.t 24)⟩, ⟨some 26, none, .bin .neq (.t 21) (.t 25)⟩] [0, 1, 5, 26]) (.cond (.t 26) (.seq
    (.region (some [27, 28, 29, 30, 31, 32, 33, 34]) [ ⟨some 27, none, .mv (.t 0)⟩, ⟨some 28, none, .mv (.t 5)⟩, ⟨some 29, none, .idx 1 (.t 27) (.t 28)⟩, ⟨some 30, none, .ld none (.t 29)⟩, ⟨some 31, none, .mv (.t 1)⟩, ⟨some 32, none, .mv (.t 5)⟩, ⟨some 33, none, .idx 1 (.t 31) (.t 32)⟩, ⟨some 34, none, .ld none (.t 33)⟩, ⟨some 35, none, .bin .lss (.t 30) (.t 34)⟩, ⟨some 4, none, .mv (.t 35)⟩] [4]) .ret) .skip)))
    (.region none [ ⟨some 16, none, .mv (.t 5)⟩, ⟨some 17, none, .bin .add (.t 16) (.c (.int .i64 1))⟩, ⟨some 5, none, .mv (.t 17)⟩] [0, 1, 5])))))) (.seq
    (.region none [ ⟨some 36, none, .mv (.t 0)⟩, ⟨some 37, none, .len (.t 36)⟩, ⟨some 38, none, .mv (.t 1)⟩, ⟨some 39, none, .len (.t 38)⟩, ⟨some 40, none, .bin .lss (.t 37) (.t 39)⟩, ⟨some 4, none, .mv (.t 40)⟩] [4]) .ret)))

/-- impl.digitsText -/
def c_impl_digitsText : F where
  np := 1
  rs := [.t 2]
  body :=
    (.seq
    (.region none [ ⟨some 2, none, .mv (.c (.string (ByteArray.mk #[])))⟩] [0]) (.seq
    (.region none [ ⟨some 6, none, .mv (.t 0)⟩, ⟨some 7, none, .len (.t 6)⟩, ⟨some 8, none, .mks (.int .u8 0) (.t 7)⟩, ⟨some 3, none, .asg (.t 8)⟩] [0, 3]) (.seq (.seq
    (.region none [ ⟨some 9, none, .mv (.t 0)⟩, ⟨some 10, none, .len (.t 9)⟩, ⟨some 11, none, .mv (.c (.int .i64 0))⟩] [3, 9, 10, 11]) (.block 0 (.loop (.seq
    (.region none [ ⟨some 12, none, .bin .lss (.t 11) (.t 10)⟩] [3, 9, 10, 11, 12]) (.seq (.cond (.t 12) .skip (.exit 0)) (.seq (.block 1 (.seq
    (.region none [ ⟨some 13, none, .mv (.t 11)⟩, ⟨some 14, none, .idx 1 (.t 9) (.t 11)⟩, ⟨some 15, none, .ld none (.t 14)⟩, ⟨some 4, none, .mv (.t 13)⟩, ⟨some 5, none, .mv (.t 15)⟩] [3, 4, 5, 9, 10, 11])
    (.region none [ ⟨some 16, none, .mv (.t 3)⟩, ⟨some 17, none, .mv (.t 4)⟩, ⟨some 18, none, .mv (.t 5)⟩, ⟨some 19, none, .at (.c (.string (ByteArray.mk #[48, 49, 50, 51, 52, 53, 54, 55, 56, 57, 97, 98]))) (.t 18)⟩, ⟨some 20, none, .idx 1 (.t 16) (.t 17)⟩, ⟨none, none, .st none (.t 20) (.t 19)⟩] [3, 9, 10, 11])))
    (.region none [ ⟨some 21, none, .bin .add (.t 11) (.c (.int .i64 1))⟩, ⟨some 11, none, .mv (.t 21)⟩] [3, 9, 10, 11]))))))) (.seq
    (.region none [ ⟨some 22, none, .mv (.t 3)⟩, ⟨some 23, none, .bstr (.t 22)⟩, ⟨some 2, none, .mv (.t 23)⟩] [2]) .ret))))

/-- slices.Compare[[]int64,int64] -/
def c_slices_Compare___int64_int64_ : F where
  np := 2
  rs := [.t 4]
  body :=
    (.seq
    (.region none [ ⟨some 4, none, .mv (.c (.int .i64 0))⟩] [0, 1]) (.seq (.seq
    (.region none [ ⟨some 9, none, .mv (.t 0)⟩, ⟨some 10, none, .len (.t 9)⟩, ⟨some 11, none, .mv (.c (.int .i64 0))⟩] [0, 1, 9, 10, 11]) (.block 0 (.loop (.seq
    (.region none [ ⟨some 12, none, .bin .lss (.t 11) (.t 10)⟩] [0, 1, 9, 10, 11, 12]) (.seq (.cond (.t 12) .skip (.exit 0)) (.seq (.block 1 (.seq
    (.region none [ ⟨some 13, none, .mv (.t 11)⟩, ⟨some 14, none, .idx 1 (.t 9) (.t 11)⟩, ⟨some 15, none, .ld none (.t 14)⟩, ⟨some 5, none, .mv (.t 13)⟩, ⟨some 6, none, .mv (.t 15)⟩] [0, 1, 5, 6, 9, 10, 11]) (.seq (.seq
    (.region none [ ⟨some 16, none, .mv (.t 5)⟩, ⟨some 17, none, .mv (.t 1)⟩, ⟨some 18, none, .len (.t 17)⟩, ⟨some 19, none, .bin .geq (.t 16) (.t 18)⟩] [0, 1, 5, 6, 9, 10, 11, 19]) (.cond (.t 19) (.seq
    (.region none [ ⟨some 4, none, .mv (.c (.int .i64 1))⟩] [4]) .ret) .skip)) (.seq
    (.region none [ ⟨some 20, none, .mv (.t 1)⟩, ⟨some 21, none, .mv (.t 5)⟩, ⟨some 22, none, .idx 1 (.t 20) (.t 21)⟩, ⟨some 23, none, .ld none (.t 22)⟩, ⟨some 7, none, .mv (.t 23)⟩] [0, 1, 6, 7, 9, 10, 11]) (.seq
    (.region none [ ⟨some 24, none, .mv (.t 6)⟩, ⟨some 25, none, .mv (.t 7)⟩, ⟨some 26, none, .call (.f 395) [((.t 24), .r), ((.t 25), .r)]⟩, ⟨some 8, none, .mv (.t 26)⟩] [0, 1, 8, 9, 10, 11]) (.seq
    (.region none [ ⟨some 27, none, .mv (.t 8)⟩, ⟨some 28, none, .bin .neq (.t 27) (.c (.int .i64 0))⟩] [0, 1, 8, 9, 10, 11, 28]) (.cond (.t 28) (.seq
    (.region none [ ⟨some 29, none, .mv (.t 8)⟩, ⟨some 4, none, .mv (.t 29)⟩] [4]) .ret) .skip)))))))
    (.region none [ ⟨some 30, none, .bin .add (.t 11) (.c (.int .i64 1))⟩, ⟨some 11, none, .mv (.t 30)⟩] [0, 1, 9, 10, 11]))))))) (.seq (.seq
    (.region none [ ⟨some 31, none, .mv (.t 0)⟩, ⟨some 32, none, .len (.t 31)⟩, ⟨some 33, none, .mv (.t 1)⟩, ⟨some 34, none, .len (.t 33)⟩, ⟨some 35, none, .bin .lss (.t 32) (.t 34)⟩] [35]) (.cond (.t 35) (.seq
    (.region none [ ⟨some 4, none, .mv (.c (.int .i64 (-1)))⟩] [4]) .ret) .skip)) (.seq
    (.region none [ ⟨some 4, none, .mv (.c (.int .i64 0))⟩] [4]) .ret))))

/-- cmp.Compare[int64] -/
def c_cmp_Compare_int64_ : F where
  np := 2
  rs := [.t 4]
  body :=
    (.seq
    (.region none [ ⟨some 4, none, .mv (.c (.int .i64 0))⟩] [0, 1]) (.seq
    (.region none [ ⟨some 7, none, .mv (.t 0)⟩, ⟨some 8, none, .call (.f 443) [((.t 7), .r)]⟩, ⟨some 5, none, .mv (.t 8)⟩] [0, 1, 5]) (.seq
    (.region none [ ⟨some 9, none, .mv (.t 1)⟩, ⟨some 10, none, .call (.f 443) [((.t 9), .r)]⟩, ⟨some 6, none, .mv (.t 10)⟩] [0, 1, 5, 6]) (.seq (.seq
    (.region none [ ⟨some 11, none, .mv (.t 5)⟩] [0, 1, 6, 11]) (.cond (.t 11) (.seq (.seq
    (.region none [ ⟨some 12, none, .mv (.t 6)⟩] [12]) (.cond (.t 12) (.seq
    (.region none [ ⟨some 4, none, .mv (.c (.int .i64 0))⟩] [4]) .ret) .skip)) (.seq
    (.region none [ ⟨some 4, none, .mv (.c (.int .i64 (-1)))⟩] [4]) .ret)) .skip)) (.seq (.seq
    (.region none [ ⟨some 13, none, .mv (.t 6)⟩] [0, 1, 13]) (.cond (.t 13) (.seq
    (.region none [ ⟨some 4, none, .mv (.c (.int .i64 1))⟩] [4]) .ret) .skip)) (.seq (.seq
    (.region none [ ⟨some 14, none, .mv (.t 0)⟩, ⟨some 15, none, .mv (.t 1)⟩, ⟨some 16, none, .bin .lss (.t 14) (.t 15)⟩] [0, 1, 16]) (.cond (.t 16) (.seq
    (.region none [ ⟨some 4, none, .mv (.c (.int .i64 (-1)))⟩] [4]) .ret) .skip)) (.seq (.seq
    (.region none [ ⟨some 17, none, .mv (.t 0)⟩, ⟨some 18, none, .mv (.t 1)⟩, ⟨some 19, none, .bin .gtr (.t 17) (.t 18)⟩] [19]) (.cond (.t 19) (.seq
    (.region none [ ⟨some 4, none, .mv (.c (.int .i64 1))⟩] [4]) .ret) .skip)) (.seq
    (.region none [ ⟨some 4, none, .mv (.c (.int .i64 0))⟩] [4]) .ret))))))))

/-- cmp.isNaN[int64] -/
def c_cmp_isNaN_int64_ : F where
  np := 1
  rs := [.t 2]
  body :=
    (.seq
    (.region none [ ⟨some 2, none, .mv (.c (.bool false))⟩] [0]) (.seq
    (.region none [ ⟨some 3, none, .mv (.t 0)⟩, ⟨some 4, none, .mv (.t 0)⟩, ⟨some 5, none, .bin .neq (.t 3) (.t 4)⟩, ⟨some 2, none, .mv (.t 5)⟩] [2]) .ret))

end Go.Mch
