/- Compact code of the sorting of rows. -/
import Derived.Test.YtmfppjjjamemnaaM1
namespace Go.Mch

/-- The bit lengths of the numbers below 256. -/
def lenTab : ByteArray := ByteArray.mk #[0, 1, 2, 2, 3, 3, 3, 3, 4, 4, 4, 4, 4, 4, 4, 4, 5, 5, 5, 5, 5, 5, 5, 5, 5, 5, 5, 5, 5, 5, 5, 5, 6, 6, 6, 6, 6, 6, 6, 6, 6, 6, 6, 6, 6, 6, 6, 6, 6, 6, 6, 6, 6, 6, 6, 6, 6, 6, 6, 6, 6, 6, 6, 6, 7, 7, 7, 7, 7, 7, 7, 7, 7, 7, 7, 7, 7, 7, 7, 7, 7, 7, 7, 7, 7, 7, 7, 7, 7, 7, 7, 7, 7, 7, 7, 7, 7, 7, 7, 7, 7, 7, 7, 7, 7, 7, 7, 7, 7, 7, 7, 7, 7, 7, 7, 7, 7, 7, 7, 7, 7, 7, 7, 7, 7, 7, 7, 7, 8, 8, 8, 8, 8, 8, 8, 8, 8, 8, 8, 8, 8, 8, 8, 8, 8, 8, 8, 8, 8, 8, 8, 8, 8, 8, 8, 8, 8, 8, 8, 8, 8, 8, 8, 8, 8, 8, 8, 8, 8, 8, 8, 8, 8, 8, 8, 8, 8, 8, 8, 8, 8, 8, 8, 8, 8, 8, 8, 8, 8, 8, 8, 8, 8, 8, 8, 8, 8, 8, 8, 8, 8, 8, 8, 8, 8, 8, 8, 8, 8, 8, 8, 8, 8, 8, 8, 8, 8, 8, 8, 8, 8, 8, 8, 8, 8, 8, 8, 8, 8, 8, 8, 8, 8, 8, 8, 8, 8, 8, 8, 8, 8, 8, 8, 8, 8, 8, 8, 8, 8, 8, 8, 8, 8, 8, 8, 8]

/-- slices.SortFunc[[][]int64,[]int64] -/
def c_slices_SortFunc_____int64___int64_ : F where
  np := 2
  rs := []
  fix := [0, 1]
  body :=
    (.seq
    (.region none [ ⟨some 5, none, .mv (.t 0)⟩, ⟨some 6, none, .len (.t 5)⟩, ⟨some 4, none, .mv (.t 6)⟩] [0, 1, 4])
    (.region none [ ⟨some 7, none, .mv (.t 0)⟩, ⟨some 8, none, .mv (.t 4)⟩, ⟨some 9, none, .mv (.t 4)⟩, ⟨some 10, none, .conv .u64 (.t 9)⟩, ⟨some 11, none, .call (.f 394) [((.t 10), .r)]⟩, ⟨some 12, none, .mv (.t 1)⟩, ⟨some 13, none, .callm (.f 393) [((.t 7), true), ((.c (.int .i64 0)), false), ((.t 8), false), ((.t 11), false), ((.t 12), false)] []⟩] [0, 1]))

/-- math/bits.Len -/
def c_math_bits_Len : F where
  np := 1
  rs := [.t 2]
  body :=
    (.seq
    (.region none [ ⟨some 2, none, .mv (.c (.int .i64 0))⟩] [0]) (.seq (.cond (.c (.bool false)) (.seq
    (.region none [ ⟨some 3, none, .mv (.t 0)⟩, ⟨some 4, none, .conv .u32 (.t 3)⟩, ⟨some 5, none, .call (.f 441) [((.t 4), .r)]⟩, ⟨some 2, none, .mv (.t 5)⟩] [2]) .ret) .skip) (.seq
    (.region none [ ⟨some 6, none, .mv (.t 0)⟩, ⟨some 7, none, .call (.f 442) [((.t 6), .r)]⟩, ⟨some 2, none, .mv (.t 7)⟩] [2]) .ret)))

/-- math/bits.Len32 -/
def c_math_bits_Len32 : F where
  np := 1
  rs := [.t 2]
  body :=
    (.seq
    (.region none [ ⟨some 2, none, .mv (.c (.int .i64 0))⟩] [0, 2]) (.seq (.seq
    (.region none [ ⟨some 3, none, .mv (.t 0)⟩, ⟨some 4, none, .bin .geq (.t 3) (.c (.int .u32 65536))⟩] [0, 2, 4]) (.cond (.t 4) (.seq
    (.region none [ ⟨some 5, none, .mv (.t 0)⟩, ⟨some 6, none, .bin .shr (.t 5) (.c (.int .u64 16))⟩, ⟨some 0, none, .mv (.t 6)⟩] [0])
    (.region none [ ⟨some 2, none, .mv (.c (.int .i64 16))⟩] [0, 2])) .skip)) (.seq (.seq
    (.region none [ ⟨some 7, none, .mv (.t 0)⟩, ⟨some 8, none, .bin .geq (.t 7) (.c (.int .u32 256))⟩] [0, 2, 8]) (.cond (.t 8) (.seq
    (.region none [ ⟨some 9, none, .mv (.t 0)⟩, ⟨some 10, none, .bin .shr (.t 9) (.c (.int .u64 8))⟩, ⟨some 0, none, .mv (.t 10)⟩] [0, 2])
    (.region none [ ⟨some 11, none, .mv (.t 2)⟩, ⟨some 12, none, .bin .add (.t 11) (.c (.int .i64 8))⟩, ⟨some 2, none, .mv (.t 12)⟩] [0, 2])) .skip)) (.seq
    (.region none [ ⟨some 13, none, .mv (.t 2)⟩, ⟨some 14, none, .mv (.t 0)⟩, ⟨some 15, none, .conv .u8 (.t 14)⟩, ⟨some 16, none, .at (.c (.string lenTab)) (.t 15)⟩, ⟨some 17, none, .conv .i64 (.t 16)⟩, ⟨some 18, none, .bin .add (.t 13) (.t 17)⟩, ⟨some 2, none, .mv (.t 18)⟩] [2]) .ret))))

/-- math/bits.Len64 -/
def c_math_bits_Len64 : F where
  np := 1
  rs := [.t 2]
  body :=
    (.seq
    (.region none [ ⟨some 2, none, .mv (.c (.int .i64 0))⟩] [0, 2]) (.seq (.seq
    (.region none [ ⟨some 3, none, .mv (.t 0)⟩, ⟨some 4, none, .bin .geq (.t 3) (.c (.int .u64 4294967296))⟩] [0, 2, 4]) (.cond (.t 4) (.seq
    (.region none [ ⟨some 5, none, .mv (.t 0)⟩, ⟨some 6, none, .bin .shr (.t 5) (.c (.int .u64 32))⟩, ⟨some 0, none, .mv (.t 6)⟩] [0])
    (.region none [ ⟨some 2, none, .mv (.c (.int .i64 32))⟩] [0, 2])) .skip)) (.seq (.seq
    (.region none [ ⟨some 7, none, .mv (.t 0)⟩, ⟨some 8, none, .bin .geq (.t 7) (.c (.int .u64 65536))⟩] [0, 2, 8]) (.cond (.t 8) (.seq
    (.region none [ ⟨some 9, none, .mv (.t 0)⟩, ⟨some 10, none, .bin .shr (.t 9) (.c (.int .u64 16))⟩, ⟨some 0, none, .mv (.t 10)⟩] [0, 2])
    (.region none [ ⟨some 11, none, .mv (.t 2)⟩, ⟨some 12, none, .bin .add (.t 11) (.c (.int .i64 16))⟩, ⟨some 2, none, .mv (.t 12)⟩] [0, 2])) .skip)) (.seq (.seq
    (.region none [ ⟨some 13, none, .mv (.t 0)⟩, ⟨some 14, none, .bin .geq (.t 13) (.c (.int .u64 256))⟩] [0, 2, 14]) (.cond (.t 14) (.seq
    (.region none [ ⟨some 15, none, .mv (.t 0)⟩, ⟨some 16, none, .bin .shr (.t 15) (.c (.int .u64 8))⟩, ⟨some 0, none, .mv (.t 16)⟩] [0, 2])
    (.region none [ ⟨some 17, none, .mv (.t 2)⟩, ⟨some 18, none, .bin .add (.t 17) (.c (.int .i64 8))⟩, ⟨some 2, none, .mv (.t 18)⟩] [0, 2])) .skip)) (.seq
    (.region none [ ⟨some 19, none, .mv (.t 2)⟩, ⟨some 20, none, .mv (.t 0)⟩, ⟨some 21, none, .conv .u8 (.t 20)⟩, ⟨some 22, none, .at (.c (.string lenTab)) (.t 21)⟩, ⟨some 23, none, .conv .i64 (.t 22)⟩, ⟨some 24, none, .bin .add (.t 19) (.t 23)⟩, ⟨some 2, none, .mv (.t 24)⟩] [2]) .ret)))))

/-- slices.pdqsortCmpFunc[[]int64] -/
def c_slices_pdqsortCmpFunc___int64_ : F where
  np := 5
  rs := []
  fix := [0, 4]
  body :=
    (.seq
    (.region none [ ⟨some 10, none, .mv (.c (.bool true))⟩] [0, 1, 2, 3, 4, 10]) (.seq
    (.region none [ ⟨some 11, none, .mv (.c (.bool true))⟩] [0, 1, 2, 3, 4, 10, 11]) (.block 0 (.loop (.block 1 (.seq
    (.region none [ ⟨some 21, none, .mv (.t 2)⟩, ⟨some 22, none, .mv (.t 1)⟩, ⟨some 23, none, .bin .sub (.t 21) (.t 22)⟩, ⟨some 12, none, .mv (.t 23)⟩] [0, 1, 2, 3, 4, 10, 11, 12]) (.seq (.seq
    (.region none [ ⟨some 24, none, .mv (.t 12)⟩, ⟨some 25, none, .bin .leq (.t 24) (.c (.int .i64 12))⟩] [0, 1, 2, 3, 4, 10, 11, 12, 25]) (.cond (.t 25) (.seq
    (.region none [ ⟨some 26, none, .mv (.t 0)⟩, ⟨some 27, none, .mv (.t 1)⟩, ⟨some 28, none, .mv (.t 2)⟩, ⟨some 29, none, .mv (.t 4)⟩, ⟨some 30, none, .callm (.f 433) [((.t 26), true), ((.t 27), false), ((.t 28), false), ((.t 29), false)] []⟩] [0, 1, 2, 3, 4]) .ret) .skip)) (.seq (.seq
    (.region none [ ⟨some 31, none, .mv (.t 3)⟩, ⟨some 32, none, .bin .eql (.t 31) (.c (.int .i64 0))⟩] [0, 1, 2, 3, 4, 10, 11, 12, 32]) (.cond (.t 32) (.seq
    (.region none [ ⟨some 33, none, .mv (.t 0)⟩, ⟨some 34, none, .mv (.t 1)⟩, ⟨some 35, none, .mv (.t 2)⟩, ⟨some 36, none, .mv (.t 4)⟩, ⟨some 37, none, .callm (.f 434) [((.t 33), true), ((.t 34), false), ((.t 35), false), ((.t 36), false)] []⟩] [0, 1, 2, 3, 4]) .ret) .skip)) (.seq (.seq
    (.region none [ ⟨some 38, none, .mv (.t 10)⟩, ⟨some 39, none, .un .not (.t 38)⟩] [0, 1, 2, 3, 4, 10, 11, 12, 39]) (.cond (.t 39) (.seq
    (.region none [ ⟨some 40, none, .mv (.t 0)⟩, ⟨some 41, none, .mv (.t 1)⟩, ⟨some 42, none, .mv (.t 2)⟩, ⟨some 43, none, .mv (.t 4)⟩, ⟨some 44, none, .callm (.f 435) [((.t 40), true), ((.t 41), false), ((.t 42), false), ((.t 43), false)] []⟩] [0, 1, 2, 3, 4, 10, 11, 12])
    (.region none [ ⟨some 45, none, .mv (.t 3)⟩, ⟨some 46, none, .bin .sub (.t 45) (.c (.int .i64 1))⟩, ⟨some 3, none, .mv (.t 46)⟩] [0, 1, 2, 3, 4, 10, 11, 12])) .skip)) (.seq
    (.region none [ ⟨some 48, none, .mv (.t 0)⟩, ⟨some 49, none, .mv (.t 1)⟩, ⟨some 50, none, .mv (.t 2)⟩, ⟨some 51, none, .mv (.t 4)⟩, ⟨some 52, none, .callm (.f 436) [((.t 48), true), ((.t 49), false), ((.t 50), false), ((.t 51), false)] []⟩, ⟨some 47, none, .mv (.t 52)⟩, ⟨some 53, none, .ext (.t 47) 0⟩, ⟨some 54, none, .ext (.t 47) 1⟩, ⟨some 13, none, .mv (.t 53)⟩, ⟨some 14, none, .mv (.t 54)⟩] [0, 1, 2, 3, 4, 10, 11, 12, 13, 14]) (.seq (.seq
    (.region none [ ⟨some 55, none, .mv (.t 14)⟩, ⟨some 56, none, .bin .eql (.t 55) (.c (.int .i64 2))⟩] [0, 1, 2, 3, 4, 10, 11, 12, 13, 14, 56]) (.cond (.t 56) (.seq
    (.region none [ ⟨some 57, none, .mv (.t 0)⟩, ⟨some 58, none, .mv (.t 1)⟩, ⟨some 59, none, .mv (.t 2)⟩, ⟨some 60, none, .mv (.t 4)⟩, ⟨some 61, none, .callm (.f 437) [((.t 57), true), ((.t 58), false), ((.t 59), false), ((.t 60), false)] []⟩] [0, 1, 2, 3, 4, 10, 11, 12, 13]) (.seq
    (.region none [ ⟨some 62, none, .mv (.t 2)⟩, ⟨some 63, none, .bin .sub (.t 62) (.c (.int .i64 1))⟩, ⟨some 64, none, .mv (.t 13)⟩, ⟨some 65, none, .mv (.t 1)⟩, ⟨some 66, none, .bin .sub (.t 64) (.t 65)⟩, ⟨some 67, none, .bin .sub (.t 63) (.t 66)⟩, ⟨some 13, none, .mv (.t 67)⟩] [0, 1, 2, 3, 4, 10, 11, 12, 13])
    (.region none [ ⟨some 14, none, .mv (.c (.int .i64 1))⟩] [0, 1, 2, 3, 4, 10, 11, 12, 13, 14]))) .skip)) (.seq (.seq
    (.region none [ ⟨some 68, none, .mv (.t 10)⟩, ⟨some 69, none, .mv (.t 68)⟩, ⟨some 70, (some (69, true)), .mv (.t 11)⟩, ⟨some 71, none, .pick (.t 69) (.t 70) (.c (.bool false))⟩, ⟨some 72, none, .mv (.t 71)⟩, ⟨some 73, (some (72, true)), .mv (.t 14)⟩, ⟨some 74, (some (72, true)), .bin .eql (.t 73) (.c (.int .i64 1))⟩, ⟨some 75, none, .pick (.t 72) (.t 74) (.c (.bool false))⟩] [0, 1, 2, 3, 4, 10, 11, 12, 13, 75]) (.cond (.t 75) (.seq
    (.region none [ ⟨some 76, none, .mv (.t 0)⟩, ⟨some 77, none, .mv (.t 1)⟩, ⟨some 78, none, .mv (.t 2)⟩, ⟨some 79, none, .mv (.t 4)⟩, ⟨some 80, none, .callm (.f 438) [((.t 76), true), ((.t 77), false), ((.t 78), false), ((.t 79), false)] []⟩] [0, 1, 2, 3, 4, 10, 11, 12, 13, 80]) (.cond (.t 80) .ret .skip)) .skip)) (.seq (.seq
    (.region (some [84, 85, 86, 87, 88, 89, 90, 91, 92, 93]) [ ⟨some 81, none, .mv (.t 1)⟩, ⟨some 82, none, .bin .gtr (.t 81) (.c (.int .i64 0))⟩, ⟨some 83, none, .mv (.t 82)⟩, ⟨some 84, (some (83, true)), .mv (.t 4)⟩, ⟨some 85, (some (83, true)), .mv (.t 0)⟩, ⟨some 86, (some (83, true)), .mv (.t 1)⟩, ⟨some 87, (some (83, true)), .bin .sub (.t 86) (.c (.int .i64 1))⟩, ⟨some 88, (some (83, true)), .idx 1 (.t 85) (.t 87)⟩, ⟨some 89, (some (83, true)), .ld none (.t 88)⟩, ⟨some 90, (some (83, true)), .mv (.t 0)⟩, ⟨some 91, (some (83, true)), .mv (.t 13)⟩, ⟨some 92, (some (83, true)), .idx 1 (.t 90) (.t 91)⟩, ⟨some 93, (some (83, true)), .ld none (.t 92)⟩, ⟨some 94, (some (83, true)), .call (.t 84) [((.t 89), .r), ((.t 93), .r)]⟩, ⟨some 95, (some (83, true)), .bin .lss (.t 94) (.c (.int .i64 0))⟩, ⟨some 96, (some (83, true)), .un .not (.t 95)⟩, ⟨some 97, none, .pick (.t 83) (.t 96) (.c (.bool false))⟩] [0, 1, 2, 3, 4, 10, 11, 12, 13, 97]) (.cond (.t 97) (.seq
    (.region none [ ⟨some 98, none, .mv (.t 0)⟩, ⟨some 99, none, .mv (.t 1)⟩, ⟨some 100, none, .mv (.t 2)⟩, ⟨some 101, none, .mv (.t 13)⟩, ⟨some 102, none, .mv (.t 4)⟩, ⟨some 103, none, .callm (.f 439) [((.t 98), true), ((.t 99), false), ((.t 100), false), ((.t 101), false), ((.t 102), false)] []⟩, ⟨some 15, none, .mv (.t 103)⟩] [0, 2, 3, 4, 10, 11, 15]) (.seq
    (.region none [ ⟨some 104, none, .mv (.t 15)⟩, ⟨some 1, none, .mv (.t 104)⟩] [0, 1, 2, 3, 4, 10, 11]) (.exit 1))) .skip)) (.seq
    (.region none [ ⟨some 106, none, .mv (.t 0)⟩, ⟨some 107, none, .mv (.t 1)⟩, ⟨some 108, none, .mv (.t 2)⟩, ⟨some 109, none, .mv (.t 13)⟩, ⟨some 110, none, .mv (.t 4)⟩, ⟨some 111, none, .callm (.f 440) [((.t 106), true), ((.t 107), false), ((.t 108), false), ((.t 109), false), ((.t 110), false)] []⟩, ⟨some 105, none, .mv (.t 111)⟩, ⟨some 112, none, .ext (.t 105) 0⟩, ⟨some 113, none, .ext (.t 105) 1⟩, ⟨some 16, none, .mv (.t 112)⟩, ⟨some 17, none, .mv (.t 113)⟩] [0, 1, 2, 3, 4, 12, 16, 17]) (.seq
    (.region none [ ⟨some 114, none, .mv (.t 17)⟩, ⟨some 11, none, .mv (.t 114)⟩] [0, 1, 2, 3, 4, 11, 12, 16]) (.seq
    (.region none [ ⟨some 115, none, .mv (.t 16)⟩, ⟨some 116, none, .mv (.t 1)⟩, ⟨some 117, none, .bin .sub (.t 115) (.t 116)⟩, ⟨some 118, none, .mv (.t 2)⟩, ⟨some 119, none, .mv (.t 16)⟩, ⟨some 120, none, .bin .sub (.t 118) (.t 119)⟩, ⟨some 18, none, .mv (.t 117)⟩, ⟨some 19, none, .mv (.t 120)⟩] [0, 1, 2, 3, 4, 11, 12, 16, 18, 19]) (.seq
    (.region none [ ⟨some 121, none, .mv (.t 12)⟩, ⟨some 122, none, .bin .quo (.t 121) (.c (.int .i64 8))⟩, ⟨some 20, none, .mv (.t 122)⟩] [0, 1, 2, 3, 4, 11, 16, 18, 19, 20]) (.seq
    (.region none [ ⟨some 123, none, .mv (.t 18)⟩, ⟨some 124, none, .mv (.t 19)⟩, ⟨some 125, none, .bin .lss (.t 123) (.t 124)⟩] [0, 1, 2, 3, 4, 11, 16, 18, 19, 20, 125]) (.cond (.t 125) (.seq
    (.region none [ ⟨some 126, none, .mv (.t 18)⟩, ⟨some 127, none, .mv (.t 20)⟩, ⟨some 128, none, .bin .geq (.t 126) (.t 127)⟩, ⟨some 10, none, .mv (.t 128)⟩] [0, 1, 2, 3, 4, 10, 11, 16]) (.seq
    (.region none [ ⟨some 129, none, .mv (.t 0)⟩, ⟨some 130, none, .mv (.t 1)⟩, ⟨some 131, none, .mv (.t 16)⟩, ⟨some 132, none, .mv (.t 3)⟩, ⟨some 133, none, .mv (.t 4)⟩, ⟨some 134, none, .callm (.f 393) [((.t 129), true), ((.t 130), false), ((.t 131), false), ((.t 132), false), ((.t 133), false)] []⟩] [0, 2, 3, 4, 10, 11, 16])
    (.region none [ ⟨some 135, none, .mv (.t 16)⟩, ⟨some 136, none, .bin .add (.t 135) (.c (.int .i64 1))⟩, ⟨some 1, none, .mv (.t 136)⟩] [0, 1, 2, 3, 4, 10, 11]))) (.seq
    (.region none [ ⟨some 137, none, .mv (.t 19)⟩, ⟨some 138, none, .mv (.t 20)⟩, ⟨some 139, none, .bin .geq (.t 137) (.t 138)⟩, ⟨some 10, none, .mv (.t 139)⟩] [0, 1, 2, 3, 4, 10, 11, 16]) (.seq
    (.region none [ ⟨some 140, none, .mv (.t 0)⟩, ⟨some 141, none, .mv (.t 16)⟩, ⟨some 142, none, .bin .add (.t 141) (.c (.int .i64 1))⟩, ⟨some 143, none, .mv (.t 2)⟩, ⟨some 144, none, .mv (.t 3)⟩, ⟨some 145, none, .mv (.t 4)⟩, ⟨some 146, none, .callm (.f 393) [((.t 140), true), ((.t 142), false), ((.t 143), false), ((.t 144), false), ((.t 145), false)] []⟩] [0, 1, 3, 4, 10, 11, 16])
    (.region none [ ⟨some 147, none, .mv (.t 16)⟩, ⟨some 2, none, .mv (.t 147)⟩] [0, 1, 2, 3, 4, 10, 11]))))))))))))))))))))))

/-- slices.insertionSortCmpFunc[[]int64] -/
def c_slices_insertionSortCmpFunc___int64_ : F where
  np := 4
  rs := []
  fix := [0, 1, 2, 3]
  body :=
    (.seq
    (.region none [ ⟨some 10, none, .mv (.t 1)⟩, ⟨some 11, none, .bin .add (.t 10) (.c (.int .i64 1))⟩, ⟨some 8, none, .mv (.t 11)⟩] [0, 1, 2, 3, 8]) (.block 0 (.loop (.seq (.seq
    (.region none [ ⟨some 12, none, .mv (.t 8)⟩, ⟨some 13, none, .mv (.t 2)⟩, ⟨some 14, none, .bin .lss (.t 12) (.t 13)⟩] [0, 1, 2, 3, 8, 14]) (.cond (.t 14) .skip (.exit 0))) (.seq (.block 1 (.seq
    (.region none [ ⟨some 17, none, .mv (.t 8)⟩, ⟨some 9, none, .mv (.t 17)⟩] [0, 1, 2, 3, 8, 9]) (.block 2 (.loop (.seq (.seq
    (.region (some [18, 19, 22, 23, 24, 25, 26, 27, 28, 29, 30, 31]) [ ⟨some 18, none, .mv (.t 9)⟩, ⟨some 19, none, .mv (.t 1)⟩, ⟨some 20, none, .bin .gtr (.t 18) (.t 19)⟩, ⟨some 21, none, .mv (.t 20)⟩, ⟨some 22, (some (21, true)), .mv (.t 3)⟩, ⟨some 23, (some (21, true)), .mv (.t 0)⟩, ⟨some 24, (some (21, true)), .mv (.t 9)⟩, ⟨some 25, (some (21, true)), .idx 1 (.t 23) (.t 24)⟩, ⟨some 26, (some (21, true)), .ld none (.t 25)⟩, ⟨some 27, (some (21, true)), .mv (.t 0)⟩, ⟨some 28, (some (21, true)), .mv (.t 9)⟩, ⟨some 29, (some (21, true)), .bin .sub (.t 28) (.c (.int .i64 1))⟩, ⟨some 30, (some (21, true)), .idx 1 (.t 27) (.t 29)⟩, ⟨some 31, (some (21, true)), .ld none (.t 30)⟩, ⟨some 32, (some (21, true)), .call (.t 22) [((.t 26), .r), ((.t 31), .r)]⟩, ⟨some 33, (some (21, true)), .bin .lss (.t 32) (.c (.int .i64 0))⟩, ⟨some 34, none, .pick (.t 21) (.t 33) (.c (.bool false))⟩] [0, 1, 2, 3, 8, 9, 34]) (.cond (.t 34) .skip (.exit 2))) (.seq (.block 3
    (.region (some [37, 38, 39, 40, 41, 42, 43, 44, 45, 46, 47, 48, 49, 50, 51]) [ ⟨some 37, none, .mv (.t 0)⟩, ⟨some 38, none, .mv (.t 9)⟩, ⟨some 39, none, .mvw (.t 0)⟩, ⟨some 40, none, .mvw (.t 9)⟩, ⟨some 41, none, .bin .sub (.t 40) (.c (.int .i64 1))⟩, ⟨some 42, none, .mv (.t 0)⟩, ⟨some 43, none, .mv (.t 9)⟩, ⟨some 44, none, .bin .sub (.t 43) (.c (.int .i64 1))⟩, ⟨some 45, none, .idx 1 (.t 42) (.t 44)⟩, ⟨some 46, none, .ld none (.t 45)⟩, ⟨some 47, none, .mv (.t 0)⟩, ⟨some 48, none, .mv (.t 9)⟩, ⟨some 49, none, .idx 1 (.t 47) (.t 48)⟩, ⟨some 50, none, .ld none (.t 49)⟩, ⟨some 51, none, .idx 1 (.t 37) (.t 38)⟩, ⟨none, none, .stsw (.t 51) (.t 46) 50⟩, ⟨some 52, none, .idx 1 (.t 39) (.t 41)⟩, ⟨none, none, .st none (.t 52) (.t 50)⟩] [0, 1, 2, 3, 8, 9]))
    (.region none [ ⟨some 35, none, .mv (.t 9)⟩, ⟨some 36, none, .bin .sub (.t 35) (.c (.int .i64 1))⟩, ⟨some 9, none, .mv (.t 36)⟩] [0, 1, 2, 3, 8, 9])))))))
    (.region none [ ⟨some 15, none, .mv (.t 8)⟩, ⟨some 16, none, .bin .add (.t 15) (.c (.int .i64 1))⟩, ⟨some 8, none, .mv (.t 16)⟩] [0, 1, 2, 3, 8]))))))

/-- slices.heapSortCmpFunc[[]int64] -/
def c_slices_heapSortCmpFunc___int64_ : F where
  np := 4
  rs := []
  fix := [0, 1, 2, 3]
  body :=
    (.seq
    (.region none [ ⟨some 13, none, .mv (.t 1)⟩, ⟨some 8, none, .mv (.t 13)⟩] [0, 1, 2, 3, 8]) (.seq
    (.region none [ ⟨some 9, none, .mv (.c (.int .i64 0))⟩] [0, 1, 2, 3, 8, 9]) (.seq
    (.region none [ ⟨some 14, none, .mv (.t 2)⟩, ⟨some 15, none, .mv (.t 1)⟩, ⟨some 16, none, .bin .sub (.t 14) (.t 15)⟩, ⟨some 10, none, .mv (.t 16)⟩] [0, 1, 2, 3, 8, 9, 10]) (.seq (.seq
    (.region none [ ⟨some 17, none, .mv (.t 10)⟩, ⟨some 18, none, .bin .sub (.t 17) (.c (.int .i64 1))⟩, ⟨some 19, none, .bin .quo (.t 18) (.c (.int .i64 2))⟩, ⟨some 11, none, .mv (.t 19)⟩] [0, 1, 2, 3, 8, 9, 10, 11]) (.block 0 (.loop (.seq (.seq
    (.region none [ ⟨some 20, none, .mv (.t 11)⟩, ⟨some 21, none, .bin .geq (.t 20) (.c (.int .i64 0))⟩] [0, 1, 2, 3, 8, 9, 10, 11, 21]) (.cond (.t 21) .skip (.exit 0))) (.seq (.block 1
    (.region none [ ⟨some 24, none, .mv (.t 0)⟩, ⟨some 25, none, .mv (.t 11)⟩, ⟨some 26, none, .mv (.t 10)⟩, ⟨some 27, none, .mv (.t 8)⟩, ⟨some 28, none, .mv (.t 3)⟩, ⟨some 29, none, .callm (.f 450) [((.t 24), true), ((.t 25), false), ((.t 26), false), ((.t 27), false), ((.t 28), false)] []⟩] [0, 1, 2, 3, 8, 9, 10, 11]))
    (.region none [ ⟨some 22, none, .mv (.t 11)⟩, ⟨some 23, none, .bin .sub (.t 22) (.c (.int .i64 1))⟩, ⟨some 11, none, .mv (.t 23)⟩] [0, 1, 2, 3, 8, 9, 10, 11])))))) (.seq
    (.region none [ ⟨some 30, none, .mv (.t 10)⟩, ⟨some 31, none, .bin .sub (.t 30) (.c (.int .i64 1))⟩, ⟨some 12, none, .mv (.t 31)⟩] [0, 1, 2, 3, 8, 9, 12]) (.block 2 (.loop (.seq (.seq
    (.region none [ ⟨some 32, none, .mv (.t 12)⟩, ⟨some 33, none, .bin .geq (.t 32) (.c (.int .i64 0))⟩] [0, 1, 2, 3, 8, 9, 12, 33]) (.cond (.t 33) .skip (.exit 2))) (.seq (.block 3 (.seq
    (.region (some [36, 37, 38, 39, 40, 41, 42, 43, 44, 45, 46, 47, 48, 49, 50, 51, 52]) [ ⟨some 36, none, .mv (.t 0)⟩, ⟨some 37, none, .mv (.t 8)⟩, ⟨some 38, none, .mvw (.t 0)⟩, ⟨some 39, none, .mvw (.t 8)⟩, ⟨some 40, none, .mvw (.t 12)⟩, ⟨some 41, none, .bin .add (.t 39) (.t 40)⟩, ⟨some 42, none, .mv (.t 0)⟩, ⟨some 43, none, .mv (.t 8)⟩, ⟨some 44, none, .mv (.t 12)⟩, ⟨some 45, none, .bin .add (.t 43) (.t 44)⟩, ⟨some 46, none, .idx 1 (.t 42) (.t 45)⟩, ⟨some 47, none, .ld none (.t 46)⟩, ⟨some 48, none, .mv (.t 0)⟩, ⟨some 49, none, .mv (.t 8)⟩, ⟨some 50, none, .idx 1 (.t 48) (.t 49)⟩, ⟨some 51, none, .ld none (.t 50)⟩, ⟨some 52, none, .idx 1 (.t 36) (.t 37)⟩, ⟨none, none, .stsw (.t 52) (.t 47) 51⟩, ⟨some 53, none, .idx 1 (.t 38) (.t 41)⟩, ⟨none, none, .st none (.t 53) (.t 51)⟩] [0, 1, 2, 3, 8, 9, 12])
    (.region none [ ⟨some 54, none, .mv (.t 0)⟩, ⟨some 55, none, .mv (.t 9)⟩, ⟨some 56, none, .mv (.t 12)⟩, ⟨some 57, none, .mv (.t 8)⟩, ⟨some 58, none, .mv (.t 3)⟩, ⟨some 59, none, .callm (.f 450) [((.t 54), true), ((.t 55), false), ((.t 56), false), ((.t 57), false), ((.t 58), false)] []⟩] [0, 1, 2, 3, 8, 9, 12])))
    (.region none [ ⟨some 34, none, .mv (.t 12)⟩, ⟨some 35, none, .bin .sub (.t 34) (.c (.int .i64 1))⟩, ⟨some 12, none, .mv (.t 35)⟩] [0, 1, 2, 3, 8, 9, 12]))))))))))

/-- slices.siftDownCmpFunc[[]int64] -/
def c_slices_siftDownCmpFunc___int64_ : F where
  np := 5
  rs := []
  fix := [0, 1, 2, 3, 4]
  body :=
    (.seq
    (.region none [ ⟨some 12, none, .mv (.t 1)⟩, ⟨some 10, none, .mv (.t 12)⟩] [0, 1, 2, 3, 4, 10]) (.block 0 (.loop (.block 1 (.seq
    (.region none [ ⟨some 13, none, .mv (.t 10)⟩, ⟨some 14, none, .bin .mul (.c (.int .i64 2)) (.t 13)⟩, ⟨some 15, none, .bin .add (.t 14) (.c (.int .i64 1))⟩, ⟨some 11, none, .mv (.t 15)⟩] [0, 1, 2, 3, 4, 10, 11]) (.seq (.seq
    (.region none [ ⟨some 16, none, .mv (.t 11)⟩, ⟨some 17, none, .mv (.t 2)⟩, ⟨some 18, none, .bin .geq (.t 16) (.t 17)⟩] [0, 1, 2, 3, 4, 10, 11, 18]) (.cond (.t 18) (.exit 0) .skip)) (.seq (.seq
    (.region (some [19, 20, 21, 24, 25, 26, 27, 28, 29, 30, 31, 32, 33, 34, 35, 36, 37]) [ ⟨some 19, none, .mv (.t 11)⟩, ⟨some 20, none, .bin .add (.t 19) (.c (.int .i64 1))⟩, ⟨some 21, none, .mv (.t 2)⟩, ⟨some 22, none, .bin .lss (.t 20) (.t 21)⟩, ⟨some 23, none, .mv (.t 22)⟩, ⟨some 24, (some (23, true)), .mv (.t 4)⟩, ⟨some 25, (some (23, true)), .mv (.t 0)⟩, ⟨some 26, (some (23, true)), .mv (.t 3)⟩, ⟨some 27, (some (23, true)), .mv (.t 11)⟩, ⟨some 28, (some (23, true)), .bin .add (.t 26) (.t 27)⟩, ⟨some 29, (some (23, true)), .idx 1 (.t 25) (.t 28)⟩, ⟨some 30, (some (23, true)), .ld none (.t 29)⟩, ⟨some 31, (some (23, true)), .mv (.t 0)⟩, ⟨some 32, (some (23, true)), .mv (.t 3)⟩, ⟨some 33, (some (23, true)), .mv (.t 11)⟩, ⟨some 34, (some (23, true)), .bin .add (.t 32) (.t 33)⟩, ⟨some 35, (some (23, true)), .bin .add (.t 34) (.c (.int .i64 1))⟩, ⟨some 36, (some (23, true)), .idx 1 (.t 31) (.t 35)⟩, ⟨some 37, (some (23, true)), .ld none (.t 36)⟩, ⟨some 38, (some (23, true)), .call (.t 24) [((.t 30), .r), ((.t 37), .r)]⟩, ⟨some 39, (some (23, true)), .bin .lss (.t 38) (.c (.int .i64 0))⟩, ⟨some 40, none, .pick (.t 23) (.t 39) (.c (.bool false))⟩] [0, 1, 2, 3, 4, 10, 11, 40]) (.cond (.t 40)
    (.region none [ ⟨some 41, none, .mv (.t 11)⟩, ⟨some 42, none, .bin .add (.t 41) (.c (.int .i64 1))⟩, ⟨some 11, none, .mv (.t 42)⟩] [0, 1, 2, 3, 4, 10, 11]) .skip)) (.seq (.seq
    (.region (some [43, 44, 45, 46, 47, 48, 49, 50, 51, 52, 53, 54, 55]) [ ⟨some 43, none, .mv (.t 4)⟩, ⟨some 44, none, .mv (.t 0)⟩, ⟨some 45, none, .mv (.t 3)⟩, ⟨some 46, none, .mv (.t 10)⟩, ⟨some 47, none, .bin .add (.t 45) (.t 46)⟩, ⟨some 48, none, .idx 1 (.t 44) (.t 47)⟩, ⟨some 49, none, .ld none (.t 48)⟩, ⟨some 50, none, .mv (.t 0)⟩, ⟨some 51, none, .mv (.t 3)⟩, ⟨some 52, none, .mv (.t 11)⟩, ⟨some 53, none, .bin .add (.t 51) (.t 52)⟩, ⟨some 54, none, .idx 1 (.t 50) (.t 53)⟩, ⟨some 55, none, .ld none (.t 54)⟩, ⟨some 56, none, .call (.t 43) [((.t 49), .r), ((.t 55), .r)]⟩, ⟨some 57, none, .bin .lss (.t 56) (.c (.int .i64 0))⟩, ⟨some 58, none, .un .not (.t 57)⟩] [0, 1, 2, 3, 4, 10, 11, 58]) (.cond (.t 58) .ret .skip)) (.seq
    (.region (some [59, 60, 61, 62, 63, 64, 65, 66, 67, 68, 69, 70, 71, 72, 73, 74, 75, 76, 77, 78, 79]) [ ⟨some 59, none, .mv (.t 0)⟩, ⟨some 60, none, .mv (.t 3)⟩, ⟨some 61, none, .mv (.t 10)⟩, ⟨some 62, none, .bin .add (.t 60) (.t 61)⟩, ⟨some 63, none, .mvw (.t 0)⟩, ⟨some 64, none, .mvw (.t 3)⟩, ⟨some 65, none, .mvw (.t 11)⟩, ⟨some 66, none, .bin .add (.t 64) (.t 65)⟩, ⟨some 67, none, .mv (.t 0)⟩, ⟨some 68, none, .mv (.t 3)⟩, ⟨some 69, none, .mv (.t 11)⟩, ⟨some 70, none, .bin .add (.t 68) (.t 69)⟩, ⟨some 71, none, .idx 1 (.t 67) (.t 70)⟩, ⟨some 72, none, .ld none (.t 71)⟩, ⟨some 73, none, .mv (.t 0)⟩, ⟨some 74, none, .mv (.t 3)⟩, ⟨some 75, none, .mv (.t 10)⟩, ⟨some 76, none, .bin .add (.t 74) (.t 75)⟩, ⟨some 77, none, .idx 1 (.t 73) (.t 76)⟩, ⟨some 78, none, .ld none (.t 77)⟩, ⟨some 79, none, .idx 1 (.t 59) (.t 62)⟩, ⟨none, none, .stsw (.t 79) (.t 72) 78⟩, ⟨some 80, none, .idx 1 (.t 63) (.t 66)⟩, ⟨none, none, .st none (.t 80) (.t 78)⟩] [0, 1, 2, 3, 4, 11])
    (.region none [ ⟨some 81, none, .mv (.t 11)⟩, ⟨some 10, none, .mv (.t 81)⟩] [0, 1, 2, 3, 4, 10]))))))))))

/-- slices.breakPatternsCmpFunc[[]int64] -/
def c_slices_breakPatternsCmpFunc___int64_ : F where
  np := 4
  rs := []
  fix := [0, 1, 2, 3]
  body :=
    (.seq
    (.region none [ ⟨some 13, none, .mv (.t 2)⟩, ⟨some 14, none, .mv (.t 1)⟩, ⟨some 15, none, .bin .sub (.t 13) (.t 14)⟩, ⟨some 8, none, .mv (.t 15)⟩] [0, 1, 2, 3, 8]) (.seq
    (.region none [ ⟨some 16, none, .mv (.t 8)⟩, ⟨some 17, none, .bin .geq (.t 16) (.c (.int .i64 8))⟩] [0, 1, 2, 3, 8, 17]) (.cond (.t 17) (.seq
    (.region none [ ⟨some 18, none, .mv (.t 8)⟩, ⟨some 19, none, .conv .u64 (.t 18)⟩, ⟨some 9, none, .alloc [(.int .u64 0)]⟩, ⟨none, none, .st none (.t 9) (.t 19)⟩] [0, 1, 2, 3, 8, 9]) (.seq
    (.region none [ ⟨some 20, none, .mv (.t 8)⟩, ⟨some 21, none, .call (.f 451) [((.t 20), .r)]⟩, ⟨some 10, none, .mv (.t 21)⟩] [0, 1, 2, 3, 8, 9, 10]) (.seq
    (.region none [ ⟨some 22, none, .mv (.t 1)⟩, ⟨some 23, none, .mv (.t 8)⟩, ⟨some 24, none, .bin .quo (.t 23) (.c (.int .i64 4))⟩, ⟨some 25, none, .bin .mul (.t 24) (.c (.int .i64 2))⟩, ⟨some 26, none, .bin .add (.t 22) (.t 25)⟩, ⟨some 27, none, .bin .sub (.t 26) (.c (.int .i64 1))⟩, ⟨some 11, none, .mv (.t 27)⟩] [0, 1, 2, 3, 8, 9, 10, 11]) (.block 0 (.loop (.seq (.seq
    (.region none [ ⟨some 28, none, .mv (.t 11)⟩, ⟨some 29, none, .mv (.t 1)⟩, ⟨some 30, none, .mv (.t 8)⟩, ⟨some 31, none, .bin .quo (.t 30) (.c (.int .i64 4))⟩, ⟨some 32, none, .bin .mul (.t 31) (.c (.int .i64 2))⟩, ⟨some 33, none, .bin .add (.t 29) (.t 32)⟩, ⟨some 34, none, .bin .add (.t 33) (.c (.int .i64 1))⟩, ⟨some 35, none, .bin .leq (.t 28) (.t 34)⟩] [0, 1, 2, 3, 8, 9, 10, 11, 35]) (.cond (.t 35) .skip (.exit 0))) (.seq (.block 1 (.seq
    (.region none [ ⟨some 38, none, .callm (.f 452) [((.t 9), true)] []⟩, ⟨some 39, none, .mv (.t 10)⟩, ⟨some 40, none, .bin .sub (.t 39) (.c (.int .u64 1))⟩, ⟨some 41, none, .bin .and (.t 38) (.t 40)⟩, ⟨some 42, none, .conv .i64 (.t 41)⟩, ⟨some 12, none, .mv (.t 42)⟩] [0, 1, 2, 3, 8, 9, 10, 11, 12]) (.seq (.seq
    (.region none [ ⟨some 43, none, .mv (.t 12)⟩, ⟨some 44, none, .mv (.t 8)⟩, ⟨some 45, none, .bin .geq (.t 43) (.t 44)⟩] [0, 1, 2, 3, 8, 9, 10, 11, 12, 45]) (.cond (.t 45)
    (.region none [ ⟨some 46, none, .mv (.t 12)⟩, ⟨some 47, none, .mv (.t 8)⟩, ⟨some 48, none, .bin .sub (.t 46) (.t 47)⟩, ⟨some 12, none, .mv (.t 48)⟩] [0, 1, 2, 3, 8, 9, 10, 11, 12]) .skip))
    (.region (some [49, 50, 51, 52, 53, 54, 55, 56, 57, 58, 59, 60, 61, 62, 63, 64, 65]) [ ⟨some 49, none, .mv (.t 0)⟩, ⟨some 50, none, .mv (.t 11)⟩, ⟨some 51, none, .mvw (.t 0)⟩, ⟨some 52, none, .mvw (.t 1)⟩, ⟨some 53, none, .mvw (.t 12)⟩, ⟨some 54, none, .bin .add (.t 52) (.t 53)⟩, ⟨some 55, none, .mv (.t 0)⟩, ⟨some 56, none, .mv (.t 1)⟩, ⟨some 57, none, .mv (.t 12)⟩, ⟨some 58, none, .bin .add (.t 56) (.t 57)⟩, ⟨some 59, none, .idx 1 (.t 55) (.t 58)⟩, ⟨some 60, none, .ld none (.t 59)⟩, ⟨some 61, none, .mv (.t 0)⟩, ⟨some 62, none, .mv (.t 11)⟩, ⟨some 63, none, .idx 1 (.t 61) (.t 62)⟩, ⟨some 64, none, .ld none (.t 63)⟩, ⟨some 65, none, .idx 1 (.t 49) (.t 50)⟩, ⟨none, none, .stsw (.t 65) (.t 60) 64⟩, ⟨some 66, none, .idx 1 (.t 51) (.t 54)⟩, ⟨none, none, .st none (.t 66) (.t 64)⟩] [0, 1, 2, 3, 8, 9, 10, 11]))))
    (.region none [ ⟨some 36, none, .mv (.t 11)⟩, ⟨some 37, none, .bin .add (.t 36) (.c (.int .i64 1))⟩, ⟨some 11, none, .mv (.t 37)⟩] [0, 1, 2, 3, 8, 9, 10, 11])))))))) .skip)))

/-- slices.nextPowerOfTwo -/
def c_slices_nextPowerOfTwo : F where
  np := 1
  rs := [.t 2]
  body :=
    (.seq
    (.region none [ ⟨some 2, none, .mv (.c (.int .u64 0))⟩] [0]) (.seq
    (.region none [ ⟨some 3, none, .mv (.t 0)⟩, ⟨some 4, none, .conv .u64 (.t 3)⟩, ⟨some 5, none, .call (.f 394) [((.t 4), .r)]⟩, ⟨some 6, none, .bin .shl (.c (.int .u64 1)) (.t 5)⟩, ⟨some 2, none, .mv (.t 6)⟩] [2]) .ret))

/-- (*slices.xorshift).Next -/
def c___slices_xorshift__Next : F where
  np := 1
  rs := [.t 2]
  fix := [0]
  body :=
    (.seq
    (.region none [ ⟨some 2, none, .mv (.c (.int .u64 0))⟩] [0]) (.seq
    (.region (some [3, 4, 5, 6, 7, 8, 9]) [ ⟨some 3, none, .mv (.t 0)⟩, ⟨some 4, none, .nilck (.t 3)⟩, ⟨some 5, none, .ld none (.t 4)⟩, ⟨some 6, none, .mv (.t 0)⟩, ⟨some 7, none, .nilck (.t 6)⟩, ⟨some 8, none, .ld none (.t 7)⟩, ⟨some 9, none, .bin .shl (.t 8) (.c (.int .u64 13))⟩, ⟨some 10, none, .bin .xor (.t 5) (.t 9)⟩, ⟨some 11, none, .nilck (.t 3)⟩, ⟨none, none, .st none (.t 11) (.t 10)⟩] [0]) (.seq
    (.region (some [12, 13, 14, 15, 16, 17, 18]) [ ⟨some 12, none, .mv (.t 0)⟩, ⟨some 13, none, .nilck (.t 12)⟩, ⟨some 14, none, .ld none (.t 13)⟩, ⟨some 15, none, .mv (.t 0)⟩, ⟨some 16, none, .nilck (.t 15)⟩, ⟨some 17, none, .ld none (.t 16)⟩, ⟨some 18, none, .bin .shr (.t 17) (.c (.int .u64 7))⟩, ⟨some 19, none, .bin .xor (.t 14) (.t 18)⟩, ⟨some 20, none, .nilck (.t 12)⟩, ⟨none, none, .st none (.t 20) (.t 19)⟩] [0]) (.seq
    (.region (some [21, 22, 23, 24, 25, 26, 27]) [ ⟨some 21, none, .mv (.t 0)⟩, ⟨some 22, none, .nilck (.t 21)⟩, ⟨some 23, none, .ld none (.t 22)⟩, ⟨some 24, none, .mv (.t 0)⟩, ⟨some 25, none, .nilck (.t 24)⟩, ⟨some 26, none, .ld none (.t 25)⟩, ⟨some 27, none, .bin .shl (.t 26) (.c (.int .u64 17))⟩, ⟨some 28, none, .bin .xor (.t 23) (.t 27)⟩, ⟨some 29, none, .nilck (.t 21)⟩, ⟨none, none, .st none (.t 29) (.t 28)⟩] [0]) (.seq
    (.region none [ ⟨some 30, none, .mv (.t 0)⟩, ⟨some 31, none, .nilck (.t 30)⟩, ⟨some 32, none, .ld none (.t 31)⟩, ⟨some 2, none, .mv (.t 32)⟩] [0, 2]) .ret)))))

/-- slices.choosePivotCmpFunc[[]int64] -/
def c_slices_choosePivotCmpFunc___int64_ : F where
  np := 4
  rs := [.t 8, .t 9]
  fix := [0, 1, 2, 3]
  body :=
    (.seq
    (.region none [ ⟨some 8, none, .mv (.c (.int .i64 0))⟩, ⟨some 9, none, .mv (.c (.int .i64 0))⟩] [0, 1, 2, 3]) (.seq
    (.region none [ ⟨some 15, none, .mv (.t 2)⟩, ⟨some 16, none, .mv (.t 1)⟩, ⟨some 17, none, .bin .sub (.t 15) (.t 16)⟩, ⟨some 10, none, .mv (.t 17)⟩] [0, 1, 2, 3, 10]) (.seq
    (.region none [ ⟨some 11, none, .alloc [(.int .i64 0)]⟩] [0, 1, 2, 3, 10, 11]) (.seq
    (.region none [ ⟨some 18, none, .mv (.t 1)⟩, ⟨some 19, none, .mv (.t 10)⟩, ⟨some 20, none, .bin .quo (.t 19) (.c (.int .i64 4))⟩, ⟨some 21, none, .bin .mul (.t 20) (.c (.int .i64 1))⟩, ⟨some 22, none, .bin .add (.t 18) (.t 21)⟩, ⟨some 12, none, .mv (.t 22)⟩] [0, 1, 2, 3, 10, 11, 12]) (.seq
    (.region none [ ⟨some 23, none, .mv (.t 1)⟩, ⟨some 24, none, .mv (.t 10)⟩, ⟨some 25, none, .bin .quo (.t 24) (.c (.int .i64 4))⟩, ⟨some 26, none, .bin .mul (.t 25) (.c (.int .i64 2))⟩, ⟨some 27, none, .bin .add (.t 23) (.t 26)⟩, ⟨some 13, none, .mv (.t 27)⟩] [0, 1, 2, 3, 10, 11, 12, 13]) (.seq
    (.region none [ ⟨some 28, none, .mv (.t 1)⟩, ⟨some 29, none, .mv (.t 10)⟩, ⟨some 30, none, .bin .quo (.t 29) (.c (.int .i64 4))⟩, ⟨some 31, none, .bin .mul (.t 30) (.c (.int .i64 3))⟩, ⟨some 32, none, .bin .add (.t 28) (.t 31)⟩, ⟨some 14, none, .mv (.t 32)⟩] [0, 1, 2, 3, 10, 11, 12, 13, 14]) (.seq (.seq
    (.region none [ ⟨some 33, none, .mv (.t 10)⟩, ⟨some 34, none, .bin .geq (.t 33) (.c (.int .i64 8))⟩] [0, 1, 2, 3, 10, 11, 12, 13, 14, 34]) (.cond (.t 34) (.seq (.seq
    (.region none [ ⟨some 35, none, .mv (.t 10)⟩, ⟨some 36, none, .bin .geq (.t 35) (.c (.int .i64 50))⟩] [0, 1, 2, 3, 11, 12, 13, 14, 36]) (.cond (.t 36) (.seq
    (.region none [ ⟨some 37, none, .mv (.t 0)⟩, ⟨some 38, none, .mv (.t 12)⟩, ⟨some 39, none, .mv (.t 3)⟩, ⟨some 40, none, .callm (.f 453) [((.t 37), true), ((.t 38), false), ((.t 11), true), ((.t 39), false)] []⟩, ⟨some 12, none, .mv (.t 40)⟩] [0, 1, 2, 3, 11, 12, 13, 14]) (.seq
    (.region none [ ⟨some 41, none, .mv (.t 0)⟩, ⟨some 42, none, .mv (.t 13)⟩, ⟨some 43, none, .mv (.t 3)⟩, ⟨some 44, none, .callm (.f 453) [((.t 41), true), ((.t 42), false), ((.t 11), true), ((.t 43), false)] []⟩, ⟨some 13, none, .mv (.t 44)⟩] [0, 1, 2, 3, 11, 12, 13, 14])
    (.region none [ ⟨some 45, none, .mv (.t 0)⟩, ⟨some 46, none, .mv (.t 14)⟩, ⟨some 47, none, .mv (.t 3)⟩, ⟨some 48, none, .callm (.f 453) [((.t 45), true), ((.t 46), false), ((.t 11), true), ((.t 47), false)] []⟩, ⟨some 14, none, .mv (.t 48)⟩] [0, 1, 2, 3, 11, 12, 13, 14]))) .skip))
    (.region none [ ⟨some 49, none, .mv (.t 0)⟩, ⟨some 50, none, .mv (.t 12)⟩, ⟨some 51, none, .mv (.t 13)⟩, ⟨some 52, none, .mv (.t 14)⟩, ⟨some 53, none, .mv (.t 3)⟩, ⟨some 54, none, .callm (.f 454) [((.t 49), true), ((.t 50), false), ((.t 51), false), ((.t 52), false), ((.t 11), true), ((.t 53), false)] []⟩, ⟨some 13, none, .mv (.t 54)⟩] [0, 1, 2, 3, 11, 13])) .skip)) (.seq
    (.region none [ ⟨some 55, none, .ld none (.t 11)⟩] [0, 1, 2, 3, 13, 55]) (.block 0 (.seq
    (.region none [ ⟨some 58, none, .bin .eql (.t 55) (.c (.int .i64 0))⟩, ⟨some 57, none, .mv (.t 58)⟩] [0, 1, 2, 3, 13, 55, 57]) (.cond (.t 57) (.seq
    (.region none [ ⟨some 59, none, .mv (.t 13)⟩, ⟨some 8, none, .mv (.t 59)⟩, ⟨some 9, none, .mv (.c (.int .i64 1))⟩] [0, 1, 2, 3, 8, 9]) .ret) (.seq
    (.region none [ ⟨some 61, none, .bin .eql (.t 55) (.c (.int .i64 12))⟩, ⟨some 60, none, .mv (.t 61)⟩] [0, 1, 2, 3, 13, 60]) (.cond (.t 60) (.seq
    (.region none [ ⟨some 62, none, .mv (.t 13)⟩, ⟨some 8, none, .mv (.t 62)⟩, ⟨some 9, none, .mv (.c (.int .i64 2))⟩] [0, 1, 2, 3, 8, 9]) .ret) (.seq
    (.region none [ ⟨some 56, none, .mv (.t 13)⟩, ⟨some 8, none, .mv (.t 56)⟩, ⟨some 9, none, .mv (.c (.int .i64 0))⟩] [0, 1, 2, 3, 8, 9]) .ret))))))))))))))

/-- slices.medianAdjacentCmpFunc[[]int64] -/
def c_slices_medianAdjacentCmpFunc___int64_ : F where
  np := 4
  rs := [.t 8]
  fix := [0, 1, 2, 3]
  body :=
    (.seq
    (.region none [ ⟨some 8, none, .mv (.c (.int .i64 0))⟩] [0, 1, 2, 3]) (.seq
    (.region none [ ⟨some 9, none, .mv (.t 0)⟩, ⟨some 10, none, .mv (.t 1)⟩, ⟨some 11, none, .bin .sub (.t 10) (.c (.int .i64 1))⟩, ⟨some 12, none, .mv (.t 1)⟩, ⟨some 13, none, .mv (.t 1)⟩, ⟨some 14, none, .bin .add (.t 13) (.c (.int .i64 1))⟩, ⟨some 15, none, .mv (.t 2)⟩, ⟨some 16, none, .mv (.t 3)⟩, ⟨some 17, none, .callm (.f 454) [((.t 9), true), ((.t 11), false), ((.t 12), false), ((.t 14), false), ((.t 15), true), ((.t 16), false)] []⟩, ⟨some 8, none, .mv (.t 17)⟩] [0, 1, 2, 3, 8]) .ret))

/-- slices.medianCmpFunc[[]int64] -/
def c_slices_medianCmpFunc___int64_ : F where
  np := 6
  rs := [.t 12]
  fix := [0, 4, 5]
  body :=
    (.seq
    (.region none [ ⟨some 12, none, .mv (.c (.int .i64 0))⟩] [0, 1, 2, 3, 4, 5]) (.seq
    (.region none [ ⟨some 14, none, .mv (.t 0)⟩, ⟨some 15, none, .mv (.t 1)⟩, ⟨some 16, none, .mv (.t 2)⟩, ⟨some 17, none, .mv (.t 4)⟩, ⟨some 18, none, .mv (.t 5)⟩, ⟨some 19, none, .callm (.f 465) [((.t 14), true), ((.t 15), false), ((.t 16), false), ((.t 17), true), ((.t 18), false)] []⟩, ⟨some 13, none, .mv (.t 19)⟩, ⟨some 20, none, .ext (.t 13) 0⟩, ⟨some 21, none, .ext (.t 13) 1⟩, ⟨some 1, none, .mv (.t 20)⟩, ⟨some 2, none, .mv (.t 21)⟩] [0, 1, 2, 3, 4, 5]) (.seq
    (.region none [ ⟨some 23, none, .mv (.t 0)⟩, ⟨some 24, none, .mv (.t 2)⟩, ⟨some 25, none, .mv (.t 3)⟩, ⟨some 26, none, .mv (.t 4)⟩, ⟨some 27, none, .mv (.t 5)⟩, ⟨some 28, none, .callm (.f 465) [((.t 23), true), ((.t 24), false), ((.t 25), false), ((.t 26), true), ((.t 27), false)] []⟩, ⟨some 22, none, .mv (.t 28)⟩, ⟨some 29, none, .ext (.t 22) 0⟩, ⟨some 30, none, .ext (.t 22) 1⟩, ⟨some 2, none, .mv (.t 29)⟩, ⟨some 3, none, .mv (.t 30)⟩] [0, 1, 2, 3, 4, 5]) (.seq
    (.region none [ ⟨some 32, none, .mv (.t 0)⟩, ⟨some 33, none, .mv (.t 1)⟩, ⟨some 34, none, .mv (.t 2)⟩, ⟨some 35, none, .mv (.t 4)⟩, ⟨some 36, none, .mv (.t 5)⟩, ⟨some 37, none, .callm (.f 465) [((.t 32), true), ((.t 33), false), ((.t 34), false), ((.t 35), true), ((.t 36), false)] []⟩, ⟨some 31, none, .mv (.t 37)⟩, ⟨some 38, none, .ext (.t 31) 0⟩, ⟨some 39, none, .ext (.t 31) 1⟩, ⟨some 1, none, .mv (.t 38)⟩, ⟨some 2, none, .mv (.t 39)⟩] [0, 1, 2, 3, 4, 5]) (.seq
    (.region none [ ⟨some 40, none, .mv (.t 2)⟩, ⟨some 12, none, .mv (.t 40)⟩] [0, 1, 2, 3, 4, 5, 12]) .ret)))))

/-- slices.order2CmpFunc[[]int64] -/
def c_slices_order2CmpFunc___int64_ : F where
  np := 5
  rs := [.t 10, .t 11]
  fix := [0, 1, 2, 3, 4]
  body :=
    (.seq
    (.region none [ ⟨some 10, none, .mv (.c (.int .i64 0))⟩, ⟨some 11, none, .mv (.c (.int .i64 0))⟩] [0, 1, 2, 3, 4]) (.seq (.seq
    (.region (some [12, 13, 14, 15, 16, 17, 18, 19, 20]) [ ⟨some 12, none, .mv (.t 4)⟩, ⟨some 13, none, .mv (.t 0)⟩, ⟨some 14, none, .mv (.t 2)⟩, ⟨some 15, none, .idx 1 (.t 13) (.t 14)⟩, ⟨some 16, none, .ld none (.t 15)⟩, ⟨some 17, none, .mv (.t 0)⟩, ⟨some 18, none, .mv (.t 1)⟩, ⟨some 19, none, .idx 1 (.t 17) (.t 18)⟩, ⟨some 20, none, .ld none (.t 19)⟩, ⟨some 21, none, .call (.t 12) [((.t 16), .r), ((.t 20), .r)]⟩, ⟨some 22, none, .bin .lss (.t 21) (.c (.int .i64 0))⟩] [0, 1, 2, 3, 4, 22]) (.cond (.t 22) (.seq
    (.region none [ ⟨some 23, none, .mv (.t 3)⟩, ⟨some 24, none, .nilck (.t 23)⟩, ⟨some 25, none, .ld none (.t 24)⟩, ⟨some 26, none, .bin .add (.t 25) (.c (.int .i64 1))⟩, ⟨some 27, none, .nilck (.t 23)⟩, ⟨none, none, .st none (.t 27) (.t 26)⟩] [0, 1, 2, 3, 4]) (.seq
    (.region none [ ⟨some 28, none, .mv (.t 2)⟩, ⟨some 29, none, .mv (.t 1)⟩, ⟨some 10, none, .mv (.t 28)⟩, ⟨some 11, none, .mv (.t 29)⟩] [0, 1, 2, 3, 4, 10, 11]) .ret)) .skip)) (.seq
    (.region none [ ⟨some 30, none, .mv (.t 1)⟩, ⟨some 31, none, .mv (.t 2)⟩, ⟨some 10, none, .mv (.t 30)⟩, ⟨some 11, none, .mv (.t 31)⟩] [0, 1, 2, 3, 4, 10, 11]) .ret)))

/-- slices.reverseRangeCmpFunc[[]int64] -/
def c_slices_reverseRangeCmpFunc___int64_ : F where
  np := 4
  rs := []
  fix := [0, 1, 2, 3]
  body :=
    (.seq
    (.region none [ ⟨some 10, none, .mv (.t 1)⟩, ⟨some 8, none, .mv (.t 10)⟩] [0, 1, 2, 3, 8]) (.seq
    (.region none [ ⟨some 11, none, .mv (.t 2)⟩, ⟨some 12, none, .bin .sub (.t 11) (.c (.int .i64 1))⟩, ⟨some 9, none, .mv (.t 12)⟩] [0, 1, 2, 3, 8, 9]) (.block 0 (.loop (.seq (.seq
    (.region none [ ⟨some 13, none, .mv (.t 8)⟩, ⟨some 14, none, .mv (.t 9)⟩, ⟨some 15, none, .bin .lss (.t 13) (.t 14)⟩] [0, 1, 2, 3, 8, 9, 15]) (.cond (.t 15) .skip (.exit 0))) (.block 1 (.seq
    (.region (some [16, 17, 18, 19, 20, 21, 22, 23, 24, 25, 26, 27, 28]) [ ⟨some 16, none, .mv (.t 0)⟩, ⟨some 17, none, .mv (.t 8)⟩, ⟨some 18, none, .mvw (.t 0)⟩, ⟨some 19, none, .mvw (.t 9)⟩, ⟨some 20, none, .mv (.t 0)⟩, ⟨some 21, none, .mv (.t 9)⟩, ⟨some 22, none, .idx 1 (.t 20) (.t 21)⟩, ⟨some 23, none, .ld none (.t 22)⟩, ⟨some 24, none, .mv (.t 0)⟩, ⟨some 25, none, .mv (.t 8)⟩, ⟨some 26, none, .idx 1 (.t 24) (.t 25)⟩, ⟨some 27, none, .ld none (.t 26)⟩, ⟨some 28, none, .idx 1 (.t 16) (.t 17)⟩, ⟨none, none, .stsw (.t 28) (.t 23) 27⟩, ⟨some 29, none, .idx 1 (.t 18) (.t 19)⟩, ⟨none, none, .st none (.t 29) (.t 27)⟩] [0, 1, 2, 3, 8, 9]) (.seq
    (.region none [ ⟨some 30, none, .mv (.t 8)⟩, ⟨some 31, none, .bin .add (.t 30) (.c (.int .i64 1))⟩, ⟨some 8, none, .mv (.t 31)⟩] [0, 1, 2, 3, 8, 9])
    (.region none [ ⟨some 32, none, .mv (.t 9)⟩, ⟨some 33, none, .bin .sub (.t 32) (.c (.int .i64 1))⟩, ⟨some 9, none, .mv (.t 33)⟩] [0, 1, 2, 3, 8, 9])))))))))

/-- slices.partialInsertionSortCmpFunc[[]int64] -/
def c_slices_partialInsertionSortCmpFunc___int64_ : F where
  np := 4
  rs := [.t 8]
  fix := [0, 1, 2, 3]
  body :=
    (.seq
    (.region none [ ⟨some 8, none, .mv (.c (.bool false))⟩] [0, 1, 2, 3]) (.seq
    (.region none [ ⟨some 13, none, .mv (.t 1)⟩, ⟨some 14, none, .bin .add (.t 13) (.c (.int .i64 1))⟩, ⟨some 9, none, .mv (.t 14)⟩] [0, 1, 2, 3, 9]) (.seq (.seq
    (.region none [ ⟨some 10, none, .mv (.c (.int .i64 0))⟩] [0, 1, 2, 3, 9, 10]) (.block 0 (.loop (.seq (.seq
    (.region none [ ⟨some 15, none, .mv (.t 10)⟩, ⟨some 16, none, .bin .lss (.t 15) (.c (.int .i64 5))⟩] [0, 1, 2, 3, 9, 10, 16]) (.cond (.t 16) .skip (.exit 0))) (.seq (.block 1 (.seq (.block 2 (.loop (.seq (.seq
    (.region (some [19, 20, 23, 24, 25, 26, 27, 28, 29, 30, 31, 32]) [ ⟨some 19, none, .mv (.t 9)⟩, ⟨some 20, none, .mv (.t 2)⟩, ⟨some 21, none, .bin .lss (.t 19) (.t 20)⟩, ⟨some 22, none, .mv (.t 21)⟩, ⟨some 23, (some (22, true)), .mv (.t 3)⟩, ⟨some 24, (some (22, true)), .mv (.t 0)⟩, ⟨some 25, (some (22, true)), .mv (.t 9)⟩, ⟨some 26, (some (22, true)), .idx 1 (.t 24) (.t 25)⟩, ⟨some 27, (some (22, true)), .ld none (.t 26)⟩, ⟨some 28, (some (22, true)), .mv (.t 0)⟩, ⟨some 29, (some (22, true)), .mv (.t 9)⟩, ⟨some 30, (some (22, true)), .bin .sub (.t 29) (.c (.int .i64 1))⟩, ⟨some 31, (some (22, true)), .idx 1 (.t 28) (.t 30)⟩, ⟨some 32, (some (22, true)), .ld none (.t 31)⟩, ⟨some 33, (some (22, true)), .call (.t 23) [((.t 27), .r), ((.t 32), .r)]⟩, ⟨some 34, (some (22, true)), .bin .lss (.t 33) (.c (.int .i64 0))⟩, ⟨some 35, (some (22, true)), .un .not (.t 34)⟩, ⟨some 36, none, .pick (.t 22) (.t 35) (.c (.bool false))⟩] [0, 1, 2, 3, 9, 10, 36]) (.cond (.t 36) .skip (.exit 2))) (.block 3
    (.region none [ ⟨some 37, none, .mv (.t 9)⟩, ⟨some 38, none, .bin .add (.t 37) (.c (.int .i64 1))⟩, ⟨some 9, none, .mv (.t 38)⟩] [0, 1, 2, 3, 9, 10]))))) (.seq (.seq
    (.region none [ ⟨some 39, none, .mv (.t 9)⟩, ⟨some 40, none, .mv (.t 2)⟩, ⟨some 41, none, .bin .eql (.t 39) (.t 40)⟩] [0, 1, 2, 3, 9, 10, 41]) (.cond (.t 41) (.seq
    (.region none [ ⟨some 8, none, .mv (.c (.bool true))⟩] [0, 1, 2, 3, 8]) .ret) .skip)) (.seq (.seq
    (.region none [ ⟨some 42, none, .mv (.t 2)⟩, ⟨some 43, none, .mv (.t 1)⟩, ⟨some 44, none, .bin .sub (.t 42) (.t 43)⟩, ⟨some 45, none, .bin .lss (.t 44) (.c (.int .i64 50))⟩] [0, 1, 2, 3, 9, 10, 45]) (.cond (.t 45) (.seq
    (.region none [ ⟨some 8, none, .mv (.c (.bool false))⟩] [0, 1, 2, 3, 8]) .ret) .skip)) (.seq
    (.region (some [46, 47, 48, 49, 50, 51, 52, 53, 54, 55, 56, 57, 58, 59, 60]) [ ⟨some 46, none, .mv (.t 0)⟩, ⟨some 47, none, .mv (.t 9)⟩, ⟨some 48, none, .mvw (.t 0)⟩, ⟨some 49, none, .mvw (.t 9)⟩, ⟨some 50, none, .bin .sub (.t 49) (.c (.int .i64 1))⟩, ⟨some 51, none, .mv (.t 0)⟩, ⟨some 52, none, .mv (.t 9)⟩, ⟨some 53, none, .bin .sub (.t 52) (.c (.int .i64 1))⟩, ⟨some 54, none, .idx 1 (.t 51) (.t 53)⟩, ⟨some 55, none, .ld none (.t 54)⟩, ⟨some 56, none, .mv (.t 0)⟩, ⟨some 57, none, .mv (.t 9)⟩, ⟨some 58, none, .idx 1 (.t 56) (.t 57)⟩, ⟨some 59, none, .ld none (.t 58)⟩, ⟨some 60, none, .idx 1 (.t 46) (.t 47)⟩, ⟨none, none, .stsw (.t 60) (.t 55) 59⟩, ⟨some 61, none, .idx 1 (.t 48) (.t 50)⟩, ⟨none, none, .st none (.t 61) (.t 59)⟩] [0, 1, 2, 3, 9, 10]) (.seq (.seq
    (.region none [ ⟨some 62, none, .mv (.t 9)⟩, ⟨some 63, none, .mv (.t 1)⟩, ⟨some 64, none, .bin .sub (.t 62) (.t 63)⟩, ⟨some 65, none, .bin .geq (.t 64) (.c (.int .i64 2))⟩] [0, 1, 2, 3, 9, 10, 65]) (.cond (.t 65) (.seq
    (.region none [ ⟨some 66, none, .mv (.t 9)⟩, ⟨some 67, none, .bin .sub (.t 66) (.c (.int .i64 1))⟩, ⟨some 11, none, .mv (.t 67)⟩] [0, 1, 2, 3, 9, 10, 11]) (.block 4 (.loop (.seq (.seq
    (.region none [ ⟨some 68, none, .mv (.t 11)⟩, ⟨some 69, none, .bin .geq (.t 68) (.c (.int .i64 1))⟩] [0, 1, 2, 3, 9, 10, 11, 69]) (.cond (.t 69) .skip (.exit 4))) (.seq (.block 5 (.seq (.seq
    (.region (some [72, 73, 74, 75, 76, 77, 78, 79, 80, 81]) [ ⟨some 72, none, .mv (.t 3)⟩, ⟨some 73, none, .mv (.t 0)⟩, ⟨some 74, none, .mv (.t 11)⟩, ⟨some 75, none, .idx 1 (.t 73) (.t 74)⟩, ⟨some 76, none, .ld none (.t 75)⟩, ⟨some 77, none, .mv (.t 0)⟩, ⟨some 78, none, .mv (.t 11)⟩, ⟨some 79, none, .bin .sub (.t 78) (.c (.int .i64 1))⟩, ⟨some 80, none, .idx 1 (.t 77) (.t 79)⟩, ⟨some 81, none, .ld none (.t 80)⟩, ⟨some 82, none, .call (.t 72) [((.t 76), .r), ((.t 81), .r)]⟩, ⟨some 83, none, .bin .lss (.t 82) (.c (.int .i64 0))⟩, ⟨some 84, none, .un .not (.t 83)⟩] [0, 1, 2, 3, 9, 10, 11, 84]) (.cond (.t 84) (.exit 4) .skip))
    (.region (some [85, 86, 87, 88, 89, 90, 91, 92, 93, 94, 95, 96, 97, 98, 99]) [ ⟨some 85, none, .mv (.t 0)⟩, ⟨some 86, none, .mv (.t 11)⟩, ⟨some 87, none, .mvw (.t 0)⟩, ⟨some 88, none, .mvw (.t 11)⟩, ⟨some 89, none, .bin .sub (.t 88) (.c (.int .i64 1))⟩, ⟨some 90, none, .mv (.t 0)⟩, ⟨some 91, none, .mv (.t 11)⟩, ⟨some 92, none, .bin .sub (.t 91) (.c (.int .i64 1))⟩, ⟨some 93, none, .idx 1 (.t 90) (.t 92)⟩, ⟨some 94, none, .ld none (.t 93)⟩, ⟨some 95, none, .mv (.t 0)⟩, ⟨some 96, none, .mv (.t 11)⟩, ⟨some 97, none, .idx 1 (.t 95) (.t 96)⟩, ⟨some 98, none, .ld none (.t 97)⟩, ⟨some 99, none, .idx 1 (.t 85) (.t 86)⟩, ⟨none, none, .stsw (.t 99) (.t 94) 98⟩, ⟨some 100, none, .idx 1 (.t 87) (.t 89)⟩, ⟨none, none, .st none (.t 100) (.t 98)⟩] [0, 1, 2, 3, 9, 10, 11])))
    (.region none [ ⟨some 70, none, .mv (.t 11)⟩, ⟨some 71, none, .bin .sub (.t 70) (.c (.int .i64 1))⟩, ⟨some 11, none, .mv (.t 71)⟩] [0, 1, 2, 3, 9, 10, 11])))))) .skip)) (.seq
    (.region none [ ⟨some 101, none, .mv (.t 2)⟩, ⟨some 102, none, .mv (.t 9)⟩, ⟨some 103, none, .bin .sub (.t 101) (.t 102)⟩, ⟨some 104, none, .bin .geq (.t 103) (.c (.int .i64 2))⟩] [0, 1, 2, 3, 9, 10, 104]) (.cond (.t 104) (.seq
    (.region none [ ⟨some 105, none, .mv (.t 9)⟩, ⟨some 106, none, .bin .add (.t 105) (.c (.int .i64 1))⟩, ⟨some 12, none, .mv (.t 106)⟩] [0, 1, 2, 3, 9, 10, 12]) (.block 6 (.loop (.seq (.seq
    (.region none [ ⟨some 107, none, .mv (.t 12)⟩, ⟨some 108, none, .mv (.t 2)⟩, ⟨some 109, none, .bin .lss (.t 107) (.t 108)⟩] [0, 1, 2, 3, 9, 10, 12, 109]) (.cond (.t 109) .skip (.exit 6))) (.seq (.block 7 (.seq (.seq
    (.region (some [112, 113, 114, 115, 116, 117, 118, 119, 120, 121]) [ ⟨some 112, none, .mv (.t 3)⟩, ⟨some 113, none, .mv (.t 0)⟩, ⟨some 114, none, .mv (.t 12)⟩, ⟨some 115, none, .idx 1 (.t 113) (.t 114)⟩, ⟨some 116, none, .ld none (.t 115)⟩, ⟨some 117, none, .mv (.t 0)⟩, ⟨some 118, none, .mv (.t 12)⟩, ⟨some 119, none, .bin .sub (.t 118) (.c (.int .i64 1))⟩, ⟨some 120, none, .idx 1 (.t 117) (.t 119)⟩, ⟨some 121, none, .ld none (.t 120)⟩, ⟨some 122, none, .call (.t 112) [((.t 116), .r), ((.t 121), .r)]⟩, ⟨some 123, none, .bin .lss (.t 122) (.c (.int .i64 0))⟩, ⟨some 124, none, .un .not (.t 123)⟩] [0, 1, 2, 3, 9, 10, 12, 124]) (.cond (.t 124) (.exit 6) .skip))
    (.region (some [125, 126, 127, 128, 129, 130, 131, 132, 133, 134, 135, 136, 137, 138, 139]) [ ⟨some 125, none, .mv (.t 0)⟩, ⟨some 126, none, .mv (.t 12)⟩, ⟨some 127, none, .mvw (.t 0)⟩, ⟨some 128, none, .mvw (.t 12)⟩, ⟨some 129, none, .bin .sub (.t 128) (.c (.int .i64 1))⟩, ⟨some 130, none, .mv (.t 0)⟩, ⟨some 131, none, .mv (.t 12)⟩, ⟨some 132, none, .bin .sub (.t 131) (.c (.int .i64 1))⟩, ⟨some 133, none, .idx 1 (.t 130) (.t 132)⟩, ⟨some 134, none, .ld none (.t 133)⟩, ⟨some 135, none, .mv (.t 0)⟩, ⟨some 136, none, .mv (.t 12)⟩, ⟨some 137, none, .idx 1 (.t 135) (.t 136)⟩, ⟨some 138, none, .ld none (.t 137)⟩, ⟨some 139, none, .idx 1 (.t 125) (.t 126)⟩, ⟨none, none, .stsw (.t 139) (.t 134) 138⟩, ⟨some 140, none, .idx 1 (.t 127) (.t 129)⟩, ⟨none, none, .st none (.t 140) (.t 138)⟩] [0, 1, 2, 3, 9, 10, 12])))
    (.region none [ ⟨some 110, none, .mv (.t 12)⟩, ⟨some 111, none, .bin .add (.t 110) (.c (.int .i64 1))⟩, ⟨some 12, none, .mv (.t 111)⟩] [0, 1, 2, 3, 9, 10, 12])))))) .skip))))))))
    (.region none [ ⟨some 17, none, .mv (.t 10)⟩, ⟨some 18, none, .bin .add (.t 17) (.c (.int .i64 1))⟩, ⟨some 10, none, .mv (.t 18)⟩] [0, 1, 2, 3, 9, 10])))))) (.seq
    (.region none [ ⟨some 8, none, .mv (.c (.bool false))⟩] [0, 1, 2, 3, 8]) .ret))))

/-- slices.partitionEqualCmpFunc[[]int64] -/
def c_slices_partitionEqualCmpFunc___int64_ : F where
  np := 5
  rs := [.t 10]
  fix := [0, 1, 2, 3, 4]
  body :=
    (.seq
    (.region none [ ⟨some 10, none, .mv (.c (.int .i64 0))⟩] [0, 1, 2, 3, 4]) (.seq
    (.region (some [13, 14, 15, 16, 17, 18, 19, 20, 21, 22, 23, 24, 25]) [ ⟨some 13, none, .mv (.t 0)⟩, ⟨some 14, none, .mv (.t 1)⟩, ⟨some 15, none, .mvw (.t 0)⟩, ⟨some 16, none, .mvw (.t 3)⟩, ⟨some 17, none, .mv (.t 0)⟩, ⟨some 18, none, .mv (.t 3)⟩, ⟨some 19, none, .idx 1 (.t 17) (.t 18)⟩, ⟨some 20, none, .ld none (.t 19)⟩, ⟨some 21, none, .mv (.t 0)⟩, ⟨some 22, none, .mv (.t 1)⟩, ⟨some 23, none, .idx 1 (.t 21) (.t 22)⟩, ⟨some 24, none, .ld none (.t 23)⟩, ⟨some 25, none, .idx 1 (.t 13) (.t 14)⟩, ⟨none, none, .stsw (.t 25) (.t 20) 24⟩, ⟨some 26, none, .idx 1 (.t 15) (.t 16)⟩, ⟨none, none, .st none (.t 26) (.t 24)⟩] [0, 1, 2, 3, 4]) (.seq
    (.region none [ ⟨some 27, none, .mv (.t 1)⟩, ⟨some 28, none, .bin .add (.t 27) (.c (.int .i64 1))⟩, ⟨some 29, none, .mv (.t 2)⟩, ⟨some 30, none, .bin .sub (.t 29) (.c (.int .i64 1))⟩, ⟨some 11, none, .mv (.t 28)⟩, ⟨some 12, none, .mv (.t 30)⟩] [0, 1, 2, 3, 4, 11, 12]) (.seq (.block 0 (.loop (.block 1 (.seq (.block 2 (.loop (.seq (.seq
    (.region (some [31, 32, 35, 36, 37, 38, 39, 40, 41, 42, 43]) [ ⟨some 31, none, .mv (.t 11)⟩, ⟨some 32, none, .mv (.t 12)⟩, ⟨some 33, none, .bin .leq (.t 31) (.t 32)⟩, ⟨some 34, none, .mv (.t 33)⟩, ⟨some 35, (some (34, true)), .mv (.t 4)⟩, ⟨some 36, (some (34, true)), .mv (.t 0)⟩, ⟨some 37, (some (34, true)), .mv (.t 1)⟩, ⟨some 38, (some (34, true)), .idx 1 (.t 36) (.t 37)⟩, ⟨some 39, (some (34, true)), .ld none (.t 38)⟩, ⟨some 40, (some (34, true)), .mv (.t 0)⟩, ⟨some 41, (some (34, true)), .mv (.t 11)⟩, ⟨some 42, (some (34, true)), .idx 1 (.t 40) (.t 41)⟩, ⟨some 43, (some (34, true)), .ld none (.t 42)⟩, ⟨some 44, (some (34, true)), .call (.t 35) [((.t 39), .r), ((.t 43), .r)]⟩, ⟨some 45, (some (34, true)), .bin .lss (.t 44) (.c (.int .i64 0))⟩, ⟨some 46, (some (34, true)), .un .not (.t 45)⟩, ⟨some 47, none, .pick (.t 34) (.t 46) (.c (.bool false))⟩] [0, 1, 2, 3, 4, 11, 12, 47]) (.cond (.t 47) .skip (.exit 2))) (.block 3
    (.region none [ ⟨some 48, none, .mv (.t 11)⟩, ⟨some 49, none, .bin .add (.t 48) (.c (.int .i64 1))⟩, ⟨some 11, none, .mv (.t 49)⟩] [0, 1, 2, 3, 4, 11, 12]))))) (.seq (.block 4 (.loop (.seq (.seq
    (.region (some [50, 51, 54, 55, 56, 57, 58, 59, 60, 61, 62]) [ ⟨some 50, none, .mv (.t 11)⟩, ⟨some 51, none, .mv (.t 12)⟩, ⟨some 52, none, .bin .leq (.t 50) (.t 51)⟩, ⟨some 53, none, .mv (.t 52)⟩, ⟨some 54, (some (53, true)), .mv (.t 4)⟩, ⟨some 55, (some (53, true)), .mv (.t 0)⟩, ⟨some 56, (some (53, true)), .mv (.t 1)⟩, ⟨some 57, (some (53, true)), .idx 1 (.t 55) (.t 56)⟩, ⟨some 58, (some (53, true)), .ld none (.t 57)⟩, ⟨some 59, (some (53, true)), .mv (.t 0)⟩, ⟨some 60, (some (53, true)), .mv (.t 12)⟩, ⟨some 61, (some (53, true)), .idx 1 (.t 59) (.t 60)⟩, ⟨some 62, (some (53, true)), .ld none (.t 61)⟩, ⟨some 63, (some (53, true)), .call (.t 54) [((.t 58), .r), ((.t 62), .r)]⟩, ⟨some 64, (some (53, true)), .bin .lss (.t 63) (.c (.int .i64 0))⟩, ⟨some 65, none, .pick (.t 53) (.t 64) (.c (.bool false))⟩] [0, 1, 2, 3, 4, 11, 12, 65]) (.cond (.t 65) .skip (.exit 4))) (.block 5
    (.region none [ ⟨some 66, none, .mv (.t 12)⟩, ⟨some 67, none, .bin .sub (.t 66) (.c (.int .i64 1))⟩, ⟨some 12, none, .mv (.t 67)⟩] [0, 1, 2, 3, 4, 11, 12]))))) (.seq (.seq
    (.region none [ ⟨some 68, none, .mv (.t 11)⟩, ⟨some 69, none, .mv (.t 12)⟩, ⟨some 70, none, .bin .gtr (.t 68) (.t 69)⟩] [0, 1, 2, 3, 4, 11, 12, 70]) (.cond (.t 70) (.exit 0) .skip)) (.seq
    (.region (some [71, 72, 73, 74, 75, 76, 77, 78, 79, 80, 81, 82, 83]) [ ⟨some 71, none, .mv (.t 0)⟩, ⟨some 72, none, .mv (.t 11)⟩, ⟨some 73, none, .mvw (.t 0)⟩, ⟨some 74, none, .mvw (.t 12)⟩, ⟨some 75, none, .mv (.t 0)⟩, ⟨some 76, none, .mv (.t 12)⟩, ⟨some 77, none, .idx 1 (.t 75) (.t 76)⟩, ⟨some 78, none, .ld none (.t 77)⟩, ⟨some 79, none, .mv (.t 0)⟩, ⟨some 80, none, .mv (.t 11)⟩, ⟨some 81, none, .idx 1 (.t 79) (.t 80)⟩, ⟨some 82, none, .ld none (.t 81)⟩, ⟨some 83, none, .idx 1 (.t 71) (.t 72)⟩, ⟨none, none, .stsw (.t 83) (.t 78) 82⟩, ⟨some 84, none, .idx 1 (.t 73) (.t 74)⟩, ⟨none, none, .st none (.t 84) (.t 82)⟩] [0, 1, 2, 3, 4, 11, 12]) (.seq
    (.region none [ ⟨some 85, none, .mv (.t 11)⟩, ⟨some 86, none, .bin .add (.t 85) (.c (.int .i64 1))⟩, ⟨some 11, none, .mv (.t 86)⟩] [0, 1, 2, 3, 4, 11, 12])
    (.region none [ ⟨some 87, none, .mv (.t 12)⟩, ⟨some 88, none, .bin .sub (.t 87) (.c (.int .i64 1))⟩, ⟨some 12, none, .mv (.t 88)⟩] [0, 1, 2, 3, 4, 11, 12]))))))))) (.seq
    (.region none [ ⟨some 89, none, .mv (.t 11)⟩, ⟨some 10, none, .mv (.t 89)⟩] [0, 1, 2, 3, 4, 10]) .ret)))))

/-- slices.partitionCmpFunc[[]int64] -/
def c_slices_partitionCmpFunc___int64_ : F where
  np := 5
  rs := [.t 10, .t 11]
  fix := [0, 1, 2, 3, 4]
  body :=
    (.seq
    (.region none [ ⟨some 10, none, .mv (.c (.int .i64 0))⟩, ⟨some 11, none, .mv (.c (.bool false))⟩] [0, 1, 2, 3, 4]) (.seq
    (.region (some [14, 15, 16, 17, 18, 19, 20, 21, 22, 23, 24, 25, 26]) [ ⟨some 14, none, .mv (.t 0)⟩, ⟨some 15, none, .mv (.t 1)⟩, ⟨some 16, none, .mvw (.t 0)⟩, ⟨some 17, none, .mvw (.t 3)⟩, ⟨some 18, none, .mv (.t 0)⟩, ⟨some 19, none, .mv (.t 3)⟩, ⟨some 20, none, .idx 1 (.t 18) (.t 19)⟩, ⟨some 21, none, .ld none (.t 20)⟩, ⟨some 22, none, .mv (.t 0)⟩, ⟨some 23, none, .mv (.t 1)⟩, ⟨some 24, none, .idx 1 (.t 22) (.t 23)⟩, ⟨some 25, none, .ld none (.t 24)⟩, ⟨some 26, none, .idx 1 (.t 14) (.t 15)⟩, ⟨none, none, .stsw (.t 26) (.t 21) 25⟩, ⟨some 27, none, .idx 1 (.t 16) (.t 17)⟩, ⟨none, none, .st none (.t 27) (.t 25)⟩] [0, 1, 2, 3, 4]) (.seq
    (.region none [ ⟨some 28, none, .mv (.t 1)⟩, ⟨some 29, none, .bin .add (.t 28) (.c (.int .i64 1))⟩, ⟨some 30, none, .mv (.t 2)⟩, ⟨some 31, none, .bin .sub (.t 30) (.c (.int .i64 1))⟩, ⟨some 12, none, .mv (.t 29)⟩, ⟨some 13, none, .mv (.t 31)⟩] [0, 1, 2, 3, 4, 12, 13]) (.seq (.block 0 (.loop (.seq (.seq
    (.region (some [32, 33, 36, 37, 38, 39, 40, 41, 42, 43, 44]) [ ⟨some 32, none, .mv (.t 12)⟩, ⟨some 33, none, .mv (.t 13)⟩, ⟨some 34, none, .bin .leq (.t 32) (.t 33)⟩, ⟨some 35, none, .mv (.t 34)⟩, ⟨some 36, (some (35, true)), .mv (.t 4)⟩, ⟨some 37, (some (35, true)), .mv (.t 0)⟩, ⟨some 38, (some (35, true)), .mv (.t 12)⟩, ⟨some 39, (some (35, true)), .idx 1 (.t 37) (.t 38)⟩, ⟨some 40, (some (35, true)), .ld none (.t 39)⟩, ⟨some 41, (some (35, true)), .mv (.t 0)⟩, ⟨some 42, (some (35, true)), .mv (.t 1)⟩, ⟨some 43, (some (35, true)), .idx 1 (.t 41) (.t 42)⟩, ⟨some 44, (some (35, true)), .ld none (.t 43)⟩, ⟨some 45, (some (35, true)), .call (.t 36) [((.t 40), .r), ((.t 44), .r)]⟩, ⟨some 46, (some (35, true)), .bin .lss (.t 45) (.c (.int .i64 0))⟩, ⟨some 47, none, .pick (.t 35) (.t 46) (.c (.bool false))⟩] [0, 1, 2, 3, 4, 12, 13, 47]) (.cond (.t 47) .skip (.exit 0))) (.block 1
    (.region none [ ⟨some 48, none, .mv (.t 12)⟩, ⟨some 49, none, .bin .add (.t 48) (.c (.int .i64 1))⟩, ⟨some 12, none, .mv (.t 49)⟩] [0, 1, 2, 3, 4, 12, 13]))))) (.seq (.block 2 (.loop (.seq (.seq
    (.region (some [50, 51, 54, 55, 56, 57, 58, 59, 60, 61, 62]) [ ⟨some 50, none, .mv (.t 12)⟩, ⟨some 51, none, .mv (.t 13)⟩, ⟨some 52, none, .bin .leq (.t 50) (.t 51)⟩, ⟨some 53, none, .mv (.t 52)⟩, ⟨some 54, (some (53, true)), .mv (.t 4)⟩, ⟨some 55, (some (53, true)), .mv (.t 0)⟩, ⟨some 56, (some (53, true)), .mv (.t 13)⟩, ⟨some 57, (some (53, true)), .idx 1 (.t 55) (.t 56)⟩, ⟨some 58, (some (53, true)), .ld none (.t 57)⟩, ⟨some 59, (some (53, true)), .mv (.t 0)⟩, ⟨some 60, (some (53, true)), .mv (.t 1)⟩, ⟨some 61, (some (53, true)), .idx 1 (.t 59) (.t 60)⟩, ⟨some 62, (some (53, true)), .ld none (.t 61)⟩, ⟨some 63, (some (53, true)), .call (.t 54) [((.t 58), .r), ((.t 62), .r)]⟩, ⟨some 64, (some (53, true)), .bin .lss (.t 63) (.c (.int .i64 0))⟩, ⟨some 65, (some (53, true)), .un .not (.t 64)⟩, ⟨some 66, none, .pick (.t 53) (.t 65) (.c (.bool false))⟩] [0, 1, 2, 3, 4, 12, 13, 66]) (.cond (.t 66) .skip (.exit 2))) (.block 3
    (.region none [ ⟨some 67, none, .mv (.t 13)⟩, ⟨some 68, none, .bin .sub (.t 67) (.c (.int .i64 1))⟩, ⟨some 13, none, .mv (.t 68)⟩] [0, 1, 2, 3, 4, 12, 13]))))) (.seq (.seq
    (.region none [ ⟨some 69, none, .mv (.t 12)⟩, ⟨some 70, none, .mv (.t 13)⟩, ⟨some 71, none, .bin .gtr (.t 69) (.t 70)⟩] [0, 1, 2, 3, 4, 12, 13, 71]) (.cond (.t 71) (.seq
    (.region (some [72, 73, 74, 75, 76, 77, 78, 79, 80, 81, 82, 83, 84]) [ ⟨some 72, none, .mv (.t 0)⟩, ⟨some 73, none, .mv (.t 13)⟩, ⟨some 74, none, .mvw (.t 0)⟩, ⟨some 75, none, .mvw (.t 1)⟩, ⟨some 76, none, .mv (.t 0)⟩, ⟨some 77, none, .mv (.t 1)⟩, ⟨some 78, none, .idx 1 (.t 76) (.t 77)⟩, ⟨some 79, none, .ld none (.t 78)⟩, ⟨some 80, none, .mv (.t 0)⟩, ⟨some 81, none, .mv (.t 13)⟩, ⟨some 82, none, .idx 1 (.t 80) (.t 81)⟩, ⟨some 83, none, .ld none (.t 82)⟩, ⟨some 84, none, .idx 1 (.t 72) (.t 73)⟩, ⟨none, none, .stsw (.t 84) (.t 79) 83⟩, ⟨some 85, none, .idx 1 (.t 74) (.t 75)⟩, ⟨none, none, .st none (.t 85) (.t 83)⟩] [0, 1, 2, 3, 4, 13]) (.seq
    (.region none [ ⟨some 86, none, .mv (.t 13)⟩, ⟨some 10, none, .mv (.t 86)⟩, ⟨some 11, none, .mv (.c (.bool true))⟩] [0, 1, 2, 3, 4, 10, 11]) .ret)) .skip)) (.seq
    (.region (some [87, 88, 89, 90, 91, 92, 93, 94, 95, 96, 97, 98, 99]) [ ⟨some 87, none, .mv (.t 0)⟩, ⟨some 88, none, .mv (.t 12)⟩, ⟨some 89, none, .mvw (.t 0)⟩, ⟨some 90, none, .mvw (.t 13)⟩, ⟨some 91, none, .mv (.t 0)⟩, ⟨some 92, none, .mv (.t 13)⟩, ⟨some 93, none, .idx 1 (.t 91) (.t 92)⟩, ⟨some 94, none, .ld none (.t 93)⟩, ⟨some 95, none, .mv (.t 0)⟩, ⟨some 96, none, .mv (.t 12)⟩, ⟨some 97, none, .idx 1 (.t 95) (.t 96)⟩, ⟨some 98, none, .ld none (.t 97)⟩, ⟨some 99, none, .idx 1 (.t 87) (.t 88)⟩, ⟨none, none, .stsw (.t 99) (.t 94) 98⟩, ⟨some 100, none, .idx 1 (.t 89) (.t 90)⟩, ⟨none, none, .st none (.t 100) (.t 98)⟩] [0, 1, 2, 3, 4, 12, 13]) (.seq
    (.region none [ ⟨some 101, none, .mv (.t 12)⟩, ⟨some 102, none, .bin .add (.t 101) (.c (.int .i64 1))⟩, ⟨some 12, none, .mv (.t 102)⟩] [0, 1, 2, 3, 4, 12, 13]) (.seq
    (.region none [ ⟨some 103, none, .mv (.t 13)⟩, ⟨some 104, none, .bin .sub (.t 103) (.c (.int .i64 1))⟩, ⟨some 13, none, .mv (.t 104)⟩] [0, 1, 2, 3, 4, 12, 13]) (.seq (.block 4 (.loop (.block 5 (.seq (.block 6 (.loop (.seq (.seq
    (.region (some [105, 106, 109, 110, 111, 112, 113, 114, 115, 116, 117]) [ ⟨some 105, none, .mv (.t 12)⟩, ⟨some 106, none, .mv (.t 13)⟩, ⟨some 107, none, .bin .leq (.t 105) (.t 106)⟩, ⟨some 108, none, .mv (.t 107)⟩, ⟨some 109, (some (108, true)), .mv (.t 4)⟩, ⟨some 110, (some (108, true)), .mv (.t 0)⟩, ⟨some 111, (some (108, true)), .mv (.t 12)⟩, ⟨some 112, (some (108, true)), .idx 1 (.t 110) (.t 111)⟩, ⟨some 113, (some (108, true)), .ld none (.t 112)⟩, ⟨some 114, (some (108, true)), .mv (.t 0)⟩, ⟨some 115, (some (108, true)), .mv (.t 1)⟩, ⟨some 116, (some (108, true)), .idx 1 (.t 114) (.t 115)⟩, ⟨some 117, (some (108, true)), .ld none (.t 116)⟩, ⟨some 118, (some (108, true)), .call (.t 109) [((.t 113), .r), ((.t 117), .r)]⟩, ⟨some 119, (some (108, true)), .bin .lss (.t 118) (.c (.int .i64 0))⟩, ⟨some 120, none, .pick (.t 108) (.t 119) (.c (.bool false))⟩] [0, 1, 2, 3, 4, 12, 13, 120]) (.cond (.t 120) .skip (.exit 6))) (.block 7
    (.region none [ ⟨some 121, none, .mv (.t 12)⟩, ⟨some 122, none, .bin .add (.t 121) (.c (.int .i64 1))⟩, ⟨some 12, none, .mv (.t 122)⟩] [0, 1, 2, 3, 4, 12, 13]))))) (.seq (.block 8 (.loop (.seq (.seq
    (.region (some [123, 124, 127, 128, 129, 130, 131, 132, 133, 134, 135]) [ ⟨some 123, none, .mv (.t 12)⟩, ⟨some 124, none, .mv (.t 13)⟩, ⟨some 125, none, .bin .leq (.t 123) (.t 124)⟩, ⟨some 126, none, .mv (.t 125)⟩, ⟨some 127, (some (126, true)), .mv (.t 4)⟩, ⟨some 128, (some (126, true)), .mv (.t 0)⟩, ⟨some 129, (some (126, true)), .mv (.t 13)⟩, ⟨some 130, (some (126, true)), .idx 1 (.t 128) (.t 129)⟩, ⟨some 131, (some (126, true)), .ld none (.t 130)⟩, ⟨some 132, (some (126, true)), .mv (.t 0)⟩, ⟨some 133, (some (126, true)), .mv (.t 1)⟩, ⟨some 134, (some (126, true)), .idx 1 (.t 132) (.t 133)⟩, ⟨some 135, (some (126, true)), .ld none (.t 134)⟩, ⟨some 136, (some (126, true)), .call (.t 127) [((.t 131), .r), ((.t 135), .r)]⟩, ⟨some 137, (some (126, true)), .bin .lss (.t 136) (.c (.int .i64 0))⟩, ⟨some 138, (some (126, true)), .un .not (.t 137)⟩, ⟨some 139, none, .pick (.t 126) (.t 138) (.c (.bool false))⟩] [0, 1, 2, 3, 4, 12, 13, 139]) (.cond (.t 139) .skip (.exit 8))) (.block 9
    (.region none [ ⟨some 140, none, .mv (.t 13)⟩, ⟨some 141, none, .bin .sub (.t 140) (.c (.int .i64 1))⟩, ⟨some 13, none, .mv (.t 141)⟩] [0, 1, 2, 3, 4, 12, 13]))))) (.seq (.seq
    (.region none [ ⟨some 142, none, .mv (.t 12)⟩, ⟨some 143, none, .mv (.t 13)⟩, ⟨some 144, none, .bin .gtr (.t 142) (.t 143)⟩] [0, 1, 2, 3, 4, 12, 13, 144]) (.cond (.t 144) (.exit 4) .skip)) (.seq
    (.region (some [145, 146, 147, 148, 149, 150, 151, 152, 153, 154, 155, 156, 157]) [ ⟨some 145, none, .mv (.t 0)⟩, ⟨some 146, none, .mv (.t 12)⟩, ⟨some 147, none, .mvw (.t 0)⟩, ⟨some 148, none, .mvw (.t 13)⟩, ⟨some 149, none, .mv (.t 0)⟩, ⟨some 150, none, .mv (.t 13)⟩, ⟨some 151, none, .idx 1 (.t 149) (.t 150)⟩, ⟨some 152, none, .ld none (.t 151)⟩, ⟨some 153, none, .mv (.t 0)⟩, ⟨some 154, none, .mv (.t 12)⟩, ⟨some 155, none, .idx 1 (.t 153) (.t 154)⟩, ⟨some 156, none, .ld none (.t 155)⟩, ⟨some 157, none, .idx 1 (.t 145) (.t 146)⟩, ⟨none, none, .stsw (.t 157) (.t 152) 156⟩, ⟨some 158, none, .idx 1 (.t 147) (.t 148)⟩, ⟨none, none, .st none (.t 158) (.t 156)⟩] [0, 1, 2, 3, 4, 12, 13]) (.seq
    (.region none [ ⟨some 159, none, .mv (.t 12)⟩, ⟨some 160, none, .bin .add (.t 159) (.c (.int .i64 1))⟩, ⟨some 12, none, .mv (.t 160)⟩] [0, 1, 2, 3, 4, 12, 13])
    (.region none [ ⟨some 161, none, .mv (.t 13)⟩, ⟨some 162, none, .bin .sub (.t 161) (.c (.int .i64 1))⟩, ⟨some 13, none, .mv (.t 162)⟩] [0, 1, 2, 3, 4, 12, 13]))))))))) (.seq
    (.region (some [163, 164, 165, 166, 167, 168, 169, 170, 171, 172, 173, 174, 175]) [ ⟨some 163, none, .mv (.t 0)⟩, ⟨some 164, none, .mv (.t 13)⟩, ⟨some 165, none, .mvw (.t 0)⟩, ⟨some 166, none, .mvw (.t 1)⟩, ⟨some 167, none, .mv (.t 0)⟩, ⟨some 168, none, .mv (.t 1)⟩, ⟨some 169, none, .idx 1 (.t 167) (.t 168)⟩, ⟨some 170, none, .ld none (.t 169)⟩, ⟨some 171, none, .mv (.t 0)⟩, ⟨some 172, none, .mv (.t 13)⟩, ⟨some 173, none, .idx 1 (.t 171) (.t 172)⟩, ⟨some 174, none, .ld none (.t 173)⟩, ⟨some 175, none, .idx 1 (.t 163) (.t 164)⟩, ⟨none, none, .stsw (.t 175) (.t 170) 174⟩, ⟨some 176, none, .idx 1 (.t 165) (.t 166)⟩, ⟨none, none, .st none (.t 176) (.t 174)⟩] [0, 1, 2, 3, 4, 13]) (.seq
    (.region none [ ⟨some 177, none, .mv (.t 13)⟩, ⟨some 10, none, .mv (.t 177)⟩, ⟨some 11, none, .mv (.c (.bool false))⟩] [0, 1, 2, 3, 4, 10, 11]) .ret))))))))))))

end Go.Mch
