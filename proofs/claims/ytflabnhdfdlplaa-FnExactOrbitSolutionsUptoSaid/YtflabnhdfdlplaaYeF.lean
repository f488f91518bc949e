/- Compact code of the law of OrbitSolutions. -/
import Derived.Test.YtflabnhdfdlplaaM1
namespace Go.Mch

/-- laws.FnExactOrbitSolutions -/
def c_laws_FnExactOrbitSolutions : F where
  np := 1
  rs := [.t 2]
  body :=
    (.seq
    (.region none [ ⟨some 1, none, .box (.t 0)⟩, ⟨some 2, none, .mv (.c (.bool false))⟩] [1]) (.seq
    (.region none [ ⟨some 3, none, .mv (.c (.int .i64 1048576))⟩] [1, 3]) (.seq
    (.region none [ ⟨some 14, none, .ld (some 2) (.t 1)⟩, ⟨some 15, none, .mv (.t 3)⟩, ⟨some 16, none, .call (.f 14) [((.t 14), .r), ((.t 15), .r)]⟩, ⟨some 3, none, .mv (.t 16)⟩] [1, 3]) (.seq (.seq
    (.region none [ ⟨some 17, none, .mv (.t 3)⟩, ⟨some 18, none, .bin .lss (.t 17) (.c (.int .i64 0))⟩] [1, 18]) (.cond (.t 18) (.seq
    (.region none [ ⟨some 2, none, .mv (.c (.bool true))⟩] [2]) .ret) .skip)) (.seq
    (.region none [ ⟨some 20, none, .ld (some 2) (.t 1)⟩, ⟨some 21, none, .call (.f 16) [((.t 20), .r)]⟩, ⟨some 22, none, .call (.f 208) [((.t 21), .r)]⟩, ⟨some 19, none, .mv (.t 22)⟩, ⟨some 23, none, .ext (.t 19) 0⟩, ⟨some 24, none, .ext (.t 19) 1⟩, ⟨some 4, none, .asg (.t 23)⟩, ⟨some 5, none, .mv (.t 24)⟩] [1, 4, 5]) (.seq
    (.region none [ ⟨some 25, none, .ld (some 2) (.t 1)⟩, ⟨some 26, none, .call (.f 16) [((.t 25), .r)]⟩, ⟨some 6, none, .alloc [(.slice none 0 0), (.slice none 0 0)]⟩, ⟨none, none, .st (some 2) (.t 6) (.t 26)⟩] [1, 4, 5, 6]) (.seq
    (.region none [ ⟨some 28, none, .ld (some 2) (.t 6)⟩, ⟨some 29, none, .call (.f 209) [((.t 28), .r)]⟩, ⟨some 27, none, .mv (.t 29)⟩, ⟨some 30, none, .ext (.t 27) 0⟩, ⟨some 31, none, .ext (.t 27) 1⟩, ⟨some 7, none, .asg (.t 30)⟩, ⟨some 8, none, .mv (.t 31)⟩] [1, 4, 5, 6, 7, 8]) (.seq (.seq
    (.region none [ ⟨some 32, none, .mv (.t 7)⟩, ⟨some 33, none, .mv (.t 4)⟩, ⟨some 34, none, .call (.f 210) [((.t 32), .r), ((.t 33), .r)]⟩, ⟨some 35, none, .un .not (.t 34)⟩, ⟨some 36, none, .mv (.t 35)⟩, ⟨some 37, (some (36, false)), .mv (.t 8)⟩, ⟨some 38, (some (36, false)), .mv (.t 5)⟩, ⟨some 39, (some (36, false)), .bin .neq (.t 37) (.t 38)⟩, ⟨some 40, none, .pick (.t 36) (.c (.bool true)) (.t 39)⟩] [1, 4, 5, 6, 7, 8, 40]) (.cond (.t 40) (.seq
    (.region none [ ⟨some 2, none, .mv (.c (.bool false))⟩] [2]) .ret) .skip)) (.seq (.seq
    (.region (some [41, 42, 43]) [ ⟨some 41, none, .ld (some 2) (.t 6)⟩, ⟨some 42, none, .ld (some 2) (.t 1)⟩, ⟨some 43, none, .call (.f 16) [((.t 42), .r)]⟩, ⟨some 44, none, .call (.f 18) [((.t 41), .r), ((.t 43), .r)]⟩, ⟨some 45, none, .un .not (.t 44)⟩] [1, 4, 5, 6, 7, 8, 45]) (.cond (.t 45) (.seq
    (.region none [ ⟨some 2, none, .mv (.c (.bool false))⟩] [2]) .ret) .skip)) (.seq
    (.region none [ ⟨some 9, none, .mv (.c (.int .i64 1))⟩] [1, 4, 5, 6, 7, 8, 9]) (.seq
    (.region none [ ⟨some 46, none, .ld (some 2) (.t 6)⟩, ⟨some 47, none, .mv (.t 9)⟩, ⟨some 48, none, .callm (.f 22) [((.t 46), true), ((.t 47), false)] []⟩, ⟨some 9, none, .mv (.t 48)⟩] [1, 4, 5, 7, 8, 9]) (.seq (.seq
    (.region none [ ⟨some 49, none, .mv (.t 9)⟩, ⟨some 50, none, .bin .lss (.t 49) (.c (.int .i64 0))⟩, ⟨some 51, none, .mv (.t 50)⟩, ⟨some 52, (some (51, false)), .mv (.t 7)⟩, ⟨some 53, (some (51, false)), .mv (.t 4)⟩, ⟨some 54, (some (51, false)), .call (.f 210) [((.t 52), .r), ((.t 53), .r)]⟩, ⟨some 55, (some (51, false)), .un .not (.t 54)⟩, ⟨some 56, none, .pick (.t 51) (.c (.bool true)) (.t 55)⟩, ⟨some 57, none, .mv (.t 56)⟩, ⟨some 58, (some (57, false)), .mv (.t 8)⟩, ⟨some 59, (some (57, false)), .mv (.t 5)⟩, ⟨some 60, (some (57, false)), .bin .neq (.t 58) (.t 59)⟩, ⟨some 61, none, .pick (.t 57) (.c (.bool true)) (.t 60)⟩] [1, 4, 5, 7, 61]) (.cond (.t 61) (.seq
    (.region none [ ⟨some 2, none, .mv (.c (.bool false))⟩] [2]) .ret) .skip)) (.seq
    (.region none [ ⟨some 10, none, .mv (.c (.int .i64 1))⟩] [1, 4, 5, 7, 10]) (.seq
    (.region none [ ⟨some 62, none, .mv (.t 7)⟩, ⟨some 63, none, .mv (.t 10)⟩, ⟨some 64, none, .callm (.f 211) [((.t 62), true), ((.t 63), false)] []⟩, ⟨some 10, none, .mv (.t 64)⟩] [1, 4, 5, 7, 10]) (.seq
    (.region none [ ⟨some 11, none, .mv (.c (.int .i64 1))⟩] [1, 4, 5, 7, 10, 11]) (.seq
    (.region none [ ⟨some 65, none, .mv (.t 7)⟩, ⟨some 66, none, .mv (.t 11)⟩, ⟨some 67, none, .call (.f 212) [((.t 65), .r), ((.t 66), .r)]⟩, ⟨some 11, none, .mv (.t 67)⟩] [1, 4, 5, 7, 10, 11]) (.seq (.seq
    (.region none [ ⟨some 68, none, .mv (.t 11)⟩, ⟨some 69, none, .bin .lss (.t 68) (.c (.int .i64 0))⟩] [1, 4, 5, 7, 10, 11, 69]) (.cond (.t 69) (.seq
    (.region none [ ⟨some 2, none, .mv (.c (.bool false))⟩] [2]) .ret) .skip)) (.seq (.seq
    (.region none [ ⟨some 70, none, .mv (.t 11)⟩, ⟨some 71, none, .mv (.t 10)⟩, ⟨some 72, none, .bin .neq (.t 70) (.t 71)⟩] [1, 4, 5, 7, 10, 72]) (.cond (.t 72) (.seq
    (.region none [ ⟨some 2, none, .mv (.c (.bool false))⟩] [2]) .ret) .skip)) (.seq
    (.region none [ ⟨some 74, none, .ld (some 2) (.t 1)⟩, ⟨some 75, none, .call (.f 16) [((.t 74), .r)]⟩, ⟨some 76, none, .call (.f 209) [((.t 75), .r)]⟩, ⟨some 73, none, .mv (.t 76)⟩, ⟨some 77, none, .ext (.t 73) 0⟩, ⟨some 78, none, .ext (.t 73) 1⟩, ⟨some 12, none, .asg (.t 77)⟩, ⟨some 13, none, .mv (.t 78)⟩] [4, 5, 7, 10, 12, 13]) (.seq (.seq
    (.region none [ ⟨some 79, none, .mv (.t 12)⟩, ⟨some 80, none, .mv (.t 4)⟩, ⟨some 81, none, .call (.f 210) [((.t 79), .r), ((.t 80), .r)]⟩, ⟨some 82, none, .un .not (.t 81)⟩, ⟨some 83, none, .mv (.t 82)⟩, ⟨some 84, (some (83, false)), .mv (.t 13)⟩, ⟨some 85, (some (83, false)), .mv (.t 5)⟩, ⟨some 86, (some (83, false)), .bin .neq (.t 84) (.t 85)⟩, ⟨some 87, none, .pick (.t 83) (.c (.bool true)) (.t 86)⟩] [7, 10, 87]) (.cond (.t 87) (.seq
    (.region none [ ⟨some 2, none, .mv (.c (.bool false))⟩] [2]) .ret) .skip)) (.seq
    (.region none [ ⟨some 11, none, .mv (.c (.int .i64 1))⟩] [7, 10, 11]) (.seq
    (.region none [ ⟨some 88, none, .mv (.t 7)⟩, ⟨some 89, none, .mv (.t 11)⟩, ⟨some 90, none, .call (.f 212) [((.t 88), .r), ((.t 89), .r)]⟩, ⟨some 11, none, .mv (.t 90)⟩] [10, 11]) (.seq (.seq
    (.region none [ ⟨some 91, none, .mv (.t 11)⟩, ⟨some 92, none, .bin .lss (.t 91) (.c (.int .i64 0))⟩] [10, 11, 92]) (.cond (.t 92) (.seq
    (.region none [ ⟨some 2, none, .mv (.c (.bool false))⟩] [2]) .ret) .skip)) (.seq (.seq
    (.region none [ ⟨some 93, none, .mv (.t 11)⟩, ⟨some 94, none, .mv (.t 10)⟩, ⟨some 95, none, .bin .neq (.t 93) (.t 94)⟩] [95]) (.cond (.t 95) (.seq
    (.region none [ ⟨some 2, none, .mv (.c (.bool false))⟩] [2]) .ret) .skip)) (.seq
    (.region none [ ⟨some 2, none, .mv (.c (.bool true))⟩] [2]) .ret)))))))))))))))))))))))))

end Go.Mch
