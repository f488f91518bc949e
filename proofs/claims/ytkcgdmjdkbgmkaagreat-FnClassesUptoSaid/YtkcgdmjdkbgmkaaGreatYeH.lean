/- Compact code: numbers that the laws draw. -/
import Derived.Test.YtkcgdmjdkbgmkaaGreatM1
namespace Go.Mch

def c___laws_dice__below:F where
 np:=2
 rs:=[.t 4]
 fix:=[0,1]
 body :=
  (.seq
  (.re [oA 4 (.mv (.ci 0))] [0,1]) (.seq (.seq
  (.re [oA 6 (.mv (.t 1)),oA 7 (.bin .lss (.t 6) (.ci 1))] [0,1,7]) (.cond (.t 7) (.seq
  (.re [oA 4 (.mv (.ci 0))] [0,1,4]) .ret) .skip)) (.seq
  (.re [oA 8 (.mv (.t 0)),oA 9 (.mv (.t 0)),oA 10 (.nilck (.t 9)),oA 11 (.fld 2 (.t 10)),oA 12 (.ld none (.t 11)),oA 13 (.bin .mul (.t 12) (.c (.int .u64 6364136223846793005))),oA 14 (.bin .add (.t 13) (.c (.int .u64 1442695040888963407))),oA 15 (.nilck (.t 8)),oA 16 (.fld 2 (.t 15)),oN (.st none (.t 16) (.t 14))] [0,1]) (.seq
  (.re [oA 17 (.mv (.t 0)),oA 18 (.nilck (.t 17)),oA 19 (.fld 2 (.t 18)),oA 20 (.ld none (.t 19)),oA 21 (.bin .shr (.t 20) (.c (.int .u64 33))),oA 22 (.bin .and (.t 21) (.c (.int .u64 16777215))),oA 23 (.conv .i64 (.t 22)),oA 5 (.mv (.t 23))] [0,1,5]) (.seq (.seq
  (.region (some [24,25,26,27,28,29,30,31,32]) [oA 24 (.mv (.t 0)),oA 25 (.nilck (.t 24)),oA 26 (.fld 1 (.t 25)),oA 27 (.ld none (.t 26)),oA 28 (.mv (.t 0)),oA 29 (.nilck (.t 28)),oA 30 (.fld 0 (.t 29)),oA 31 (.ld none (.t 30)),oA 32 (.len (.t 31)),oA 33 (.bin .lss (.t 27) (.t 32))] [0,1,5,33]) (.cond (.t 33) (.seq
  (.region (some [34,35,36,37,38,39,40,41,42,43,44,45]) [oA 34 (.mv (.t 5)),oA 35 (.mv (.t 0)),oA 36 (.nilck (.t 35)),oA 37 (.fld 0 (.t 36)),oA 38 (.ld none (.t 37)),oA 39 (.mv (.t 0)),oA 40 (.nilck (.t 39)),oA 41 (.fld 1 (.t 40)),oA 42 (.ld none (.t 41)),oA 43 (.idx 1 (.t 38) (.t 42)),oA 44 (.ld none (.t 43)),oA 45 (.conv .i64 (.t 44)),oA 46 (.bin .add (.t 34) (.t 45)),oA 5 (.mv (.t 46))] [0,1,5])
  (.re [oA 47 (.mv (.t 0)),oA 48 (.mv (.t 0)),oA 49 (.nilck (.t 48)),oA 50 (.fld 1 (.t 49)),oA 51 (.ld none (.t 50)),oA 52 (.bin .add (.t 51) (.ci 1)),oA 53 (.nilck (.t 47)),oA 54 (.fld 1 (.t 53)),oN (.st none (.t 54) (.t 52))] [0,1,5])) .skip)) (.seq
  (.re [oA 55 (.mv (.t 5)),oA 56 (.mv (.t 1)),oA 57 (.bin .rem (.t 55) (.t 56)),oA 4 (.mv (.t 57))] [0,1,4]) .ret))))))

end Go.Mch
