/- Pure Go: functions of the program as the evaluator's literals (written by a program of this seat's prover). -/
import Derived.Test.YtajaenkdllfidaaGreatDoorV0
namespace Go.K18
open Go Go.PG
def f235b0 : PC :=
 (.seq (.seq (.reg none [⟨some 28, .mv (.t 11), none⟩,
     ⟨some 29, .mv (.t 1), none⟩,
     ⟨some 30, .mv (.t 8), none⟩,
     ⟨some 31, .bin .quo (.t 30) (.c (.d (.int .i64 4))), none⟩,
     ⟨some 32, .bin .mul (.t 31) (.c (.d (.int .i64 2))), none⟩,
     ⟨some 33, .bin .add (.t 29) (.t 32), none⟩,
     ⟨some 34, .bin .add (.t 33) (.c (.d (.int .i64 1))), none⟩,
     ⟨some 35, .bin .leq (.t 28) (.t 34), none⟩] [])
  (.cond (.t 35)
   .skip
   (.exit 0)))
 (.seq (.blk 1 none
   (.seq (.reg none [⟨some 38, .call 266 [(.t 9)], none⟩,
      ⟨some 39, .mv (.t 10), none⟩,
      ⟨some 40, .bin .sub (.t 39) (.c (.d (.int .u64 1))), none⟩,
      ⟨some 41, .bin .and (.t 38) (.t 40), none⟩,
      ⟨some 42, .conv .i64 (.t 41), none⟩,
      ⟨some 12, .mv (.t 42), none⟩] [])
   (.seq (.seq (.reg none [⟨some 43, .mv (.t 12), none⟩,
       ⟨some 44, .mv (.t 8), none⟩,
       ⟨some 45, .bin .geq (.t 43) (.t 44), none⟩] [])
    (.cond (.t 45)
     (.reg none [⟨some 46, .mv (.t 12), none⟩,
       ⟨some 47, .mv (.t 8), none⟩,
       ⟨some 48, .bin .sub (.t 46) (.t 47), none⟩,
       ⟨some 12, .mv (.t 48), none⟩] [])
     .skip))
   (.reg (some []) [⟨some 49, .mv (.t 0), none⟩,
     ⟨some 50, .mv (.t 11), none⟩,
     ⟨some 51, .mv (.t 0), none⟩,
     ⟨some 52, .mv (.t 1), none⟩,
     ⟨some 53, .mv (.t 12), none⟩,
     ⟨some 54, .bin .add (.t 52) (.t 53), none⟩,
     ⟨some 55, .mv (.t 0), none⟩,
     ⟨some 56, .mv (.t 1), none⟩,
     ⟨some 57, .mv (.t 12), none⟩,
     ⟨some 58, .bin .add (.t 56) (.t 57), none⟩,
     ⟨some 59, .iaddr 11 (.t 55) (.t 58), none⟩,
     ⟨some 60, .loadn 11 (.t 59), none⟩,
     ⟨some 61, .mv (.t 0), none⟩,
     ⟨some 62, .mv (.t 11), none⟩,
     ⟨some 63, .iaddr 11 (.t 61) (.t 62), none⟩,
     ⟨some 64, .loadn 11 (.t 63), none⟩,
     ⟨some 65, .iaddr 11 (.t 49) (.t 50), none⟩,
     ⟨none, .store 11 (.t 65) (.t 60), none⟩,
     ⟨some 66, .iaddr 11 (.t 51) (.t 54), none⟩,
     ⟨none, .store 11 (.t 66) (.t 64), none⟩] []))))
 (.reg none [⟨some 36, .mv (.t 11), none⟩,
   ⟨some 37, .bin .add (.t 36) (.c (.d (.int .i64 1))), none⟩,
   ⟨some 11, .mv (.t 37), none⟩] [])))
def f235l0 : PC := .loop [0, 1, 8, 9, 10, 11] [] f235b0
/-- slices.breakPatternsCmpFunc[orchestrator/api.SchemaField] -/
def f235 : PFn := ⟨4, 67, [], true,
 (.seq (.reg none [⟨some 13, .mv (.t 2), none⟩,
    ⟨some 14, .mv (.t 1), none⟩,
    ⟨some 15, .bin .sub (.t 13) (.t 14), none⟩,
    ⟨some 8, .mv (.t 15), none⟩] [])
 (.seq (.reg none [⟨some 16, .mv (.t 8), none⟩,
    ⟨some 17, .bin .geq (.t 16) (.c (.d (.int .i64 8))), none⟩] [])
 (.cond (.t 17)
  (.seq (.reg none [⟨some 18, .mv (.t 8), none⟩,
     ⟨some 19, .conv .u64 (.t 18), none⟩,
     ⟨some 9, .alloc 296 [(.d (.int .u64 0))], none⟩,
     ⟨none, .store 1 (.t 9) (.t 19), none⟩] [])
  (.seq (.reg none [⟨some 20, .mv (.t 8), none⟩,
     ⟨some 21, .call 265 [(.t 20)], none⟩,
     ⟨some 10, .mv (.t 21), none⟩] [])
  (.seq (.reg none [⟨some 22, .mv (.t 1), none⟩,
     ⟨some 23, .mv (.t 8), none⟩,
     ⟨some 24, .bin .quo (.t 23) (.c (.d (.int .i64 4))), none⟩,
     ⟨some 25, .bin .mul (.t 24) (.c (.d (.int .i64 2))), none⟩,
     ⟨some 26, .bin .add (.t 22) (.t 25), none⟩,
     ⟨some 27, .bin .sub (.t 26) (.c (.d (.int .i64 1))), none⟩,
     ⟨some 11, .mv (.t 27), none⟩] [])
  (.blk 0 (some [])
   f235l0))))
  .skip)))⟩
/-- slices.choosePivotCmpFunc[orchestrator/api.SchemaField] -/
def f236 : PFn := ⟨4, 63, [.t 8, .t 9], true,
 (.seq (.reg none [⟨some 8, .mv (.c (.d (.int .i64 0))), none⟩,
    ⟨some 9, .mv (.c (.d (.int .i64 0))), none⟩] [])
 (.seq (.reg none [⟨some 15, .mv (.t 2), none⟩,
    ⟨some 16, .mv (.t 1), none⟩,
    ⟨some 17, .bin .sub (.t 15) (.t 16), none⟩,
    ⟨some 10, .mv (.t 17), none⟩] [])
 (.seq (.reg none [⟨some 11, .alloc 3 [(.d (.int .i64 0))], none⟩] [])
 (.seq (.reg none [⟨some 18, .mv (.t 1), none⟩,
    ⟨some 19, .mv (.t 10), none⟩,
    ⟨some 20, .bin .quo (.t 19) (.c (.d (.int .i64 4))), none⟩,
    ⟨some 21, .bin .mul (.t 20) (.c (.d (.int .i64 1))), none⟩,
    ⟨some 22, .bin .add (.t 18) (.t 21), none⟩,
    ⟨some 12, .mv (.t 22), none⟩] [])
 (.seq (.reg none [⟨some 23, .mv (.t 1), none⟩,
    ⟨some 24, .mv (.t 10), none⟩,
    ⟨some 25, .bin .quo (.t 24) (.c (.d (.int .i64 4))), none⟩,
    ⟨some 26, .bin .mul (.t 25) (.c (.d (.int .i64 2))), none⟩,
    ⟨some 27, .bin .add (.t 23) (.t 26), none⟩,
    ⟨some 13, .mv (.t 27), none⟩] [])
 (.seq (.reg none [⟨some 28, .mv (.t 1), none⟩,
    ⟨some 29, .mv (.t 10), none⟩,
    ⟨some 30, .bin .quo (.t 29) (.c (.d (.int .i64 4))), none⟩,
    ⟨some 31, .bin .mul (.t 30) (.c (.d (.int .i64 3))), none⟩,
    ⟨some 32, .bin .add (.t 28) (.t 31), none⟩,
    ⟨some 14, .mv (.t 32), none⟩] [])
 (.seq (.seq (.reg none [⟨some 33, .mv (.t 10), none⟩,
     ⟨some 34, .bin .geq (.t 33) (.c (.d (.int .i64 8))), none⟩] [])
  (.cond (.t 34)
   (.seq (.seq (.reg none [⟨some 35, .mv (.t 10), none⟩,
       ⟨some 36, .bin .geq (.t 35) (.c (.d (.int .i64 50))), none⟩] [])
    (.cond (.t 36)
     (.seq (.reg none [⟨some 37, .mv (.t 0), none⟩,
        ⟨some 38, .mv (.t 12), none⟩,
        ⟨some 39, .mv (.t 3), none⟩,
        ⟨some 40, .call 267 [(.t 37), (.t 38), (.t 11), (.t 39)], none⟩,
        ⟨some 12, .mv (.t 40), none⟩] [])
     (.seq (.reg none [⟨some 41, .mv (.t 0), none⟩,
        ⟨some 42, .mv (.t 13), none⟩,
        ⟨some 43, .mv (.t 3), none⟩,
        ⟨some 44, .call 267 [(.t 41), (.t 42), (.t 11), (.t 43)], none⟩,
        ⟨some 13, .mv (.t 44), none⟩] [])
     (.reg none [⟨some 45, .mv (.t 0), none⟩,
       ⟨some 46, .mv (.t 14), none⟩,
       ⟨some 47, .mv (.t 3), none⟩,
       ⟨some 48, .call 267 [(.t 45), (.t 46), (.t 11), (.t 47)], none⟩,
       ⟨some 14, .mv (.t 48), none⟩] [])))
     .skip))
   (.reg none [⟨some 49, .mv (.t 0), none⟩,
     ⟨some 50, .mv (.t 12), none⟩,
     ⟨some 51, .mv (.t 13), none⟩,
     ⟨some 52, .mv (.t 14), none⟩,
     ⟨some 53, .mv (.t 3), none⟩,
     ⟨some 54, .call 268 [(.t 49), (.t 50), (.t 51), (.t 52), (.t 11), (.t 53)], none⟩,
     ⟨some 13, .mv (.t 54), none⟩] []))
   .skip))
 (.seq (.reg none [⟨some 55, .load1 (.t 11), none⟩] [])
 (.blk 0 none
  (.seq (.reg none [⟨some 58, .bin .eql (.t 55) (.c (.d (.int .i64 0))), none⟩,
     ⟨some 57, .mv (.t 58), none⟩] [])
  (.cond (.t 57)
   (.seq (.reg none [⟨some 59, .mv (.t 13), none⟩,
      ⟨some 8, .mv (.t 59), none⟩,
      ⟨some 9, .mv (.c (.d (.int .i64 1))), none⟩] [])
   .ret)
   (.seq (.reg none [⟨some 61, .bin .eql (.t 55) (.c (.d (.int .i64 12))), none⟩,
      ⟨some 60, .mv (.t 61), none⟩] [])
   (.cond (.t 60)
    (.seq (.reg none [⟨some 62, .mv (.t 13), none⟩,
       ⟨some 8, .mv (.t 62), none⟩,
       ⟨some 9, .mv (.c (.d (.int .i64 2))), none⟩] [])
    .ret)
    (.seq (.reg none [⟨some 56, .mv (.t 13), none⟩,
       ⟨some 8, .mv (.t 56), none⟩,
       ⟨some 9, .mv (.c (.d (.int .i64 0))), none⟩] [])
    .ret))))))))))))))⟩
def f237b0 : PC :=
 (.seq (.seq (.reg none [⟨some 13, .mv (.t 8), none⟩,
     ⟨some 14, .mv (.t 9), none⟩,
     ⟨some 15, .bin .lss (.t 13) (.t 14), none⟩] [])
  (.cond (.t 15)
   .skip
   (.exit 0)))
 (.blk 1 none
  (.seq (.reg (some []) [⟨some 16, .mv (.t 0), none⟩,
     ⟨some 17, .mv (.t 8), none⟩,
     ⟨some 18, .mv (.t 0), none⟩,
     ⟨some 19, .mv (.t 9), none⟩,
     ⟨some 20, .mv (.t 0), none⟩,
     ⟨some 21, .mv (.t 9), none⟩,
     ⟨some 22, .iaddr 11 (.t 20) (.t 21), none⟩,
     ⟨some 23, .loadn 11 (.t 22), none⟩,
     ⟨some 24, .mv (.t 0), none⟩,
     ⟨some 25, .mv (.t 8), none⟩,
     ⟨some 26, .iaddr 11 (.t 24) (.t 25), none⟩,
     ⟨some 27, .loadn 11 (.t 26), none⟩,
     ⟨some 28, .iaddr 11 (.t 16) (.t 17), none⟩,
     ⟨none, .store 11 (.t 28) (.t 23), none⟩,
     ⟨some 29, .iaddr 11 (.t 18) (.t 19), none⟩,
     ⟨none, .store 11 (.t 29) (.t 27), none⟩] [])
  (.seq (.reg none [⟨some 30, .mv (.t 8), none⟩,
     ⟨some 31, .bin .add (.t 30) (.c (.d (.int .i64 1))), none⟩,
     ⟨some 8, .mv (.t 31), none⟩] [])
  (.reg none [⟨some 32, .mv (.t 9), none⟩,
    ⟨some 33, .bin .sub (.t 32) (.c (.d (.int .i64 1))), none⟩,
    ⟨some 9, .mv (.t 33), none⟩] [])))))
def f237l0 : PC := .loop [0, 8, 9] [] f237b0
/-- slices.reverseRangeCmpFunc[orchestrator/api.SchemaField] -/
def f237 : PFn := ⟨4, 34, [], true,
 (.seq (.reg none [⟨some 10, .mv (.t 1), none⟩,
    ⟨some 8, .mv (.t 10), none⟩] [])
 (.seq (.reg none [⟨some 11, .mv (.t 2), none⟩,
    ⟨some 12, .bin .sub (.t 11) (.c (.d (.int .i64 1))), none⟩,
    ⟨some 9, .mv (.t 12), none⟩] [])
 (.blk 0 (some [])
  f237l0)))⟩
def f238b0 : PC :=
 (.seq (.seq (.reg (some []) [⟨some 19, .mv (.t 9), none⟩,
     ⟨some 20, .mv (.t 2), none⟩,
     ⟨some 21, .bin .lss (.t 19) (.t 20), none⟩,
     ⟨some 22, .mv (.t 21), none⟩,
     ⟨some 23, .mv (.t 3), some (22, true)⟩,
     ⟨some 24, .mv (.t 0), some (22, true)⟩,
     ⟨some 25, .mv (.t 9), some (22, true)⟩,
     ⟨some 26, .iaddr 11 (.t 24) (.t 25), some (22, true)⟩,
     ⟨some 27, .loadn 11 (.t 26), some (22, true)⟩,
     ⟨some 28, .mv (.t 0), some (22, true)⟩,
     ⟨some 29, .mv (.t 9), some (22, true)⟩,
     ⟨some 30, .bin .sub (.t 29) (.c (.d (.int .i64 1))), some (22, true)⟩,
     ⟨some 31, .iaddr 11 (.t 28) (.t 30), some (22, true)⟩,
     ⟨some 32, .loadn 11 (.t 31), some (22, true)⟩,
     ⟨some 33, .callv (.t 23) [(.t 27), (.t 32)], some (22, true)⟩,
     ⟨some 34, .bin .lss (.t 33) (.c (.d (.int .i64 0))), some (22, true)⟩,
     ⟨some 35, .un .not (.t 34), some (22, true)⟩,
     ⟨some 36, .pick (.t 22) (.t 35) (.c (.d (.bool false))), none⟩] [])
  (.cond (.t 36)
   .skip
   (.exit 2)))
 (.blk 3 none
  (.reg none [⟨some 37, .mv (.t 9), none⟩,
    ⟨some 38, .bin .add (.t 37) (.c (.d (.int .i64 1))), none⟩,
    ⟨some 9, .mv (.t 38), none⟩] [])))
def f238l0 : PC := .loop [0, 1, 2, 3, 9, 10] [] f238b0
def f238b1 : PC :=
 (.seq (.seq (.reg none [⟨some 68, .mv (.t 11), none⟩,
     ⟨some 69, .bin .geq (.t 68) (.c (.d (.int .i64 1))), none⟩] [])
  (.cond (.t 69)
   .skip
   (.exit 4)))
 (.seq (.blk 5 none
   (.seq (.seq (.reg (some []) [⟨some 72, .mv (.t 3), none⟩,
       ⟨some 73, .mv (.t 0), none⟩,
       ⟨some 74, .mv (.t 11), none⟩,
       ⟨some 75, .iaddr 11 (.t 73) (.t 74), none⟩,
       ⟨some 76, .loadn 11 (.t 75), none⟩,
       ⟨some 77, .mv (.t 0), none⟩,
       ⟨some 78, .mv (.t 11), none⟩,
       ⟨some 79, .bin .sub (.t 78) (.c (.d (.int .i64 1))), none⟩,
       ⟨some 80, .iaddr 11 (.t 77) (.t 79), none⟩,
       ⟨some 81, .loadn 11 (.t 80), none⟩,
       ⟨some 82, .callv (.t 72) [(.t 76), (.t 81)], none⟩,
       ⟨some 83, .bin .lss (.t 82) (.c (.d (.int .i64 0))), none⟩,
       ⟨some 84, .un .not (.t 83), none⟩] [])
    (.cond (.t 84)
     (.exit 4)
     .skip))
   (.reg (some []) [⟨some 85, .mv (.t 0), none⟩,
     ⟨some 86, .mv (.t 11), none⟩,
     ⟨some 87, .mv (.t 0), none⟩,
     ⟨some 88, .mv (.t 11), none⟩,
     ⟨some 89, .bin .sub (.t 88) (.c (.d (.int .i64 1))), none⟩,
     ⟨some 90, .mv (.t 0), none⟩,
     ⟨some 91, .mv (.t 11), none⟩,
     ⟨some 92, .bin .sub (.t 91) (.c (.d (.int .i64 1))), none⟩,
     ⟨some 93, .iaddr 11 (.t 90) (.t 92), none⟩,
     ⟨some 94, .loadn 11 (.t 93), none⟩,
     ⟨some 95, .mv (.t 0), none⟩,
     ⟨some 96, .mv (.t 11), none⟩,
     ⟨some 97, .iaddr 11 (.t 95) (.t 96), none⟩,
     ⟨some 98, .loadn 11 (.t 97), none⟩,
     ⟨some 99, .iaddr 11 (.t 85) (.t 86), none⟩,
     ⟨none, .store 11 (.t 99) (.t 94), none⟩,
     ⟨some 100, .iaddr 11 (.t 87) (.t 89), none⟩,
     ⟨none, .store 11 (.t 100) (.t 98), none⟩] [])))
 (.reg none [⟨some 70, .mv (.t 11), none⟩,
   ⟨some 71, .bin .sub (.t 70) (.c (.d (.int .i64 1))), none⟩,
   ⟨some 11, .mv (.t 71), none⟩] [])))
def f238l1 : PC := .loop [0, 1, 2, 3, 9, 10, 11] [] f238b1
def f238b2 : PC :=
 (.seq (.seq (.reg none [⟨some 107, .mv (.t 12), none⟩,
     ⟨some 108, .mv (.t 2), none⟩,
     ⟨some 109, .bin .lss (.t 107) (.t 108), none⟩] [])
  (.cond (.t 109)
   .skip
   (.exit 6)))
 (.seq (.blk 7 none
   (.seq (.seq (.reg (some []) [⟨some 112, .mv (.t 3), none⟩,
       ⟨some 113, .mv (.t 0), none⟩,
       ⟨some 114, .mv (.t 12), none⟩,
       ⟨some 115, .iaddr 11 (.t 113) (.t 114), none⟩,
       ⟨some 116, .loadn 11 (.t 115), none⟩,
       ⟨some 117, .mv (.t 0), none⟩,
       ⟨some 118, .mv (.t 12), none⟩,
       ⟨some 119, .bin .sub (.t 118) (.c (.d (.int .i64 1))), none⟩,
       ⟨some 120, .iaddr 11 (.t 117) (.t 119), none⟩,
       ⟨some 121, .loadn 11 (.t 120), none⟩,
       ⟨some 122, .callv (.t 112) [(.t 116), (.t 121)], none⟩,
       ⟨some 123, .bin .lss (.t 122) (.c (.d (.int .i64 0))), none⟩,
       ⟨some 124, .un .not (.t 123), none⟩] [])
    (.cond (.t 124)
     (.exit 6)
     .skip))
   (.reg (some []) [⟨some 125, .mv (.t 0), none⟩,
     ⟨some 126, .mv (.t 12), none⟩,
     ⟨some 127, .mv (.t 0), none⟩,
     ⟨some 128, .mv (.t 12), none⟩,
     ⟨some 129, .bin .sub (.t 128) (.c (.d (.int .i64 1))), none⟩,
     ⟨some 130, .mv (.t 0), none⟩,
     ⟨some 131, .mv (.t 12), none⟩,
     ⟨some 132, .bin .sub (.t 131) (.c (.d (.int .i64 1))), none⟩,
     ⟨some 133, .iaddr 11 (.t 130) (.t 132), none⟩,
     ⟨some 134, .loadn 11 (.t 133), none⟩,
     ⟨some 135, .mv (.t 0), none⟩,
     ⟨some 136, .mv (.t 12), none⟩,
     ⟨some 137, .iaddr 11 (.t 135) (.t 136), none⟩,
     ⟨some 138, .loadn 11 (.t 137), none⟩,
     ⟨some 139, .iaddr 11 (.t 125) (.t 126), none⟩,
     ⟨none, .store 11 (.t 139) (.t 134), none⟩,
     ⟨some 140, .iaddr 11 (.t 127) (.t 129), none⟩,
     ⟨none, .store 11 (.t 140) (.t 138), none⟩] [])))
 (.reg none [⟨some 110, .mv (.t 12), none⟩,
   ⟨some 111, .bin .add (.t 110) (.c (.d (.int .i64 1))), none⟩,
   ⟨some 12, .mv (.t 111), none⟩] [])))
def f238l2 : PC := .loop [0, 1, 2, 3, 9, 10, 12] [] f238b2
def f238b3 : PC :=
 (.seq (.seq (.reg none [⟨some 15, .mv (.t 10), none⟩,
     ⟨some 16, .bin .lss (.t 15) (.c (.d (.int .i64 5))), none⟩] [])
  (.cond (.t 16)
   .skip
   (.exit 0)))
 (.seq (.blk 1 none
   (.seq (.blk 2 (some [0, 1, 2, 3, 9, 10])
     f238l0)
   (.seq (.seq (.reg none [⟨some 39, .mv (.t 9), none⟩,
       ⟨some 40, .mv (.t 2), none⟩,
       ⟨some 41, .bin .eql (.t 39) (.t 40), none⟩] [])
    (.cond (.t 41)
     (.seq (.reg none [⟨some 8, .mv (.c (.d (.bool true))), none⟩] [])
     .ret)
     .skip))
   (.seq (.seq (.reg none [⟨some 42, .mv (.t 2), none⟩,
       ⟨some 43, .mv (.t 1), none⟩,
       ⟨some 44, .bin .sub (.t 42) (.t 43), none⟩,
       ⟨some 45, .bin .lss (.t 44) (.c (.d (.int .i64 50))), none⟩] [])
    (.cond (.t 45)
     (.seq (.reg none [⟨some 8, .mv (.c (.d (.bool false))), none⟩] [])
     .ret)
     .skip))
   (.seq (.reg (some []) [⟨some 46, .mv (.t 0), none⟩,
      ⟨some 47, .mv (.t 9), none⟩,
      ⟨some 48, .mv (.t 0), none⟩,
      ⟨some 49, .mv (.t 9), none⟩,
      ⟨some 50, .bin .sub (.t 49) (.c (.d (.int .i64 1))), none⟩,
      ⟨some 51, .mv (.t 0), none⟩,
      ⟨some 52, .mv (.t 9), none⟩,
      ⟨some 53, .bin .sub (.t 52) (.c (.d (.int .i64 1))), none⟩,
      ⟨some 54, .iaddr 11 (.t 51) (.t 53), none⟩,
      ⟨some 55, .loadn 11 (.t 54), none⟩,
      ⟨some 56, .mv (.t 0), none⟩,
      ⟨some 57, .mv (.t 9), none⟩,
      ⟨some 58, .iaddr 11 (.t 56) (.t 57), none⟩,
      ⟨some 59, .loadn 11 (.t 58), none⟩,
      ⟨some 60, .iaddr 11 (.t 46) (.t 47), none⟩,
      ⟨none, .store 11 (.t 60) (.t 55), none⟩,
      ⟨some 61, .iaddr 11 (.t 48) (.t 50), none⟩,
      ⟨none, .store 11 (.t 61) (.t 59), none⟩] [])
   (.seq (.seq (.reg none [⟨some 62, .mv (.t 9), none⟩,
       ⟨some 63, .mv (.t 1), none⟩,
       ⟨some 64, .bin .sub (.t 62) (.t 63), none⟩,
       ⟨some 65, .bin .geq (.t 64) (.c (.d (.int .i64 2))), none⟩] [])
    (.cond (.t 65)
     (.seq (.reg none [⟨some 66, .mv (.t 9), none⟩,
        ⟨some 67, .bin .sub (.t 66) (.c (.d (.int .i64 1))), none⟩,
        ⟨some 11, .mv (.t 67), none⟩] [])
     (.blk 4 (some [0, 1, 2, 3, 9, 10])
      f238l1))
     .skip))
   (.seq (.reg none [⟨some 101, .mv (.t 2), none⟩,
      ⟨some 102, .mv (.t 9), none⟩,
      ⟨some 103, .bin .sub (.t 101) (.t 102), none⟩,
      ⟨some 104, .bin .geq (.t 103) (.c (.d (.int .i64 2))), none⟩] [])
   (.cond (.t 104)
    (.seq (.reg none [⟨some 105, .mv (.t 9), none⟩,
       ⟨some 106, .bin .add (.t 105) (.c (.d (.int .i64 1))), none⟩,
       ⟨some 12, .mv (.t 106), none⟩] [])
    (.blk 6 (some [0, 1, 2, 3, 9, 10])
     f238l2))
    .skip))))))))
 (.reg none [⟨some 17, .mv (.t 10), none⟩,
   ⟨some 18, .bin .add (.t 17) (.c (.d (.int .i64 1))), none⟩,
   ⟨some 10, .mv (.t 18), none⟩] [])))
def f238l3 : PC := .loop [0, 1, 2, 3, 9, 10] [] f238b3
/-- slices.partialInsertionSortCmpFunc[orchestrator/api.SchemaField] -/
def f238 : PFn := ⟨4, 141, [.t 8], true,
 (.seq (.reg none [⟨some 8, .mv (.c (.d (.bool false))), none⟩] [])
 (.seq (.reg none [⟨some 13, .mv (.t 1), none⟩,
    ⟨some 14, .bin .add (.t 13) (.c (.d (.int .i64 1))), none⟩,
    ⟨some 9, .mv (.t 14), none⟩] [])
 (.seq (.seq (.reg none [⟨some 10, .mv (.c (.d (.int .i64 0))), none⟩] [])
  (.blk 0 (some [])
   f238l3))
 (.seq (.reg none [⟨some 8, .mv (.c (.d (.bool false))), none⟩] [])
 .ret))))⟩
def f239b0 : PC :=
 (.seq (.seq (.reg (some []) [⟨some 31, .mv (.t 11), none⟩,
     ⟨some 32, .mv (.t 12), none⟩,
     ⟨some 33, .bin .leq (.t 31) (.t 32), none⟩,
     ⟨some 34, .mv (.t 33), none⟩,
     ⟨some 35, .mv (.t 4), some (34, true)⟩,
     ⟨some 36, .mv (.t 0), some (34, true)⟩,
     ⟨some 37, .mv (.t 1), some (34, true)⟩,
     ⟨some 38, .iaddr 11 (.t 36) (.t 37), some (34, true)⟩,
     ⟨some 39, .loadn 11 (.t 38), some (34, true)⟩,
     ⟨some 40, .mv (.t 0), some (34, true)⟩,
     ⟨some 41, .mv (.t 11), some (34, true)⟩,
     ⟨some 42, .iaddr 11 (.t 40) (.t 41), some (34, true)⟩,
     ⟨some 43, .loadn 11 (.t 42), some (34, true)⟩,
     ⟨some 44, .callv (.t 35) [(.t 39), (.t 43)], some (34, true)⟩,
     ⟨some 45, .bin .lss (.t 44) (.c (.d (.int .i64 0))), some (34, true)⟩,
     ⟨some 46, .un .not (.t 45), some (34, true)⟩,
     ⟨some 47, .pick (.t 34) (.t 46) (.c (.d (.bool false))), none⟩] [])
  (.cond (.t 47)
   .skip
   (.exit 2)))
 (.blk 3 none
  (.reg none [⟨some 48, .mv (.t 11), none⟩,
    ⟨some 49, .bin .add (.t 48) (.c (.d (.int .i64 1))), none⟩,
    ⟨some 11, .mv (.t 49), none⟩] [])))
def f239l0 : PC := .loop [0, 1, 4, 11, 12] [] f239b0
def f239b1 : PC :=
 (.seq (.seq (.reg (some []) [⟨some 50, .mv (.t 11), none⟩,
     ⟨some 51, .mv (.t 12), none⟩,
     ⟨some 52, .bin .leq (.t 50) (.t 51), none⟩,
     ⟨some 53, .mv (.t 52), none⟩,
     ⟨some 54, .mv (.t 4), some (53, true)⟩,
     ⟨some 55, .mv (.t 0), some (53, true)⟩,
     ⟨some 56, .mv (.t 1), some (53, true)⟩,
     ⟨some 57, .iaddr 11 (.t 55) (.t 56), some (53, true)⟩,
     ⟨some 58, .loadn 11 (.t 57), some (53, true)⟩,
     ⟨some 59, .mv (.t 0), some (53, true)⟩,
     ⟨some 60, .mv (.t 12), some (53, true)⟩,
     ⟨some 61, .iaddr 11 (.t 59) (.t 60), some (53, true)⟩,
     ⟨some 62, .loadn 11 (.t 61), some (53, true)⟩,
     ⟨some 63, .callv (.t 54) [(.t 58), (.t 62)], some (53, true)⟩,
     ⟨some 64, .bin .lss (.t 63) (.c (.d (.int .i64 0))), some (53, true)⟩,
     ⟨some 65, .pick (.t 53) (.t 64) (.c (.d (.bool false))), none⟩] [])
  (.cond (.t 65)
   .skip
   (.exit 4)))
 (.blk 5 none
  (.reg none [⟨some 66, .mv (.t 12), none⟩,
    ⟨some 67, .bin .sub (.t 66) (.c (.d (.int .i64 1))), none⟩,
    ⟨some 12, .mv (.t 67), none⟩] [])))
def f239l1 : PC := .loop [0, 1, 4, 11, 12] [] f239b1
def f239b2 : PC :=
 (.blk 1 none
  (.seq (.blk 2 (some [0, 1, 4, 11, 12])
    f239l0)
  (.seq (.blk 4 (some [0, 1, 4, 11, 12])
    f239l1)
  (.seq (.seq (.reg none [⟨some 68, .mv (.t 11), none⟩,
      ⟨some 69, .mv (.t 12), none⟩,
      ⟨some 70, .bin .gtr (.t 68) (.t 69), none⟩] [])
   (.cond (.t 70)
    (.exit 0)
    .skip))
  (.seq (.reg (some []) [⟨some 71, .mv (.t 0), none⟩,
     ⟨some 72, .mv (.t 11), none⟩,
     ⟨some 73, .mv (.t 0), none⟩,
     ⟨some 74, .mv (.t 12), none⟩,
     ⟨some 75, .mv (.t 0), none⟩,
     ⟨some 76, .mv (.t 12), none⟩,
     ⟨some 77, .iaddr 11 (.t 75) (.t 76), none⟩,
     ⟨some 78, .loadn 11 (.t 77), none⟩,
     ⟨some 79, .mv (.t 0), none⟩,
     ⟨some 80, .mv (.t 11), none⟩,
     ⟨some 81, .iaddr 11 (.t 79) (.t 80), none⟩,
     ⟨some 82, .loadn 11 (.t 81), none⟩,
     ⟨some 83, .iaddr 11 (.t 71) (.t 72), none⟩,
     ⟨none, .store 11 (.t 83) (.t 78), none⟩,
     ⟨some 84, .iaddr 11 (.t 73) (.t 74), none⟩,
     ⟨none, .store 11 (.t 84) (.t 82), none⟩] [])
  (.seq (.reg none [⟨some 85, .mv (.t 11), none⟩,
     ⟨some 86, .bin .add (.t 85) (.c (.d (.int .i64 1))), none⟩,
     ⟨some 11, .mv (.t 86), none⟩] [])
  (.reg none [⟨some 87, .mv (.t 12), none⟩,
    ⟨some 88, .bin .sub (.t 87) (.c (.d (.int .i64 1))), none⟩,
    ⟨some 12, .mv (.t 88), none⟩] [])))))))
def f239l2 : PC := .loop [0, 1, 4, 11, 12] [] f239b2
/-- slices.partitionEqualCmpFunc[orchestrator/api.SchemaField] -/
def f239 : PFn := ⟨5, 90, [.t 10], true,
 (.seq (.reg none [⟨some 10, .mv (.c (.d (.int .i64 0))), none⟩] [])
 (.seq (.reg (some []) [⟨some 13, .mv (.t 0), none⟩,
    ⟨some 14, .mv (.t 1), none⟩,
    ⟨some 15, .mv (.t 0), none⟩,
    ⟨some 16, .mv (.t 3), none⟩,
    ⟨some 17, .mv (.t 0), none⟩,
    ⟨some 18, .mv (.t 3), none⟩,
    ⟨some 19, .iaddr 11 (.t 17) (.t 18), none⟩,
    ⟨some 20, .loadn 11 (.t 19), none⟩,
    ⟨some 21, .mv (.t 0), none⟩,
    ⟨some 22, .mv (.t 1), none⟩,
    ⟨some 23, .iaddr 11 (.t 21) (.t 22), none⟩,
    ⟨some 24, .loadn 11 (.t 23), none⟩,
    ⟨some 25, .iaddr 11 (.t 13) (.t 14), none⟩,
    ⟨none, .store 11 (.t 25) (.t 20), none⟩,
    ⟨some 26, .iaddr 11 (.t 15) (.t 16), none⟩,
    ⟨none, .store 11 (.t 26) (.t 24), none⟩] [])
 (.seq (.reg none [⟨some 27, .mv (.t 1), none⟩,
    ⟨some 28, .bin .add (.t 27) (.c (.d (.int .i64 1))), none⟩,
    ⟨some 29, .mv (.t 2), none⟩,
    ⟨some 30, .bin .sub (.t 29) (.c (.d (.int .i64 1))), none⟩,
    ⟨some 11, .mv (.t 28), none⟩,
    ⟨some 12, .mv (.t 30), none⟩] [])
 (.seq (.blk 0 (some [11])
   f239l2)
 (.seq (.reg none [⟨some 89, .mv (.t 11), none⟩,
    ⟨some 10, .mv (.t 89), none⟩] [])
 .ret)))))⟩
def f240b0 : PC :=
 (.seq (.seq (.reg (some []) [⟨some 32, .mv (.t 12), none⟩,
     ⟨some 33, .mv (.t 13), none⟩,
     ⟨some 34, .bin .leq (.t 32) (.t 33), none⟩,
     ⟨some 35, .mv (.t 34), none⟩,
     ⟨some 36, .mv (.t 4), some (35, true)⟩,
     ⟨some 37, .mv (.t 0), some (35, true)⟩,
     ⟨some 38, .mv (.t 12), some (35, true)⟩,
     ⟨some 39, .iaddr 11 (.t 37) (.t 38), some (35, true)⟩,
     ⟨some 40, .loadn 11 (.t 39), some (35, true)⟩,
     ⟨some 41, .mv (.t 0), some (35, true)⟩,
     ⟨some 42, .mv (.t 1), some (35, true)⟩,
     ⟨some 43, .iaddr 11 (.t 41) (.t 42), some (35, true)⟩,
     ⟨some 44, .loadn 11 (.t 43), some (35, true)⟩,
     ⟨some 45, .callv (.t 36) [(.t 40), (.t 44)], some (35, true)⟩,
     ⟨some 46, .bin .lss (.t 45) (.c (.d (.int .i64 0))), some (35, true)⟩,
     ⟨some 47, .pick (.t 35) (.t 46) (.c (.d (.bool false))), none⟩] [])
  (.cond (.t 47)
   .skip
   (.exit 0)))
 (.blk 1 none
  (.reg none [⟨some 48, .mv (.t 12), none⟩,
    ⟨some 49, .bin .add (.t 48) (.c (.d (.int .i64 1))), none⟩,
    ⟨some 12, .mv (.t 49), none⟩] [])))
def f240l0 : PC := .loop [0, 1, 4, 12, 13] [] f240b0
def f240b1 : PC :=
 (.seq (.seq (.reg (some []) [⟨some 50, .mv (.t 12), none⟩,
     ⟨some 51, .mv (.t 13), none⟩,
     ⟨some 52, .bin .leq (.t 50) (.t 51), none⟩,
     ⟨some 53, .mv (.t 52), none⟩,
     ⟨some 54, .mv (.t 4), some (53, true)⟩,
     ⟨some 55, .mv (.t 0), some (53, true)⟩,
     ⟨some 56, .mv (.t 13), some (53, true)⟩,
     ⟨some 57, .iaddr 11 (.t 55) (.t 56), some (53, true)⟩,
     ⟨some 58, .loadn 11 (.t 57), some (53, true)⟩,
     ⟨some 59, .mv (.t 0), some (53, true)⟩,
     ⟨some 60, .mv (.t 1), some (53, true)⟩,
     ⟨some 61, .iaddr 11 (.t 59) (.t 60), some (53, true)⟩,
     ⟨some 62, .loadn 11 (.t 61), some (53, true)⟩,
     ⟨some 63, .callv (.t 54) [(.t 58), (.t 62)], some (53, true)⟩,
     ⟨some 64, .bin .lss (.t 63) (.c (.d (.int .i64 0))), some (53, true)⟩,
     ⟨some 65, .un .not (.t 64), some (53, true)⟩,
     ⟨some 66, .pick (.t 53) (.t 65) (.c (.d (.bool false))), none⟩] [])
  (.cond (.t 66)
   .skip
   (.exit 2)))
 (.blk 3 none
  (.reg none [⟨some 67, .mv (.t 13), none⟩,
    ⟨some 68, .bin .sub (.t 67) (.c (.d (.int .i64 1))), none⟩,
    ⟨some 13, .mv (.t 68), none⟩] [])))
def f240l1 : PC := .loop [0, 1, 4, 12, 13] [] f240b1
def f240b2 : PC :=
 (.seq (.seq (.reg (some []) [⟨some 105, .mv (.t 12), none⟩,
     ⟨some 106, .mv (.t 13), none⟩,
     ⟨some 107, .bin .leq (.t 105) (.t 106), none⟩,
     ⟨some 108, .mv (.t 107), none⟩,
     ⟨some 109, .mv (.t 4), some (108, true)⟩,
     ⟨some 110, .mv (.t 0), some (108, true)⟩,
     ⟨some 111, .mv (.t 12), some (108, true)⟩,
     ⟨some 112, .iaddr 11 (.t 110) (.t 111), some (108, true)⟩,
     ⟨some 113, .loadn 11 (.t 112), some (108, true)⟩,
     ⟨some 114, .mv (.t 0), some (108, true)⟩,
     ⟨some 115, .mv (.t 1), some (108, true)⟩,
     ⟨some 116, .iaddr 11 (.t 114) (.t 115), some (108, true)⟩,
     ⟨some 117, .loadn 11 (.t 116), some (108, true)⟩,
     ⟨some 118, .callv (.t 109) [(.t 113), (.t 117)], some (108, true)⟩,
     ⟨some 119, .bin .lss (.t 118) (.c (.d (.int .i64 0))), some (108, true)⟩,
     ⟨some 120, .pick (.t 108) (.t 119) (.c (.d (.bool false))), none⟩] [])
  (.cond (.t 120)
   .skip
   (.exit 6)))
 (.blk 7 none
  (.reg none [⟨some 121, .mv (.t 12), none⟩,
    ⟨some 122, .bin .add (.t 121) (.c (.d (.int .i64 1))), none⟩,
    ⟨some 12, .mv (.t 122), none⟩] [])))
def f240l2 : PC := .loop [0, 1, 4, 12, 13] [] f240b2
def f240b3 : PC :=
 (.seq (.seq (.reg (some []) [⟨some 123, .mv (.t 12), none⟩,
     ⟨some 124, .mv (.t 13), none⟩,
     ⟨some 125, .bin .leq (.t 123) (.t 124), none⟩,
     ⟨some 126, .mv (.t 125), none⟩,
     ⟨some 127, .mv (.t 4), some (126, true)⟩,
     ⟨some 128, .mv (.t 0), some (126, true)⟩,
     ⟨some 129, .mv (.t 13), some (126, true)⟩,
     ⟨some 130, .iaddr 11 (.t 128) (.t 129), some (126, true)⟩,
     ⟨some 131, .loadn 11 (.t 130), some (126, true)⟩,
     ⟨some 132, .mv (.t 0), some (126, true)⟩,
     ⟨some 133, .mv (.t 1), some (126, true)⟩,
     ⟨some 134, .iaddr 11 (.t 132) (.t 133), some (126, true)⟩,
     ⟨some 135, .loadn 11 (.t 134), some (126, true)⟩,
     ⟨some 136, .callv (.t 127) [(.t 131), (.t 135)], some (126, true)⟩,
     ⟨some 137, .bin .lss (.t 136) (.c (.d (.int .i64 0))), some (126, true)⟩,
     ⟨some 138, .un .not (.t 137), some (126, true)⟩,
     ⟨some 139, .pick (.t 126) (.t 138) (.c (.d (.bool false))), none⟩] [])
  (.cond (.t 139)
   .skip
   (.exit 8)))
 (.blk 9 none
  (.reg none [⟨some 140, .mv (.t 13), none⟩,
    ⟨some 141, .bin .sub (.t 140) (.c (.d (.int .i64 1))), none⟩,
    ⟨some 13, .mv (.t 141), none⟩] [])))
def f240l3 : PC := .loop [0, 1, 4, 12, 13] [] f240b3
def f240b4 : PC :=
 (.blk 5 none
  (.seq (.blk 6 (some [0, 1, 4, 12, 13])
    f240l2)
  (.seq (.blk 8 (some [0, 1, 4, 12, 13])
    f240l3)
  (.seq (.seq (.reg none [⟨some 142, .mv (.t 12), none⟩,
      ⟨some 143, .mv (.t 13), none⟩,
      ⟨some 144, .bin .gtr (.t 142) (.t 143), none⟩] [])
   (.cond (.t 144)
    (.exit 4)
    .skip))
  (.seq (.reg (some []) [⟨some 145, .mv (.t 0), none⟩,
     ⟨some 146, .mv (.t 12), none⟩,
     ⟨some 147, .mv (.t 0), none⟩,
     ⟨some 148, .mv (.t 13), none⟩,
     ⟨some 149, .mv (.t 0), none⟩,
     ⟨some 150, .mv (.t 13), none⟩,
     ⟨some 151, .iaddr 11 (.t 149) (.t 150), none⟩,
     ⟨some 152, .loadn 11 (.t 151), none⟩,
     ⟨some 153, .mv (.t 0), none⟩,
     ⟨some 154, .mv (.t 12), none⟩,
     ⟨some 155, .iaddr 11 (.t 153) (.t 154), none⟩,
     ⟨some 156, .loadn 11 (.t 155), none⟩,
     ⟨some 157, .iaddr 11 (.t 145) (.t 146), none⟩,
     ⟨none, .store 11 (.t 157) (.t 152), none⟩,
     ⟨some 158, .iaddr 11 (.t 147) (.t 148), none⟩,
     ⟨none, .store 11 (.t 158) (.t 156), none⟩] [])
  (.seq (.reg none [⟨some 159, .mv (.t 12), none⟩,
     ⟨some 160, .bin .add (.t 159) (.c (.d (.int .i64 1))), none⟩,
     ⟨some 12, .mv (.t 160), none⟩] [])
  (.reg none [⟨some 161, .mv (.t 13), none⟩,
    ⟨some 162, .bin .sub (.t 161) (.c (.d (.int .i64 1))), none⟩,
    ⟨some 13, .mv (.t 162), none⟩] [])))))))
def f240l4 : PC := .loop [0, 1, 4, 12, 13] [] f240b4
/-- slices.partitionCmpFunc[orchestrator/api.SchemaField] -/
def f240 : PFn := ⟨5, 178, [.t 10, .t 11], true,
 (.seq (.reg none [⟨some 10, .mv (.c (.d (.int .i64 0))), none⟩,
    ⟨some 11, .mv (.c (.d (.bool false))), none⟩] [])
 (.seq (.reg (some []) [⟨some 14, .mv (.t 0), none⟩,
    ⟨some 15, .mv (.t 1), none⟩,
    ⟨some 16, .mv (.t 0), none⟩,
    ⟨some 17, .mv (.t 3), none⟩,
    ⟨some 18, .mv (.t 0), none⟩,
    ⟨some 19, .mv (.t 3), none⟩,
    ⟨some 20, .iaddr 11 (.t 18) (.t 19), none⟩,
    ⟨some 21, .loadn 11 (.t 20), none⟩,
    ⟨some 22, .mv (.t 0), none⟩,
    ⟨some 23, .mv (.t 1), none⟩,
    ⟨some 24, .iaddr 11 (.t 22) (.t 23), none⟩,
    ⟨some 25, .loadn 11 (.t 24), none⟩,
    ⟨some 26, .iaddr 11 (.t 14) (.t 15), none⟩,
    ⟨none, .store 11 (.t 26) (.t 21), none⟩,
    ⟨some 27, .iaddr 11 (.t 16) (.t 17), none⟩,
    ⟨none, .store 11 (.t 27) (.t 25), none⟩] [])
 (.seq (.reg none [⟨some 28, .mv (.t 1), none⟩,
    ⟨some 29, .bin .add (.t 28) (.c (.d (.int .i64 1))), none⟩,
    ⟨some 30, .mv (.t 2), none⟩,
    ⟨some 31, .bin .sub (.t 30) (.c (.d (.int .i64 1))), none⟩,
    ⟨some 12, .mv (.t 29), none⟩,
    ⟨some 13, .mv (.t 31), none⟩] [])
 (.seq (.blk 0 (some [0, 1, 4, 12, 13])
   f240l0)
 (.seq (.blk 2 (some [0, 1, 4, 12, 13])
   f240l1)
 (.seq (.seq (.reg none [⟨some 69, .mv (.t 12), none⟩,
     ⟨some 70, .mv (.t 13), none⟩,
     ⟨some 71, .bin .gtr (.t 69) (.t 70), none⟩] [])
  (.cond (.t 71)
   (.seq (.reg (some []) [⟨some 72, .mv (.t 0), none⟩,
      ⟨some 73, .mv (.t 13), none⟩,
      ⟨some 74, .mv (.t 0), none⟩,
      ⟨some 75, .mv (.t 1), none⟩,
      ⟨some 76, .mv (.t 0), none⟩,
      ⟨some 77, .mv (.t 1), none⟩,
      ⟨some 78, .iaddr 11 (.t 76) (.t 77), none⟩,
      ⟨some 79, .loadn 11 (.t 78), none⟩,
      ⟨some 80, .mv (.t 0), none⟩,
      ⟨some 81, .mv (.t 13), none⟩,
      ⟨some 82, .iaddr 11 (.t 80) (.t 81), none⟩,
      ⟨some 83, .loadn 11 (.t 82), none⟩,
      ⟨some 84, .iaddr 11 (.t 72) (.t 73), none⟩,
      ⟨none, .store 11 (.t 84) (.t 79), none⟩,
      ⟨some 85, .iaddr 11 (.t 74) (.t 75), none⟩,
      ⟨none, .store 11 (.t 85) (.t 83), none⟩] [])
   (.seq (.reg none [⟨some 86, .mv (.t 13), none⟩,
      ⟨some 10, .mv (.t 86), none⟩,
      ⟨some 11, .mv (.c (.d (.bool true))), none⟩] [])
   .ret))
   .skip))
 (.seq (.reg (some []) [⟨some 87, .mv (.t 0), none⟩,
    ⟨some 88, .mv (.t 12), none⟩,
    ⟨some 89, .mv (.t 0), none⟩,
    ⟨some 90, .mv (.t 13), none⟩,
    ⟨some 91, .mv (.t 0), none⟩,
    ⟨some 92, .mv (.t 13), none⟩,
    ⟨some 93, .iaddr 11 (.t 91) (.t 92), none⟩,
    ⟨some 94, .loadn 11 (.t 93), none⟩,
    ⟨some 95, .mv (.t 0), none⟩,
    ⟨some 96, .mv (.t 12), none⟩,
    ⟨some 97, .iaddr 11 (.t 95) (.t 96), none⟩,
    ⟨some 98, .loadn 11 (.t 97), none⟩,
    ⟨some 99, .iaddr 11 (.t 87) (.t 88), none⟩,
    ⟨none, .store 11 (.t 99) (.t 94), none⟩,
    ⟨some 100, .iaddr 11 (.t 89) (.t 90), none⟩,
    ⟨none, .store 11 (.t 100) (.t 98), none⟩] [])
 (.seq (.reg none [⟨some 101, .mv (.t 12), none⟩,
    ⟨some 102, .bin .add (.t 101) (.c (.d (.int .i64 1))), none⟩,
    ⟨some 12, .mv (.t 102), none⟩] [])
 (.seq (.reg none [⟨some 103, .mv (.t 13), none⟩,
    ⟨some 104, .bin .sub (.t 103) (.c (.d (.int .i64 1))), none⟩,
    ⟨some 13, .mv (.t 104), none⟩] [])
 (.seq (.blk 4 (some [0, 1, 13])
   f240l4)
 (.seq (.reg (some []) [⟨some 163, .mv (.t 0), none⟩,
    ⟨some 164, .mv (.t 13), none⟩,
    ⟨some 165, .mv (.t 0), none⟩,
    ⟨some 166, .mv (.t 1), none⟩,
    ⟨some 167, .mv (.t 0), none⟩,
    ⟨some 168, .mv (.t 1), none⟩,
    ⟨some 169, .iaddr 11 (.t 167) (.t 168), none⟩,
    ⟨some 170, .loadn 11 (.t 169), none⟩,
    ⟨some 171, .mv (.t 0), none⟩,
    ⟨some 172, .mv (.t 13), none⟩,
    ⟨some 173, .iaddr 11 (.t 171) (.t 172), none⟩,
    ⟨some 174, .loadn 11 (.t 173), none⟩,
    ⟨some 175, .iaddr 11 (.t 163) (.t 164), none⟩,
    ⟨none, .store 11 (.t 175) (.t 170), none⟩,
    ⟨some 176, .iaddr 11 (.t 165) (.t 166), none⟩,
    ⟨none, .store 11 (.t 176) (.t 174), none⟩] [])
 (.seq (.reg none [⟨some 177, .mv (.t 13), none⟩,
    ⟨some 10, .mv (.t 177), none⟩,
    ⟨some 11, .mv (.c (.d (.bool false))), none⟩] [])
 .ret))))))))))))⟩
/-- internal/bytealg.CompareString -/
def f204 : PFn := ⟨2, 8, [.t 4], false,
 (.seq (.reg none [⟨some 4, .mv (.c (.d (.int .i64 0))), none⟩] [])
 (.seq (.reg none [⟨some 5, .mv (.t 0), none⟩,
    ⟨some 6, .mv (.t 1), none⟩,
    ⟨some 7, .call 243 [(.t 5), (.t 6)], none⟩,
    ⟨some 4, .mv (.t 7), none⟩] [])
 .ret))⟩
/-- orchestrator/value.scalar -/
def f211 : PFn := ⟨1, 57, [.t 2], false,
 (.seq (.reg none [⟨some 1, .box 59 (.t 0), none⟩,
    ⟨some 2, .mv (.c (.d (.bool false))), none⟩] [])
 (.seq (.seq (.reg none [⟨some 3, .faddr 0 (.t 1), none⟩,
     ⟨some 4, .load1 (.t 3), none⟩] [])
  (.blk 0 none
   (.seq (.reg none [⟨some 6, .bin .eql (.t 4) (.c (.d (.int .i64 1))), none⟩,
      ⟨some 5, .mv (.t 6), none⟩] [])
   (.cond (.t 5)
    (.seq (.reg none [⟨some 7, .faddr 2 (.t 1), none⟩,
       ⟨some 8, .load1 (.t 7), none⟩,
       ⟨some 9, .bin .eql (.t 8) (.c (.d (.str []))), none⟩,
       ⟨some 10, .mv (.t 9), none⟩,
       ⟨some 11, .faddr 1 (.t 1), some (10, true)⟩,
       ⟨some 12, .load1 (.t 11), some (10, true)⟩,
       ⟨some 13, .bin .eql (.t 12) (.c (.d (.int .i64 0))), some (10, true)⟩,
       ⟨some 14, .mv (.t 13), some (10, true)⟩,
       ⟨some 15, .faddr 1 (.t 1), some (14, false)⟩,
       ⟨some 16, .load1 (.t 15), some (14, false)⟩,
       ⟨some 17, .bin .eql (.t 16) (.c (.d (.int .i64 1))), some (14, false)⟩,
       ⟨some 18, .pick (.t 14) (.c (.d (.bool true))) (.t 17), some (10, true)⟩,
       ⟨some 19, .pick (.t 10) (.t 18) (.c (.d (.bool false))), none⟩,
       ⟨some 2, .mv (.t 19), none⟩] [])
    .ret)
    (.seq (.reg none [⟨some 21, .bin .eql (.t 4) (.c (.d (.int .i64 2))), none⟩,
       ⟨some 20, .mv (.t 21), none⟩] [])
    (.cond (.t 20)
     (.seq (.reg none [⟨some 22, .faddr 2 (.t 1), none⟩,
        ⟨some 23, .load1 (.t 22), none⟩,
        ⟨some 24, .bin .eql (.t 23) (.c (.d (.str []))), none⟩,
        ⟨some 25, .mv (.t 24), none⟩,
        ⟨some 26, .faddr 1 (.t 1), some (25, true)⟩,
        ⟨some 27, .load1 (.t 26), some (25, true)⟩,
        ⟨some 28, .bin .geq (.t 27) (.c (.d (.int .i64 (-1000000000000000)))), some (25, true)⟩,
        ⟨some 29, .pick (.t 25) (.t 28) (.c (.d (.bool false))), none⟩,
        ⟨some 30, .mv (.t 29), none⟩,
        ⟨some 31, .faddr 1 (.t 1), some (30, true)⟩,
        ⟨some 32, .load1 (.t 31), some (30, true)⟩,
        ⟨some 33, .bin .leq (.t 32) (.c (.d (.int .i64 1000000000000000))), some (30, true)⟩,
        ⟨some 34, .pick (.t 30) (.t 33) (.c (.d (.bool false))), none⟩,
        ⟨some 2, .mv (.t 34), none⟩] [])
     .ret)
     (.seq (.reg none [⟨some 36, .bin .eql (.t 4) (.c (.d (.int .i64 3))), none⟩,
        ⟨some 35, .mv (.t 36), none⟩] [])
     (.cond (.t 35)
      (.seq (.reg none [⟨some 37, .faddr 1 (.t 1), none⟩,
         ⟨some 38, .load1 (.t 37), none⟩,
         ⟨some 39, .bin .eql (.t 38) (.c (.d (.int .i64 0))), none⟩,
         ⟨some 40, .mv (.t 39), none⟩,
         ⟨some 41, .faddr 2 (.t 1), some (40, true)⟩,
         ⟨some 42, .load1 (.t 41), some (40, true)⟩,
         ⟨some 43, .call 245 [(.t 42)], some (40, true)⟩,
         ⟨some 44, .pick (.t 40) (.t 43) (.c (.d (.bool false))), none⟩,
         ⟨some 2, .mv (.t 44), none⟩] [])
      .ret)
      (.seq (.seq (.reg none [⟨some 46, .bin .eql (.t 4) (.c (.d (.int .i64 0))), none⟩,
          ⟨some 45, .mv (.t 46), none⟩] [])
       (.cond (.t 45)
        .skip
        (.seq (.reg none [⟨some 47, .bin .eql (.t 4) (.c (.d (.int .i64 4))), none⟩,
           ⟨some 45, .mv (.t 47), none⟩] [])
        (.cond (.t 45)
         .skip
         (.reg none [⟨some 48, .bin .eql (.t 4) (.c (.d (.int .i64 5))), none⟩,
           ⟨some 45, .mv (.t 48), none⟩] [])))))
      (.cond (.t 45)
       (.seq (.reg none [⟨some 49, .faddr 1 (.t 1), none⟩,
          ⟨some 50, .load1 (.t 49), none⟩,
          ⟨some 51, .bin .eql (.t 50) (.c (.d (.int .i64 0))), none⟩,
          ⟨some 52, .mv (.t 51), none⟩,
          ⟨some 53, .faddr 2 (.t 1), some (52, true)⟩,
          ⟨some 54, .load1 (.t 53), some (52, true)⟩,
          ⟨some 55, .bin .eql (.t 54) (.c (.d (.str []))), some (52, true)⟩,
          ⟨some 56, .pick (.t 52) (.t 55) (.c (.d (.bool false))), none⟩,
          ⟨some 2, .mv (.t 56), none⟩] [])
       .ret)
       .skip))))))))))
 (.seq (.reg none [⟨some 2, .mv (.c (.d (.bool false))), none⟩] [])
 .ret)))⟩
def f212b0 : PC :=
 (.seq (.reg none [⟨some 8, .bin .lss (.t 7) (.t 6), none⟩] [])
 (.seq (.cond (.t 8)
   .skip
   (.exit 0))
 (.seq (.blk 1 none
   (.seq (.reg none [⟨some 9, .mv (.t 7), none⟩,
      ⟨some 3, .mv (.t 9), none⟩] [])
   (.seq (.reg none [⟨some 10, .mv (.t 0), none⟩,
      ⟨some 11, .mv (.t 3), none⟩,
      ⟨some 12, .idx (.t 10) (.t 11), none⟩,
      ⟨some 4, .mv (.t 12), none⟩] [])
   (.seq (.reg none [⟨some 13, .mv (.t 4), none⟩,
      ⟨some 14, .bin .geq (.t 13) (.c (.d (.int .u8 97))), none⟩,
      ⟨some 15, .mv (.t 14), none⟩,
      ⟨some 16, .mv (.t 4), some (15, true)⟩,
      ⟨some 17, .bin .leq (.t 16) (.c (.d (.int .u8 122))), some (15, true)⟩,
      ⟨some 18, .pick (.t 15) (.t 17) (.c (.d (.bool false))), none⟩,
      ⟨some 19, .mv (.t 18), none⟩,
      ⟨some 20, .mv (.t 4), some (19, false)⟩,
      ⟨some 21, .bin .geq (.t 20) (.c (.d (.int .u8 65))), some (19, false)⟩,
      ⟨some 22, .mv (.t 21), some (19, false)⟩,
      ⟨some 23, .mv (.t 4), some (22, true)⟩,
      ⟨some 24, .bin .leq (.t 23) (.c (.d (.int .u8 90))), some (22, true)⟩,
      ⟨some 25, .pick (.t 22) (.t 24) (.c (.d (.bool false))), some (19, false)⟩,
      ⟨some 26, .pick (.t 19) (.c (.d (.bool true))) (.t 25), none⟩,
      ⟨some 27, .mv (.t 26), none⟩,
      ⟨some 28, .mv (.t 4), some (27, false)⟩,
      ⟨some 29, .bin .geq (.t 28) (.c (.d (.int .u8 48))), some (27, false)⟩,
      ⟨some 30, .mv (.t 29), some (27, false)⟩,
      ⟨some 31, .mv (.t 4), some (30, true)⟩,
      ⟨some 32, .bin .leq (.t 31) (.c (.d (.int .u8 57))), some (30, true)⟩,
      ⟨some 33, .pick (.t 30) (.t 32) (.c (.d (.bool false))), some (27, false)⟩,
      ⟨some 34, .pick (.t 27) (.c (.d (.bool true))) (.t 33), none⟩,
      ⟨some 35, .mv (.t 34), none⟩,
      ⟨some 36, .mv (.t 4), some (35, false)⟩,
      ⟨some 37, .bin .eql (.t 36) (.c (.d (.int .u8 45))), some (35, false)⟩,
      ⟨some 38, .pick (.t 35) (.c (.d (.bool true))) (.t 37), none⟩,
      ⟨some 39, .mv (.t 38), none⟩,
      ⟨some 40, .mv (.t 4), some (39, false)⟩,
      ⟨some 41, .bin .eql (.t 40) (.c (.d (.int .u8 95))), some (39, false)⟩,
      ⟨some 42, .pick (.t 39) (.c (.d (.bool true))) (.t 41), none⟩,
      ⟨some 43, .mv (.t 42), none⟩,
      ⟨some 44, .mv (.t 4), some (43, false)⟩,
      ⟨some 45, .bin .eql (.t 44) (.c (.d (.int .u8 47))), some (43, false)⟩,
      ⟨some 46, .pick (.t 43) (.c (.d (.bool true))) (.t 45), none⟩,
      ⟨some 47, .un .not (.t 46), none⟩] [])
   (.cond (.t 47)
    (.seq (.reg none [⟨some 2, .mv (.c (.d (.bool false))), none⟩] [])
    .ret)
    .skip)))))
 (.reg none [⟨some 48, .bin .add (.t 7) (.c (.d (.int .i64 1))), none⟩,
   ⟨some 7, .mv (.t 48), none⟩] []))))
def f212l0 : PC := .loop [0, 6, 7] [] f212b0
/-- orchestrator/value.name -/
def f212 : PFn := ⟨1, 57, [.t 2], false,
 (.seq (.reg none [⟨some 2, .mv (.c (.d (.bool false))), none⟩] [])
 (.seq (.seq (.reg none [⟨some 5, .mv (.t 0), none⟩,
     ⟨some 6, .lenS (.t 5), none⟩,
     ⟨some 7, .mv (.c (.d (.int .i64 0))), none⟩] [])
  (.blk 0 (some [0])
   f212l0))
 (.seq (.reg none [⟨some 49, .mv (.t 0), none⟩,
    ⟨some 50, .lenS (.t 49), none⟩,
    ⟨some 51, .bin .geq (.t 50) (.c (.d (.int .i64 1))), none⟩,
    ⟨some 52, .mv (.t 51), none⟩,
    ⟨some 53, .mv (.t 0), some (52, true)⟩,
    ⟨some 54, .lenS (.t 53), some (52, true)⟩,
    ⟨some 55, .bin .leq (.t 54) (.c (.d (.int .i64 40))), some (52, true)⟩,
    ⟨some 56, .pick (.t 52) (.t 55) (.c (.d (.bool false))), none⟩,
    ⟨some 2, .mv (.t 56), none⟩] [])
 .ret)))⟩
/-- (*orchestrator/schema.report).add -/
def f213 : PFn := ⟨3, 25, [], false,
 (.seq (.reg none [⟨some 9, .mv (.t 1), none⟩,
    ⟨some 10, .call 246 [(.t 9)], none⟩,
    ⟨some 8, .mv (.t 10), none⟩,
    ⟨some 11, .ext (.t 8) 0, none⟩,
    ⟨some 12, .ext (.t 8) 1, none⟩,
    ⟨some 6, .mv (.t 11), none⟩,
    ⟨some 7, .mv (.t 12), none⟩] [])
 (.reg none [⟨some 13, .mv (.t 0), none⟩,
   ⟨some 14, .mv (.t 0), none⟩,
   ⟨some 15, .nilc (.t 14), none⟩,
   ⟨some 16, .faddr 0 (.t 15), none⟩,
   ⟨some 17, .load1 (.t 16), none⟩,
   ⟨some 18, .mv (.t 6), none⟩,
   ⟨some 19, .mv (.t 2), none⟩,
   ⟨some 20, .build [(.d (.str [])), (.d (.int .i64 0))] [(0, 1, (.t 18)), (1, 1, (.t 19))], none⟩,
   ⟨some 21, .lits 118 2 24 [(.str []), (.int .i64 0)] 1 [(0, (.t 20))], none⟩,
   ⟨some 22, .app 118 2 24 (.t 17) (.t 21), none⟩,
   ⟨some 23, .nilc (.t 13), none⟩,
   ⟨some 24, .faddr 0 (.t 23), none⟩,
   ⟨none, .store 1 (.t 24) (.t 22), none⟩] []))⟩
/-- slices.Contains[[]string,string] -/
def f214 : PFn := ⟨2, 9, [.t 4], true,
 (.seq (.reg none [⟨some 4, .mv (.c (.d (.bool false))), none⟩] [])
 (.seq (.reg none [⟨some 5, .mv (.t 0), none⟩,
    ⟨some 6, .mv (.t 1), none⟩,
    ⟨some 7, .call 247 [(.t 5), (.t 6)], none⟩,
    ⟨some 8, .bin .geq (.t 7) (.c (.d (.int .i64 0))), none⟩,
    ⟨some 4, .mv (.t 8), none⟩] [])
 .ret))⟩
def f215b0 : PC :=
 (.seq (.reg none [⟨some 36, .bin .lss (.t 35) (.t 34), none⟩] [])
 (.seq (.cond (.t 36)
   .skip
   (.exit 0))
 (.seq (.blk 1 none
   (.seq (.reg none [⟨some 37, .mv (.t 35), none⟩,
      ⟨some 38, .iaddr 5 (.t 33) (.t 35), none⟩,
      ⟨some 39, .loadn 5 (.t 38), none⟩,
      ⟨some 10, .alloc 59 [(.d (.int .i64 0)), (.d (.int .i64 0)), (.d (.str [])), .nil, .nil], none⟩,
      ⟨some 9, .mv (.t 37), none⟩,
      ⟨none, .store 5 (.t 10) (.t 39), none⟩] [])
   (.seq (.reg none [⟨some 40, .mv (.t 3), none⟩,
      ⟨some 41, .loadn 7 (.t 5), none⟩,
      ⟨some 42, .mv (.t 9), none⟩,
      ⟨some 43, .loadn 5 (.t 10), none⟩,
      ⟨some 44, .call 248 [(.t 41), (.t 42), (.t 43)], none⟩,
      ⟨some 45, .call 217 [(.t 40), (.t 44)], none⟩,
      ⟨some 11, .mv (.t 45), none⟩] [])
   (.seq (.reg (some []) [⟨some 46, .mv (.t 0), none⟩,
      ⟨some 47, .faddr 5 (.t 5), none⟩,
      ⟨some 48, .load1 (.t 47), none⟩,
      ⟨some 49, .iaddr 7 (.t 48) (.c (.d (.int .i64 0))), none⟩,
      ⟨some 50, .loadn 7 (.t 49), none⟩,
      ⟨some 51, .loadn 5 (.t 10), none⟩,
      ⟨some 52, .mv (.t 11), none⟩,
      ⟨some 53, .call 179 [(.t 46), (.t 50), (.t 51), (.t 52)], none⟩] [])
   (.seq (.reg none [⟨some 55, .loadn 5 (.t 10), none⟩,
      ⟨some 56, .faddr 4 (.t 5), none⟩,
      ⟨some 57, .load1 (.t 56), none⟩,
      ⟨some 58, .call 249 [(.t 55), (.t 57)], none⟩,
      ⟨some 54, .mv (.t 58), none⟩,
      ⟨some 59, .ext (.t 54) 0, none⟩,
      ⟨some 60, .ext (.t 54) 1, none⟩,
      ⟨some 12, .mv (.t 59), none⟩,
      ⟨some 13, .mv (.t 60), none⟩] [])
   (.seq (.reg none [⟨some 61, .mv (.t 13), none⟩,
      ⟨some 62, .mv (.t 61), none⟩,
      ⟨some 63, .faddr 4 (.t 5), some (62, true)⟩,
      ⟨some 64, .load1 (.t 63), some (62, true)⟩,
      ⟨some 65, .bin .neq (.t 64) (.c (.d (.str []))), some (62, true)⟩,
      ⟨some 66, .pick (.t 62) (.t 65) (.c (.d (.bool false))), none⟩] [])
   (.cond (.t 66)
    (.seq (.seq (.reg none [⟨some 67, .mv (.t 8), none⟩,
        ⟨some 68, .mv (.t 12), none⟩,
        ⟨some 69, .look .s (.bool false) false (.t 67) (.t 68), none⟩] [])
     (.cond (.t 69)
      (.reg none [⟨some 70, .mv (.t 0), none⟩,
        ⟨some 71, .mv (.t 11), none⟩,
        ⟨some 72, .call 213 [(.t 70), (.t 71), (.c (.d (.int .i64 8)))], none⟩] [])
      .skip))
    (.reg none [⟨some 73, .mv (.t 8), none⟩,
      ⟨some 74, .mv (.t 12), none⟩,
      ⟨none, .mupd .s (.t 73) (.t 74) (.c (.d (.bool true))), none⟩] []))
    .skip)))))))
 (.reg none [⟨some 75, .bin .add (.t 35) (.c (.d (.int .i64 1))), none⟩,
   ⟨some 35, .mv (.t 75), none⟩] []))))
def f215l0 : PC := .loop [0, 3, 5, 8, 33, 34, 35] [] f215b0
/-- (*orchestrator/schema.report).list -/
def f215 : PFn := ⟨4, 76, [], false,
 (.seq (.reg none [⟨some 5, .box 27 (.t 1), none⟩,
    ⟨some 6, .box 59 (.t 2), none⟩] [])
 (.seq (.seq (.reg none [⟨some 14, .faddr 3 (.t 6), none⟩,
     ⟨some 15, .load1 (.t 14), none⟩,
     ⟨some 16, .lenL (.t 15), none⟩,
     ⟨some 17, .faddr 1 (.t 5), none⟩,
     ⟨some 18, .load1 (.t 17), none⟩,
     ⟨some 19, .bin .lss (.t 16) (.t 18), none⟩,
     ⟨some 20, .mv (.t 19), none⟩,
     ⟨some 21, .faddr 3 (.t 6), some (20, false)⟩,
     ⟨some 22, .load1 (.t 21), some (20, false)⟩,
     ⟨some 23, .lenL (.t 22), some (20, false)⟩,
     ⟨some 24, .faddr 2 (.t 5), some (20, false)⟩,
     ⟨some 25, .load1 (.t 24), some (20, false)⟩,
     ⟨some 26, .bin .gtr (.t 23) (.t 25), some (20, false)⟩,
     ⟨some 27, .pick (.t 20) (.c (.d (.bool true))) (.t 26), none⟩] [])
  (.cond (.t 27)
   (.reg none [⟨some 28, .mv (.t 0), none⟩,
     ⟨some 29, .mv (.t 3), none⟩,
     ⟨some 30, .call 213 [(.t 28), (.t 29), (.c (.d (.int .i64 5)))], none⟩] [])
   .skip))
 (.seq (.reg none [⟨some 31, .mkm, none⟩,
    ⟨some 8, .mv (.t 31), none⟩] [])
 (.seq (.reg none [⟨some 32, .faddr 3 (.t 6), none⟩,
    ⟨some 33, .load1 (.t 32), none⟩,
    ⟨some 34, .lenL (.t 33), none⟩,
    ⟨some 35, .mv (.c (.d (.int .i64 0))), none⟩] [])
 (.blk 0 (some [])
  f215l0)))))⟩
/-- orchestrator/schema.dictionary -/
def f216 : PFn := ⟨1, 12, [.t 2], false,
 (.seq (.reg none [⟨some 1, .box 27 (.t 0), none⟩,
    ⟨some 2, .mv (.c (.d (.bool false))), none⟩] [])
 (.seq (.reg none [⟨some 3, .faddr 0 (.t 1), none⟩,
    ⟨some 4, .load1 (.t 3), none⟩,
    ⟨some 5, .bin .eql (.t 4) (.c (.d (.int .i64 5))), none⟩,
    ⟨some 6, .mv (.t 5), none⟩,
    ⟨some 7, .faddr 5 (.t 1), some (6, true)⟩,
    ⟨some 8, .load1 (.t 7), some (6, true)⟩,
    ⟨some 9, .lenL (.t 8), some (6, true)⟩,
    ⟨some 10, .bin .gtr (.t 9) (.c (.d (.int .i64 0))), some (6, true)⟩,
    ⟨some 11, .pick (.t 6) (.t 10) (.c (.d (.bool false))), none⟩,
    ⟨some 2, .mv (.t 11), none⟩] [])
 .ret))⟩
/-- orchestrator/schema.member -/
def f218 : PFn := ⟨1, 5, [.cn 2 4], false,
 (.seq (.reg none [⟨some 2, .alloc 239 [(.d (.int .i64 0)), (.d (.str [])), (.d (.int .i64 0)), (.d (.str []))], none⟩] [])
 (.seq (.reg none [⟨some 3, .mv (.t 0), none⟩,
    ⟨some 4, .build [(.d (.int .i64 0)), (.d (.str [])), (.d (.int .i64 0)), (.d (.str []))] [(0, 1, (.c (.d (.int .i64 1)))), (1, 1, (.t 3))], none⟩,
    ⟨none, .store 4 (.t 2) (.t 4), none⟩] [])
 .ret))⟩
/-- orchestrator/schema.then -/
def f217 : PFn := ⟨2, 11, [.t 4], false,
 (.seq (.reg none [⟨some 3, .box 239 (.t 1), none⟩,
    ⟨some 4, .mv (.c .nil), none⟩] [])
 (.seq (.reg (some [(1, 3), (2, 3), (1, 4), (2, 4)]) [⟨some 5, .mv (.t 0), none⟩,
    ⟨some 6, .call 251 [(.t 5)], none⟩,
    ⟨some 7, .call 250 [(.t 6)], none⟩,
    ⟨some 8, .loadn 4 (.t 3), none⟩,
    ⟨some 9, .lits 239 4 48 [(.int .i64 0), (.str []), (.int .i64 0), (.str [])] 1 [(0, (.t 8))], none⟩,
    ⟨some 10, .app 239 4 48 (.t 7) (.t 9), none⟩,
    ⟨some 4, .mv (.t 10), none⟩] [])
 .ret))⟩
def f219b0 : PC :=
 (.seq (.reg none [⟨some 21, .bin .lss (.t 20) (.t 19), none⟩] [])
 (.seq (.cond (.t 21)
   .skip
   (.exit 0))
 (.seq (.blk 1 none
   (.seq (.reg none [⟨some 22, .iaddr 6 (.t 18) (.t 20), none⟩,
      ⟨some 23, .loadn 6 (.t 22), none⟩,
      ⟨some 9, .alloc 115 [(.d (.str [])), (.d (.int .i64 0)), (.d (.int .i64 0)), (.d (.str [])), .nil, .nil], none⟩,
      ⟨none, .store 6 (.t 9) (.t 23), none⟩] [])
   (.seq (.reg none [⟨some 24, .mv (.t 3), none⟩,
      ⟨some 25, .faddr 0 (.t 9), none⟩,
      ⟨some 26, .load1 (.t 25), none⟩,
      ⟨some 27, .call 218 [(.t 26)], none⟩,
      ⟨some 28, .call 217 [(.t 24), (.t 27)], none⟩,
      ⟨some 10, .mv (.t 28), none⟩] [])
   (.seq (.reg none [⟨some 30, .loadn 7 (.t 5), none⟩,
      ⟨some 31, .faddr 0 (.t 9), none⟩,
      ⟨some 32, .load1 (.t 31), none⟩,
      ⟨some 33, .call 221 [(.t 30), (.t 32)], none⟩,
      ⟨some 29, .mv (.t 33), none⟩,
      ⟨some 34, .ext (.t 29) 0, none⟩,
      ⟨some 35, .ext (.t 29) 1, none⟩,
      ⟨some 11, .alloc 135 [(.d (.str [])), (.d (.bool false)), (.d (.bool false)), .nil, (.d (.int .i64 0)), (.d (.int .i64 0)), (.d (.int .i64 0)), .nil, (.d (.str [])), .nil, .nil], none⟩,
      ⟨none, .store 11 (.t 11) (.t 34), none⟩,
      ⟨some 12, .mv (.t 35), none⟩] [])
   (.seq (.reg none [⟨some 36, .mv (.t 12), none⟩,
      ⟨some 37, .un .not (.t 36), none⟩] [])
   (.cond (.t 37)
    (.reg none [⟨some 38, .mv (.t 0), none⟩,
      ⟨some 39, .mv (.t 10), none⟩,
      ⟨some 40, .call 213 [(.t 38), (.t 39), (.c (.d (.int .i64 1)))], none⟩] [])
    (.seq (.reg none [⟨some 41, .faddr 1 (.t 9), none⟩,
       ⟨some 42, .faddr 0 (.t 41), none⟩,
       ⟨some 43, .load1 (.t 42), none⟩,
       ⟨some 44, .bin .neq (.t 43) (.c (.d (.int .i64 0))), none⟩] [])
    (.cond (.t 44)
     (.reg none [⟨some 45, .mv (.t 0), none⟩,
       ⟨some 46, .faddr 4 (.t 11), none⟩,
       ⟨some 47, .loadn 7 (.t 46), none⟩,
       ⟨some 48, .faddr 1 (.t 9), none⟩,
       ⟨some 49, .loadn 5 (.t 48), none⟩,
       ⟨some 50, .mv (.t 10), none⟩,
       ⟨some 51, .call 179 [(.t 45), (.t 47), (.t 49), (.t 50)], none⟩] [])
     .skip))))))))
 (.reg none [⟨some 52, .bin .add (.t 20) (.c (.d (.int .i64 1))), none⟩,
   ⟨some 20, .mv (.t 52), none⟩] []))))
def f219l0 : PC := .loop [0, 3, 5, 6, 18, 19, 20] [] f219b0
def f219b1 : PC :=
 (.seq (.reg none [⟨some 57, .bin .lss (.t 56) (.t 55), none⟩] [])
 (.seq (.cond (.t 57)
   .skip
   (.exit 2))
 (.seq (.blk 3 none
   (.seq (.reg none [⟨some 58, .iaddr 11 (.t 54) (.t 56), none⟩,
      ⟨some 59, .loadn 11 (.t 58), none⟩,
      ⟨some 14, .alloc 135 [(.d (.str [])), (.d (.bool false)), (.d (.bool false)), .nil, (.d (.int .i64 0)), (.d (.int .i64 0)), (.d (.int .i64 0)), .nil, (.d (.str [])), .nil, .nil], none⟩,
      ⟨none, .store 11 (.t 14) (.t 59), none⟩] [])
   (.seq (.reg none [⟨some 61, .loadn 5 (.t 6), none⟩,
      ⟨some 62, .faddr 0 (.t 14), none⟩,
      ⟨some 63, .load1 (.t 62), none⟩,
      ⟨some 64, .call 252 [(.t 61), (.t 63)], none⟩,
      ⟨some 60, .mv (.t 64), none⟩,
      ⟨some 65, .ext (.t 60) 0, none⟩,
      ⟨some 66, .ext (.t 60) 1, none⟩,
      ⟨some 15, .alloc 59 [(.d (.int .i64 0)), (.d (.int .i64 0)), (.d (.str [])), .nil, .nil], none⟩,
      ⟨none, .store 5 (.t 15) (.t 65), none⟩,
      ⟨some 16, .mv (.t 66), none⟩] [])
   (.seq (.reg none [⟨some 67, .faddr 1 (.t 14), none⟩,
      ⟨some 68, .load1 (.t 67), none⟩,
      ⟨some 69, .mv (.t 68), none⟩,
      ⟨some 70, .mv (.t 16), some (69, true)⟩,
      ⟨some 71, .un .not (.t 70), some (69, true)⟩,
      ⟨some 72, .pick (.t 69) (.t 71) (.c (.d (.bool false))), none⟩] [])
   (.cond (.t 72)
    (.reg none [⟨some 73, .mv (.t 0), none⟩,
      ⟨some 74, .mv (.t 3), none⟩,
      ⟨some 75, .faddr 0 (.t 14), none⟩,
      ⟨some 76, .load1 (.t 75), none⟩,
      ⟨some 77, .call 218 [(.t 76)], none⟩,
      ⟨some 78, .call 217 [(.t 74), (.t 77)], none⟩,
      ⟨some 79, .call 213 [(.t 73), (.t 78), (.c (.d (.int .i64 7)))], none⟩] [])
    .skip)))))
 (.reg none [⟨some 80, .bin .add (.t 56) (.c (.d (.int .i64 1))), none⟩,
   ⟨some 56, .mv (.t 80), none⟩] []))))
def f219l1 : PC := .loop [0, 3, 6, 54, 55, 56] [] f219b1
/-- (*orchestrator/schema.report).structure -/
def f219 : PFn := ⟨4, 81, [], false,
 (.seq (.reg none [⟨some 5, .box 27 (.t 1), none⟩,
    ⟨some 6, .box 59 (.t 2), none⟩] [])
 (.seq (.seq (.reg none [⟨some 17, .faddr 4 (.t 6), none⟩,
     ⟨some 18, .load1 (.t 17), none⟩,
     ⟨some 19, .lenL (.t 18), none⟩,
     ⟨some 20, .mv (.c (.d (.int .i64 0))), none⟩] [])
  (.blk 0 (some [0, 3, 5, 6])
   f219l0))
 (.seq (.reg none [⟨some 53, .faddr 6 (.t 5), none⟩,
    ⟨some 54, .load1 (.t 53), none⟩,
    ⟨some 55, .lenL (.t 54), none⟩,
    ⟨some 56, .mv (.c (.d (.int .i64 0))), none⟩] [])
 (.blk 2 (some [])
  f219l1))))⟩
/-- orchestrator/schema.field$1 -/
def f254 : PFn := ⟨2, 8, [.t 3], false,
 (.seq (.reg none [⟨some 2, .box 135 (.t 0), none⟩,
    ⟨some 3, .mv (.c (.d (.bool false))), none⟩] [])
 (.seq (.reg none [⟨some 4, .faddr 0 (.t 2), none⟩,
    ⟨some 5, .load1 (.t 4), none⟩,
    ⟨some 6, .load1 (.t 1), none⟩,
    ⟨some 7, .bin .eql (.t 5) (.t 6), none⟩,
    ⟨some 3, .mv (.t 7), none⟩] [])
 .ret))⟩
def f253b0 : PC :=
 (.seq (.reg none [⟨some 9, .bin .lss (.t 8) (.t 7), none⟩] [])
 (.seq (.cond (.t 9)
   .skip
   (.exit 0))
 (.seq (.blk 1 none
   (.seq (.reg none [⟨some 10, .mv (.t 8), none⟩,
      ⟨some 5, .mv (.t 10), none⟩] [])
   (.seq (.reg none [⟨some 11, .mv (.t 1), none⟩,
      ⟨some 12, .mv (.t 0), none⟩,
      ⟨some 13, .mv (.t 5), none⟩,
      ⟨some 14, .iaddr 11 (.t 12) (.t 13), none⟩,
      ⟨some 15, .loadn 11 (.t 14), none⟩,
      ⟨some 16, .callv (.t 11) [(.t 15)], none⟩] [])
   (.cond (.t 16)
    (.seq (.reg none [⟨some 17, .mv (.t 5), none⟩,
       ⟨some 4, .mv (.t 17), none⟩] [])
    .ret)
    .skip))))
 (.reg none [⟨some 18, .bin .add (.t 8) (.c (.d (.int .i64 1))), none⟩,
   ⟨some 8, .mv (.t 18), none⟩] []))))
def f253l0 : PC := .loop [0, 1, 7, 8] [] f253b0
/-- slices.IndexFunc[[]orchestrator/api.SchemaField,orchestrator/api.SchemaField] -/
def f253 : PFn := ⟨2, 19, [.t 4], true,
 (.seq (.reg none [⟨some 4, .mv (.c (.d (.int .i64 0))), none⟩] [])
 (.seq (.seq (.reg none [⟨some 6, .mv (.t 0), none⟩,
     ⟨some 7, .lenL (.t 6), none⟩,
     ⟨some 8, .mv (.c (.d (.int .i64 0))), none⟩] [])
  (.blk 0 (some [])
   f253l0))
 (.seq (.reg none [⟨some 4, .mv (.c (.d (.int .i64 (-1)))), none⟩] [])
 .ret)))⟩
/-- orchestrator/schema.structure -/
def f255 : PFn := ⟨1, 12, [.t 2], false,
 (.seq (.reg none [⟨some 1, .box 27 (.t 0), none⟩,
    ⟨some 2, .mv (.c (.d (.bool false))), none⟩] [])
 (.seq (.reg none [⟨some 3, .faddr 0 (.t 1), none⟩,
    ⟨some 4, .load1 (.t 3), none⟩,
    ⟨some 5, .bin .eql (.t 4) (.c (.d (.int .i64 5))), none⟩,
    ⟨some 6, .mv (.t 5), none⟩,
    ⟨some 7, .faddr 5 (.t 1), some (6, true)⟩,
    ⟨some 8, .load1 (.t 7), some (6, true)⟩,
    ⟨some 9, .lenL (.t 8), some (6, true)⟩,
    ⟨some 10, .bin .eql (.t 9) (.c (.d (.int .i64 0))), some (6, true)⟩,
    ⟨some 11, .pick (.t 6) (.t 10) (.c (.d (.bool false))), none⟩,
    ⟨some 2, .mv (.t 11), none⟩] [])
 .ret))⟩
def f256b0 : PC :=
 (.seq (.reg none [⟨some 9, .bin .lss (.t 8) (.t 7), none⟩] [])
 (.seq (.cond (.t 9)
   .skip
   (.exit 0))
 (.seq (.blk 1 none
   (.seq (.reg none [⟨some 10, .mv (.t 8), none⟩,
      ⟨some 5, .mv (.t 10), none⟩] [])
   (.seq (.reg none [⟨some 11, .mv (.t 1), none⟩,
      ⟨some 12, .mv (.t 0), none⟩,
      ⟨some 13, .mv (.t 5), none⟩,
      ⟨some 14, .iaddr 6 (.t 12) (.t 13), none⟩,
      ⟨some 15, .loadn 6 (.t 14), none⟩,
      ⟨some 16, .callv (.t 11) [(.t 15)], none⟩] [])
   (.cond (.t 16)
    (.seq (.reg none [⟨some 17, .mv (.t 5), none⟩,
       ⟨some 4, .mv (.t 17), none⟩] [])
    .ret)
    .skip))))
 (.reg none [⟨some 18, .bin .add (.t 8) (.c (.d (.int .i64 1))), none⟩,
   ⟨some 8, .mv (.t 18), none⟩] []))))
def f256l0 : PC := .loop [0, 1, 7, 8] [] f256b0
/-- slices.IndexFunc[[]orchestrator/api.Field,orchestrator/api.Field] -/
def f256 : PFn := ⟨2, 19, [.t 4], true,
 (.seq (.reg none [⟨some 4, .mv (.c (.d (.int .i64 0))), none⟩] [])
 (.seq (.seq (.reg none [⟨some 6, .mv (.t 0), none⟩,
     ⟨some 7, .lenL (.t 6), none⟩,
     ⟨some 8, .mv (.c (.d (.int .i64 0))), none⟩] [])
  (.blk 0 (some [])
   f256l0))
 (.seq (.reg none [⟨some 4, .mv (.c (.d (.int .i64 (-1)))), none⟩] [])
 .ret)))⟩
def f257b0 : PC :=
 (.seq (.seq (.reg (some []) [⟨some 18, .mv (.t 9), none⟩,
     ⟨some 19, .mv (.t 1), none⟩,
     ⟨some 20, .bin .gtr (.t 18) (.t 19), none⟩,
     ⟨some 21, .mv (.t 20), none⟩,
     ⟨some 22, .mv (.t 3), some (21, true)⟩,
     ⟨some 23, .mv (.t 0), some (21, true)⟩,
     ⟨some 24, .mv (.t 9), some (21, true)⟩,
     ⟨some 25, .iaddr 6 (.t 23) (.t 24), some (21, true)⟩,
     ⟨some 26, .loadn 6 (.t 25), some (21, true)⟩,
     ⟨some 27, .mv (.t 0), some (21, true)⟩,
     ⟨some 28, .mv (.t 9), some (21, true)⟩,
     ⟨some 29, .bin .sub (.t 28) (.c (.d (.int .i64 1))), some (21, true)⟩,
     ⟨some 30, .iaddr 6 (.t 27) (.t 29), some (21, true)⟩,
     ⟨some 31, .loadn 6 (.t 30), some (21, true)⟩,
     ⟨some 32, .callv (.t 22) [(.t 26), (.t 31)], some (21, true)⟩,
     ⟨some 33, .bin .lss (.t 32) (.c (.d (.int .i64 0))), some (21, true)⟩,
     ⟨some 34, .pick (.t 21) (.t 33) (.c (.d (.bool false))), none⟩] [])
  (.cond (.t 34)
   .skip
   (.exit 2)))
 (.seq (.blk 3 none
   (.reg (some []) [⟨some 37, .mv (.t 0), none⟩,
     ⟨some 38, .mv (.t 9), none⟩,
     ⟨some 39, .mv (.t 0), none⟩,
     ⟨some 40, .mv (.t 9), none⟩,
     ⟨some 41, .bin .sub (.t 40) (.c (.d (.int .i64 1))), none⟩,
     ⟨some 42, .mv (.t 0), none⟩,
     ⟨some 43, .mv (.t 9), none⟩,
     ⟨some 44, .bin .sub (.t 43) (.c (.d (.int .i64 1))), none⟩,
     ⟨some 45, .iaddr 6 (.t 42) (.t 44), none⟩,
     ⟨some 46, .loadn 6 (.t 45), none⟩,
     ⟨some 47, .mv (.t 0), none⟩,
     ⟨some 48, .mv (.t 9), none⟩,
     ⟨some 49, .iaddr 6 (.t 47) (.t 48), none⟩,
     ⟨some 50, .loadn 6 (.t 49), none⟩,
     ⟨some 51, .iaddr 6 (.t 37) (.t 38), none⟩,
     ⟨none, .store 6 (.t 51) (.t 46), none⟩,
     ⟨some 52, .iaddr 6 (.t 39) (.t 41), none⟩,
     ⟨none, .store 6 (.t 52) (.t 50), none⟩] []))
 (.reg none [⟨some 35, .mv (.t 9), none⟩,
   ⟨some 36, .bin .sub (.t 35) (.c (.d (.int .i64 1))), none⟩,
   ⟨some 9, .mv (.t 36), none⟩] [])))
def f257l0 : PC := .loop [0, 1, 2, 3, 8, 9] [] f257b0
def f257b1 : PC :=
 (.seq (.seq (.reg none [⟨some 12, .mv (.t 8), none⟩,
     ⟨some 13, .mv (.t 2), none⟩,
     ⟨some 14, .bin .lss (.t 12) (.t 13), none⟩] [])
  (.cond (.t 14)
   .skip
   (.exit 0)))
 (.seq (.blk 1 none
   (.seq (.reg none [⟨some 17, .mv (.t 8), none⟩,
      ⟨some 9, .mv (.t 17), none⟩] [])
   (.blk 2 (some [0, 1, 2, 3, 8])
    f257l0)))
 (.reg none [⟨some 15, .mv (.t 8), none⟩,
   ⟨some 16, .bin .add (.t 15) (.c (.d (.int .i64 1))), none⟩,
   ⟨some 8, .mv (.t 16), none⟩] [])))
def f257l1 : PC := .loop [0, 1, 2, 3, 8] [] f257b1
/-- slices.insertionSortCmpFunc[orchestrator/api.Field] -/
def f257 : PFn := ⟨4, 53, [], true,
 (.seq (.reg none [⟨some 10, .mv (.t 1), none⟩,
    ⟨some 11, .bin .add (.t 10) (.c (.d (.int .i64 1))), none⟩,
    ⟨some 8, .mv (.t 11), none⟩] [])
 (.blk 0 (some [])
  f257l1))⟩
def f258b0 : PC :=
 (.seq (.seq (.reg none [⟨some 31, .mv (.t 10), none⟩,
     ⟨some 32, .mv (.t 11), none⟩,
     ⟨some 33, .bin .lss (.t 31) (.t 32), none⟩] [])
  (.cond (.t 33)
   .skip
   (.exit 0)))
 (.blk 1 none
  (.seq (.reg none [⟨some 34, .mv (.t 10), none⟩,
     ⟨some 35, .mv (.t 11), none⟩,
     ⟨some 36, .bin .add (.t 34) (.t 35), none⟩,
     ⟨some 37, .conv .u64 (.t 36), none⟩,
     ⟨some 38, .bin .shr (.t 37) (.c (.d (.int .u64 1))), none⟩,
     ⟨some 39, .conv .i64 (.t 38), none⟩,
     ⟨some 12, .mv (.t 39), none⟩] [])
  (.seq (.reg (some []) [⟨some 40, .mv (.t 4), none⟩,
     ⟨some 41, .mv (.t 0), none⟩,
     ⟨some 42, .mv (.t 12), none⟩,
     ⟨some 43, .iaddr 6 (.t 41) (.t 42), none⟩,
     ⟨some 44, .loadn 6 (.t 43), none⟩,
     ⟨some 45, .mv (.t 0), none⟩,
     ⟨some 46, .mv (.t 1), none⟩,
     ⟨some 47, .iaddr 6 (.t 45) (.t 46), none⟩,
     ⟨some 48, .loadn 6 (.t 47), none⟩,
     ⟨some 49, .callv (.t 40) [(.t 44), (.t 48)], none⟩,
     ⟨some 50, .bin .lss (.t 49) (.c (.d (.int .i64 0))), none⟩] [])
  (.cond (.t 50)
   (.reg none [⟨some 51, .mv (.t 12), none⟩,
     ⟨some 52, .bin .add (.t 51) (.c (.d (.int .i64 1))), none⟩,
     ⟨some 10, .mv (.t 52), none⟩] [])
   (.reg none [⟨some 53, .mv (.t 12), none⟩,
     ⟨some 11, .mv (.t 53), none⟩] []))))))
def f258l0 : PC := .loop [0, 1, 4, 10, 11] [] f258b0
def f258b1 : PC :=
 (.seq (.seq (.reg none [⟨some 55, .mv (.t 13), none⟩,
     ⟨some 56, .mv (.t 10), none⟩,
     ⟨some 57, .bin .sub (.t 56) (.c (.d (.int .i64 1))), none⟩,
     ⟨some 58, .bin .lss (.t 55) (.t 57), none⟩] [])
  (.cond (.t 58)
   .skip
   (.exit 2)))
 (.seq (.blk 3 none
   (.reg (some []) [⟨some 61, .mv (.t 0), none⟩,
     ⟨some 62, .mv (.t 13), none⟩,
     ⟨some 63, .mv (.t 0), none⟩,
     ⟨some 64, .mv (.t 13), none⟩,
     ⟨some 65, .bin .add (.t 64) (.c (.d (.int .i64 1))), none⟩,
     ⟨some 66, .mv (.t 0), none⟩,
     ⟨some 67, .mv (.t 13), none⟩,
     ⟨some 68, .bin .add (.t 67) (.c (.d (.int .i64 1))), none⟩,
     ⟨some 69, .iaddr 6 (.t 66) (.t 68), none⟩,
     ⟨some 70, .loadn 6 (.t 69), none⟩,
     ⟨some 71, .mv (.t 0), none⟩,
     ⟨some 72, .mv (.t 13), none⟩,
     ⟨some 73, .iaddr 6 (.t 71) (.t 72), none⟩,
     ⟨some 74, .loadn 6 (.t 73), none⟩,
     ⟨some 75, .iaddr 6 (.t 61) (.t 62), none⟩,
     ⟨none, .store 6 (.t 75) (.t 70), none⟩,
     ⟨some 76, .iaddr 6 (.t 63) (.t 65), none⟩,
     ⟨none, .store 6 (.t 76) (.t 74), none⟩] []))
 (.reg none [⟨some 59, .mv (.t 13), none⟩,
   ⟨some 60, .bin .add (.t 59) (.c (.d (.int .i64 1))), none⟩,
   ⟨some 13, .mv (.t 60), none⟩] [])))
def f258l1 : PC := .loop [0, 10, 13] [] f258b1
def f258b2 : PC :=
 (.seq (.seq (.reg none [⟨some 83, .mv (.t 14), none⟩,
     ⟨some 84, .mv (.t 15), none⟩,
     ⟨some 85, .bin .lss (.t 83) (.t 84), none⟩] [])
  (.cond (.t 85)
   .skip
   (.exit 4)))
 (.blk 5 none
  (.seq (.reg none [⟨some 86, .mv (.t 14), none⟩,
     ⟨some 87, .mv (.t 15), none⟩,
     ⟨some 88, .bin .add (.t 86) (.t 87), none⟩,
     ⟨some 89, .conv .u64 (.t 88), none⟩,
     ⟨some 90, .bin .shr (.t 89) (.c (.d (.int .u64 1))), none⟩,
     ⟨some 91, .conv .i64 (.t 90), none⟩,
     ⟨some 16, .mv (.t 91), none⟩] [])
  (.seq (.reg (some []) [⟨some 92, .mv (.t 4), none⟩,
     ⟨some 93, .mv (.t 0), none⟩,
     ⟨some 94, .mv (.t 2), none⟩,
     ⟨some 95, .iaddr 6 (.t 93) (.t 94), none⟩,
     ⟨some 96, .loadn 6 (.t 95), none⟩,
     ⟨some 97, .mv (.t 0), none⟩,
     ⟨some 98, .mv (.t 16), none⟩,
     ⟨some 99, .iaddr 6 (.t 97) (.t 98), none⟩,
     ⟨some 100, .loadn 6 (.t 99), none⟩,
     ⟨some 101, .callv (.t 92) [(.t 96), (.t 100)], none⟩,
     ⟨some 102, .bin .lss (.t 101) (.c (.d (.int .i64 0))), none⟩,
     ⟨some 103, .un .not (.t 102), none⟩] [])
  (.cond (.t 103)
   (.reg none [⟨some 104, .mv (.t 16), none⟩,
     ⟨some 105, .bin .add (.t 104) (.c (.d (.int .i64 1))), none⟩,
     ⟨some 14, .mv (.t 105), none⟩] [])
   (.reg none [⟨some 106, .mv (.t 16), none⟩,
     ⟨some 15, .mv (.t 106), none⟩] []))))))
def f258l2 : PC := .loop [0, 2, 4, 14, 15] [] f258b2
def f258b3 : PC :=
 (.seq (.seq (.reg none [⟨some 108, .mv (.t 17), none⟩,
     ⟨some 109, .mv (.t 14), none⟩,
     ⟨some 110, .bin .gtr (.t 108) (.t 109), none⟩] [])
  (.cond (.t 110)
   .skip
   (.exit 6)))
 (.seq (.blk 7 none
   (.reg (some []) [⟨some 113, .mv (.t 0), none⟩,
     ⟨some 114, .mv (.t 17), none⟩,
     ⟨some 115, .mv (.t 0), none⟩,
     ⟨some 116, .mv (.t 17), none⟩,
     ⟨some 117, .bin .sub (.t 116) (.c (.d (.int .i64 1))), none⟩,
     ⟨some 118, .mv (.t 0), none⟩,
     ⟨some 119, .mv (.t 17), none⟩,
     ⟨some 120, .bin .sub (.t 119) (.c (.d (.int .i64 1))), none⟩,
     ⟨some 121, .iaddr 6 (.t 118) (.t 120), none⟩,
     ⟨some 122, .loadn 6 (.t 121), none⟩,
     ⟨some 123, .mv (.t 0), none⟩,
     ⟨some 124, .mv (.t 17), none⟩,
     ⟨some 125, .iaddr 6 (.t 123) (.t 124), none⟩,
     ⟨some 126, .loadn 6 (.t 125), none⟩,
     ⟨some 127, .iaddr 6 (.t 113) (.t 114), none⟩,
     ⟨none, .store 6 (.t 127) (.t 122), none⟩,
     ⟨some 128, .iaddr 6 (.t 115) (.t 117), none⟩,
     ⟨none, .store 6 (.t 128) (.t 126), none⟩] []))
 (.reg none [⟨some 111, .mv (.t 17), none⟩,
   ⟨some 112, .bin .sub (.t 111) (.c (.d (.int .i64 1))), none⟩,
   ⟨some 17, .mv (.t 112), none⟩] [])))
def f258l3 : PC := .loop [0, 14, 17] [] f258b3
def f258b4 : PC :=
 (.seq (.seq (.reg none [⟨some 149, .mv (.t 20), none⟩,
     ⟨some 150, .mv (.t 21), none⟩,
     ⟨some 151, .bin .lss (.t 149) (.t 150), none⟩] [])
  (.cond (.t 151)
   .skip
   (.exit 8)))
 (.blk 9 none
  (.seq (.reg none [⟨some 152, .mv (.t 20), none⟩,
     ⟨some 153, .mv (.t 21), none⟩,
     ⟨some 154, .bin .add (.t 152) (.t 153), none⟩,
     ⟨some 155, .conv .u64 (.t 154), none⟩,
     ⟨some 156, .bin .shr (.t 155) (.c (.d (.int .u64 1))), none⟩,
     ⟨some 157, .conv .i64 (.t 156), none⟩,
     ⟨some 23, .mv (.t 157), none⟩] [])
  (.seq (.reg (some []) [⟨some 158, .mv (.t 4), none⟩,
     ⟨some 159, .mv (.t 0), none⟩,
     ⟨some 160, .mv (.t 22), none⟩,
     ⟨some 161, .mv (.t 23), none⟩,
     ⟨some 162, .bin .sub (.t 160) (.t 161), none⟩,
     ⟨some 163, .iaddr 6 (.t 159) (.t 162), none⟩,
     ⟨some 164, .loadn 6 (.t 163), none⟩,
     ⟨some 165, .mv (.t 0), none⟩,
     ⟨some 166, .mv (.t 23), none⟩,
     ⟨some 167, .iaddr 6 (.t 165) (.t 166), none⟩,
     ⟨some 168, .loadn 6 (.t 167), none⟩,
     ⟨some 169, .callv (.t 158) [(.t 164), (.t 168)], none⟩,
     ⟨some 170, .bin .lss (.t 169) (.c (.d (.int .i64 0))), none⟩,
     ⟨some 171, .un .not (.t 170), none⟩] [])
  (.cond (.t 171)
   (.reg none [⟨some 172, .mv (.t 23), none⟩,
     ⟨some 173, .bin .add (.t 172) (.c (.d (.int .i64 1))), none⟩,
     ⟨some 20, .mv (.t 173), none⟩] [])
   (.reg none [⟨some 174, .mv (.t 23), none⟩,
     ⟨some 21, .mv (.t 174), none⟩] []))))))
def f258l4 : PC := .loop [0, 1, 2, 3, 4, 18, 19, 20, 21, 22] [] f258b4
/-- slices.symMergeCmpFunc[orchestrator/api.Field] -/
def f258 : PFn := ⟨5, 220, [], true,
 (.seq (.seq (.reg none [⟨some 25, .mv (.t 2), none⟩,
     ⟨some 26, .mv (.t 1), none⟩,
     ⟨some 27, .bin .sub (.t 25) (.t 26), none⟩,
     ⟨some 28, .bin .eql (.t 27) (.c (.d (.int .i64 1))), none⟩] [])
  (.cond (.t 28)
   (.seq (.reg none [⟨some 29, .mv (.t 2), none⟩,
      ⟨some 10, .mv (.t 29), none⟩] [])
   (.seq (.reg none [⟨some 30, .mv (.t 3), none⟩,
      ⟨some 11, .mv (.t 30), none⟩] [])
   (.seq (.blk 0 (some [0, 1, 10])
     f258l0)
   (.seq (.seq (.reg none [⟨some 54, .mv (.t 1), none⟩,
       ⟨some 13, .mv (.t 54), none⟩] [])
    (.blk 2 (some [])
     f258l1))
   .ret))))
   .skip))
 (.seq (.seq (.reg none [⟨some 77, .mv (.t 3), none⟩,
     ⟨some 78, .mv (.t 2), none⟩,
     ⟨some 79, .bin .sub (.t 77) (.t 78), none⟩,
     ⟨some 80, .bin .eql (.t 79) (.c (.d (.int .i64 1))), none⟩] [])
  (.cond (.t 80)
   (.seq (.reg none [⟨some 81, .mv (.t 1), none⟩,
      ⟨some 14, .mv (.t 81), none⟩] [])
   (.seq (.reg none [⟨some 82, .mv (.t 2), none⟩,
      ⟨some 15, .mv (.t 82), none⟩] [])
   (.seq (.blk 4 (some [0, 2, 14])
     f258l2)
   (.seq (.seq (.reg none [⟨some 107, .mv (.t 2), none⟩,
       ⟨some 17, .mv (.t 107), none⟩] [])
    (.blk 6 (some [])
     f258l3))
   .ret))))
   .skip))
 (.seq (.reg none [⟨some 129, .mv (.t 1), none⟩,
    ⟨some 130, .mv (.t 3), none⟩,
    ⟨some 131, .bin .add (.t 129) (.t 130), none⟩,
    ⟨some 132, .conv .u64 (.t 131), none⟩,
    ⟨some 133, .bin .shr (.t 132) (.c (.d (.int .u64 1))), none⟩,
    ⟨some 134, .conv .i64 (.t 133), none⟩,
    ⟨some 18, .mv (.t 134), none⟩] [])
 (.seq (.reg none [⟨some 135, .mv (.t 18), none⟩,
    ⟨some 136, .mv (.t 2), none⟩,
    ⟨some 137, .bin .add (.t 135) (.t 136), none⟩,
    ⟨some 19, .mv (.t 137), none⟩] [])
 (.seq (.reg none [⟨some 20, .mv (.c (.d (.int .i64 0))), none⟩,
    ⟨some 21, .mv (.c (.d (.int .i64 0))), none⟩] [])
 (.seq (.seq (.reg none [⟨some 138, .mv (.t 2), none⟩,
     ⟨some 139, .mv (.t 18), none⟩,
     ⟨some 140, .bin .gtr (.t 138) (.t 139), none⟩] [])
  (.cond (.t 140)
   (.seq (.reg none [⟨some 141, .mv (.t 19), none⟩,
      ⟨some 142, .mv (.t 3), none⟩,
      ⟨some 143, .bin .sub (.t 141) (.t 142), none⟩,
      ⟨some 20, .mv (.t 143), none⟩] [])
   (.reg none [⟨some 144, .mv (.t 18), none⟩,
     ⟨some 21, .mv (.t 144), none⟩] []))
   (.seq (.reg none [⟨some 145, .mv (.t 1), none⟩,
      ⟨some 20, .mv (.t 145), none⟩] [])
   (.reg none [⟨some 146, .mv (.t 2), none⟩,
     ⟨some 21, .mv (.t 146), none⟩] []))))
 (.seq (.reg none [⟨some 147, .mv (.t 19), none⟩,
    ⟨some 148, .bin .sub (.t 147) (.c (.d (.int .i64 1))), none⟩,
    ⟨some 22, .mv (.t 148), none⟩] [])
 (.seq (.blk 8 (some [0, 1, 2, 3, 4, 18, 19, 20])
   f258l4)
 (.seq (.reg none [⟨some 175, .mv (.t 19), none⟩,
    ⟨some 176, .mv (.t 20), none⟩,
    ⟨some 177, .bin .sub (.t 175) (.t 176), none⟩,
    ⟨some 24, .mv (.t 177), none⟩] [])
 (.seq (.seq (.reg none [⟨some 178, .mv (.t 20), none⟩,
     ⟨some 179, .mv (.t 2), none⟩,
     ⟨some 180, .bin .lss (.t 178) (.t 179), none⟩,
     ⟨some 181, .mv (.t 180), none⟩,
     ⟨some 182, .mv (.t 2), some (181, true)⟩,
     ⟨some 183, .mv (.t 24), some (181, true)⟩,
     ⟨some 184, .bin .lss (.t 182) (.t 183), some (181, true)⟩,
     ⟨some 185, .pick (.t 181) (.t 184) (.c (.d (.bool false))), none⟩] [])
  (.cond (.t 185)
   (.reg none [⟨some 186, .mv (.t 0), none⟩,
     ⟨some 187, .mv (.t 20), none⟩,
     ⟨some 188, .mv (.t 2), none⟩,
     ⟨some 189, .mv (.t 24), none⟩,
     ⟨some 190, .mv (.t 4), none⟩,
     ⟨some 191, .call 274 [(.t 186), (.t 187), (.t 188), (.t 189), (.t 190)], none⟩] [])
   .skip))
 (.seq (.seq (.reg none [⟨some 192, .mv (.t 1), none⟩,
     ⟨some 193, .mv (.t 20), none⟩,
     ⟨some 194, .bin .lss (.t 192) (.t 193), none⟩,
     ⟨some 195, .mv (.t 194), none⟩,
     ⟨some 196, .mv (.t 20), some (195, true)⟩,
     ⟨some 197, .mv (.t 18), some (195, true)⟩,
     ⟨some 198, .bin .lss (.t 196) (.t 197), some (195, true)⟩,
     ⟨some 199, .pick (.t 195) (.t 198) (.c (.d (.bool false))), none⟩] [])
  (.cond (.t 199)
   (.reg none [⟨some 200, .mv (.t 0), none⟩,
     ⟨some 201, .mv (.t 1), none⟩,
     ⟨some 202, .mv (.t 20), none⟩,
     ⟨some 203, .mv (.t 18), none⟩,
     ⟨some 204, .mv (.t 4), none⟩,
     ⟨some 205, .call 258 [(.t 200), (.t 201), (.t 202), (.t 203), (.t 204)], none⟩] [])
   .skip))
 (.seq (.reg none [⟨some 206, .mv (.t 18), none⟩,
    ⟨some 207, .mv (.t 24), none⟩,
    ⟨some 208, .bin .lss (.t 206) (.t 207), none⟩,
    ⟨some 209, .mv (.t 208), none⟩,
    ⟨some 210, .mv (.t 24), some (209, true)⟩,
    ⟨some 211, .mv (.t 3), some (209, true)⟩,
    ⟨some 212, .bin .lss (.t 210) (.t 211), some (209, true)⟩,
    ⟨some 213, .pick (.t 209) (.t 212) (.c (.d (.bool false))), none⟩] [])
 (.cond (.t 213)
  (.reg none [⟨some 214, .mv (.t 0), none⟩,
    ⟨some 215, .mv (.t 18), none⟩,
    ⟨some 216, .mv (.t 24), none⟩,
    ⟨some 217, .mv (.t 3), none⟩,
    ⟨some 218, .mv (.t 4), none⟩,
    ⟨some 219, .call 258 [(.t 214), (.t 215), (.t 216), (.t 217), (.t 218)], none⟩] [])
  .skip)))))))))))))⟩
def f244b0 : PC :=
 (.seq (.seq (.reg none [⟨some 4, .mv (.t 3), none⟩,
     ⟨some 5, .mv (.t 0), none⟩,
     ⟨some 6, .lenS (.t 5), none⟩,
     ⟨some 7, .bin .lss (.t 4) (.t 6), none⟩] [])
  (.cond (.t 7)
   .skip
   (.exit 0)))
 (.seq (.blk 1 none
   (.seq (.reg none [⟨some 10, .mv (.t 0), none⟩,
      ⟨some 11, .mv (.t 3), none⟩,
      ⟨some 12, .idx (.t 10) (.t 11), none⟩,
      ⟨some 13, .bin .neq (.t 12) (.c (.d (.int .u8 10))), none⟩,
      ⟨some 14, .mv (.t 13), none⟩,
      ⟨some 15, .mv (.t 0), some (14, true)⟩,
      ⟨some 16, .mv (.t 3), some (14, true)⟩,
      ⟨some 17, .idx (.t 15) (.t 16), some (14, true)⟩,
      ⟨some 18, .bin .lss (.t 17) (.c (.d (.int .u8 32))), some (14, true)⟩,
      ⟨some 19, .mv (.t 18), some (14, true)⟩,
      ⟨some 20, .mv (.t 0), some (19, false)⟩,
      ⟨some 21, .mv (.t 3), some (19, false)⟩,
      ⟨some 22, .idx (.t 20) (.t 21), some (19, false)⟩,
      ⟨some 23, .bin .gtr (.t 22) (.c (.d (.int .u8 126))), some (19, false)⟩,
      ⟨some 24, .pick (.t 19) (.c (.d (.bool true))) (.t 23), some (14, true)⟩,
      ⟨some 25, .pick (.t 14) (.t 24) (.c (.d (.bool false))), none⟩] [])
   (.cond (.t 25)
    (.seq (.reg none [⟨some 2, .mv (.c (.d (.bool false))), none⟩] [])
    .ret)
    .skip)))
 (.reg none [⟨some 8, .mv (.t 3), none⟩,
   ⟨some 9, .bin .add (.t 8) (.c (.d (.int .i64 1))), none⟩,
   ⟨some 3, .mv (.t 9), none⟩] [])))
def f244l0 : PC := .loop [0, 3] [] f244b0
/-- orchestrator/orchestratorref04.ValidString -/
def f244 : PFn := ⟨1, 29, [.t 2], false,
 (.seq (.reg none [⟨some 2, .mv (.c (.d (.bool false))), none⟩] [])
 (.seq (.seq (.reg none [⟨some 3, .mv (.c (.d (.int .i64 0))), none⟩] [])
  (.blk 0 (some [0])
   f244l0))
 (.seq (.reg none [⟨some 26, .mv (.t 0), none⟩,
    ⟨some 27, .lenS (.t 26), none⟩,
    ⟨some 28, .bin .leq (.t 27) (.c (.d (.int .i64 200))), none⟩,
    ⟨some 2, .mv (.t 28), none⟩] [])
 .ret)))⟩
def f259b0 : PC :=
 (.seq (.reg none [⟨some 10, .nxt (.t 9), none⟩,
    ⟨some 11, .ext (.t 10) 0, none⟩] [])
 (.seq (.cond (.t 11)
   .skip
   (.exit 0))
 (.blk 1 none
  (.seq (.reg none [⟨some 12, .ext (.t 10) 2, none⟩,
     ⟨some 5, .mv (.t 12), none⟩] [])
  (.seq (.reg none [⟨some 13, .mv (.t 5), none⟩,
     ⟨some 14, .bin .lss (.t 13) (.c (.d (.int .i32 48))), none⟩,
     ⟨some 15, .mv (.t 14), none⟩,
     ⟨some 16, .mv (.t 5), some (15, false)⟩,
     ⟨some 17, .bin .gtr (.t 16) (.c (.d (.int .i32 57))), some (15, false)⟩,
     ⟨some 18, .pick (.t 15) (.c (.d (.bool true))) (.t 17), none⟩] [])
  (.cond (.t 18)
   (.seq (.reg none [⟨some 2, .mv (.c (.d (.int .i64 0))), none⟩,
      ⟨some 3, .mv (.c (.d (.bool false))), none⟩] [])
   .ret)
   .skip))))))
def f259l0 : PC := .loop [0, 9, 41] [] f259b0
/-- orchestrator/path.index -/
def f259 : PFn := ⟨1, 43, [.t 2, .t 3], false,
 (.seq (.reg none [⟨some 2, .mv (.c (.d (.int .i64 0))), none⟩,
    ⟨some 3, .mv (.c (.d (.bool false))), none⟩] [])
 (.seq (.seq (.reg none [⟨some 8, .mv (.t 0), none⟩,
     ⟨some 9, .rng (.t 8), none⟩] [])
  (.blk 0 (some [0, 41])
   f259l0))
 (.seq (.seq (.reg none [⟨some 19, .mv (.t 0), none⟩,
     ⟨some 20, .bin .eql (.t 19) (.c (.d (.str []))), none⟩,
     ⟨some 21, .mv (.t 20), none⟩,
     ⟨some 22, .mv (.t 0), some (21, false)⟩,
     ⟨some 23, .lenS (.t 22), some (21, false)⟩,
     ⟨some 24, .bin .gtr (.t 23) (.c (.d (.int .i64 1))), some (21, false)⟩,
     ⟨some 25, .mv (.t 24), some (21, false)⟩,
     ⟨some 26, .mv (.t 0), some (25, true)⟩,
     ⟨some 27, .idx (.t 26) (.c (.d (.int .i64 0))), some (25, true)⟩,
     ⟨some 28, .bin .eql (.t 27) (.c (.d (.int .u8 48))), some (25, true)⟩,
     ⟨some 29, .pick (.t 25) (.t 28) (.c (.d (.bool false))), some (21, false)⟩,
     ⟨some 30, .pick (.t 21) (.c (.d (.bool true))) (.t 29), none⟩] [])
  (.cond (.t 30)
   (.seq (.reg none [⟨some 2, .mv (.c (.d (.int .i64 0))), none⟩,
      ⟨some 3, .mv (.c (.d (.bool false))), none⟩] [])
   .ret)
   .skip))
 (.seq (.reg none [⟨some 32, .mv (.t 0), none⟩,
    ⟨some 33, .call 275 [(.t 32)], none⟩,
    ⟨some 31, .mv (.t 33), none⟩,
    ⟨some 34, .ext (.t 31) 0, none⟩,
    ⟨some 35, .ext (.t 31) 1, none⟩,
    ⟨some 6, .mv (.t 34), none⟩,
    ⟨some 7, .mv (.t 35), none⟩] [])
 (.seq (.seq .bad
  (.cond (.t 41)
   (.reg none [⟨some 6, .mv (.c (.d (.int .i64 65))), none⟩] [])
   .skip))
 (.seq (.reg none [⟨some 42, .mv (.t 6), none⟩,
    ⟨some 2, .mv (.t 42), none⟩,
    ⟨some 3, .mv (.c (.d (.bool true))), none⟩] [])
 .ret))))))⟩
def f260b0 : PC :=
 (.seq (.seq (.reg none [⟨some 15, .mv (.t 6), none⟩,
     ⟨some 16, .mv (.t 0), none⟩,
     ⟨some 17, .lenS (.t 16), none⟩,
     ⟨some 18, .bin .lss (.t 15) (.t 17), none⟩] [])
  (.cond (.t 18)
   .skip
   (.exit 0)))
 (.seq (.blk 1 none
   (.seq (.reg none [⟨some 21, .mv (.t 0), none⟩,
      ⟨some 22, .mv (.t 6), none⟩,
      ⟨some 23, .idx (.t 21) (.t 22), none⟩,
      ⟨some 7, .mv (.t 23), none⟩] [])
   (.blk 2 none
    (.seq (.reg none [⟨some 25, .mv (.t 7), none⟩,
       ⟨some 26, .bin .eql (.t 25) (.c (.d (.int .u8 34))), none⟩,
       ⟨some 24, .mv (.t 26), none⟩] [])
    (.cond (.t 24)
     (.seq (.reg (some []) [⟨some 27, .call 273 [(.t 5)], none⟩,
        ⟨some 28, .mv (.t 0), none⟩,
        ⟨some 29, .mv (.t 6), none⟩,
        ⟨some 30, .bin .add (.t 29) (.c (.d (.int .i64 1))), none⟩,
        ⟨some 31, .sstr (.t 28) (some (.t 30)) none, none⟩,
        ⟨some 2, .mv (.t 27), none⟩,
        ⟨some 3, .mv (.t 31), none⟩,
        ⟨some 4, .mv (.c (.d (.bool true))), none⟩] [])
     .ret)
     (.seq (.reg none [⟨some 33, .mv (.t 7), none⟩,
        ⟨some 34, .bin .lss (.t 33) (.c (.d (.int .u8 32))), none⟩,
        ⟨some 35, .mv (.t 34), none⟩,
        ⟨some 36, .mv (.t 7), some (35, false)⟩,
        ⟨some 37, .bin .gtr (.t 36) (.c (.d (.int .u8 126))), some (35, false)⟩,
        ⟨some 38, .pick (.t 35) (.c (.d (.bool true))) (.t 37), none⟩,
        ⟨some 32, .mv (.t 38), none⟩] [])
     (.cond (.t 32)
      (.seq (.reg none [⟨some 2, .mv (.c (.d (.str []))), none⟩,
         ⟨some 3, .mv (.c (.d (.str []))), none⟩,
         ⟨some 4, .mv (.c (.d (.bool false))), none⟩] [])
      .ret)
      (.seq (.reg none [⟨some 40, .mv (.t 7), none⟩,
         ⟨some 41, .bin .neq (.t 40) (.c (.d (.int .u8 92))), none⟩,
         ⟨some 39, .mv (.t 41), none⟩] [])
      (.cond (.t 39)
       (.reg none [⟨some 42, .mv (.t 7), none⟩,
         ⟨some 43, .call 269 [(.t 5), (.t 42)], none⟩] [])
       (.seq (.reg none [⟨some 45, .mv (.t 6), none⟩,
          ⟨some 46, .bin .add (.t 45) (.c (.d (.int .i64 1))), none⟩,
          ⟨some 47, .mv (.t 0), none⟩,
          ⟨some 48, .lenS (.t 47), none⟩,
          ⟨some 49, .bin .lss (.t 46) (.t 48), none⟩,
          ⟨some 50, .mv (.t 49), none⟩,
          ⟨some 51, .mv (.t 0), some (50, true)⟩,
          ⟨some 52, .mv (.t 6), some (50, true)⟩,
          ⟨some 53, .bin .add (.t 52) (.c (.d (.int .i64 1))), some (50, true)⟩,
          ⟨some 54, .idx (.t 51) (.t 53), some (50, true)⟩,
          ⟨some 55, .bin .eql (.t 54) (.c (.d (.int .u8 34))), some (50, true)⟩,
          ⟨some 56, .mv (.t 55), some (50, true)⟩,
          ⟨some 57, .mv (.t 0), some (56, false)⟩,
          ⟨some 58, .mv (.t 6), some (56, false)⟩,
          ⟨some 59, .bin .add (.t 58) (.c (.d (.int .i64 1))), some (56, false)⟩,
          ⟨some 60, .idx (.t 57) (.t 59), some (56, false)⟩,
          ⟨some 61, .bin .eql (.t 60) (.c (.d (.int .u8 92))), some (56, false)⟩,
          ⟨some 62, .pick (.t 56) (.c (.d (.bool true))) (.t 61), some (50, true)⟩,
          ⟨some 63, .pick (.t 50) (.t 62) (.c (.d (.bool false))), none⟩,
          ⟨some 44, .mv (.t 63), none⟩] [])
       (.cond (.t 44)
        (.seq (.reg none [⟨some 64, .mv (.t 6), none⟩,
           ⟨some 65, .bin .add (.t 64) (.c (.d (.int .i64 1))), none⟩,
           ⟨some 6, .mv (.t 65), none⟩] [])
        (.reg none [⟨some 66, .mv (.t 0), none⟩,
          ⟨some 67, .mv (.t 6), none⟩,
          ⟨some 68, .idx (.t 66) (.t 67), none⟩,
          ⟨some 69, .call 269 [(.t 5), (.t 68)], none⟩] []))
        (.seq (.reg none [⟨some 71, .mv (.t 6), none⟩,
           ⟨some 72, .bin .add (.t 71) (.c (.d (.int .i64 1))), none⟩,
           ⟨some 73, .mv (.t 0), none⟩,
           ⟨some 74, .lenS (.t 73), none⟩,
           ⟨some 75, .bin .lss (.t 72) (.t 74), none⟩,
           ⟨some 76, .mv (.t 75), none⟩,
           ⟨some 77, .mv (.t 0), some (76, true)⟩,
           ⟨some 78, .mv (.t 6), some (76, true)⟩,
           ⟨some 79, .bin .add (.t 78) (.c (.d (.int .i64 1))), some (76, true)⟩,
           ⟨some 80, .idx (.t 77) (.t 79), some (76, true)⟩,
           ⟨some 81, .bin .eql (.t 80) (.c (.d (.int .u8 110))), some (76, true)⟩,
           ⟨some 82, .pick (.t 76) (.t 81) (.c (.d (.bool false))), none⟩,
           ⟨some 70, .mv (.t 82), none⟩] [])
        (.cond (.t 70)
         (.seq (.reg none [⟨some 83, .mv (.t 6), none⟩,
            ⟨some 84, .bin .add (.t 83) (.c (.d (.int .i64 1))), none⟩,
            ⟨some 6, .mv (.t 84), none⟩] [])
         (.reg none [⟨some 85, .call 269 [(.t 5), (.c (.d (.int .u8 10)))], none⟩] []))
         (.seq (.reg none [⟨some 2, .mv (.c (.d (.str []))), none⟩,
            ⟨some 3, .mv (.c (.d (.str []))), none⟩,
            ⟨some 4, .mv (.c (.d (.bool false))), none⟩] [])
         .ret))))))))))))))
 (.reg none [⟨some 19, .mv (.t 6), none⟩,
   ⟨some 20, .bin .add (.t 19) (.c (.d (.int .i64 1))), none⟩,
   ⟨some 6, .mv (.t 20), none⟩] [])))
def f260l0 : PC := .loop [0, 5, 6] [] f260b0
/-- orchestrator/path.unquote -/
def f260 : PFn := ⟨1, 86, [.t 2, .t 3, .t 4], false,
 (.seq (.reg none [⟨some 2, .mv (.c (.d (.str []))), none⟩,
    ⟨some 3, .mv (.c (.d (.str []))), none⟩,
    ⟨some 4, .mv (.c (.d (.bool false))), none⟩] [])
 (.seq (.reg none [⟨some 5, .alloc 304 [(.d .nilp), .nil], none⟩] [])
 (.seq (.seq (.reg none [⟨some 8, .mv (.t 0), none⟩,
     ⟨some 9, .bin .eql (.t 8) (.c (.d (.str []))), none⟩,
     ⟨some 10, .mv (.t 9), none⟩,
     ⟨some 11, .mv (.t 0), some (10, false)⟩,
     ⟨some 12, .idx (.t 11) (.c (.d (.int .i64 0))), some (10, false)⟩,
     ⟨some 13, .bin .neq (.t 12) (.c (.d (.int .u8 34))), some (10, false)⟩,
     ⟨some 14, .pick (.t 10) (.c (.d (.bool true))) (.t 13), none⟩] [])
  (.cond (.t 14)
   (.seq (.reg none [⟨some 2, .mv (.c (.d (.str []))), none⟩,
      ⟨some 3, .mv (.c (.d (.str []))), none⟩,
      ⟨some 4, .mv (.c (.d (.bool false))), none⟩] [])
   .ret)
   .skip))
 (.seq (.seq (.reg none [⟨some 6, .mv (.c (.d (.int .i64 1))), none⟩] [])
  (.blk 0 (some [])
   f260l0))
 (.seq (.reg none [⟨some 2, .mv (.c (.d (.str []))), none⟩,
    ⟨some 3, .mv (.c (.d (.str []))), none⟩,
    ⟨some 4, .mv (.c (.d (.bool false))), none⟩] [])
 .ret)))))⟩
/-- orchestrator/path.nameRune -/
def f261 : PFn := ⟨1, 37, [.t 2], false,
 (.seq (.reg none [⟨some 2, .mv (.c (.d (.bool false))), none⟩] [])
 (.seq (.reg none [⟨some 3, .mv (.t 0), none⟩,
    ⟨some 4, .bin .geq (.t 3) (.c (.d (.int .i32 97))), none⟩,
    ⟨some 5, .mv (.t 4), none⟩,
    ⟨some 6, .mv (.t 0), some (5, true)⟩,
    ⟨some 7, .bin .leq (.t 6) (.c (.d (.int .i32 122))), some (5, true)⟩,
    ⟨some 8, .pick (.t 5) (.t 7) (.c (.d (.bool false))), none⟩,
    ⟨some 9, .mv (.t 8), none⟩,
    ⟨some 10, .mv (.t 0), some (9, false)⟩,
    ⟨some 11, .bin .geq (.t 10) (.c (.d (.int .i32 65))), some (9, false)⟩,
    ⟨some 12, .mv (.t 11), some (9, false)⟩,
    ⟨some 13, .mv (.t 0), some (12, true)⟩,
    ⟨some 14, .bin .leq (.t 13) (.c (.d (.int .i32 90))), some (12, true)⟩,
    ⟨some 15, .pick (.t 12) (.t 14) (.c (.d (.bool false))), some (9, false)⟩,
    ⟨some 16, .pick (.t 9) (.c (.d (.bool true))) (.t 15), none⟩,
    ⟨some 17, .mv (.t 16), none⟩,
    ⟨some 18, .mv (.t 0), some (17, false)⟩,
    ⟨some 19, .bin .geq (.t 18) (.c (.d (.int .i32 48))), some (17, false)⟩,
    ⟨some 20, .mv (.t 19), some (17, false)⟩,
    ⟨some 21, .mv (.t 0), some (20, true)⟩,
    ⟨some 22, .bin .leq (.t 21) (.c (.d (.int .i32 57))), some (20, true)⟩,
    ⟨some 23, .pick (.t 20) (.t 22) (.c (.d (.bool false))), some (17, false)⟩,
    ⟨some 24, .pick (.t 17) (.c (.d (.bool true))) (.t 23), none⟩,
    ⟨some 25, .mv (.t 24), none⟩,
    ⟨some 26, .mv (.t 0), some (25, false)⟩,
    ⟨some 27, .bin .eql (.t 26) (.c (.d (.int .i32 45))), some (25, false)⟩,
    ⟨some 28, .pick (.t 25) (.c (.d (.bool true))) (.t 27), none⟩,
    ⟨some 29, .mv (.t 28), none⟩,
    ⟨some 30, .mv (.t 0), some (29, false)⟩,
    ⟨some 31, .bin .eql (.t 30) (.c (.d (.int .i32 95))), some (29, false)⟩,
    ⟨some 32, .pick (.t 29) (.c (.d (.bool true))) (.t 31), none⟩,
    ⟨some 33, .mv (.t 32), none⟩,
    ⟨some 34, .mv (.t 0), some (33, false)⟩,
    ⟨some 35, .bin .eql (.t 34) (.c (.d (.int .i32 47))), some (33, false)⟩,
    ⟨some 36, .pick (.t 33) (.c (.d (.bool true))) (.t 35), none⟩,
    ⟨some 2, .mv (.t 36), none⟩] [])
 .ret))⟩
/-- orchestrator/path.Valid$1 -/
def f262 : PFn := ⟨1, 6, [.t 2], false,
 (.seq (.reg none [⟨some 1, .box 239 (.t 0), none⟩,
    ⟨some 2, .mv (.c (.d (.bool false))), none⟩] [])
 (.seq (.reg none [⟨some 3, .loadn 4 (.t 1), none⟩,
    ⟨some 4, .call 263 [(.t 3)], none⟩,
    ⟨some 5, .un .not (.t 4), none⟩,
    ⟨some 2, .mv (.t 5), none⟩] [])
 .ret))⟩
def f264b0 : PC :=
 (.blk 1 none
  (.seq (.reg none [⟨some 13, .mv (.t 10), none⟩,
     ⟨some 14, .bin .mul (.c (.d (.int .i64 2))) (.t 13), none⟩,
     ⟨some 15, .bin .add (.t 14) (.c (.d (.int .i64 1))), none⟩,
     ⟨some 11, .mv (.t 15), none⟩] [])
  (.seq (.seq (.reg none [⟨some 16, .mv (.t 11), none⟩,
      ⟨some 17, .mv (.t 2), none⟩,
      ⟨some 18, .bin .geq (.t 16) (.t 17), none⟩] [])
   (.cond (.t 18)
    (.exit 0)
    .skip))
  (.seq (.seq (.reg (some []) [⟨some 19, .mv (.t 11), none⟩,
      ⟨some 20, .bin .add (.t 19) (.c (.d (.int .i64 1))), none⟩,
      ⟨some 21, .mv (.t 2), none⟩,
      ⟨some 22, .bin .lss (.t 20) (.t 21), none⟩,
      ⟨some 23, .mv (.t 22), none⟩,
      ⟨some 24, .mv (.t 4), some (23, true)⟩,
      ⟨some 25, .mv (.t 0), some (23, true)⟩,
      ⟨some 26, .mv (.t 3), some (23, true)⟩,
      ⟨some 27, .mv (.t 11), some (23, true)⟩,
      ⟨some 28, .bin .add (.t 26) (.t 27), some (23, true)⟩,
      ⟨some 29, .iaddr 11 (.t 25) (.t 28), some (23, true)⟩,
      ⟨some 30, .loadn 11 (.t 29), some (23, true)⟩,
      ⟨some 31, .mv (.t 0), some (23, true)⟩,
      ⟨some 32, .mv (.t 3), some (23, true)⟩,
      ⟨some 33, .mv (.t 11), some (23, true)⟩,
      ⟨some 34, .bin .add (.t 32) (.t 33), some (23, true)⟩,
      ⟨some 35, .bin .add (.t 34) (.c (.d (.int .i64 1))), some (23, true)⟩,
      ⟨some 36, .iaddr 11 (.t 31) (.t 35), some (23, true)⟩,
      ⟨some 37, .loadn 11 (.t 36), some (23, true)⟩,
      ⟨some 38, .callv (.t 24) [(.t 30), (.t 37)], some (23, true)⟩,
      ⟨some 39, .bin .lss (.t 38) (.c (.d (.int .i64 0))), some (23, true)⟩,
      ⟨some 40, .pick (.t 23) (.t 39) (.c (.d (.bool false))), none⟩] [])
   (.cond (.t 40)
    (.reg none [⟨some 41, .mv (.t 11), none⟩,
      ⟨some 42, .bin .add (.t 41) (.c (.d (.int .i64 1))), none⟩,
      ⟨some 11, .mv (.t 42), none⟩] [])
    .skip))
  (.seq (.seq (.reg (some []) [⟨some 43, .mv (.t 4), none⟩,
      ⟨some 44, .mv (.t 0), none⟩,
      ⟨some 45, .mv (.t 3), none⟩,
      ⟨some 46, .mv (.t 10), none⟩,
      ⟨some 47, .bin .add (.t 45) (.t 46), none⟩,
      ⟨some 48, .iaddr 11 (.t 44) (.t 47), none⟩,
      ⟨some 49, .loadn 11 (.t 48), none⟩,
      ⟨some 50, .mv (.t 0), none⟩,
      ⟨some 51, .mv (.t 3), none⟩,
      ⟨some 52, .mv (.t 11), none⟩,
      ⟨some 53, .bin .add (.t 51) (.t 52), none⟩,
      ⟨some 54, .iaddr 11 (.t 50) (.t 53), none⟩,
      ⟨some 55, .loadn 11 (.t 54), none⟩,
      ⟨some 56, .callv (.t 43) [(.t 49), (.t 55)], none⟩,
      ⟨some 57, .bin .lss (.t 56) (.c (.d (.int .i64 0))), none⟩,
      ⟨some 58, .un .not (.t 57), none⟩] [])
   (.cond (.t 58)
    .ret
    .skip))
  (.seq (.reg (some []) [⟨some 59, .mv (.t 0), none⟩,
     ⟨some 60, .mv (.t 3), none⟩,
     ⟨some 61, .mv (.t 10), none⟩,
     ⟨some 62, .bin .add (.t 60) (.t 61), none⟩,
     ⟨some 63, .mv (.t 0), none⟩,
     ⟨some 64, .mv (.t 3), none⟩,
     ⟨some 65, .mv (.t 11), none⟩,
     ⟨some 66, .bin .add (.t 64) (.t 65), none⟩,
     ⟨some 67, .mv (.t 0), none⟩,
     ⟨some 68, .mv (.t 3), none⟩,
     ⟨some 69, .mv (.t 11), none⟩,
     ⟨some 70, .bin .add (.t 68) (.t 69), none⟩,
     ⟨some 71, .iaddr 11 (.t 67) (.t 70), none⟩,
     ⟨some 72, .loadn 11 (.t 71), none⟩,
     ⟨some 73, .mv (.t 0), none⟩,
     ⟨some 74, .mv (.t 3), none⟩,
     ⟨some 75, .mv (.t 10), none⟩,
     ⟨some 76, .bin .add (.t 74) (.t 75), none⟩,
     ⟨some 77, .iaddr 11 (.t 73) (.t 76), none⟩,
     ⟨some 78, .loadn 11 (.t 77), none⟩,
     ⟨some 79, .iaddr 11 (.t 59) (.t 62), none⟩,
     ⟨none, .store 11 (.t 79) (.t 72), none⟩,
     ⟨some 80, .iaddr 11 (.t 63) (.t 66), none⟩,
     ⟨none, .store 11 (.t 80) (.t 78), none⟩] [])
  (.reg none [⟨some 81, .mv (.t 11), none⟩,
    ⟨some 10, .mv (.t 81), none⟩] [])))))))
def f264l0 : PC := .loop [0, 2, 3, 4, 10] [] f264b0
/-- slices.siftDownCmpFunc[orchestrator/api.SchemaField] -/
def f264 : PFn := ⟨5, 82, [], true,
 (.seq (.reg none [⟨some 12, .mv (.t 1), none⟩,
    ⟨some 10, .mv (.t 12), none⟩] [])
 (.blk 0 (some [])
  f264l0))⟩
/-- slices.nextPowerOfTwo -/
def f265 : PFn := ⟨1, 7, [.t 2], true,
 (.seq (.reg none [⟨some 2, .mv (.c (.d (.int .u64 0))), none⟩] [])
 (.seq (.reg none [⟨some 3, .mv (.t 0), none⟩,
    ⟨some 4, .conv .u64 (.t 3), none⟩,
    ⟨some 5, .call 203 [(.t 4)], none⟩,
    ⟨some 6, .bin .shl (.c (.d (.int .u64 1))) (.t 5), none⟩,
    ⟨some 2, .mv (.t 6), none⟩] [])
 .ret))⟩
/-- (*slices.xorshift).Next -/
def f266 : PFn := ⟨1, 33, [.t 2], false,
 (.seq (.reg none [⟨some 2, .mv (.c (.d (.int .u64 0))), none⟩] [])
 (.seq (.reg (some []) [⟨some 3, .mv (.t 0), none⟩,
    ⟨some 4, .nilc (.t 3), none⟩,
    ⟨some 5, .load1 (.t 4), none⟩,
    ⟨some 6, .mv (.t 0), none⟩,
    ⟨some 7, .nilc (.t 6), none⟩,
    ⟨some 8, .load1 (.t 7), none⟩,
    ⟨some 9, .bin .shl (.t 8) (.c (.d (.int .u64 13))), none⟩,
    ⟨some 10, .bin .xor (.t 5) (.t 9), none⟩,
    ⟨some 11, .nilc (.t 3), none⟩,
    ⟨none, .store 1 (.t 11) (.t 10), none⟩] [])
 (.seq (.reg (some []) [⟨some 12, .mv (.t 0), none⟩,
    ⟨some 13, .nilc (.t 12), none⟩,
    ⟨some 14, .load1 (.t 13), none⟩,
    ⟨some 15, .mv (.t 0), none⟩,
    ⟨some 16, .nilc (.t 15), none⟩,
    ⟨some 17, .load1 (.t 16), none⟩,
    ⟨some 18, .bin .shr (.t 17) (.c (.d (.int .u64 7))), none⟩,
    ⟨some 19, .bin .xor (.t 14) (.t 18), none⟩,
    ⟨some 20, .nilc (.t 12), none⟩,
    ⟨none, .store 1 (.t 20) (.t 19), none⟩] [])
 (.seq (.reg (some []) [⟨some 21, .mv (.t 0), none⟩,
    ⟨some 22, .nilc (.t 21), none⟩,
    ⟨some 23, .load1 (.t 22), none⟩,
    ⟨some 24, .mv (.t 0), none⟩,
    ⟨some 25, .nilc (.t 24), none⟩,
    ⟨some 26, .load1 (.t 25), none⟩,
    ⟨some 27, .bin .shl (.t 26) (.c (.d (.int .u64 17))), none⟩,
    ⟨some 28, .bin .xor (.t 23) (.t 27), none⟩,
    ⟨some 29, .nilc (.t 21), none⟩,
    ⟨none, .store 1 (.t 29) (.t 28), none⟩] [])
 (.seq (.reg none [⟨some 30, .mv (.t 0), none⟩,
    ⟨some 31, .nilc (.t 30), none⟩,
    ⟨some 32, .load1 (.t 31), none⟩,
    ⟨some 2, .mv (.t 32), none⟩] [])
 .ret)))))⟩
/-- slices.medianAdjacentCmpFunc[orchestrator/api.SchemaField] -/
def f267 : PFn := ⟨4, 18, [.t 8], true,
 (.seq (.reg none [⟨some 8, .mv (.c (.d (.int .i64 0))), none⟩] [])
 (.seq (.reg none [⟨some 9, .mv (.t 0), none⟩,
    ⟨some 10, .mv (.t 1), none⟩,
    ⟨some 11, .bin .sub (.t 10) (.c (.d (.int .i64 1))), none⟩,
    ⟨some 12, .mv (.t 1), none⟩,
    ⟨some 13, .mv (.t 1), none⟩,
    ⟨some 14, .bin .add (.t 13) (.c (.d (.int .i64 1))), none⟩,
    ⟨some 15, .mv (.t 2), none⟩,
    ⟨some 16, .mv (.t 3), none⟩,
    ⟨some 17, .call 268 [(.t 9), (.t 11), (.t 12), (.t 14), (.t 15), (.t 16)], none⟩,
    ⟨some 8, .mv (.t 17), none⟩] [])
 .ret))⟩
/-- slices.medianCmpFunc[orchestrator/api.SchemaField] -/
def f268 : PFn := ⟨6, 41, [.t 12], true,
 (.seq (.reg none [⟨some 12, .mv (.c (.d (.int .i64 0))), none⟩] [])
 (.seq (.reg none [⟨some 14, .mv (.t 0), none⟩,
    ⟨some 15, .mv (.t 1), none⟩,
    ⟨some 16, .mv (.t 2), none⟩,
    ⟨some 17, .mv (.t 4), none⟩,
    ⟨some 18, .mv (.t 5), none⟩,
    ⟨some 19, .call 277 [(.t 14), (.t 15), (.t 16), (.t 17), (.t 18)], none⟩,
    ⟨some 13, .mv (.t 19), none⟩,
    ⟨some 20, .ext (.t 13) 0, none⟩,
    ⟨some 21, .ext (.t 13) 1, none⟩,
    ⟨some 1, .mv (.t 20), none⟩,
    ⟨some 2, .mv (.t 21), none⟩] [])
 (.seq (.reg none [⟨some 23, .mv (.t 0), none⟩,
    ⟨some 24, .mv (.t 2), none⟩,
    ⟨some 25, .mv (.t 3), none⟩,
    ⟨some 26, .mv (.t 4), none⟩,
    ⟨some 27, .mv (.t 5), none⟩,
    ⟨some 28, .call 277 [(.t 23), (.t 24), (.t 25), (.t 26), (.t 27)], none⟩,
    ⟨some 22, .mv (.t 28), none⟩,
    ⟨some 29, .ext (.t 22) 0, none⟩,
    ⟨some 30, .ext (.t 22) 1, none⟩,
    ⟨some 2, .mv (.t 29), none⟩,
    ⟨some 3, .mv (.t 30), none⟩] [])
 (.seq (.reg none [⟨some 32, .mv (.t 0), none⟩,
    ⟨some 33, .mv (.t 1), none⟩,
    ⟨some 34, .mv (.t 2), none⟩,
    ⟨some 35, .mv (.t 4), none⟩,
    ⟨some 36, .mv (.t 5), none⟩,
    ⟨some 37, .call 277 [(.t 32), (.t 33), (.t 34), (.t 35), (.t 36)], none⟩,
    ⟨some 31, .mv (.t 37), none⟩,
    ⟨some 38, .ext (.t 31) 0, none⟩,
    ⟨some 39, .ext (.t 31) 1, none⟩,
    ⟨some 1, .mv (.t 38), none⟩,
    ⟨some 2, .mv (.t 39), none⟩] [])
 (.seq (.reg none [⟨some 40, .mv (.t 2), none⟩,
    ⟨some 12, .mv (.t 40), none⟩] [])
 .ret)))))⟩
def f245b0 : PC :=
 (.seq (.reg none [⟨some 7, .bin .lss (.t 6) (.t 5), none⟩] [])
 (.seq (.cond (.t 7)
   .skip
   (.exit 0))
 (.seq (.blk 1 none
   (.seq (.reg none [⟨some 8, .mv (.t 6), none⟩,
      ⟨some 3, .mv (.t 8), none⟩] [])
   (.seq (.reg none [⟨some 9, .mv (.t 0), none⟩,
      ⟨some 10, .mv (.t 3), none⟩,
      ⟨some 11, .idx (.t 9) (.t 10), none⟩,
      ⟨some 12, .bin .neq (.t 11) (.c (.d (.int .u8 10))), none⟩,
      ⟨some 13, .mv (.t 12), none⟩,
      ⟨some 14, .mv (.t 0), some (13, true)⟩,
      ⟨some 15, .mv (.t 3), some (13, true)⟩,
      ⟨some 16, .idx (.t 14) (.t 15), some (13, true)⟩,
      ⟨some 17, .bin .lss (.t 16) (.c (.d (.int .u8 32))), some (13, true)⟩,
      ⟨some 18, .mv (.t 17), some (13, true)⟩,
      ⟨some 19, .mv (.t 0), some (18, false)⟩,
      ⟨some 20, .mv (.t 3), some (18, false)⟩,
      ⟨some 21, .idx (.t 19) (.t 20), some (18, false)⟩,
      ⟨some 22, .bin .gtr (.t 21) (.c (.d (.int .u8 126))), some (18, false)⟩,
      ⟨some 23, .pick (.t 18) (.c (.d (.bool true))) (.t 22), some (13, true)⟩,
      ⟨some 24, .pick (.t 13) (.t 23) (.c (.d (.bool false))), none⟩] [])
   (.cond (.t 24)
    (.seq (.reg none [⟨some 2, .mv (.c (.d (.bool false))), none⟩] [])
    .ret)
    .skip))))
 (.reg none [⟨some 25, .bin .add (.t 6) (.c (.d (.int .i64 1))), none⟩,
   ⟨some 6, .mv (.t 25), none⟩] []))))
def f245l0 : PC := .loop [0, 5, 6] [] f245b0
/-- orchestrator/value.text -/
def f245 : PFn := ⟨1, 29, [.t 2], false,
 (.seq (.reg none [⟨some 2, .mv (.c (.d (.bool false))), none⟩] [])
 (.seq (.seq (.reg none [⟨some 4, .mv (.t 0), none⟩,
     ⟨some 5, .lenS (.t 4), none⟩,
     ⟨some 6, .mv (.c (.d (.int .i64 0))), none⟩] [])
  (.blk 0 (some [0])
   f245l0))
 (.seq (.reg none [⟨some 26, .mv (.t 0), none⟩,
    ⟨some 27, .lenS (.t 26), none⟩,
    ⟨some 28, .bin .leq (.t 27) (.c (.d (.int .i64 200))), none⟩,
    ⟨some 2, .mv (.t 28), none⟩] [])
 .ret)))⟩
def f246b0 : PC :=
 (.seq (.reg none [⟨some 13, .bin .lss (.t 12) (.t 11), none⟩] [])
 (.seq (.cond (.t 13)
   .skip
   (.exit 0))
 (.seq (.blk 1 none
   (.seq (.reg none [⟨some 14, .mv (.t 12), none⟩,
      ⟨some 15, .iaddr 4 (.t 10) (.t 12), none⟩,
      ⟨some 16, .loadn 4 (.t 15), none⟩,
      ⟨some 6, .alloc 239 [(.d (.int .i64 0)), (.d (.str [])), (.d (.int .i64 0)), (.d (.str []))], none⟩,
      ⟨some 5, .mv (.t 14), none⟩,
      ⟨none, .store 4 (.t 6) (.t 16), none⟩] [])
   (.seq (.reg none [⟨some 17, .faddr 0 (.t 6), none⟩,
      ⟨some 18, .load1 (.t 17), none⟩] [])
   (.blk 2 none
    (.seq (.reg none [⟨some 20, .bin .eql (.t 18) (.c (.d (.int .i64 1))), none⟩,
       ⟨some 19, .mv (.t 20), none⟩] [])
    (.cond (.t 19)
     (.seq (.seq (.reg none [⟨some 21, .mv (.t 5), none⟩,
         ⟨some 22, .bin .gtr (.t 21) (.c (.d (.int .i64 0))), none⟩] [])
      (.cond (.t 22)
       (.reg none [⟨some 23, .call 269 [(.t 4), (.c (.d (.int .u8 46)))], none⟩] [])
       .skip))
     (.reg none [⟨some 24, .faddr 1 (.t 6), none⟩,
       ⟨some 25, .load1 (.t 24), none⟩,
       ⟨some 26, .call 270 [(.t 4), (.t 25)], none⟩] []))
     (.seq (.reg none [⟨some 28, .bin .eql (.t 18) (.c (.d (.int .i64 2))), none⟩,
        ⟨some 27, .mv (.t 28), none⟩] [])
     (.cond (.t 27)
      (.reg none [⟨some 29, .faddr 2 (.t 6), none⟩,
        ⟨some 30, .load1 (.t 29), none⟩,
        ⟨some 31, .call 271 [(.t 30)], none⟩,
        ⟨some 32, .bin .add (.c (.d (.str [91]))) (.t 31), none⟩,
        ⟨some 33, .bin .add (.t 32) (.c (.d (.str [93]))), none⟩,
        ⟨some 34, .call 270 [(.t 4), (.t 33)], none⟩] [])
      (.seq (.reg none [⟨some 36, .bin .eql (.t 18) (.c (.d (.int .i64 3))), none⟩,
         ⟨some 35, .mv (.t 36), none⟩] [])
      (.cond (.t 35)
       (.reg (some [(1, 6)]) [⟨some 37, .faddr 1 (.t 6), none⟩,
         ⟨some 38, .load1 (.t 37), none⟩,
         ⟨some 39, .bin .add (.c (.d (.str [91]))) (.t 38), none⟩,
         ⟨some 40, .bin .add (.t 39) (.c (.d (.str [61]))), none⟩,
         ⟨some 41, .faddr 3 (.t 6), none⟩,
         ⟨some 42, .load1 (.t 41), none⟩,
         ⟨some 43, .call 272 [(.t 42)], none⟩,
         ⟨some 44, .bin .add (.t 40) (.t 43), none⟩,
         ⟨some 45, .bin .add (.t 44) (.c (.d (.str [93]))), none⟩,
         ⟨some 46, .call 270 [(.t 4), (.t 45)], none⟩] [])
       .skip))))))))))
 (.reg none [⟨some 47, .bin .add (.t 12) (.c (.d (.int .i64 1))), none⟩,
   ⟨some 12, .mv (.t 47), none⟩] []))))
def f246l0 : PC := .loop [4, 10, 11, 12] [] f246b0
/-- orchestrator/path.Print -/
def f246 : PFn := ⟨1, 49, [.t 2, .t 3], false,
 (.seq (.reg none [⟨some 2, .mv (.c (.d (.str []))), none⟩,
    ⟨some 3, .mv (.c (.d (.int .i64 0))), none⟩] [])
 (.seq (.seq (.reg none [⟨some 7, .mv (.t 0), none⟩,
     ⟨some 8, .call 229 [(.t 7)], none⟩,
     ⟨some 9, .un .not (.t 8), none⟩] [])
  (.cond (.t 9)
   (.seq (.reg none [⟨some 2, .mv (.c (.d (.str []))), none⟩,
      ⟨some 3, .mv (.c (.d (.int .i64 1))), none⟩] [])
   .ret)
   .skip))
 (.seq (.reg none [⟨some 4, .alloc 304 [(.d .nilp), .nil], none⟩] [])
 (.seq (.seq (.reg none [⟨some 10, .mv (.t 0), none⟩,
     ⟨some 11, .lenL (.t 10), none⟩,
     ⟨some 12, .mv (.c (.d (.int .i64 0))), none⟩] [])
  (.blk 0 (some [4])
   f246l0))
 (.seq (.reg none [⟨some 48, .call 273 [(.t 4)], none⟩,
    ⟨some 2, .mv (.t 48), none⟩,
    ⟨some 3, .mv (.c (.d (.int .i64 0))), none⟩] [])
 .ret)))))⟩
def f247b0 : PC :=
 (.seq (.reg none [⟨some 9, .bin .lss (.t 8) (.t 7), none⟩] [])
 (.seq (.cond (.t 9)
   .skip
   (.exit 0))
 (.seq (.blk 1 none
   (.seq (.reg none [⟨some 10, .mv (.t 8), none⟩,
      ⟨some 5, .mv (.t 10), none⟩] [])
   (.seq (.reg none [⟨some 11, .mv (.t 1), none⟩,
      ⟨some 12, .mv (.t 0), none⟩,
      ⟨some 13, .mv (.t 5), none⟩,
      ⟨some 14, .iaddr 1 (.t 12) (.t 13), none⟩,
      ⟨some 15, .load1 (.t 14), none⟩,
      ⟨some 16, .bin .eql (.t 11) (.t 15), none⟩] [])
   (.cond (.t 16)
    (.seq (.reg none [⟨some 17, .mv (.t 5), none⟩,
       ⟨some 4, .mv (.t 17), none⟩] [])
    .ret)
    .skip))))
 (.reg none [⟨some 18, .bin .add (.t 8) (.c (.d (.int .i64 1))), none⟩,
   ⟨some 8, .mv (.t 18), none⟩] []))))
def f247l0 : PC := .loop [0, 1, 7, 8] [] f247b0
/-- slices.Index[[]string,string] -/
def f247 : PFn := ⟨2, 19, [.t 4], true,
 (.seq (.reg none [⟨some 4, .mv (.c (.d (.int .i64 0))), none⟩] [])
 (.seq (.seq (.reg none [⟨some 6, .mv (.t 0), none⟩,
     ⟨some 7, .lenL (.t 6), none⟩,
     ⟨some 8, .mv (.c (.d (.int .i64 0))), none⟩] [])
  (.blk 0 (some [])
   f247l0))
 (.seq (.reg none [⟨some 4, .mv (.c (.d (.int .i64 (-1)))), none⟩] [])
 .ret)))⟩
/-- orchestrator/schema.element -/
def f248 : PFn := ⟨3, 28, [.cn 6 4], false,
 (.seq (.reg none [⟨some 3, .box 27 (.t 0), none⟩,
    ⟨some 5, .box 59 (.t 2), none⟩,
    ⟨some 6, .alloc 239 [(.d (.int .i64 0)), (.d (.str [])), (.d (.int .i64 0)), (.d (.str []))], none⟩] [])
 (.seq (.seq (.reg none [⟨some 10, .loadn 5 (.t 5), none⟩,
     ⟨some 11, .faddr 4 (.t 3), none⟩,
     ⟨some 12, .load1 (.t 11), none⟩,
     ⟨some 13, .call 249 [(.t 10), (.t 12)], none⟩,
     ⟨some 9, .mv (.t 13), none⟩,
     ⟨some 14, .ext (.t 9) 0, none⟩,
     ⟨some 15, .ext (.t 9) 1, none⟩,
     ⟨some 7, .mv (.t 14), none⟩,
     ⟨some 8, .mv (.t 15), none⟩] [])
  (.seq (.reg none [⟨some 16, .mv (.t 8), none⟩,
     ⟨some 17, .mv (.t 16), none⟩,
     ⟨some 18, .faddr 4 (.t 3), some (17, true)⟩,
     ⟨some 19, .load1 (.t 18), some (17, true)⟩,
     ⟨some 20, .bin .neq (.t 19) (.c (.d (.str []))), some (17, true)⟩,
     ⟨some 21, .pick (.t 17) (.t 20) (.c (.d (.bool false))), none⟩] [])
  (.cond (.t 21)
   (.seq (.reg none [⟨some 22, .faddr 4 (.t 3), none⟩,
      ⟨some 23, .load1 (.t 22), none⟩,
      ⟨some 24, .mv (.t 7), none⟩,
      ⟨some 25, .build [(.d (.int .i64 0)), (.d (.str [])), (.d (.int .i64 0)), (.d (.str []))] [(0, 1, (.c (.d (.int .i64 3)))), (1, 1, (.t 23)), (3, 1, (.t 24))], none⟩,
      ⟨none, .store 4 (.t 6) (.t 25), none⟩] [])
   .ret)
   .skip)))
 (.seq (.reg none [⟨some 26, .mv (.t 1), none⟩,
    ⟨some 27, .build [(.d (.int .i64 0)), (.d (.str [])), (.d (.int .i64 0)), (.d (.str []))] [(0, 1, (.c (.d (.int .i64 2)))), (2, 1, (.t 26))], none⟩,
    ⟨none, .store 4 (.t 6) (.t 27), none⟩] [])
 .ret)))⟩
/-- orchestrator/schema.key -/
def f249 : PFn := ⟨2, 22, [.t 4, .t 5], false,
 (.seq (.reg none [⟨some 2, .box 59 (.t 0), none⟩,
    ⟨some 4, .mv (.c (.d (.str []))), none⟩,
    ⟨some 5, .mv (.c (.d (.bool false))), none⟩] [])
 (.seq (.reg none [⟨some 9, .loadn 5 (.t 2), none⟩,
    ⟨some 10, .mv (.t 1), none⟩,
    ⟨some 11, .call 125 [(.t 9), (.t 10)], none⟩,
    ⟨some 8, .mv (.t 11), none⟩,
    ⟨some 12, .ext (.t 8) 0, none⟩,
    ⟨some 13, .ext (.t 8) 1, none⟩,
    ⟨some 6, .alloc 59 [(.d (.int .i64 0)), (.d (.int .i64 0)), (.d (.str [])), .nil, .nil], none⟩,
    ⟨none, .store 5 (.t 6) (.t 12), none⟩,
    ⟨some 7, .mv (.t 13), none⟩] [])
 (.seq (.reg (some []) [⟨some 14, .faddr 2 (.t 6), none⟩,
    ⟨some 15, .load1 (.t 14), none⟩,
    ⟨some 16, .mv (.t 7), none⟩,
    ⟨some 17, .mv (.t 16), none⟩,
    ⟨some 18, .faddr 0 (.t 6), some (17, true)⟩,
    ⟨some 19, .load1 (.t 18), some (17, true)⟩,
    ⟨some 20, .bin .eql (.t 19) (.c (.d (.int .i64 3))), some (17, true)⟩,
    ⟨some 21, .pick (.t 17) (.t 20) (.c (.d (.bool false))), none⟩,
    ⟨some 4, .mv (.t 15), none⟩,
    ⟨some 5, .mv (.t 21), none⟩] [])
 .ret)))⟩
/-- slices.Clip[[]orchestrator/api.Step,orchestrator/api.Step] -/
def f250 : PFn := ⟨1, 9, [.t 2], true,
 (.seq (.reg none [⟨some 2, .mv (.c .nil), none⟩] [])
 (.seq (.reg none [⟨some 3, .mv (.t 0), none⟩,
    ⟨some 4, .mv (.t 0), none⟩,
    ⟨some 5, .lenL (.t 4), none⟩,
    ⟨some 6, .mv (.t 0), none⟩,
    ⟨some 7, .lenL (.t 6), none⟩,
    ⟨some 8, .slc 4 (.t 3) none (some (.t 5)) (some (.t 7)), none⟩,
    ⟨some 2, .mv (.t 8), none⟩] [])
 .ret))⟩
/-- orchestrator/schema.present -/
def f252 : PFn := ⟨2, 21, [.cn 4 5, .t 5], false,
 (.seq (.reg none [⟨some 2, .box 59 (.t 0), none⟩,
    ⟨some 4, .alloc 59 [(.d (.int .i64 0)), (.d (.int .i64 0)), (.d (.str [])), .nil, .nil], none⟩,
    ⟨some 5, .mv (.c (.d (.bool false))), none⟩] [])
 (.seq (.reg none [⟨some 9, .loadn 5 (.t 2), none⟩,
    ⟨some 10, .mv (.t 1), none⟩,
    ⟨some 11, .call 125 [(.t 9), (.t 10)], none⟩,
    ⟨some 8, .mv (.t 11), none⟩,
    ⟨some 12, .ext (.t 8) 0, none⟩,
    ⟨some 13, .ext (.t 8) 1, none⟩,
    ⟨some 6, .alloc 59 [(.d (.int .i64 0)), (.d (.int .i64 0)), (.d (.str [])), .nil, .nil], none⟩,
    ⟨none, .store 5 (.t 6) (.t 12), none⟩,
    ⟨some 7, .mv (.t 13), none⟩] [])
 (.seq (.reg (some [(4, 7)]) [⟨some 14, .loadn 5 (.t 6), none⟩,
    ⟨some 15, .mv (.t 7), none⟩,
    ⟨some 16, .mv (.t 15), none⟩,
    ⟨some 17, .faddr 0 (.t 6), some (16, true)⟩,
    ⟨some 18, .load1 (.t 17), some (16, true)⟩,
    ⟨some 19, .bin .neq (.t 18) (.c (.d (.int .i64 0))), some (16, true)⟩,
    ⟨some 20, .pick (.t 16) (.t 19) (.c (.d (.bool false))), none⟩,
    ⟨none, .store 5 (.t 4) (.t 14), none⟩,
    ⟨some 5, .mv (.t 20), none⟩] [])
 .ret)))⟩
def f274b0 : PC :=
 (.seq (.seq (.reg none [⟨some 18, .mv (.t 10), none⟩,
     ⟨some 19, .mv (.t 11), none⟩,
     ⟨some 20, .bin .neq (.t 18) (.t 19), none⟩] [])
  (.cond (.t 20)
   .skip
   (.exit 0)))
 (.blk 1 none
  (.seq (.reg none [⟨some 21, .mv (.t 10), none⟩,
     ⟨some 22, .mv (.t 11), none⟩,
     ⟨some 23, .bin .gtr (.t 21) (.t 22), none⟩] [])
  (.cond (.t 23)
   (.seq (.reg none [⟨some 24, .mv (.t 0), none⟩,
      ⟨some 25, .mv (.t 2), none⟩,
      ⟨some 26, .mv (.t 10), none⟩,
      ⟨some 27, .bin .sub (.t 25) (.t 26), none⟩,
      ⟨some 28, .mv (.t 2), none⟩,
      ⟨some 29, .mv (.t 11), none⟩,
      ⟨some 30, .mv (.t 4), none⟩,
      ⟨some 31, .call 281 [(.t 24), (.t 27), (.t 28), (.t 29), (.t 30)], none⟩] [])
   (.reg none [⟨some 32, .mv (.t 10), none⟩,
     ⟨some 33, .mv (.t 11), none⟩,
     ⟨some 34, .bin .sub (.t 32) (.t 33), none⟩,
     ⟨some 10, .mv (.t 34), none⟩] []))
   (.seq (.reg none [⟨some 35, .mv (.t 0), none⟩,
      ⟨some 36, .mv (.t 2), none⟩,
      ⟨some 37, .mv (.t 10), none⟩,
      ⟨some 38, .bin .sub (.t 36) (.t 37), none⟩,
      ⟨some 39, .mv (.t 2), none⟩,
      ⟨some 40, .mv (.t 11), none⟩,
      ⟨some 41, .bin .add (.t 39) (.t 40), none⟩,
      ⟨some 42, .mv (.t 10), none⟩,
      ⟨some 43, .bin .sub (.t 41) (.t 42), none⟩,
      ⟨some 44, .mv (.t 10), none⟩,
      ⟨some 45, .mv (.t 4), none⟩,
      ⟨some 46, .call 281 [(.t 35), (.t 38), (.t 43), (.t 44), (.t 45)], none⟩] [])
   (.reg none [⟨some 47, .mv (.t 11), none⟩,
     ⟨some 48, .mv (.t 10), none⟩,
     ⟨some 49, .bin .sub (.t 47) (.t 48), none⟩,
     ⟨some 11, .mv (.t 49), none⟩] []))))))
def f274l0 : PC := .loop [0, 2, 4, 10, 11] [] f274b0
/-- slices.rotateCmpFunc[orchestrator/api.Field] -/
def f274 : PFn := ⟨5, 58, [], true,
 (.seq (.reg none [⟨some 12, .mv (.t 2), none⟩,
    ⟨some 13, .mv (.t 1), none⟩,
    ⟨some 14, .bin .sub (.t 12) (.t 13), none⟩,
    ⟨some 10, .mv (.t 14), none⟩] [])
 (.seq (.reg none [⟨some 15, .mv (.t 3), none⟩,
    ⟨some 16, .mv (.t 2), none⟩,
    ⟨some 17, .bin .sub (.t 15) (.t 16), none⟩,
    ⟨some 11, .mv (.t 17), none⟩] [])
 (.seq (.blk 0 (some [0, 2, 4, 10])
   f274l0)
 (.reg none [⟨some 50, .mv (.t 0), none⟩,
   ⟨some 51, .mv (.t 2), none⟩,
   ⟨some 52, .mv (.t 10), none⟩,
   ⟨some 53, .bin .sub (.t 51) (.t 52), none⟩,
   ⟨some 54, .mv (.t 2), none⟩,
   ⟨some 55, .mv (.t 10), none⟩,
   ⟨some 56, .mv (.t 4), none⟩,
   ⟨some 57, .call 281 [(.t 50), (.t 53), (.t 54), (.t 55), (.t 56)], none⟩] []))))⟩
/-- strconv.Atoi -/
def f275 : PFn := ⟨1, 18, [.t 2, .t 3], false,
 (.seq (.reg none [⟨some 2, .mv (.c (.d (.int .i64 0))), none⟩,
    ⟨some 3, .mv (.c .nili), none⟩] [])
 (.seq (.reg none [⟨some 7, .mv (.t 0), none⟩,
    ⟨some 8, .call 282 [(.t 7)], none⟩,
    ⟨some 6, .mv (.t 8), none⟩,
    ⟨some 9, .ext (.t 6) 0, none⟩,
    ⟨some 10, .ext (.t 6) 1, none⟩,
    ⟨some 4, .mv (.t 9), none⟩,
    ⟨some 5, .mv (.t 10), none⟩] [])
 (.seq (.seq .bad
  (.cond (.t 12)
   (.seq (.reg none [⟨some 13, .mv (.t 4), none⟩,
      ⟨some 14, .mv (.t 0), none⟩,
      ⟨some 15, .mv (.t 5), none⟩,
      ⟨some 16, .call 283 [(.c (.d (.str [65, 116, 111, 105]))), (.t 14), (.c (.d (.int .i64 0))), (.c (.d (.int .i64 0))), (.t 15)], none⟩,
      ⟨some 2, .mv (.t 13), none⟩,
      ⟨some 3, .mv (.t 16), none⟩] [])
   .ret)
   .skip))
 (.seq (.reg none [⟨some 17, .mv (.t 4), none⟩,
    ⟨some 2, .mv (.t 17), none⟩,
    ⟨some 3, .mv (.c .nili), none⟩] [])
 .ret))))⟩
/-- (*strings.Builder).String -/
def f273 : PFn := ⟨1, 14, [.t 2], false,
 (.seq (.reg none [⟨some 2, .mv (.c (.d (.str []))), none⟩] [])
 (.seq (.reg (some []) [⟨some 3, .mv (.t 0), none⟩,
    ⟨some 4, .nilc (.t 3), none⟩,
    ⟨some 5, .faddr 1 (.t 4), none⟩,
    ⟨some 6, .load1 (.t 5), none⟩,
    ⟨some 7, .usd (.t 6), none⟩,
    ⟨some 8, .mv (.t 0), none⟩,
    ⟨some 9, .nilc (.t 8), none⟩,
    ⟨some 10, .faddr 1 (.t 9), none⟩,
    ⟨some 11, .load1 (.t 10), none⟩,
    ⟨some 12, .lenL (.t 11), none⟩,
    ⟨some 13, .ustr 5 (.t 7) (.t 12), none⟩,
    ⟨some 2, .mv (.t 13), none⟩] [])
 .ret))⟩
/-- (*strings.Builder).WriteByte -/
def f269 : PFn := ⟨2, 17, [.t 4], false,
 (.seq (.reg none [⟨some 4, .mv (.c .nili), none⟩] [])
 (.seq (.reg none [⟨some 5, .mv (.t 0), none⟩,
    ⟨some 6, .call 278 [(.t 5)], none⟩] [])
 (.seq (.reg none [⟨some 7, .mv (.t 0), none⟩,
    ⟨some 8, .mv (.t 0), none⟩,
    ⟨some 9, .nilc (.t 8), none⟩,
    ⟨some 10, .faddr 1 (.t 9), none⟩,
    ⟨some 11, .load1 (.t 10), none⟩,
    ⟨some 12, .mv (.t 1), none⟩,
    ⟨some 13, .lits 5 1 1 [(.int .u8 0)] 1 [(0, (.t 12))], none⟩,
    ⟨some 14, .app 5 1 1 (.t 11) (.t 13), none⟩,
    ⟨some 15, .nilc (.t 7), none⟩,
    ⟨some 16, .faddr 1 (.t 15), none⟩,
    ⟨none, .store 1 (.t 16) (.t 14), none⟩] [])
 (.seq (.reg none [⟨some 4, .mv (.c .nili), none⟩] [])
 .ret))))⟩
/-- orchestrator/path.validStep -/
def f263 : PFn := ⟨1, 56, [.t 2], false,
 (.seq (.reg none [⟨some 1, .box 239 (.t 0), none⟩,
    ⟨some 2, .mv (.c (.d (.bool false))), none⟩] [])
 (.seq (.seq (.reg none [⟨some 3, .faddr 0 (.t 1), none⟩,
     ⟨some 4, .load1 (.t 3), none⟩] [])
  (.blk 0 none
   (.seq (.reg none [⟨some 6, .bin .eql (.t 4) (.c (.d (.int .i64 1))), none⟩,
      ⟨some 5, .mv (.t 6), none⟩] [])
   (.cond (.t 5)
    (.seq (.reg none [⟨some 7, .faddr 1 (.t 1), none⟩,
       ⟨some 8, .load1 (.t 7), none⟩,
       ⟨some 9, .call 276 [(.t 8)], none⟩,
       ⟨some 10, .mv (.t 9), none⟩,
       ⟨some 11, .faddr 2 (.t 1), some (10, true)⟩,
       ⟨some 12, .load1 (.t 11), some (10, true)⟩,
       ⟨some 13, .bin .eql (.t 12) (.c (.d (.int .i64 0))), some (10, true)⟩,
       ⟨some 14, .pick (.t 10) (.t 13) (.c (.d (.bool false))), none⟩,
       ⟨some 15, .mv (.t 14), none⟩,
       ⟨some 16, .faddr 3 (.t 1), some (15, true)⟩,
       ⟨some 17, .load1 (.t 16), some (15, true)⟩,
       ⟨some 18, .bin .eql (.t 17) (.c (.d (.str []))), some (15, true)⟩,
       ⟨some 19, .pick (.t 15) (.t 18) (.c (.d (.bool false))), none⟩,
       ⟨some 2, .mv (.t 19), none⟩] [])
    .ret)
    (.seq (.reg none [⟨some 21, .bin .eql (.t 4) (.c (.d (.int .i64 2))), none⟩,
       ⟨some 20, .mv (.t 21), none⟩] [])
    (.cond (.t 20)
     (.seq (.reg none [⟨some 22, .faddr 2 (.t 1), none⟩,
        ⟨some 23, .load1 (.t 22), none⟩,
        ⟨some 24, .bin .geq (.t 23) (.c (.d (.int .i64 0))), none⟩,
        ⟨some 25, .mv (.t 24), none⟩,
        ⟨some 26, .faddr 2 (.t 1), some (25, true)⟩,
        ⟨some 27, .load1 (.t 26), some (25, true)⟩,
        ⟨some 28, .bin .leq (.t 27) (.c (.d (.int .i64 64))), some (25, true)⟩,
        ⟨some 29, .pick (.t 25) (.t 28) (.c (.d (.bool false))), none⟩,
        ⟨some 30, .mv (.t 29), none⟩,
        ⟨some 31, .faddr 1 (.t 1), some (30, true)⟩,
        ⟨some 32, .load1 (.t 31), some (30, true)⟩,
        ⟨some 33, .bin .eql (.t 32) (.c (.d (.str []))), some (30, true)⟩,
        ⟨some 34, .pick (.t 30) (.t 33) (.c (.d (.bool false))), none⟩,
        ⟨some 35, .mv (.t 34), none⟩,
        ⟨some 36, .faddr 3 (.t 1), some (35, true)⟩,
        ⟨some 37, .load1 (.t 36), some (35, true)⟩,
        ⟨some 38, .bin .eql (.t 37) (.c (.d (.str []))), some (35, true)⟩,
        ⟨some 39, .pick (.t 35) (.t 38) (.c (.d (.bool false))), none⟩,
        ⟨some 2, .mv (.t 39), none⟩] [])
     .ret)
     (.seq (.reg none [⟨some 41, .bin .eql (.t 4) (.c (.d (.int .i64 3))), none⟩,
        ⟨some 40, .mv (.t 41), none⟩] [])
     (.cond (.t 40)
      (.seq (.reg none [⟨some 42, .faddr 1 (.t 1), none⟩,
         ⟨some 43, .load1 (.t 42), none⟩,
         ⟨some 44, .call 276 [(.t 43)], none⟩,
         ⟨some 45, .mv (.t 44), none⟩,
         ⟨some 46, .faddr 2 (.t 1), some (45, true)⟩,
         ⟨some 47, .load1 (.t 46), some (45, true)⟩,
         ⟨some 48, .bin .eql (.t 47) (.c (.d (.int .i64 0))), some (45, true)⟩,
         ⟨some 49, .pick (.t 45) (.t 48) (.c (.d (.bool false))), none⟩,
         ⟨some 50, .mv (.t 49), none⟩,
         ⟨some 51, .faddr 3 (.t 1), some (50, true)⟩,
         ⟨some 52, .load1 (.t 51), some (50, true)⟩,
         ⟨some 53, .call 220 [(.t 52)], some (50, true)⟩,
         ⟨some 54, .call 120 [(.t 53)], some (50, true)⟩,
         ⟨some 55, .pick (.t 50) (.t 54) (.c (.d (.bool false))), none⟩,
         ⟨some 2, .mv (.t 55), none⟩] [])
      .ret)
      .skip))))))))
 (.seq (.reg none [⟨some 2, .mv (.c (.d (.bool false))), none⟩] [])
 .ret)))⟩
/-- slices.order2CmpFunc[orchestrator/api.SchemaField] -/
def f277 : PFn := ⟨5, 32, [.t 10, .t 11], true,
 (.seq (.reg none [⟨some 10, .mv (.c (.d (.int .i64 0))), none⟩,
    ⟨some 11, .mv (.c (.d (.int .i64 0))), none⟩] [])
 (.seq (.seq (.reg (some []) [⟨some 12, .mv (.t 4), none⟩,
     ⟨some 13, .mv (.t 0), none⟩,
     ⟨some 14, .mv (.t 2), none⟩,
     ⟨some 15, .iaddr 11 (.t 13) (.t 14), none⟩,
     ⟨some 16, .loadn 11 (.t 15), none⟩,
     ⟨some 17, .mv (.t 0), none⟩,
     ⟨some 18, .mv (.t 1), none⟩,
     ⟨some 19, .iaddr 11 (.t 17) (.t 18), none⟩,
     ⟨some 20, .loadn 11 (.t 19), none⟩,
     ⟨some 21, .callv (.t 12) [(.t 16), (.t 20)], none⟩,
     ⟨some 22, .bin .lss (.t 21) (.c (.d (.int .i64 0))), none⟩] [])
  (.cond (.t 22)
   (.seq (.reg none [⟨some 23, .mv (.t 3), none⟩,
      ⟨some 24, .nilc (.t 23), none⟩,
      ⟨some 25, .load1 (.t 24), none⟩,
      ⟨some 26, .bin .add (.t 25) (.c (.d (.int .i64 1))), none⟩,
      ⟨some 27, .nilc (.t 23), none⟩,
      ⟨none, .store 1 (.t 27) (.t 26), none⟩] [])
   (.seq (.reg none [⟨some 28, .mv (.t 2), none⟩,
      ⟨some 29, .mv (.t 1), none⟩,
      ⟨some 10, .mv (.t 28), none⟩,
      ⟨some 11, .mv (.t 29), none⟩] [])
   .ret))
   .skip))
 (.seq (.reg none [⟨some 30, .mv (.t 1), none⟩,
    ⟨some 31, .mv (.t 2), none⟩,
    ⟨some 10, .mv (.t 30), none⟩,
    ⟨some 11, .mv (.t 31), none⟩] [])
 .ret)))⟩
/-- (*strings.Builder).WriteString -/
def f270 : PFn := ⟨2, 19, [.t 4, .t 5], false,
 (.seq (.reg none [⟨some 4, .mv (.c (.d (.int .i64 0))), none⟩,
    ⟨some 5, .mv (.c .nili), none⟩] [])
 (.seq (.reg none [⟨some 6, .mv (.t 0), none⟩,
    ⟨some 7, .call 278 [(.t 6)], none⟩] [])
 (.seq (.reg none [⟨some 8, .mv (.t 0), none⟩,
    ⟨some 9, .mv (.t 0), none⟩,
    ⟨some 10, .nilc (.t 9), none⟩,
    ⟨some 11, .faddr 1 (.t 10), none⟩,
    ⟨some 12, .load1 (.t 11), none⟩,
    ⟨some 13, .mv (.t 1), none⟩,
    ⟨some 14, .app 5 1 1 (.t 12) (.t 13), none⟩,
    ⟨some 15, .nilc (.t 8), none⟩,
    ⟨some 16, .faddr 1 (.t 15), none⟩,
    ⟨none, .store 1 (.t 16) (.t 14), none⟩] [])
 (.seq (.reg none [⟨some 17, .mv (.t 1), none⟩,
    ⟨some 18, .lenS (.t 17), none⟩,
    ⟨some 4, .mv (.t 18), none⟩,
    ⟨some 5, .mv (.c .nili), none⟩] [])
 .ret))))⟩
/-- strconv.Itoa -/
def f271 : PFn := ⟨1, 5, [.t 2], false,
 (.seq (.reg none [⟨some 2, .mv (.c (.d (.str []))), none⟩] [])
 (.seq (.reg none [⟨some 3, .mv (.t 0), none⟩,
    ⟨some 4, .call 279 [(.t 3)], none⟩,
    ⟨some 2, .mv (.t 4), none⟩] [])
 .ret))⟩
def f272b0 : PC :=
 (.seq (.reg none [⟨some 9, .nxt (.t 8), none⟩,
    ⟨some 10, .ext (.t 9) 0, none⟩] [])
 (.seq (.cond (.t 10)
   .skip
   (.exit 0))
 (.blk 1 none
  (.seq (.reg none [⟨some 11, .ext (.t 9) 2, none⟩,
     ⟨some 5, .mv (.t 11), none⟩] [])
  (.seq (.reg none [⟨some 12, .mv (.t 5), none⟩] [])
  (.blk 2 none
   (.seq (.seq (.reg none [⟨some 16, .bin .eql (.t 12) (.c (.d (.int .i32 34))), none⟩,
       ⟨some 15, .mv (.t 16), none⟩] [])
    (.cond (.t 15)
     .skip
     (.reg none [⟨some 17, .bin .eql (.t 12) (.c (.d (.int .i32 92))), none⟩,
       ⟨some 15, .mv (.t 17), none⟩] [])))
   (.cond (.t 15)
    (.seq (.reg none [⟨some 18, .call 269 [(.t 3), (.c (.d (.int .u8 92)))], none⟩] [])
    (.reg none [⟨some 19, .mv (.t 5), none⟩,
      ⟨some 20, .call 280 [(.t 3), (.t 19)], none⟩] []))
    (.seq (.reg none [⟨some 22, .bin .eql (.t 12) (.c (.d (.int .i32 10))), none⟩,
       ⟨some 21, .mv (.t 22), none⟩] [])
    (.cond (.t 21)
     (.reg none [⟨some 23, .call 270 [(.t 3), (.c (.d (.str [92, 110])))], none⟩] [])
     (.reg none [⟨some 13, .mv (.t 5), none⟩,
       ⟨some 14, .call 280 [(.t 3), (.t 13)], none⟩] [])))))))))))
def f272l0 : PC := .loop [3, 8] [] f272b0
/-- orchestrator/path.quote -/
def f272 : PFn := ⟨1, 26, [.t 2], false,
 (.seq (.reg none [⟨some 2, .mv (.c (.d (.str []))), none⟩] [])
 (.seq (.reg none [⟨some 3, .alloc 304 [(.d .nilp), .nil], none⟩] [])
 (.seq (.reg none [⟨some 6, .call 269 [(.t 3), (.c (.d (.int .u8 34)))], none⟩] [])
 (.seq (.seq (.reg none [⟨some 7, .mv (.t 0), none⟩,
     ⟨some 8, .rng (.t 7), none⟩] [])
  (.blk 0 (some [3])
   f272l0))
 (.seq (.reg none [⟨some 24, .call 269 [(.t 3), (.c (.d (.int .u8 34)))], none⟩] [])
 (.seq (.reg none [⟨some 25, .call 273 [(.t 3)], none⟩,
    ⟨some 2, .mv (.t 25), none⟩] [])
 .ret))))))⟩
def f281b0 : PC :=
 (.seq (.seq (.reg none [⟨some 11, .mv (.t 10), none⟩,
     ⟨some 12, .mv (.t 3), none⟩,
     ⟨some 13, .bin .lss (.t 11) (.t 12), none⟩] [])
  (.cond (.t 13)
   .skip
   (.exit 0)))
 (.seq (.blk 1 none
   (.reg (some []) [⟨some 16, .mv (.t 0), none⟩,
     ⟨some 17, .mv (.t 1), none⟩,
     ⟨some 18, .mv (.t 10), none⟩,
     ⟨some 19, .bin .add (.t 17) (.t 18), none⟩,
     ⟨some 20, .mv (.t 0), none⟩,
     ⟨some 21, .mv (.t 2), none⟩,
     ⟨some 22, .mv (.t 10), none⟩,
     ⟨some 23, .bin .add (.t 21) (.t 22), none⟩,
     ⟨some 24, .mv (.t 0), none⟩,
     ⟨some 25, .mv (.t 2), none⟩,
     ⟨some 26, .mv (.t 10), none⟩,
     ⟨some 27, .bin .add (.t 25) (.t 26), none⟩,
     ⟨some 28, .iaddr 6 (.t 24) (.t 27), none⟩,
     ⟨some 29, .loadn 6 (.t 28), none⟩,
     ⟨some 30, .mv (.t 0), none⟩,
     ⟨some 31, .mv (.t 1), none⟩,
     ⟨some 32, .mv (.t 10), none⟩,
     ⟨some 33, .bin .add (.t 31) (.t 32), none⟩,
     ⟨some 34, .iaddr 6 (.t 30) (.t 33), none⟩,
     ⟨some 35, .loadn 6 (.t 34), none⟩,
     ⟨some 36, .iaddr 6 (.t 16) (.t 19), none⟩,
     ⟨none, .store 6 (.t 36) (.t 29), none⟩,
     ⟨some 37, .iaddr 6 (.t 20) (.t 23), none⟩,
     ⟨none, .store 6 (.t 37) (.t 35), none⟩] []))
 (.reg none [⟨some 14, .mv (.t 10), none⟩,
   ⟨some 15, .bin .add (.t 14) (.c (.d (.int .i64 1))), none⟩,
   ⟨some 10, .mv (.t 15), none⟩] [])))
def f281l0 : PC := .loop [0, 1, 2, 3, 10] [] f281b0
/-- slices.swapRangeCmpFunc[orchestrator/api.Field] -/
def f281 : PFn := ⟨5, 38, [], true,
 (.seq (.reg none [⟨some 10, .mv (.c (.d (.int .i64 0))), none⟩] [])
 (.blk 0 (some [])
  f281l0))⟩
def f282b0 : PC :=
 (.seq (.reg none [⟨some 50, .bin .lss (.t 49) (.t 48), none⟩] [])
 (.seq (.cond (.t 50)
   .skip
   (.exit 0))
 (.seq (.blk 1 none
   (.seq (.reg none [⟨some 51, .iaddr 1 (.t 47) (.t 49), none⟩,
      ⟨some 52, .load1 (.t 51), none⟩,
      ⟨some 8, .mv (.t 52), none⟩] [])
   (.seq (.reg none [⟨some 53, .mv (.t 8), none⟩,
      ⟨some 54, .bin .sub (.t 53) (.c (.d (.int .u8 48))), none⟩,
      ⟨some 8, .mv (.t 54), none⟩] [])
   (.seq (.seq (.reg none [⟨some 55, .mv (.t 8), none⟩,
       ⟨some 56, .bin .gtr (.t 55) (.c (.d (.int .u8 9))), none⟩] [])
    (.cond (.t 56)
     (.seq .bad
     .ret)
     .skip))
   (.reg none [⟨some 58, .mv (.t 6), none⟩,
     ⟨some 59, .bin .mul (.t 58) (.c (.d (.int .i64 10))), none⟩,
     ⟨some 60, .mv (.t 8), none⟩,
     ⟨some 61, .conv .i64 (.t 60), none⟩,
     ⟨some 62, .bin .add (.t 59) (.t 61), none⟩,
     ⟨some 6, .mv (.t 62), none⟩] [])))))
 (.reg none [⟨some 63, .bin .add (.t 49) (.c (.d (.int .i64 1))), none⟩,
   ⟨some 49, .mv (.t 63), none⟩] []))))
def f282l0 : PC := .loop [2, 3, 5, 6, 47, 48, 49] [] f282b0
/-- internal/strconv.Atoi -/
def f282 : PFn := ⟨1, 77, [.t 2, .t 3], false,
 (.seq (.reg none [⟨some 2, .mv (.c (.d (.int .i64 0))), none⟩,
    ⟨some 3, .mv (.c .nili), none⟩] [])
 (.seq (.reg none [⟨some 11, .mv (.t 0), none⟩,
    ⟨some 12, .lenS (.t 11), none⟩,
    ⟨some 4, .mv (.t 12), none⟩] [])
 (.seq (.seq (.reg none [⟨some 13, .mv (.c (.d (.bool false))), none⟩,
     ⟨some 14, .mv (.t 4), some (13, true)⟩,
     ⟨some 15, .bin .lss (.c (.d (.int .i64 0))) (.t 14), some (13, true)⟩,
     ⟨some 16, .mv (.t 15), some (13, true)⟩,
     ⟨some 17, .mv (.t 4), some (16, true)⟩,
     ⟨some 18, .bin .lss (.t 17) (.c (.d (.int .i64 10))), some (16, true)⟩,
     ⟨some 19, .pick (.t 16) (.t 18) (.c (.d (.bool false))), some (13, true)⟩,
     ⟨some 20, .pick (.t 13) (.t 19) (.c (.d (.bool false))), none⟩,
     ⟨some 21, .mv (.t 20), none⟩,
     ⟨some 22, .mv (.c (.d (.bool true))), some (21, false)⟩,
     ⟨some 23, .mv (.t 4), some (22, true)⟩,
     ⟨some 24, .bin .lss (.c (.d (.int .i64 0))) (.t 23), some (22, true)⟩,
     ⟨some 25, .mv (.t 24), some (22, true)⟩,
     ⟨some 26, .mv (.t 4), some (25, true)⟩,
     ⟨some 27, .bin .lss (.t 26) (.c (.d (.int .i64 19))), some (25, true)⟩,
     ⟨some 28, .pick (.t 25) (.t 27) (.c (.d (.bool false))), some (22, true)⟩,
     ⟨some 29, .pick (.t 22) (.t 28) (.c (.d (.bool false))), some (21, false)⟩,
     ⟨some 30, .pick (.t 21) (.c (.d (.bool true))) (.t 29), none⟩] [])
  (.cond (.t 30)
   (.seq (.reg none [⟨some 31, .mv (.t 0), none⟩,
      ⟨some 5, .mv (.t 31), none⟩] [])
   (.seq (.seq (.reg none [⟨some 32, .mv (.t 0), none⟩,
       ⟨some 33, .idx (.t 32) (.c (.d (.int .i64 0))), none⟩,
       ⟨some 34, .bin .eql (.t 33) (.c (.d (.int .u8 45))), none⟩,
       ⟨some 35, .mv (.t 34), none⟩,
       ⟨some 36, .mv (.t 0), some (35, false)⟩,
       ⟨some 37, .idx (.t 36) (.c (.d (.int .i64 0))), some (35, false)⟩,
       ⟨some 38, .bin .eql (.t 37) (.c (.d (.int .u8 43))), some (35, false)⟩,
       ⟨some 39, .pick (.t 35) (.c (.d (.bool true))) (.t 38), none⟩] [])
    (.cond (.t 39)
     (.seq (.reg none [⟨some 40, .mv (.t 0), none⟩,
        ⟨some 41, .sstr (.t 40) (some (.c (.d (.int .i64 1)))) none, none⟩,
        ⟨some 0, .mv (.t 41), none⟩] [])
     (.seq (.reg none [⟨some 42, .mv (.t 0), none⟩,
        ⟨some 43, .lenS (.t 42), none⟩,
        ⟨some 44, .bin .lss (.t 43) (.c (.d (.int .i64 1))), none⟩] [])
     (.cond (.t 44)
      (.seq .bad
      .ret)
      .skip)))
     .skip))
   (.seq (.reg none [⟨some 6, .mv (.c (.d (.int .i64 0))), none⟩] [])
   (.seq (.seq .bad
    (.blk 0 (some [5, 6])
     f282l0))
   (.seq (.seq (.reg none [⟨some 64, .mv (.t 5), none⟩,
       ⟨some 65, .idx (.t 64) (.c (.d (.int .i64 0))), none⟩,
       ⟨some 66, .bin .eql (.t 65) (.c (.d (.int .u8 45))), none⟩] [])
    (.cond (.t 66)
     (.reg none [⟨some 67, .mv (.t 6), none⟩,
       ⟨some 68, .un .neg (.t 67), none⟩,
       ⟨some 6, .mv (.t 68), none⟩] [])
     .skip))
   (.seq (.reg none [⟨some 69, .mv (.t 6), none⟩,
      ⟨some 2, .mv (.t 69), none⟩,
      ⟨some 3, .mv (.c .nili), none⟩] [])
   .ret))))))
   .skip))
 (.seq (.reg none [⟨some 71, .mv (.t 0), none⟩,
    ⟨some 72, .call 287 [(.t 71), (.c (.d (.int .i64 10))), (.c (.d (.int .i64 0)))], none⟩,
    ⟨some 70, .mv (.t 72), none⟩,
    ⟨some 73, .ext (.t 70) 0, none⟩,
    ⟨some 74, .ext (.t 70) 1, none⟩,
    ⟨some 9, .mv (.t 73), none⟩,
    ⟨some 10, .mv (.t 74), none⟩] [])
 (.seq (.reg none [⟨some 75, .mv (.t 9), none⟩,
    ⟨some 76, .mv (.t 10), none⟩,
    ⟨some 2, .mv (.t 75), none⟩,
    ⟨some 3, .mv (.t 76), none⟩] [])
 .ret)))))⟩
/-- strconv.toError -/
def f283 : PFn := ⟨5, 43, [.t 10], false,
 (.seq (.reg none [⟨some 10, .mv (.c .nili), none⟩] [])
 (.seq (.seq (.reg none [⟨some 11, .mv (.t 4), none⟩] [])
  (.blk 0 none
   (.seq .bad
   (.cond (.t 12)
    (.seq .bad
    .ret)
    (.seq .bad
    (.cond (.t 19)
     (.seq .bad
     .ret)
     (.seq .bad
     (.cond (.t 26)
      (.seq .bad
      .ret)
      (.seq .bad
      (.cond (.t 34)
       (.seq .bad
       .ret)
       .skip))))))))))
 (.seq (.reg none [⟨some 42, .mv (.t 4), none⟩,
    ⟨some 10, .mv (.t 42), none⟩] [])
 .ret)))⟩
/-- (*strings.Builder).copyCheck -/
def f278 : PFn := ⟨1, 20, [], false,
 (.seq (.reg none [⟨some 2, .mv (.t 0), none⟩,
    ⟨some 3, .nilc (.t 2), none⟩,
    ⟨some 4, .faddr 0 (.t 3), none⟩,
    ⟨some 5, .load1 (.t 4), none⟩,
    ⟨some 6, .peq false (.t 5) (.c (.d .nilp)), none⟩] [])
 (.cond (.t 6)
  (.reg none [⟨some 7, .mv (.t 0), none⟩,
    ⟨some 8, .mv (.t 0), none⟩,
    ⟨some 9, .p2u (.t 8), none⟩,
    ⟨some 10, .call 284 [(.t 9)], none⟩,
    ⟨some 11, .u2p 304 2 (.t 10), none⟩,
    ⟨some 12, .nilc (.t 7), none⟩,
    ⟨some 13, .faddr 0 (.t 12), none⟩,
    ⟨none, .store 1 (.t 13) (.t 11), none⟩] [])
  (.seq (.reg none [⟨some 14, .mv (.t 0), none⟩,
     ⟨some 15, .nilc (.t 14), none⟩,
     ⟨some 16, .faddr 0 (.t 15), none⟩,
     ⟨some 17, .load1 (.t 16), none⟩,
     ⟨some 18, .mv (.t 0), none⟩,
     ⟨some 19, .peq true (.t 17) (.t 18), none⟩] [])
  (.cond (.t 19)
   .bad
   .skip))))⟩
def f276b0 : PC :=
 (.seq (.reg none [⟨some 7, .nxt (.t 6), none⟩,
    ⟨some 8, .ext (.t 7) 0, none⟩] [])
 (.seq (.cond (.t 8)
   .skip
   (.exit 0))
 (.blk 1 none
  (.seq (.reg none [⟨some 9, .ext (.t 7) 2, none⟩,
     ⟨some 4, .mv (.t 9), none⟩] [])
  (.seq (.reg none [⟨some 10, .mv (.t 4), none⟩,
     ⟨some 11, .call 261 [(.t 10)], none⟩,
     ⟨some 12, .un .not (.t 11), none⟩] [])
  (.cond (.t 12)
   (.seq (.reg none [⟨some 2, .mv (.c (.d (.bool false))), none⟩] [])
   .ret)
   .skip))))))
def f276l0 : PC := .loop [0, 6] [] f276b0
/-- orchestrator/path.validName -/
def f276 : PFn := ⟨1, 20, [.t 2], false,
 (.seq (.reg none [⟨some 2, .mv (.c (.d (.bool false))), none⟩] [])
 (.seq (.seq (.reg none [⟨some 5, .mv (.t 0), none⟩,
     ⟨some 6, .rng (.t 5), none⟩] [])
  (.blk 0 (some [0])
   f276l0))
 (.seq (.reg none [⟨some 13, .mv (.t 0), none⟩,
    ⟨some 14, .bin .neq (.t 13) (.c (.d (.str []))), none⟩,
    ⟨some 15, .mv (.t 14), none⟩,
    ⟨some 16, .mv (.t 0), some (15, true)⟩,
    ⟨some 17, .lenS (.t 16), some (15, true)⟩,
    ⟨some 18, .bin .leq (.t 17) (.c (.d (.int .i64 40))), some (15, true)⟩,
    ⟨some 19, .pick (.t 15) (.t 18) (.c (.d (.bool false))), none⟩,
    ⟨some 2, .mv (.t 19), none⟩] [])
 .ret)))⟩
/-- internal/strconv.Itoa -/
def f279 : PFn := ⟨1, 5, [.t 2], false,
 (.seq (.reg none [⟨some 2, .mv (.c (.d (.str []))), none⟩] [])
 (.seq (.reg none [⟨some 3, .mv (.t 0), none⟩,
    ⟨some 4, .call 285 [(.t 3), (.c (.d (.int .i64 10)))], none⟩,
    ⟨some 2, .mv (.t 4), none⟩] [])
 .ret))⟩
/-- (*strings.Builder).WriteRune -/
def f280 : PFn := ⟨2, 30, [.t 4, .t 5], false,
 (.seq (.reg none [⟨some 4, .mv (.c (.d (.int .i64 0))), none⟩,
    ⟨some 5, .mv (.c .nili), none⟩] [])
 (.seq (.reg none [⟨some 7, .mv (.t 0), none⟩,
    ⟨some 8, .call 278 [(.t 7)], none⟩] [])
 (.seq (.reg none [⟨some 9, .mv (.t 0), none⟩,
    ⟨some 10, .nilc (.t 9), none⟩,
    ⟨some 11, .faddr 1 (.t 10), none⟩,
    ⟨some 12, .load1 (.t 11), none⟩,
    ⟨some 13, .lenL (.t 12), none⟩,
    ⟨some 6, .mv (.t 13), none⟩] [])
 (.seq (.reg none [⟨some 14, .mv (.t 0), none⟩,
    ⟨some 15, .mv (.t 0), none⟩,
    ⟨some 16, .nilc (.t 15), none⟩,
    ⟨some 17, .faddr 1 (.t 16), none⟩,
    ⟨some 18, .load1 (.t 17), none⟩,
    ⟨some 19, .mv (.t 1), none⟩,
    ⟨some 20, .call 286 [(.t 18), (.t 19)], none⟩,
    ⟨some 21, .nilc (.t 14), none⟩,
    ⟨some 22, .faddr 1 (.t 21), none⟩,
    ⟨none, .store 1 (.t 22) (.t 20), none⟩] [])
 (.seq (.reg none [⟨some 23, .mv (.t 0), none⟩,
    ⟨some 24, .nilc (.t 23), none⟩,
    ⟨some 25, .faddr 1 (.t 24), none⟩,
    ⟨some 26, .load1 (.t 25), none⟩,
    ⟨some 27, .lenL (.t 26), none⟩,
    ⟨some 28, .mv (.t 6), none⟩,
    ⟨some 29, .bin .sub (.t 27) (.t 28), none⟩,
    ⟨some 4, .mv (.t 29), none⟩,
    ⟨some 5, .mv (.c .nili), none⟩] [])
 .ret)))))⟩
/-- internal/strconv.ParseInt -/
def f287 : PFn := ⟨3, 73, [.t 6, .t 7], false,
 (.seq (.reg none [⟨some 6, .mv (.c (.d (.int .i64 0))), none⟩,
    ⟨some 7, .mv (.c .nili), none⟩] [])
 (.seq (.seq (.reg none [⟨some 12, .mv (.t 0), none⟩,
     ⟨some 13, .bin .eql (.t 12) (.c (.d (.str []))), none⟩] [])
  (.cond (.t 13)
   (.seq .bad
   .ret)
   .skip))
 (.seq (.reg none [⟨some 8, .mv (.c (.d (.bool false))), none⟩] [])
 (.seq (.seq (.reg none [⟨some 15, .mv (.t 0), none⟩,
     ⟨some 16, .idx (.t 15) (.c (.d (.int .i64 0))), none⟩] [])
  (.blk 0 none
   (.seq (.reg none [⟨some 18, .bin .eql (.t 16) (.c (.d (.int .u8 43))), none⟩,
      ⟨some 17, .mv (.t 18), none⟩] [])
   (.cond (.t 17)
    (.reg none [⟨some 19, .mv (.t 0), none⟩,
      ⟨some 20, .sstr (.t 19) (some (.c (.d (.int .i64 1)))) none, none⟩,
      ⟨some 0, .mv (.t 20), none⟩] [])
    (.seq (.reg none [⟨some 22, .bin .eql (.t 16) (.c (.d (.int .u8 45))), none⟩,
       ⟨some 21, .mv (.t 22), none⟩] [])
    (.cond (.t 21)
     (.seq (.reg none [⟨some 23, .mv (.t 0), none⟩,
        ⟨some 24, .sstr (.t 23) (some (.c (.d (.int .i64 1)))) none, none⟩,
        ⟨some 0, .mv (.t 24), none⟩] [])
     (.reg none [⟨some 8, .mv (.c (.d (.bool true))), none⟩] []))
     .skip))))))
 (.seq (.reg none [⟨some 9, .mv (.c (.d (.int .u64 0))), none⟩] [])
 (.seq (.reg none [⟨some 26, .mv (.t 0), none⟩,
    ⟨some 27, .mv (.t 1), none⟩,
    ⟨some 28, .mv (.t 2), none⟩,
    ⟨some 29, .call 297 [(.t 26), (.t 27), (.t 28)], none⟩,
    ⟨some 25, .mv (.t 29), none⟩,
    ⟨some 30, .ext (.t 25) 0, none⟩,
    ⟨some 31, .ext (.t 25) 1, none⟩,
    ⟨some 9, .mv (.t 30), none⟩,
    ⟨some 7, .mv (.t 31), none⟩] [])
 (.seq (.seq .bad
  (.cond (.t 38)
   (.seq (.reg none [⟨some 39, .mv (.t 7), none⟩,
      ⟨some 6, .mv (.c (.d (.int .i64 0))), none⟩,
      ⟨some 7, .mv (.t 39), none⟩] [])
   .ret)
   .skip))
 (.seq (.seq (.reg none [⟨some 40, .mv (.t 2), none⟩,
     ⟨some 41, .bin .eql (.t 40) (.c (.d (.int .i64 0))), none⟩] [])
  (.cond (.t 41)
   (.reg none [⟨some 2, .mv (.c (.d (.int .i64 64))), none⟩] [])
   .skip))
 (.seq (.reg none [⟨some 42, .mv (.t 2), none⟩,
    ⟨some 43, .bin .sub (.t 42) (.c (.d (.int .i64 1))), none⟩,
    ⟨some 44, .conv .u64 (.t 43), none⟩,
    ⟨some 45, .bin .shl (.c (.d (.int .u64 1))) (.t 44), none⟩,
    ⟨some 10, .mv (.t 45), none⟩] [])
 (.seq (.seq (.reg none [⟨some 46, .mv (.t 8), none⟩,
     ⟨some 47, .un .not (.t 46), none⟩,
     ⟨some 48, .mv (.t 47), none⟩,
     ⟨some 49, .mv (.t 9), some (48, true)⟩,
     ⟨some 50, .mv (.t 10), some (48, true)⟩,
     ⟨some 51, .bin .geq (.t 49) (.t 50), some (48, true)⟩,
     ⟨some 52, .pick (.t 48) (.t 51) (.c (.d (.bool false))), none⟩] [])
  (.cond (.t 52)
   (.seq .bad
   .ret)
   .skip))
 (.seq (.seq (.reg none [⟨some 57, .mv (.t 8), none⟩,
     ⟨some 58, .mv (.t 57), none⟩,
     ⟨some 59, .mv (.t 9), some (58, true)⟩,
     ⟨some 60, .mv (.t 10), some (58, true)⟩,
     ⟨some 61, .bin .gtr (.t 59) (.t 60), some (58, true)⟩,
     ⟨some 62, .pick (.t 58) (.t 61) (.c (.d (.bool false))), none⟩] [])
  (.cond (.t 62)
   (.seq .bad
   .ret)
   .skip))
 (.seq (.reg none [⟨some 67, .mv (.t 9), none⟩,
    ⟨some 68, .conv .i64 (.t 67), none⟩,
    ⟨some 11, .mv (.t 68), none⟩] [])
 (.seq (.seq (.reg none [⟨some 69, .mv (.t 8), none⟩] [])
  (.cond (.t 69)
   (.reg none [⟨some 70, .mv (.t 11), none⟩,
     ⟨some 71, .un .neg (.t 70), none⟩,
     ⟨some 11, .mv (.t 71), none⟩] [])
   .skip))
 (.seq (.reg none [⟨some 72, .mv (.t 11), none⟩,
    ⟨some 6, .mv (.t 72), none⟩,
    ⟨some 7, .mv (.c .nili), none⟩] [])
 .ret))))))))))))))⟩
/-- internal/strconv.FormatInt -/
def f285 : PFn := ⟨2, 54, [.t 4], false,
 (.seq (.reg none [⟨some 4, .mv (.c (.d (.str []))), none⟩] [])
 (.seq (.seq (.reg none [⟨some 10, .mv (.t 1), none⟩,
     ⟨some 11, .bin .eql (.t 10) (.c (.d (.int .i64 10))), none⟩] [])
  (.cond (.t 11)
   (.seq (.seq (.reg none [⟨some 12, .mv (.t 0), none⟩,
       ⟨some 13, .bin .leq (.c (.d (.int .i64 0))) (.t 12), none⟩,
       ⟨some 14, .mv (.t 13), none⟩,
       ⟨some 15, .mv (.t 0), some (14, true)⟩,
       ⟨some 16, .bin .lss (.t 15) (.c (.d (.int .i64 100))), some (14, true)⟩,
       ⟨some 17, .pick (.t 14) (.t 16) (.c (.d (.bool false))), none⟩] [])
    (.cond (.t 17)
     (.seq (.reg none [⟨some 18, .mv (.t 0), none⟩,
        ⟨some 19, .call 292 [(.t 18)], none⟩,
        ⟨some 4, .mv (.t 19), none⟩] [])
     .ret)
     .skip))
   (.seq (.reg none [⟨some 5, .alloc 329 [(.d (.int .u8 0)), (.d (.int .u8 0)), (.d (.int .u8 0)), (.d (.int .u8 0)), (.d (.int .u8 0)), (.d (.int .u8 0)), (.d (.int .u8 0)), (.d (.int .u8 0)), (.d (.int .u8 0)), (.d (.int .u8 0)), (.d (.int .u8 0)), (.d (.int .u8 0)), (.d (.int .u8 0)), (.d (.int .u8 0)), (.d (.int .u8 0)), (.d (.int .u8 0)), (.d (.int .u8 0)), (.d (.int .u8 0)), (.d (.int .u8 0)), (.d (.int .u8 0)), (.d (.int .u8 0)), (.d (.int .u8 0)), (.d (.int .u8 0)), (.d (.int .u8 0))], none⟩] [])
   (.seq (.reg none [⟨some 20, .mv (.t 0), none⟩,
      ⟨some 21, .conv .u64 (.t 20), none⟩,
      ⟨some 6, .mv (.t 21), none⟩] [])
   (.seq (.seq (.reg none [⟨some 22, .mv (.t 0), none⟩,
       ⟨some 23, .bin .lss (.t 22) (.c (.d (.int .i64 0))), none⟩] [])
    (.cond (.t 23)
     (.reg none [⟨some 24, .mv (.t 6), none⟩,
       ⟨some 25, .un .neg (.t 24), none⟩,
       ⟨some 6, .mv (.t 25), none⟩] [])
     .skip))
   (.seq (.reg none [⟨some 26, .mv (.t 6), none⟩,
      ⟨some 27, .call 293 [(.t 26)], none⟩,
      ⟨some 7, .mv (.t 27), none⟩] [])
   (.seq .bad
   (.seq (.seq (.reg none [⟨some 33, .mv (.t 0), none⟩,
       ⟨some 34, .bin .lss (.t 33) (.c (.d (.int .i64 0))), none⟩] [])
    (.cond (.t 34)
     (.seq .bad
     (.seq .bad
     .ret))
     .skip))
   (.seq .bad
   .ret))))))))
   .skip))
 (.seq (.reg none [⟨some 45, .mv (.t 0), none⟩,
    ⟨some 46, .conv .u64 (.t 45), none⟩,
    ⟨some 47, .mv (.t 1), none⟩,
    ⟨some 48, .mv (.t 0), none⟩,
    ⟨some 49, .bin .lss (.t 48) (.c (.d (.int .i64 0))), none⟩,
    ⟨some 50, .call 295 [(.c .nil), (.t 46), (.t 47), (.t 49), (.c (.d (.bool false)))], none⟩,
    ⟨some 44, .mv (.t 50), none⟩,
    ⟨some 51, .ext (.t 44) 0, none⟩,
    ⟨some 52, .ext (.t 44) 1, none⟩,
    ⟨some 8, .mv (.t 51), none⟩,
    ⟨some 9, .mv (.t 52), none⟩] [])
 (.seq (.reg none [⟨some 53, .mv (.t 9), none⟩,
    ⟨some 4, .mv (.t 53), none⟩] [])
 .ret))))⟩
/-- unicode/utf8.AppendRune -/
def f286 : PFn := ⟨2, 16, [.t 4], true,
 (.seq (.reg none [⟨some 4, .mv (.c .nil), none⟩] [])
 (.seq (.seq (.reg none [⟨some 5, .mv (.t 1), none⟩,
     ⟨some 6, .conv .u32 (.t 5), none⟩,
     ⟨some 7, .bin .leq (.t 6) (.c (.d (.int .u32 127))), none⟩] [])
  (.cond (.t 7)
   (.seq (.reg none [⟨some 8, .mv (.t 0), none⟩,
      ⟨some 9, .mv (.t 1), none⟩,
      ⟨some 10, .conv .u8 (.t 9), none⟩,
      ⟨some 11, .lits 5 1 1 [(.int .u8 0)] 1 [(0, (.t 10))], none⟩,
      ⟨some 12, .app 5 1 1 (.t 8) (.t 11), none⟩,
      ⟨some 4, .mv (.t 12), none⟩] [])
   .ret)
   .skip))
 (.seq (.reg none [⟨some 13, .mv (.t 0), none⟩,
    ⟨some 14, .mv (.t 1), none⟩,
    ⟨some 15, .call 296 [(.t 13), (.t 14)], none⟩,
    ⟨some 4, .mv (.t 15), none⟩] [])
 .ret)))⟩
def f297b0 : PC :=
 (.seq (.reg none [⟨some 102, .bin .lss (.t 101) (.t 100), none⟩] [])
 (.seq (.cond (.t 102)
   .skip
   (.exit 3))
 (.seq (.blk 4 none
   (.seq (.reg none [⟨some 103, .iaddr 1 (.t 99) (.t 101), none⟩,
      ⟨some 104, .load1 (.t 103), none⟩,
      ⟨some 15, .mv (.t 104), none⟩] [])
   (.seq (.reg none [⟨some 16, .mv (.c (.d (.int .u8 0))), none⟩] [])
   (.seq (.blk 5 none
     (.seq (.reg none [⟨some 107, .mv (.t 15), none⟩,
        ⟨some 108, .bin .eql (.t 107) (.c (.d (.int .u8 95))), none⟩,
        ⟨some 109, .mv (.t 108), none⟩,
        ⟨some 110, .mv (.t 8), some (109, true)⟩,
        ⟨some 111, .pick (.t 109) (.t 110) (.c (.d (.bool false))), none⟩,
        ⟨some 106, .mv (.t 111), none⟩] [])
     (.cond (.t 106)
      (.seq (.reg none [⟨some 12, .mv (.c (.d (.bool true))), none⟩] [])
      (.exit 4))
      (.seq (.reg none [⟨some 113, .mv (.t 15), none⟩,
         ⟨some 114, .bin .leq (.c (.d (.int .u8 48))) (.t 113), none⟩,
         ⟨some 115, .mv (.t 114), none⟩,
         ⟨some 116, .mv (.t 15), some (115, true)⟩,
         ⟨some 117, .bin .leq (.t 116) (.c (.d (.int .u8 57))), some (115, true)⟩,
         ⟨some 118, .pick (.t 115) (.t 117) (.c (.d (.bool false))), none⟩,
         ⟨some 112, .mv (.t 118), none⟩] [])
      (.cond (.t 112)
       (.reg none [⟨some 119, .mv (.t 15), none⟩,
         ⟨some 120, .bin .sub (.t 119) (.c (.d (.int .u8 48))), none⟩,
         ⟨some 16, .mv (.t 120), none⟩] [])
       (.seq (.reg none [⟨some 122, .mv (.t 15), none⟩,
          ⟨some 123, .call 304 [(.t 122)], none⟩,
          ⟨some 124, .bin .leq (.c (.d (.int .u8 97))) (.t 123), none⟩,
          ⟨some 125, .mv (.t 124), none⟩,
          ⟨some 126, .mv (.t 15), some (125, true)⟩,
          ⟨some 127, .call 304 [(.t 126)], some (125, true)⟩,
          ⟨some 128, .bin .leq (.t 127) (.c (.d (.int .u8 122))), some (125, true)⟩,
          ⟨some 129, .pick (.t 125) (.t 128) (.c (.d (.bool false))), none⟩,
          ⟨some 121, .mv (.t 129), none⟩] [])
       (.cond (.t 121)
        (.reg none [⟨some 130, .mv (.t 15), none⟩,
          ⟨some 131, .call 304 [(.t 130)], none⟩,
          ⟨some 132, .bin .sub (.t 131) (.c (.d (.int .u8 97))), none⟩,
          ⟨some 133, .bin .add (.t 132) (.c (.d (.int .u8 10))), none⟩,
          ⟨some 16, .mv (.t 133), none⟩] [])
        (.seq .bad
        .ret))))))))
   (.seq (.seq (.reg none [⟨some 134, .mv (.t 16), none⟩,
       ⟨some 135, .mv (.t 1), none⟩,
       ⟨some 136, .conv .u8 (.t 135), none⟩,
       ⟨some 137, .bin .geq (.t 134) (.t 136), none⟩] [])
    (.cond (.t 137)
     (.seq .bad
     .ret)
     .skip))
   (.seq (.seq (.reg none [⟨some 139, .mv (.t 13), none⟩,
       ⟨some 140, .mv (.t 10), none⟩,
       ⟨some 141, .bin .geq (.t 139) (.t 140), none⟩] [])
    (.cond (.t 141)
     (.seq .bad
     .ret)
     .skip))
   (.seq (.reg none [⟨some 144, .mv (.t 13), none⟩,
      ⟨some 145, .mv (.t 1), none⟩,
      ⟨some 146, .conv .u64 (.t 145), none⟩,
      ⟨some 147, .bin .mul (.t 144) (.t 146), none⟩,
      ⟨some 13, .mv (.t 147), none⟩] [])
   (.seq (.reg none [⟨some 148, .mv (.t 13), none⟩,
      ⟨some 149, .mv (.t 16), none⟩,
      ⟨some 150, .conv .u64 (.t 149), none⟩,
      ⟨some 151, .bin .add (.t 148) (.t 150), none⟩,
      ⟨some 17, .mv (.t 151), none⟩] [])
   (.seq (.seq (.reg none [⟨some 152, .mv (.t 17), none⟩,
       ⟨some 153, .mv (.t 13), none⟩,
       ⟨some 154, .bin .lss (.t 152) (.t 153), none⟩,
       ⟨some 155, .mv (.t 154), none⟩,
       ⟨some 156, .mv (.t 17), some (155, false)⟩,
       ⟨some 157, .mv (.t 11), some (155, false)⟩,
       ⟨some 158, .bin .gtr (.t 156) (.t 157), some (155, false)⟩,
       ⟨some 159, .pick (.t 155) (.c (.d (.bool true))) (.t 158), none⟩] [])
    (.cond (.t 159)
     (.seq .bad
     .ret)
     .skip))
   (.reg none [⟨some 162, .mv (.t 17), none⟩,
     ⟨some 13, .mv (.t 162), none⟩] []))))))))))
 (.reg none [⟨some 163, .bin .add (.t 101) (.c (.d (.int .i64 1))), none⟩,
   ⟨some 101, .mv (.t 163), none⟩] []))))
def f297l0 : PC := .loop [1, 6, 7, 8, 9, 10, 11, 12, 13, 99, 100, 101] [] f297b0
/-- internal/strconv.ParseUint -/
def f297 : PFn := ⟨3, 172, [.t 6, .t 7], false,
 (.seq (.reg none [⟨some 6, .mv (.c (.d (.int .u64 0))), none⟩,
    ⟨some 7, .mv (.c .nili), none⟩] [])
 (.seq (.seq (.reg none [⟨some 18, .mv (.t 0), none⟩,
     ⟨some 19, .bin .eql (.t 18) (.c (.d (.str []))), none⟩] [])
  (.cond (.t 19)
   (.seq .bad
   .ret)
   .skip))
 (.seq (.reg none [⟨some 21, .mv (.t 1), none⟩,
    ⟨some 22, .bin .eql (.t 21) (.c (.d (.int .i64 0))), none⟩,
    ⟨some 8, .mv (.t 22), none⟩] [])
 (.seq (.reg none [⟨some 23, .mv (.t 0), none⟩,
    ⟨some 9, .mv (.t 23), none⟩] [])
 (.seq (.blk 0 none
   (.seq (.reg none [⟨some 26, .mv (.t 1), none⟩,
      ⟨some 27, .bin .leq (.c (.d (.int .i64 2))) (.t 26), none⟩,
      ⟨some 28, .mv (.t 27), none⟩,
      ⟨some 29, .mv (.t 1), some (28, true)⟩,
      ⟨some 30, .bin .leq (.t 29) (.c (.d (.int .i64 36))), some (28, true)⟩,
      ⟨some 31, .pick (.t 28) (.t 30) (.c (.d (.bool false))), none⟩,
      ⟨some 25, .mv (.t 31), none⟩] [])
   (.cond (.t 25)
    .skip
    (.seq (.reg none [⟨some 33, .mv (.t 1), none⟩,
       ⟨some 34, .bin .eql (.t 33) (.c (.d (.int .i64 0))), none⟩,
       ⟨some 32, .mv (.t 34), none⟩] [])
    (.cond (.t 32)
     (.seq (.reg none [⟨some 1, .mv (.c (.d (.int .i64 10))), none⟩] [])
     (.seq (.reg none [⟨some 35, .mv (.t 0), none⟩,
        ⟨some 36, .idx (.t 35) (.c (.d (.int .i64 0))), none⟩,
        ⟨some 37, .bin .eql (.t 36) (.c (.d (.int .u8 48))), none⟩] [])
     (.cond (.t 37)
      (.blk 1 none
       (.seq (.reg none [⟨some 41, .mv (.t 0), none⟩,
          ⟨some 42, .lenS (.t 41), none⟩,
          ⟨some 43, .bin .geq (.t 42) (.c (.d (.int .i64 3))), none⟩,
          ⟨some 44, .mv (.t 43), none⟩,
          ⟨some 45, .mv (.t 0), some (44, true)⟩,
          ⟨some 46, .idx (.t 45) (.c (.d (.int .i64 1))), some (44, true)⟩,
          ⟨some 47, .call 304 [(.t 46)], some (44, true)⟩,
          ⟨some 48, .bin .eql (.t 47) (.c (.d (.int .u8 98))), some (44, true)⟩,
          ⟨some 49, .pick (.t 44) (.t 48) (.c (.d (.bool false))), none⟩,
          ⟨some 40, .mv (.t 49), none⟩] [])
       (.cond (.t 40)
        (.seq (.reg none [⟨some 1, .mv (.c (.d (.int .i64 2))), none⟩] [])
        (.reg none [⟨some 50, .mv (.t 0), none⟩,
          ⟨some 51, .sstr (.t 50) (some (.c (.d (.int .i64 2)))) none, none⟩,
          ⟨some 0, .mv (.t 51), none⟩] []))
        (.seq (.reg none [⟨some 53, .mv (.t 0), none⟩,
           ⟨some 54, .lenS (.t 53), none⟩,
           ⟨some 55, .bin .geq (.t 54) (.c (.d (.int .i64 3))), none⟩,
           ⟨some 56, .mv (.t 55), none⟩,
           ⟨some 57, .mv (.t 0), some (56, true)⟩,
           ⟨some 58, .idx (.t 57) (.c (.d (.int .i64 1))), some (56, true)⟩,
           ⟨some 59, .call 304 [(.t 58)], some (56, true)⟩,
           ⟨some 60, .bin .eql (.t 59) (.c (.d (.int .u8 111))), some (56, true)⟩,
           ⟨some 61, .pick (.t 56) (.t 60) (.c (.d (.bool false))), none⟩,
           ⟨some 52, .mv (.t 61), none⟩] [])
        (.cond (.t 52)
         (.seq (.reg none [⟨some 1, .mv (.c (.d (.int .i64 8))), none⟩] [])
         (.reg none [⟨some 62, .mv (.t 0), none⟩,
           ⟨some 63, .sstr (.t 62) (some (.c (.d (.int .i64 2)))) none, none⟩,
           ⟨some 0, .mv (.t 63), none⟩] []))
         (.seq (.reg none [⟨some 65, .mv (.t 0), none⟩,
            ⟨some 66, .lenS (.t 65), none⟩,
            ⟨some 67, .bin .geq (.t 66) (.c (.d (.int .i64 3))), none⟩,
            ⟨some 68, .mv (.t 67), none⟩,
            ⟨some 69, .mv (.t 0), some (68, true)⟩,
            ⟨some 70, .idx (.t 69) (.c (.d (.int .i64 1))), some (68, true)⟩,
            ⟨some 71, .call 304 [(.t 70)], some (68, true)⟩,
            ⟨some 72, .bin .eql (.t 71) (.c (.d (.int .u8 120))), some (68, true)⟩,
            ⟨some 73, .pick (.t 68) (.t 72) (.c (.d (.bool false))), none⟩,
            ⟨some 64, .mv (.t 73), none⟩] [])
         (.cond (.t 64)
          (.seq (.reg none [⟨some 1, .mv (.c (.d (.int .i64 16))), none⟩] [])
          (.reg none [⟨some 74, .mv (.t 0), none⟩,
            ⟨some 75, .sstr (.t 74) (some (.c (.d (.int .i64 2)))) none, none⟩,
            ⟨some 0, .mv (.t 75), none⟩] []))
          (.seq (.reg none [⟨some 1, .mv (.c (.d (.int .i64 8))), none⟩] [])
          (.reg none [⟨some 38, .mv (.t 0), none⟩,
            ⟨some 39, .sstr (.t 38) (some (.c (.d (.int .i64 1)))) none, none⟩,
            ⟨some 0, .mv (.t 39), none⟩] [])))))))))
      .skip)))
     (.seq .bad
     .ret))))))
 (.seq (.seq (.reg none [⟨some 76, .mv (.t 2), none⟩,
     ⟨some 77, .bin .eql (.t 76) (.c (.d (.int .i64 0))), none⟩] [])
  (.cond (.t 77)
   (.reg none [⟨some 2, .mv (.c (.d (.int .i64 64))), none⟩] [])
   (.seq (.reg none [⟨some 78, .mv (.t 2), none⟩,
      ⟨some 79, .bin .lss (.t 78) (.c (.d (.int .i64 0))), none⟩,
      ⟨some 80, .mv (.t 79), none⟩,
      ⟨some 81, .mv (.t 2), some (80, false)⟩,
      ⟨some 82, .bin .gtr (.t 81) (.c (.d (.int .i64 64))), some (80, false)⟩,
      ⟨some 83, .pick (.t 80) (.c (.d (.bool true))) (.t 82), none⟩] [])
   (.cond (.t 83)
    (.seq .bad
    .ret)
    .skip))))
 (.seq (.reg none [⟨some 10, .mv (.c (.d (.int .u64 0))), none⟩] [])
 (.seq (.seq (.reg none [⟨some 85, .mv (.t 1), none⟩] [])
  (.blk 2 none
   (.seq (.reg none [⟨some 91, .bin .eql (.t 85) (.c (.d (.int .i64 10))), none⟩,
      ⟨some 90, .mv (.t 91), none⟩] [])
   (.cond (.t 90)
    (.reg none [⟨some 10, .mv (.c (.d (.int .u64 1844674407370955162))), none⟩] [])
    (.seq (.reg none [⟨some 93, .bin .eql (.t 85) (.c (.d (.int .i64 16))), none⟩,
       ⟨some 92, .mv (.t 93), none⟩] [])
    (.cond (.t 92)
     (.reg none [⟨some 10, .mv (.c (.d (.int .u64 1152921504606846976))), none⟩] [])
     (.reg none [⟨some 86, .mv (.t 1), none⟩,
       ⟨some 87, .conv .u64 (.t 86), none⟩,
       ⟨some 88, .bin .quo (.c (.d (.int .u64 18446744073709551615))) (.t 87), none⟩,
       ⟨some 89, .bin .add (.t 88) (.c (.d (.int .u64 1))), none⟩,
       ⟨some 10, .mv (.t 89), none⟩] [])))))))
 (.seq (.reg none [⟨some 94, .mv (.t 2), none⟩,
    ⟨some 95, .conv .u64 (.t 94), none⟩,
    ⟨some 96, .bin .shl (.c (.d (.int .u64 1))) (.t 95), none⟩,
    ⟨some 97, .bin .sub (.t 96) (.c (.d (.int .u64 1))), none⟩,
    ⟨some 11, .mv (.t 97), none⟩] [])
 (.seq (.reg none [⟨some 12, .mv (.c (.d (.bool false))), none⟩] [])
 (.seq (.reg none [⟨some 13, .mv (.c (.d (.int .u64 0))), none⟩] [])
 (.seq (.seq .bad
  (.blk 3 (some [6, 7, 9, 12, 13])
   f297l0))
 (.seq (.seq (.reg none [⟨some 164, .mv (.t 12), none⟩,
     ⟨some 165, .mv (.t 164), none⟩,
     ⟨some 166, .mv (.t 9), some (165, true)⟩,
     ⟨some 167, .call 305 [(.t 166)], some (165, true)⟩,
     ⟨some 168, .un .not (.t 167), some (165, true)⟩,
     ⟨some 169, .pick (.t 165) (.t 168) (.c (.d (.bool false))), none⟩] [])
  (.cond (.t 169)
   (.seq .bad
   .ret)
   .skip))
 (.seq (.reg none [⟨some 171, .mv (.t 13), none⟩,
    ⟨some 6, .mv (.t 171), none⟩,
    ⟨some 7, .mv (.c .nili), none⟩] [])
 .ret))))))))))))))⟩
/-- internal/strconv.small -/
def f292 : PFn := ⟨1, 15, [.t 2], false,
 (.seq (.reg none [⟨some 2, .mv (.c (.d (.str []))), none⟩] [])
 (.seq (.seq (.reg none [⟨some 3, .mv (.t 0), none⟩,
     ⟨some 4, .bin .lss (.t 3) (.c (.d (.int .i64 10))), none⟩] [])
  (.cond (.t 4)
   (.seq (.reg none [⟨some 5, .mv (.t 0), none⟩,
      ⟨some 6, .mv (.t 0), none⟩,
      ⟨some 7, .bin .add (.t 6) (.c (.d (.int .i64 1))), none⟩,
      ⟨some 8, .sstr (.c (.d (.str [48, 49, 50, 51, 52, 53, 54, 55, 56, 57, 97, 98, 99, 100, 101, 102, 103, 104, 105, 106, 107, 108, 109, 110, 111, 112, 113, 114, 115, 116, 117, 118, 119, 120, 121, 122]))) (some (.t 5)) (some (.t 7)), none⟩,
      ⟨some 2, .mv (.t 8), none⟩] [])
   .ret)
   .skip))
 (.seq (.reg none [⟨some 9, .mv (.t 0), none⟩,
    ⟨some 10, .bin .mul (.t 9) (.c (.d (.int .i64 2))), none⟩,
    ⟨some 11, .mv (.t 0), none⟩,
    ⟨some 12, .bin .mul (.t 11) (.c (.d (.int .i64 2))), none⟩,
    ⟨some 13, .bin .add (.t 12) (.c (.d (.int .i64 2))), none⟩,
    ⟨some 14, .sstr (.c (.d (.str [48, 48, 48, 49, 48, 50, 48, 51, 48, 52, 48, 53, 48, 54, 48, 55, 48, 56, 48, 57, 49, 48, 49, 49, 49, 50, 49, 51, 49, 52, 49, 53, 49, 54, 49, 55, 49, 56, 49, 57, 50, 48, 50, 49, 50, 50, 50, 51, 50, 52, 50, 53, 50, 54, 50, 55, 50, 56, 50, 57, 51, 48, 51, 49, 51, 50, 51, 51, 51, 52, 51, 53, 51, 54, 51, 55, 51, 56, 51, 57, 52, 48, 52, 49, 52, 50, 52, 51, 52, 52, 52, 53, 52, 54, 52, 55, 52, 56, 52, 57, 53, 48, 53, 49, 53, 50, 53, 51, 53, 52, 53, 53, 53, 54, 53, 55, 53, 56, 53, 57, 54, 48, 54, 49, 54, 50, 54, 51, 54, 52, 54, 53, 54, 54, 54, 55, 54, 56, 54, 57, 55, 48, 55, 49, 55, 50, 55, 51, 55, 52, 55, 53, 55, 54, 55, 55, 55, 56, 55, 57, 56, 48, 56, 49, 56, 50, 56, 51, 56, 52, 56, 53, 56, 54, 56, 55, 56, 56, 56, 57, 57, 48, 57, 49, 57, 50, 57, 51, 57, 52, 57, 53, 57, 54, 57, 55, 57, 56, 57, 57]))) (some (.t 10)) (some (.t 13)), none⟩,
    ⟨some 2, .mv (.t 14), none⟩] [])
 .ret)))⟩
/-- internal/strconv.numDigits -/
def f293 : PFn := ⟨1, 15, [.t 2], false,
 (.seq (.reg none [⟨some 2, .mv (.c (.d (.int .i64 0))), none⟩] [])
 (.seq (.reg none [⟨some 4, .mv (.t 0), none⟩,
    ⟨some 5, .call 242 [(.t 4)], none⟩,
    ⟨some 6, .call 300 [(.t 5)], none⟩,
    ⟨some 3, .mv (.t 6), none⟩] [])
 (.seq .bad
 .ret)))⟩
def f295b0 : PC :=
 (.seq (.seq (.reg none [⟨some 44, .mv (.t 1), none⟩,
     ⟨some 45, .mv (.t 15), none⟩,
     ⟨some 46, .bin .geq (.t 44) (.t 45), none⟩] [])
  (.cond (.t 46)
   .skip
   (.exit 0)))
 (.blk 1 none
  (.seq (.reg none [⟨some 47, .mv (.t 13), none⟩,
     ⟨some 48, .bin .sub (.t 47) (.c (.d (.int .i64 1))), none⟩,
     ⟨some 13, .mv (.t 48), none⟩] [])
  (.seq .bad
  (.reg none [⟨some 55, .mv (.t 1), none⟩,
    ⟨some 56, .mv (.t 14), none⟩,
    ⟨some 57, .bin .shr (.t 55) (.t 56), none⟩,
    ⟨some 1, .mv (.t 57), none⟩] [])))))
def f295l0 : PC := .loop [1, 3, 4, 10, 11, 13, 14, 15] [] f295b0
def f295b1 : PC :=
 (.seq (.seq (.reg none [⟨some 66, .mv (.t 1), none⟩,
     ⟨some 67, .mv (.t 17), none⟩,
     ⟨some 68, .bin .geq (.t 66) (.t 67), none⟩] [])
  (.cond (.t 68)
   .skip
   (.exit 2)))
 (.blk 3 none
  (.seq (.reg none [⟨some 69, .mv (.t 13), none⟩,
     ⟨some 70, .bin .sub (.t 69) (.c (.d (.int .i64 1))), none⟩,
     ⟨some 13, .mv (.t 70), none⟩] [])
  (.seq (.reg none [⟨some 71, .mv (.t 1), none⟩,
     ⟨some 72, .mv (.t 17), none⟩,
     ⟨some 73, .bin .quo (.t 71) (.t 72), none⟩,
     ⟨some 18, .mv (.t 73), none⟩] [])
  (.seq .bad
  (.reg none [⟨some 82, .mv (.t 18), none⟩,
    ⟨some 1, .mv (.t 82), none⟩] []))))))
def f295l1 : PC := .loop [1, 3, 4, 10, 11, 13, 17] [] f295b1
/-- internal/strconv.formatBits -/
def f295 : PFn := ⟨5, 102, [.t 10, .t 11], false,
 (.seq (.reg none [⟨some 10, .mv (.c .nil), none⟩,
    ⟨some 11, .mv (.c (.d (.str []))), none⟩] [])
 (.seq (.seq (.reg none [⟨some 19, .mv (.t 2), none⟩,
     ⟨some 20, .bin .lss (.t 19) (.c (.d (.int .i64 2))), none⟩,
     ⟨some 21, .mv (.t 20), none⟩,
     ⟨some 22, .mv (.t 2), some (21, false)⟩,
     ⟨some 23, .bin .eql (.t 22) (.c (.d (.int .i64 10))), some (21, false)⟩,
     ⟨some 24, .pick (.t 21) (.c (.d (.bool true))) (.t 23), none⟩,
     ⟨some 25, .mv (.t 24), none⟩,
     ⟨some 26, .mv (.t 2), some (25, false)⟩,
     ⟨some 27, .bin .gtr (.t 26) (.c (.d (.int .i64 36))), some (25, false)⟩,
     ⟨some 28, .pick (.t 25) (.c (.d (.bool true))) (.t 27), none⟩] [])
  (.cond (.t 28)
   .bad
   .skip))
 (.seq (.reg none [⟨some 12, .alloc 341 [(.d (.int .u8 0)), (.d (.int .u8 0)), (.d (.int .u8 0)), (.d (.int .u8 0)), (.d (.int .u8 0)), (.d (.int .u8 0)), (.d (.int .u8 0)), (.d (.int .u8 0)), (.d (.int .u8 0)), (.d (.int .u8 0)), (.d (.int .u8 0)), (.d (.int .u8 0)), (.d (.int .u8 0)), (.d (.int .u8 0)), (.d (.int .u8 0)), (.d (.int .u8 0)), (.d (.int .u8 0)), (.d (.int .u8 0)), (.d (.int .u8 0)), (.d (.int .u8 0)), (.d (.int .u8 0)), (.d (.int .u8 0)), (.d (.int .u8 0)), (.d (.int .u8 0)), (.d (.int .u8 0)), (.d (.int .u8 0)), (.d (.int .u8 0)), (.d (.int .u8 0)), (.d (.int .u8 0)), (.d (.int .u8 0)), (.d (.int .u8 0)), (.d (.int .u8 0)), (.d (.int .u8 0)), (.d (.int .u8 0)), (.d (.int .u8 0)), (.d (.int .u8 0)), (.d (.int .u8 0)), (.d (.int .u8 0)), (.d (.int .u8 0)), (.d (.int .u8 0)), (.d (.int .u8 0)), (.d (.int .u8 0)), (.d (.int .u8 0)), (.d (.int .u8 0)), (.d (.int .u8 0)), (.d (.int .u8 0)), (.d (.int .u8 0)), (.d (.int .u8 0)), (.d (.int .u8 0)), (.d (.int .u8 0)), (.d (.int .u8 0)), (.d (.int .u8 0)), (.d (.int .u8 0)), (.d (.int .u8 0)), (.d (.int .u8 0)), (.d (.int .u8 0)), (.d (.int .u8 0)), (.d (.int .u8 0)), (.d (.int .u8 0)), (.d (.int .u8 0)), (.d (.int .u8 0)), (.d (.int .u8 0)), (.d (.int .u8 0)), (.d (.int .u8 0)), (.d (.int .u8 0))], none⟩] [])
 (.seq (.reg none [⟨some 13, .mv (.c (.d (.int .i64 65))), none⟩] [])
 (.seq (.seq (.reg none [⟨some 30, .mv (.t 3), none⟩] [])
  (.cond (.t 30)
   (.reg none [⟨some 31, .mv (.t 1), none⟩,
     ⟨some 32, .un .neg (.t 31), none⟩,
     ⟨some 1, .mv (.t 32), none⟩] [])
   .skip))
 (.seq (.seq (.reg none [⟨some 33, .mv (.t 2), none⟩,
     ⟨some 34, .call 302 [(.t 33)], none⟩] [])
  (.cond (.t 34)
   (.seq (.reg none [⟨some 35, .mv (.t 2), none⟩,
      ⟨some 36, .conv .u64 (.t 35), none⟩,
      ⟨some 37, .call 303 [(.t 36)], none⟩,
      ⟨some 38, .conv .u64 (.t 37), none⟩,
      ⟨some 14, .mv (.t 38), none⟩] [])
   (.seq (.reg none [⟨some 39, .mv (.t 2), none⟩,
      ⟨some 40, .conv .u64 (.t 39), none⟩,
      ⟨some 15, .mv (.t 40), none⟩] [])
   (.seq (.reg none [⟨some 41, .mv (.t 2), none⟩,
      ⟨some 42, .conv .u64 (.t 41), none⟩,
      ⟨some 43, .bin .sub (.t 42) (.c (.d (.int .u64 1))), none⟩,
      ⟨some 16, .mv (.t 43), none⟩] [])
   (.seq (.blk 0 (some [3, 4, 10, 11, 13])
     f295l0)
   (.seq (.reg none [⟨some 58, .mv (.t 13), none⟩,
      ⟨some 59, .bin .sub (.t 58) (.c (.d (.int .i64 1))), none⟩,
      ⟨some 13, .mv (.t 59), none⟩] [])
   .bad)))))
   (.seq (.reg none [⟨some 64, .mv (.t 2), none⟩,
      ⟨some 65, .conv .u64 (.t 64), none⟩,
      ⟨some 17, .mv (.t 65), none⟩] [])
   (.seq (.blk 2 (some [3, 4, 10, 11, 13])
     f295l1)
   (.seq (.reg none [⟨some 83, .mv (.t 13), none⟩,
      ⟨some 84, .bin .sub (.t 83) (.c (.d (.int .i64 1))), none⟩,
      ⟨some 13, .mv (.t 84), none⟩] [])
   .bad)))))
 (.seq (.seq (.reg none [⟨some 89, .mv (.t 3), none⟩] [])
  (.cond (.t 89)
   (.seq (.reg none [⟨some 90, .mv (.t 13), none⟩,
      ⟨some 91, .bin .sub (.t 90) (.c (.d (.int .i64 1))), none⟩,
      ⟨some 13, .mv (.t 91), none⟩] [])
   .bad)
   .skip))
 (.seq (.seq (.reg none [⟨some 94, .mv (.t 4), none⟩] [])
  (.cond (.t 94)
   (.seq .bad
   .ret)
   .skip))
 (.seq .bad
 .ret)))))))))⟩
/-- unicode/utf8.appendRuneNonASCII -/
def f296 : PFn := ⟨2, 78, [.t 4], true,
 (.seq (.reg none [⟨some 4, .mv (.c .nil), none⟩] [])
 (.seq (.reg none [⟨some 6, .mv (.t 1), none⟩,
    ⟨some 7, .conv .u32 (.t 6), none⟩,
    ⟨some 5, .mv (.t 7), none⟩] [])
 (.blk 0 none
  (.seq (.reg none [⟨some 12, .mv (.t 5), none⟩,
     ⟨some 13, .bin .leq (.t 12) (.c (.d (.int .u32 2047))), none⟩,
     ⟨some 11, .mv (.t 13), none⟩] [])
  (.cond (.t 11)
   (.seq (.reg none [⟨some 14, .mv (.t 0), none⟩,
      ⟨some 15, .mv (.t 1), none⟩,
      ⟨some 16, .bin .shr (.t 15) (.c (.d (.int .u64 6))), none⟩,
      ⟨some 17, .conv .u8 (.t 16), none⟩,
      ⟨some 18, .bin .or (.c (.d (.int .u8 192))) (.t 17), none⟩,
      ⟨some 19, .mv (.t 1), none⟩,
      ⟨some 20, .conv .u8 (.t 19), none⟩,
      ⟨some 21, .bin .and (.t 20) (.c (.d (.int .u8 63))), none⟩,
      ⟨some 22, .bin .or (.c (.d (.int .u8 128))) (.t 21), none⟩,
      ⟨some 23, .lits 5 1 1 [(.int .u8 0)] 2 [(0, (.t 18)), (1, (.t 22))], none⟩,
      ⟨some 24, .app 5 1 1 (.t 14) (.t 23), none⟩,
      ⟨some 4, .mv (.t 24), none⟩] [])
   .ret)
   (.seq (.seq (.reg none [⟨some 26, .mv (.t 5), none⟩,
       ⟨some 27, .bin .lss (.t 26) (.c (.d (.int .u32 55296))), none⟩,
       ⟨some 25, .mv (.t 27), none⟩] [])
    (.cond (.t 25)
     .skip
     (.reg none [⟨some 28, .mv (.t 5), none⟩,
       ⟨some 29, .bin .lss (.c (.d (.int .u32 57343))) (.t 28), none⟩,
       ⟨some 30, .mv (.t 29), none⟩,
       ⟨some 31, .mv (.t 5), some (30, true)⟩,
       ⟨some 32, .bin .leq (.t 31) (.c (.d (.int .u32 65535))), some (30, true)⟩,
       ⟨some 33, .pick (.t 30) (.t 32) (.c (.d (.bool false))), none⟩,
       ⟨some 25, .mv (.t 33), none⟩] [])))
   (.cond (.t 25)
    (.seq (.reg none [⟨some 34, .mv (.t 0), none⟩,
       ⟨some 35, .mv (.t 1), none⟩,
       ⟨some 36, .bin .shr (.t 35) (.c (.d (.int .u64 12))), none⟩,
       ⟨some 37, .conv .u8 (.t 36), none⟩,
       ⟨some 38, .bin .or (.c (.d (.int .u8 224))) (.t 37), none⟩,
       ⟨some 39, .mv (.t 1), none⟩,
       ⟨some 40, .bin .shr (.t 39) (.c (.d (.int .u64 6))), none⟩,
       ⟨some 41, .conv .u8 (.t 40), none⟩,
       ⟨some 42, .bin .and (.t 41) (.c (.d (.int .u8 63))), none⟩,
       ⟨some 43, .bin .or (.c (.d (.int .u8 128))) (.t 42), none⟩,
       ⟨some 44, .mv (.t 1), none⟩,
       ⟨some 45, .conv .u8 (.t 44), none⟩,
       ⟨some 46, .bin .and (.t 45) (.c (.d (.int .u8 63))), none⟩,
       ⟨some 47, .bin .or (.c (.d (.int .u8 128))) (.t 46), none⟩,
       ⟨some 48, .lits 5 1 1 [(.int .u8 0)] 3 [(0, (.t 38)), (1, (.t 43)), (2, (.t 47))], none⟩,
       ⟨some 49, .app 5 1 1 (.t 34) (.t 48), none⟩,
       ⟨some 4, .mv (.t 49), none⟩] [])
    .ret)
    (.seq (.reg none [⟨some 51, .mv (.t 5), none⟩,
       ⟨some 52, .bin .gtr (.t 51) (.c (.d (.int .u32 65535))), none⟩,
       ⟨some 53, .mv (.t 52), none⟩,
       ⟨some 54, .mv (.t 5), some (53, true)⟩,
       ⟨some 55, .bin .leq (.t 54) (.c (.d (.int .u32 1114111))), some (53, true)⟩,
       ⟨some 56, .pick (.t 53) (.t 55) (.c (.d (.bool false))), none⟩,
       ⟨some 50, .mv (.t 56), none⟩] [])
    (.cond (.t 50)
     (.seq (.reg none [⟨some 57, .mv (.t 0), none⟩,
        ⟨some 58, .mv (.t 1), none⟩,
        ⟨some 59, .bin .shr (.t 58) (.c (.d (.int .u64 18))), none⟩,
        ⟨some 60, .conv .u8 (.t 59), none⟩,
        ⟨some 61, .bin .or (.c (.d (.int .u8 240))) (.t 60), none⟩,
        ⟨some 62, .mv (.t 1), none⟩,
        ⟨some 63, .bin .shr (.t 62) (.c (.d (.int .u64 12))), none⟩,
        ⟨some 64, .conv .u8 (.t 63), none⟩,
        ⟨some 65, .bin .and (.t 64) (.c (.d (.int .u8 63))), none⟩,
        ⟨some 66, .bin .or (.c (.d (.int .u8 128))) (.t 65), none⟩,
        ⟨some 67, .mv (.t 1), none⟩,
        ⟨some 68, .bin .shr (.t 67) (.c (.d (.int .u64 6))), none⟩,
        ⟨some 69, .conv .u8 (.t 68), none⟩,
        ⟨some 70, .bin .and (.t 69) (.c (.d (.int .u8 63))), none⟩,
        ⟨some 71, .bin .or (.c (.d (.int .u8 128))) (.t 70), none⟩,
        ⟨some 72, .mv (.t 1), none⟩,
        ⟨some 73, .conv .u8 (.t 72), none⟩,
        ⟨some 74, .bin .and (.t 73) (.c (.d (.int .u8 63))), none⟩,
        ⟨some 75, .bin .or (.c (.d (.int .u8 128))) (.t 74), none⟩,
        ⟨some 76, .lits 5 1 1 [(.int .u8 0)] 4 [(0, (.t 61)), (1, (.t 66)), (2, (.t 71)), (3, (.t 75))], none⟩,
        ⟨some 77, .app 5 1 1 (.t 57) (.t 76), none⟩,
        ⟨some 4, .mv (.t 77), none⟩] [])
     .ret)
     (.seq (.reg none [⟨some 8, .mv (.t 0), none⟩,
        ⟨some 9, .lits 5 1 1 [(.int .u8 0)] 3 [(0, (.c (.d (.int .u8 239)))), (1, (.c (.d (.int .u8 191)))), (2, (.c (.d (.int .u8 189))))], none⟩,
        ⟨some 10, .app 5 1 1 (.t 8) (.t 9), none⟩,
        ⟨some 4, .mv (.t 10), none⟩] [])
     .ret))))))))))⟩
/-- internal/strconv.lower -/
def f304 : PFn := ⟨1, 5, [.t 2], false,
 (.seq (.reg none [⟨some 2, .mv (.c (.d (.int .u8 0))), none⟩] [])
 (.seq (.reg none [⟨some 3, .mv (.t 0), none⟩,
    ⟨some 4, .bin .or (.t 3) (.c (.d (.int .u8 32))), none⟩,
    ⟨some 2, .mv (.t 4), none⟩] [])
 .ret))⟩
def f305b0 : PC :=
 (.seq (.seq (.reg none [⟨some 51, .mv (.t 4), none⟩,
     ⟨some 52, .mv (.t 0), none⟩,
     ⟨some 53, .lenS (.t 52), none⟩,
     ⟨some 54, .bin .lss (.t 51) (.t 53), none⟩] [])
  (.cond (.t 54)
   .skip
   (.exit 0)))
 (.seq (.blk 1 none
   (.seq (.seq (.reg none [⟨some 57, .mv (.t 0), none⟩,
       ⟨some 58, .mv (.t 4), none⟩,
       ⟨some 59, .idx (.t 57) (.t 58), none⟩,
       ⟨some 60, .bin .leq (.c (.d (.int .u8 48))) (.t 59), none⟩,
       ⟨some 61, .mv (.t 60), none⟩,
       ⟨some 62, .mv (.t 0), some (61, true)⟩,
       ⟨some 63, .mv (.t 4), some (61, true)⟩,
       ⟨some 64, .idx (.t 62) (.t 63), some (61, true)⟩,
       ⟨some 65, .bin .leq (.t 64) (.c (.d (.int .u8 57))), some (61, true)⟩,
       ⟨some 66, .pick (.t 61) (.t 65) (.c (.d (.bool false))), none⟩,
       ⟨some 67, .mv (.t 66), none⟩,
       ⟨some 68, .mv (.t 5), some (67, false)⟩,
       ⟨some 69, .mv (.t 68), some (67, false)⟩,
       ⟨some 70, .mv (.t 0), some (69, true)⟩,
       ⟨some 71, .mv (.t 4), some (69, true)⟩,
       ⟨some 72, .idx (.t 70) (.t 71), some (69, true)⟩,
       ⟨some 73, .call 304 [(.t 72)], some (69, true)⟩,
       ⟨some 74, .bin .leq (.c (.d (.int .u8 97))) (.t 73), some (69, true)⟩,
       ⟨some 75, .pick (.t 69) (.t 74) (.c (.d (.bool false))), some (67, false)⟩,
       ⟨some 76, .mv (.t 75), some (67, false)⟩,
       ⟨some 77, .mv (.t 0), some (76, true)⟩,
       ⟨some 78, .mv (.t 4), some (76, true)⟩,
       ⟨some 79, .idx (.t 77) (.t 78), some (76, true)⟩,
       ⟨some 80, .call 304 [(.t 79)], some (76, true)⟩,
       ⟨some 81, .bin .leq (.t 80) (.c (.d (.int .u8 102))), some (76, true)⟩,
       ⟨some 82, .pick (.t 76) (.t 81) (.c (.d (.bool false))), some (67, false)⟩,
       ⟨some 83, .pick (.t 67) (.c (.d (.bool true))) (.t 82), none⟩] [])
    (.cond (.t 83)
     (.seq (.reg none [⟨some 3, .mv (.c (.d (.int .i32 48))), none⟩] [])
     (.exit 1))
     .skip))
   (.seq (.seq (.reg none [⟨some 84, .mv (.t 0), none⟩,
       ⟨some 85, .mv (.t 4), none⟩,
       ⟨some 86, .idx (.t 84) (.t 85), none⟩,
       ⟨some 87, .bin .eql (.t 86) (.c (.d (.int .u8 95))), none⟩] [])
    (.cond (.t 87)
     (.seq (.seq (.reg none [⟨some 88, .mv (.t 3), none⟩,
         ⟨some 89, .bin .neq (.t 88) (.c (.d (.int .i32 48))), none⟩] [])
      (.cond (.t 89)
       (.seq (.reg none [⟨some 2, .mv (.c (.d (.bool false))), none⟩] [])
       .ret)
       .skip))
     (.seq (.reg none [⟨some 3, .mv (.c (.d (.int .i32 95))), none⟩] [])
     (.exit 1)))
     .skip))
   (.seq (.seq (.reg none [⟨some 90, .mv (.t 3), none⟩,
       ⟨some 91, .bin .eql (.t 90) (.c (.d (.int .i32 95))), none⟩] [])
    (.cond (.t 91)
     (.seq (.reg none [⟨some 2, .mv (.c (.d (.bool false))), none⟩] [])
     .ret)
     .skip))
   (.reg none [⟨some 3, .mv (.c (.d (.int .i32 33))), none⟩] [])))))
 (.reg none [⟨some 55, .mv (.t 4), none⟩,
   ⟨some 56, .bin .add (.t 55) (.c (.d (.int .i64 1))), none⟩,
   ⟨some 4, .mv (.t 56), none⟩] [])))
def f305l0 : PC := .loop [0, 3, 4, 5] [] f305b0
/-- internal/strconv.underscoreOK -/
def f305 : PFn := ⟨1, 94, [.t 2], false,
 (.seq (.reg none [⟨some 2, .mv (.c (.d (.bool false))), none⟩] [])
 (.seq (.reg none [⟨some 3, .mv (.c (.d (.int .i32 94))), none⟩] [])
 (.seq (.reg none [⟨some 4, .mv (.c (.d (.int .i64 0))), none⟩] [])
 (.seq (.seq (.reg none [⟨some 6, .mv (.t 0), none⟩,
     ⟨some 7, .lenS (.t 6), none⟩,
     ⟨some 8, .bin .geq (.t 7) (.c (.d (.int .i64 1))), none⟩,
     ⟨some 9, .mv (.t 8), none⟩,
     ⟨some 10, .mv (.t 0), some (9, true)⟩,
     ⟨some 11, .idx (.t 10) (.c (.d (.int .i64 0))), some (9, true)⟩,
     ⟨some 12, .bin .eql (.t 11) (.c (.d (.int .u8 45))), some (9, true)⟩,
     ⟨some 13, .mv (.t 12), some (9, true)⟩,
     ⟨some 14, .mv (.t 0), some (13, false)⟩,
     ⟨some 15, .idx (.t 14) (.c (.d (.int .i64 0))), some (13, false)⟩,
     ⟨some 16, .bin .eql (.t 15) (.c (.d (.int .u8 43))), some (13, false)⟩,
     ⟨some 17, .pick (.t 13) (.c (.d (.bool true))) (.t 16), some (9, true)⟩,
     ⟨some 18, .pick (.t 9) (.t 17) (.c (.d (.bool false))), none⟩] [])
  (.cond (.t 18)
   (.reg none [⟨some 19, .mv (.t 0), none⟩,
     ⟨some 20, .sstr (.t 19) (some (.c (.d (.int .i64 1)))) none, none⟩,
     ⟨some 0, .mv (.t 20), none⟩] [])
   .skip))
 (.seq (.reg none [⟨some 5, .mv (.c (.d (.bool false))), none⟩] [])
 (.seq (.seq (.reg none [⟨some 21, .mv (.t 0), none⟩,
     ⟨some 22, .lenS (.t 21), none⟩,
     ⟨some 23, .bin .geq (.t 22) (.c (.d (.int .i64 2))), none⟩,
     ⟨some 24, .mv (.t 23), none⟩,
     ⟨some 25, .mv (.t 0), some (24, true)⟩,
     ⟨some 26, .idx (.t 25) (.c (.d (.int .i64 0))), some (24, true)⟩,
     ⟨some 27, .bin .eql (.t 26) (.c (.d (.int .u8 48))), some (24, true)⟩,
     ⟨some 28, .pick (.t 24) (.t 27) (.c (.d (.bool false))), none⟩,
     ⟨some 29, .mv (.t 28), none⟩,
     ⟨some 30, .mv (.t 0), some (29, true)⟩,
     ⟨some 31, .idx (.t 30) (.c (.d (.int .i64 1))), some (29, true)⟩,
     ⟨some 32, .call 304 [(.t 31)], some (29, true)⟩,
     ⟨some 33, .bin .eql (.t 32) (.c (.d (.int .u8 98))), some (29, true)⟩,
     ⟨some 34, .mv (.t 33), some (29, true)⟩,
     ⟨some 35, .mv (.t 0), some (34, false)⟩,
     ⟨some 36, .idx (.t 35) (.c (.d (.int .i64 1))), some (34, false)⟩,
     ⟨some 37, .call 304 [(.t 36)], some (34, false)⟩,
     ⟨some 38, .bin .eql (.t 37) (.c (.d (.int .u8 111))), some (34, false)⟩,
     ⟨some 39, .pick (.t 34) (.c (.d (.bool true))) (.t 38), some (29, true)⟩,
     ⟨some 40, .mv (.t 39), some (29, true)⟩,
     ⟨some 41, .mv (.t 0), some (40, false)⟩,
     ⟨some 42, .idx (.t 41) (.c (.d (.int .i64 1))), some (40, false)⟩,
     ⟨some 43, .call 304 [(.t 42)], some (40, false)⟩,
     ⟨some 44, .bin .eql (.t 43) (.c (.d (.int .u8 120))), some (40, false)⟩,
     ⟨some 45, .pick (.t 40) (.c (.d (.bool true))) (.t 44), some (29, true)⟩,
     ⟨some 46, .pick (.t 29) (.t 45) (.c (.d (.bool false))), none⟩] [])
  (.cond (.t 46)
   (.seq (.reg none [⟨some 4, .mv (.c (.d (.int .i64 2))), none⟩] [])
   (.seq (.reg none [⟨some 3, .mv (.c (.d (.int .i32 48))), none⟩] [])
   (.reg none [⟨some 47, .mv (.t 0), none⟩,
     ⟨some 48, .idx (.t 47) (.c (.d (.int .i64 1))), none⟩,
     ⟨some 49, .call 304 [(.t 48)], none⟩,
     ⟨some 50, .bin .eql (.t 49) (.c (.d (.int .u8 120))), none⟩,
     ⟨some 5, .mv (.t 50), none⟩] [])))
   .skip))
 (.seq (.blk 0 (some [3])
   f305l0)
 (.seq (.reg none [⟨some 92, .mv (.t 3), none⟩,
    ⟨some 93, .bin .neq (.t 92) (.c (.d (.int .i32 95))), none⟩,
    ⟨some 2, .mv (.t 93), none⟩] [])
 .ret))))))))⟩
/-- internal/strconv.log10Pow2 -/
def f300 : PFn := ⟨1, 6, [.t 2], false,
 (.seq (.reg none [⟨some 2, .mv (.c (.d (.int .i64 0))), none⟩] [])
 (.seq (.reg none [⟨some 3, .mv (.t 0), none⟩,
    ⟨some 4, .bin .mul (.t 3) (.c (.d (.int .i64 78913))), none⟩,
    ⟨some 5, .bin .shr (.t 4) (.c (.d (.int .u64 18))), none⟩,
    ⟨some 2, .mv (.t 5), none⟩] [])
 .ret))⟩
/-- internal/strconv.isPowerOfTwo -/
def f302 : PFn := ⟨1, 8, [.t 2], false,
 (.seq (.reg none [⟨some 2, .mv (.c (.d (.bool false))), none⟩] [])
 (.seq (.reg none [⟨some 3, .mv (.t 0), none⟩,
    ⟨some 4, .mv (.t 0), none⟩,
    ⟨some 5, .bin .sub (.t 4) (.c (.d (.int .i64 1))), none⟩,
    ⟨some 6, .bin .and (.t 3) (.t 5), none⟩,
    ⟨some 7, .bin .eql (.t 6) (.c (.d (.int .i64 0))), none⟩,
    ⟨some 2, .mv (.t 7), none⟩] [])
 .ret))⟩
/-- math/bits.TrailingZeros -/
def f303 : PFn := ⟨1, 8, [.t 2], false,
 (.seq (.reg none [⟨some 2, .mv (.c (.d (.int .i64 0))), none⟩] [])
 (.seq (.cond (.c (.d (.bool false)))
   (.seq (.reg none [⟨some 3, .mv (.t 0), none⟩,
      ⟨some 4, .conv .u32 (.t 3), none⟩,
      ⟨some 5, .call 306 [(.t 4)], none⟩,
      ⟨some 2, .mv (.t 5), none⟩] [])
   .ret)
   .skip)
 (.seq (.reg none [⟨some 6, .mv (.t 0), none⟩,
    ⟨some 7, .call 307 [(.t 6)], none⟩,
    ⟨some 2, .mv (.t 7), none⟩] [])
 .ret)))⟩
/-- math/bits.TrailingZeros32 -/
def f306 : PFn := ⟨1, 14, [.t 2], false,
 (.seq (.reg none [⟨some 2, .mv (.c (.d (.int .i64 0))), none⟩] [])
 (.seq (.seq (.reg none [⟨some 3, .mv (.t 0), none⟩,
     ⟨some 4, .bin .eql (.t 3) (.c (.d (.int .u32 0))), none⟩] [])
  (.cond (.t 4)
   (.seq (.reg none [⟨some 2, .mv (.c (.d (.int .i64 32))), none⟩] [])
   .ret)
   .skip))
 (.seq .bad
 .ret)))⟩
/-- math/bits.TrailingZeros64 -/
def f307 : PFn := ⟨1, 14, [.t 2], false,
 (.seq (.reg none [⟨some 2, .mv (.c (.d (.int .i64 0))), none⟩] [])
 (.seq (.seq (.reg none [⟨some 3, .mv (.t 0), none⟩,
     ⟨some 4, .bin .eql (.t 3) (.c (.d (.int .u64 0))), none⟩] [])
  (.cond (.t 4)
   (.seq (.reg none [⟨some 2, .mv (.c (.d (.int .i64 64))), none⟩] [])
   .ret)
   .skip))
 (.seq .bad
 .ret)))⟩
end Go.K18
