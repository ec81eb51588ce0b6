/- Pure Go: functions of the program as the evaluator's literals (written by a program of this seat's prover). -/
import Derived.Test.YtajaenkdllfidaaGreatDoorPg3
namespace Go.K18
open Go Go.PG
def f7b0 : PC :=
 (.seq (.seq (.reg none [⟨some 41, .mv (.t 5), none⟩,
     ⟨some 42, .faddr 16 (.t 4), none⟩,
     ⟨some 43, .load1 (.t 42), none⟩,
     ⟨some 44, .lenL (.t 43), none⟩,
     ⟨some 45, .bin .lss (.t 41) (.t 44), none⟩] [])
  (.cond (.t 45)
   .skip
   (.exit 0)))
 (.seq (.blk 1 none
   (.seq (.reg none [⟨some 48, .faddr 16 (.t 4), none⟩,
      ⟨some 49, .load1 (.t 48), none⟩,
      ⟨some 50, .mv (.t 5), none⟩,
      ⟨some 51, .iaddr 1 (.t 49) (.t 50), none⟩,
      ⟨some 52, .load1 (.t 51), none⟩,
      ⟨some 53, .call 42 [(.t 52)], none⟩,
      ⟨some 54, .un .not (.t 53), none⟩,
      ⟨some 55, .mv (.t 54), none⟩,
      ⟨some 56, .faddr 16 (.t 4), some (55, false)⟩,
      ⟨some 57, .load1 (.t 56), some (55, false)⟩,
      ⟨some 58, .mv (.t 5), some (55, false)⟩,
      ⟨some 59, .iaddr 1 (.t 57) (.t 58), some (55, false)⟩,
      ⟨some 60, .load1 (.t 59), some (55, false)⟩,
      ⟨some 61, .lenL (.t 60), some (55, false)⟩,
      ⟨some 62, .bin .eql (.t 61) (.c (.d (.int .i64 0))), some (55, false)⟩,
      ⟨some 63, .pick (.t 55) (.c (.d (.bool true))) (.t 62), none⟩] [])
   (.cond (.t 63)
    (.seq (.reg none [⟨some 2, .mv (.c (.d (.bool false))), none⟩] [])
    .ret)
    .skip)))
 (.reg none [⟨some 46, .mv (.t 5), none⟩,
   ⟨some 47, .bin .add (.t 46) (.c (.d (.int .i64 1))), none⟩,
   ⟨some 5, .mv (.t 47), none⟩] [])))
def f7l0 : PC := .loop [4, 5] [] f7b0
/-- orchestrator/orchestratorlaw18.KindsValid -/
def f7 : PFn := ⟨1, 85, [.t 2], false,
 (.seq (.reg none [⟨some 2, .mv (.c (.d (.bool false))), none⟩] [])
 (.seq (.reg none [⟨some 7, .call 10 [], none⟩,
    ⟨some 3, .mv (.t 7), none⟩] [])
 (.seq (.seq (.reg none [⟨some 8, .mv (.t 0), none⟩,
     ⟨some 9, .bin .lss (.t 8) (.c (.d (.int .i64 0))), none⟩,
     ⟨some 10, .mv (.t 9), none⟩,
     ⟨some 11, .mv (.t 0), some (10, false)⟩,
     ⟨some 12, .mv (.t 3), some (10, false)⟩,
     ⟨some 13, .lenL (.t 12), some (10, false)⟩,
     ⟨some 14, .bin .geq (.t 11) (.t 13), some (10, false)⟩,
     ⟨some 15, .pick (.t 10) (.c (.d (.bool true))) (.t 14), none⟩] [])
  (.cond (.t 15)
   (.seq (.reg none [⟨some 16, .call 8 [], none⟩,
      ⟨some 2, .mv (.t 16), none⟩] [])
   .ret)
   .skip))
 (.seq (.reg none [⟨some 17, .mv (.t 3), none⟩,
    ⟨some 18, .mv (.t 0), none⟩,
    ⟨some 19, .iaddr 17 (.t 17) (.t 18), none⟩,
    ⟨some 20, .loadn 17 (.t 19), none⟩,
    ⟨some 4, .alloc 30 [(.d (.str [])), (.d (.bool false)), (.d (.int .i64 0)), (.d (.int .i64 0)), (.d (.int .i64 0)), .nil, (.d (.str [])), .nil, .nil, (.d (.int .i64 0)), (.d (.int .i64 0)), (.d (.int .i64 0)), .nil, (.d (.str [])), .nil, .nil, .nil], none⟩,
    ⟨none, .store 17 (.t 4) (.t 20), none⟩] [])
 (.seq (.seq (.reg (some [(12, 15), (14, 15), (12, 16)]) [⟨some 21, .faddr 2 (.t 4), none⟩,
     ⟨some 22, .loadn 7 (.t 21), none⟩,
     ⟨some 23, .call 40 [(.t 22)], none⟩,
     ⟨some 24, .un .not (.t 23), none⟩,
     ⟨some 25, .mv (.t 24), none⟩,
     ⟨some 26, .faddr 9 (.t 4), some (25, false)⟩,
     ⟨some 27, .loadn 7 (.t 26), some (25, false)⟩,
     ⟨some 28, .call 40 [(.t 27)], some (25, false)⟩,
     ⟨some 29, .un .not (.t 28), some (25, false)⟩,
     ⟨some 30, .pick (.t 25) (.c (.d (.bool true))) (.t 29), none⟩,
     ⟨some 31, .mv (.t 30), none⟩,
     ⟨some 32, .faddr 9 (.t 4), some (31, false)⟩,
     ⟨some 33, .loadn 7 (.t 32), some (31, false)⟩,
     ⟨some 34, .faddr 9 (.t 4), some (31, false)⟩,
     ⟨some 35, .loadn 7 (.t 34), some (31, false)⟩,
     ⟨some 36, .call 38 [(.c .nil)], some (31, false)⟩,
     ⟨some 37, .call 41 [(.t 35), (.t 36)], some (31, false)⟩,
     ⟨some 38, .call 19 [(.t 33), (.t 37)], some (31, false)⟩,
     ⟨some 39, .un .not (.t 38), some (31, false)⟩,
     ⟨some 40, .pick (.t 31) (.c (.d (.bool true))) (.t 39), none⟩] [])
  (.cond (.t 40)
   (.seq (.reg none [⟨some 2, .mv (.c (.d (.bool false))), none⟩] [])
   .ret)
   .skip))
 (.seq (.seq (.reg none [⟨some 5, .mv (.c (.d (.int .i64 0))), none⟩] [])
  (.blk 0 (some [4])
   f7l0))
 (.seq (.reg (some [(1, 2), (1, 4), (2, 4), (3, 4)]) [⟨some 64, .faddr 2 (.t 4), none⟩,
    ⟨some 65, .loadn 7 (.t 64), none⟩,
    ⟨some 66, .call 38 [(.c .nil)], none⟩,
    ⟨some 67, .call 41 [(.t 65), (.t 66)], none⟩,
    ⟨some 6, .alloc 59 [(.d (.int .i64 0)), (.d (.int .i64 0)), (.d (.str [])), .nil, .nil], none⟩,
    ⟨none, .store 5 (.t 6) (.t 67), none⟩] [])
 (.seq (.reg (some [(5, 6), (13, 14)]) [⟨some 68, .call 8 [], none⟩,
    ⟨some 69, .mv (.t 68), none⟩,
    ⟨some 70, .faddr 2 (.t 4), some (69, true)⟩,
    ⟨some 71, .loadn 7 (.t 70), some (69, true)⟩,
    ⟨some 72, .loadn 5 (.t 6), some (69, true)⟩,
    ⟨some 73, .call 44 [(.t 71), (.t 72)], some (69, true)⟩,
    ⟨some 74, .loadn 5 (.t 6), some (69, true)⟩,
    ⟨some 75, .call 43 [(.t 73), (.t 74)], some (69, true)⟩,
    ⟨some 76, .pick (.t 69) (.t 75) (.c (.d (.bool false))), none⟩,
    ⟨some 77, .mv (.t 76), none⟩,
    ⟨some 78, .faddr 2 (.t 4), some (77, true)⟩,
    ⟨some 79, .loadn 7 (.t 78), some (77, true)⟩,
    ⟨some 80, .loadn 5 (.t 6), some (77, true)⟩,
    ⟨some 81, .call 41 [(.t 79), (.t 80)], some (77, true)⟩,
    ⟨some 82, .loadn 5 (.t 6), some (77, true)⟩,
    ⟨some 83, .call 43 [(.t 81), (.t 82)], some (77, true)⟩,
    ⟨some 84, .pick (.t 77) (.t 83) (.c (.d (.bool false))), none⟩,
    ⟨some 2, .mv (.t 84), none⟩] [])
 .ret))))))))⟩
/-- orchestrator/kinds.Types -/
def f10 : PFn := ⟨0, 80, [.t 0], false,
 (.seq (.reg none [⟨some 0, .mv (.c .nil), none⟩] [])
 (.seq (.reg none [⟨some 1, .mv (.c (.fn 49 [])), none⟩] [])
 (.seq (.reg none [⟨some 2, .call 53 [], none⟩,
    ⟨some 3, .call 54 [], none⟩,
    ⟨some 4, .call 57 [], none⟩,
    ⟨some 5, .call 59 [], none⟩,
    ⟨some 6, .call 58 [(.c (.d (.str [109, 105, 110, 82, 101, 97, 100, 121]))), (.t 5)], none⟩,
    ⟨some 7, .call 60 [], none⟩,
    ⟨some 8, .call 58 [(.c (.d (.str [114, 101, 118, 105, 115, 105, 111, 110]))), (.t 7)], none⟩,
    ⟨some 9, .mv (.t 1), none⟩,
    ⟨some 10, .callv (.t 9) [], none⟩,
    ⟨some 11, .call 61 [], none⟩,
    ⟨some 12, .call 51 [(.c (.d (.str [116, 101, 109, 112, 108, 97, 116, 101]))), (.t 11)], none⟩,
    ⟨some 13, .lits 135 11 160 [(.str []), (.bool false), (.bool false), (.sl []), (.int .i64 0), (.int .i64 0), (.int .i64 0), (.sl []), (.str []), (.sl []), (.sl [])] 5 [(0, (.t 4)), (1, (.t 6)), (2, (.t 8)), (3, (.t 10)), (4, (.t 12))], none⟩,
    ⟨some 14, .call 56 [(.t 13)], none⟩,
    ⟨some 15, .call 62 [], none⟩,
    ⟨some 16, .call 55 [(.c (.d (.str [82, 101, 112, 108, 105, 99, 97, 83, 101, 116]))), (.t 14), (.t 15)], none⟩,
    ⟨some 17, .call 63 [], none⟩,
    ⟨some 18, .call 64 [], none⟩,
    ⟨some 19, .call 57 [], none⟩,
    ⟨some 20, .call 60 [], none⟩,
    ⟨some 21, .call 58 [(.c (.d (.str [112, 97, 114, 116, 105, 116, 105, 111, 110]))), (.t 20)], none⟩,
    ⟨some 22, .call 59 [], none⟩,
    ⟨some 23, .call 58 [(.c (.d (.str [109, 105, 110, 82, 101, 97, 100, 121]))), (.t 22)], none⟩,
    ⟨some 24, .call 65 [], none⟩,
    ⟨some 25, .call 58 [(.c (.d (.str [112, 97, 114, 97, 108, 108, 101, 108]))), (.t 24)], none⟩,
    ⟨some 26, .call 50 [(.t 25)], none⟩,
    ⟨some 27, .mv (.t 1), none⟩,
    ⟨some 28, .callv (.t 27) [], none⟩,
    ⟨some 29, .call 61 [], none⟩,
    ⟨some 30, .call 51 [(.c (.d (.str [116, 101, 109, 112, 108, 97, 116, 101]))), (.t 29)], none⟩,
    ⟨some 31, .lits 135 11 160 [(.str []), (.bool false), (.bool false), (.sl []), (.int .i64 0), (.int .i64 0), (.int .i64 0), (.sl []), (.str []), (.sl []), (.sl [])] 6 [(0, (.t 19)), (1, (.t 21)), (2, (.t 23)), (3, (.t 26)), (4, (.t 28)), (5, (.t 30))], none⟩,
    ⟨some 32, .call 56 [(.t 31)], none⟩,
    ⟨some 33, .call 62 [], none⟩,
    ⟨some 34, .call 55 [(.c (.d (.str [83, 116, 97, 116, 101, 102, 117, 108, 83, 101, 116]))), (.t 32), (.t 33)], none⟩,
    ⟨some 35, .call 59 [], none⟩,
    ⟨some 36, .call 58 [(.c (.d (.str [109, 105, 110, 82, 101, 97, 100, 121]))), (.t 35)], none⟩,
    ⟨some 37, .call 67 [], none⟩,
    ⟨some 38, .call 68 [(.c (.d (.bool false))), (.c (.d (.int .i64 1)))], none⟩,
    ⟨some 39, .call 66 [(.c (.d (.str [117, 110, 97, 118, 97, 105, 108, 97, 98, 108, 101]))), (.t 37), (.t 38)], none⟩,
    ⟨some 40, .mv (.t 1), none⟩,
    ⟨some 41, .callv (.t 40) [], none⟩,
    ⟨some 42, .call 61 [], none⟩,
    ⟨some 43, .call 51 [(.c (.d (.str [116, 101, 109, 112, 108, 97, 116, 101]))), (.t 42)], none⟩,
    ⟨some 44, .lits 135 11 160 [(.str []), (.bool false), (.bool false), (.sl []), (.int .i64 0), (.int .i64 0), (.int .i64 0), (.sl []), (.str []), (.sl []), (.sl [])] 4 [(0, (.t 36)), (1, (.t 39)), (2, (.t 41)), (3, (.t 43))], none⟩,
    ⟨some 45, .call 56 [(.t 44)], none⟩,
    ⟨some 46, .call 62 [], none⟩,
    ⟨some 47, .call 55 [(.c (.d (.str [68, 97, 101, 109, 111, 110, 83, 101, 116]))), (.t 45), (.t 46)], none⟩,
    ⟨some 48, .call 69 [], none⟩,
    ⟨some 49, .call 70 [], none⟩,
    ⟨some 50, .call 71 [], none⟩,
    ⟨some 51, .call 52 [], none⟩,
    ⟨some 52, .call 51 [(.c (.d (.str [115, 101, 108, 101, 99, 116, 111, 114]))), (.t 51)], none⟩,
    ⟨some 53, .call 72 [], none⟩,
    ⟨some 54, .call 58 [(.c (.d (.str [112, 111, 114, 116, 115]))), (.t 53)], none⟩,
    ⟨some 55, .call 65 [], none⟩,
    ⟨some 56, .call 58 [(.c (.d (.str [115, 116, 105, 99, 107, 121]))), (.t 55)], none⟩,
    ⟨some 57, .lits 135 11 160 [(.str []), (.bool false), (.bool false), (.sl []), (.int .i64 0), (.int .i64 0), (.int .i64 0), (.sl []), (.str []), (.sl []), (.sl [])] 3 [(0, (.t 52)), (1, (.t 54)), (2, (.t 56))], none⟩,
    ⟨some 58, .call 56 [(.t 57)], none⟩,
    ⟨some 59, .call 60 [], none⟩,
    ⟨some 60, .call 58 [(.c (.d (.str [97, 100, 100, 114, 101, 115, 115]))), (.t 59)], none⟩,
    ⟨some 61, .lits 135 11 160 [(.str []), (.bool false), (.bool false), (.sl []), (.int .i64 0), (.int .i64 0), (.int .i64 0), (.sl []), (.str []), (.sl []), (.sl [])] 1 [(0, (.t 60))], none⟩,
    ⟨some 62, .call 56 [(.t 61)], none⟩,
    ⟨some 63, .call 55 [(.c (.d (.str [83, 101, 114, 118, 105, 99, 101]))), (.t 58), (.t 62)], none⟩,
    ⟨some 64, .call 73 [], none⟩,
    ⟨some 65, .call 74 [], none⟩,
    ⟨some 66, .call 75 [], none⟩,
    ⟨some 67, .call 58 [(.c (.d (.str [104, 97, 114, 100]))), (.t 66)], none⟩,
    ⟨some 68, .call 60 [], none⟩,
    ⟨some 69, .call 58 [(.c (.d (.str [112, 111, 100, 115]))), (.t 68)], none⟩,
    ⟨some 70, .lits 135 11 160 [(.str []), (.bool false), (.bool false), (.sl []), (.int .i64 0), (.int .i64 0), (.int .i64 0), (.sl []), (.str []), (.sl []), (.sl [])] 2 [(0, (.t 67)), (1, (.t 69))], none⟩,
    ⟨some 71, .call 56 [(.t 70)], none⟩,
    ⟨some 72, .call 75 [], none⟩,
    ⟨some 73, .call 58 [(.c (.d (.str [117, 115, 101, 100]))), (.t 72)], none⟩,
    ⟨some 74, .call 60 [], none⟩,
    ⟨some 75, .call 58 [(.c (.d (.str [104, 97, 115]))), (.t 74)], none⟩,
    ⟨some 76, .lits 135 11 160 [(.str []), (.bool false), (.bool false), (.sl []), (.int .i64 0), (.int .i64 0), (.int .i64 0), (.sl []), (.str []), (.sl []), (.sl [])] 2 [(0, (.t 73)), (1, (.t 75))], none⟩,
    ⟨some 77, .call 56 [(.t 76)], none⟩,
    ⟨some 78, .call 55 [(.c (.d (.str [81, 117, 111, 116, 97]))), (.t 71), (.t 77)], none⟩,
    ⟨some 79, .lits 30 17 272 [(.str []), (.bool false), (.int .i64 0), (.int .i64 0), (.int .i64 0), (.sl []), (.str []), (.sl []), (.sl []), (.int .i64 0), (.int .i64 0), (.int .i64 0), (.sl []), (.str []), (.sl []), (.sl []), (.sl [])] 14 [(0, (.t 2)), (1, (.t 3)), (2, (.t 16)), (3, (.t 17)), (4, (.t 18)), (5, (.t 34)), (6, (.t 47)), (7, (.t 48)), (8, (.t 49)), (9, (.t 50)), (10, (.t 63)), (11, (.t 64)), (12, (.t 65)), (13, (.t 78))], none⟩,
    ⟨some 0, .mv (.t 79), none⟩] [])
 .ret)))⟩
/-- orchestrator/orchestratorlaw18.lives -/
def f8 : PFn := ⟨0, 40, [.t 0], false,
 (.seq (.reg none [⟨some 0, .mv (.c (.d (.bool false))), none⟩] [])
 (.seq (.reg none [⟨some 6, .call 10 [], none⟩,
    ⟨some 1, .mv (.t 6), none⟩] [])
 (.seq (.reg none [⟨some 8, .mv (.t 1), none⟩,
    ⟨some 9, .call 9 [(.t 8), (.c (.d (.str [78, 111, 100, 101])))], none⟩,
    ⟨some 7, .mv (.t 9), none⟩,
    ⟨some 10, .ext (.t 7) 0, none⟩,
    ⟨some 11, .ext (.t 7) 1, none⟩,
    ⟨some 2, .alloc 30 [(.d (.str [])), (.d (.bool false)), (.d (.int .i64 0)), (.d (.int .i64 0)), (.d (.int .i64 0)), .nil, (.d (.str [])), .nil, .nil, (.d (.int .i64 0)), (.d (.int .i64 0)), (.d (.int .i64 0)), .nil, (.d (.str [])), .nil, .nil, .nil], none⟩,
    ⟨none, .store 17 (.t 2) (.t 10), none⟩,
    ⟨some 3, .mv (.t 11), none⟩] [])
 (.seq (.reg none [⟨some 13, .mv (.t 1), none⟩,
    ⟨some 14, .call 9 [(.t 13), (.c (.d (.str [78, 111, 100])))], none⟩,
    ⟨some 12, .mv (.t 14), none⟩,
    ⟨some 15, .ext (.t 12) 0, none⟩,
    ⟨some 16, .ext (.t 12) 1, none⟩,
    ⟨some 4, .alloc 30 [(.d (.str [])), (.d (.bool false)), (.d (.int .i64 0)), (.d (.int .i64 0)), (.d (.int .i64 0)), .nil, (.d (.str [])), .nil, .nil, (.d (.int .i64 0)), (.d (.int .i64 0)), (.d (.int .i64 0)), .nil, (.d (.str [])), .nil, .nil, .nil], none⟩,
    ⟨none, .store 17 (.t 4) (.t 15), none⟩,
    ⟨some 5, .mv (.t 16), none⟩] [])
 (.seq (.reg (some [(17, 18)]) [⟨some 17, .mv (.t 1), none⟩,
    ⟨some 18, .lenL (.t 17), none⟩,
    ⟨some 19, .bin .eql (.t 18) (.c (.d (.int .i64 14))), none⟩,
    ⟨some 20, .mv (.t 19), none⟩,
    ⟨some 21, .mv (.t 3), some (20, true)⟩,
    ⟨some 22, .pick (.t 20) (.t 21) (.c (.d (.bool false))), none⟩,
    ⟨some 23, .mv (.t 22), none⟩,
    ⟨some 24, .faddr 1 (.t 2), some (23, true)⟩,
    ⟨some 25, .load1 (.t 24), some (23, true)⟩,
    ⟨some 26, .un .not (.t 25), some (23, true)⟩,
    ⟨some 27, .pick (.t 23) (.t 26) (.c (.d (.bool false))), none⟩,
    ⟨some 28, .mv (.t 27), none⟩,
    ⟨some 29, .mv (.t 5), some (28, true)⟩,
    ⟨some 30, .un .not (.t 29), some (28, true)⟩,
    ⟨some 31, .pick (.t 28) (.t 30) (.c (.d (.bool false))), none⟩,
    ⟨some 32, .mv (.t 31), none⟩,
    ⟨some 33, .faddr 2 (.t 2), some (32, true)⟩,
    ⟨some 34, .loadn 7 (.t 33), some (32, true)⟩,
    ⟨some 35, .call 38 [(.c .nil)], some (32, true)⟩,
    ⟨some 36, .call 37 [(.t 34), (.t 35)], some (32, true)⟩,
    ⟨some 37, .lenL (.t 36), some (32, true)⟩,
    ⟨some 38, .bin .eql (.t 37) (.c (.d (.int .i64 1))), some (32, true)⟩,
    ⟨some 39, .pick (.t 32) (.t 38) (.c (.d (.bool false))), none⟩,
    ⟨some 0, .mv (.t 39), none⟩] [])
 .ret)))))⟩
/-- orchestrator/schema.Valid -/
def f40 : PFn := ⟨1, 5, [.t 2], false,
 (.seq (.reg none [⟨some 1, .box 27 (.t 0), none⟩,
    ⟨some 2, .mv (.c (.d (.bool false))), none⟩] [])
 (.seq (.reg none [⟨some 3, .loadn 7 (.t 1), none⟩,
    ⟨some 4, .call 122 [(.t 3), (.c (.d (.int .i64 12)))], none⟩,
    ⟨some 2, .mv (.t 4), none⟩] [])
 .ret))⟩
def f38b0 : PC :=
 (.seq (.seq (.reg (some []) [⟨some 13, .mv (.t 5), none⟩,
     ⟨some 14, .mv (.t 3), none⟩,
     ⟨some 15, .lenL (.t 14), none⟩,
     ⟨some 16, .bin .lss (.t 13) (.t 15), none⟩,
     ⟨some 17, .mv (.t 16), none⟩,
     ⟨some 18, .mv (.t 3), some (17, true)⟩,
     ⟨some 19, .mv (.t 5), some (17, true)⟩,
     ⟨some 20, .iaddr 6 (.t 18) (.t 19), some (17, true)⟩,
     ⟨some 21, .faddr 0 (.t 20), some (17, true)⟩,
     ⟨some 22, .load1 (.t 21), some (17, true)⟩,
     ⟨some 23, .mv (.t 0), some (17, true)⟩,
     ⟨some 24, .mv (.t 4), some (17, true)⟩,
     ⟨some 25, .iaddr 6 (.t 23) (.t 24), some (17, true)⟩,
     ⟨some 26, .faddr 0 (.t 25), some (17, true)⟩,
     ⟨some 27, .load1 (.t 26), some (17, true)⟩,
     ⟨some 28, .bin .lss (.t 22) (.t 27), some (17, true)⟩,
     ⟨some 29, .pick (.t 17) (.t 28) (.c (.d (.bool false))), none⟩] [])
  (.cond (.t 29)
   .skip
   (.exit 2)))
 (.blk 3 none
  (.reg none [⟨some 30, .mv (.t 5), none⟩,
    ⟨some 31, .bin .add (.t 30) (.c (.d (.int .i64 1))), none⟩,
    ⟨some 5, .mv (.t 31), none⟩] [])))
def f38l0 : PC := .loop [0, 2, 3, 4, 5] [] f38b0
def f38b1 : PC :=
 (.seq (.seq (.reg none [⟨some 7, .mv (.t 4), none⟩,
     ⟨some 8, .mv (.t 0), none⟩,
     ⟨some 9, .lenL (.t 8), none⟩,
     ⟨some 10, .bin .lss (.t 7) (.t 9), none⟩] [])
  (.cond (.t 10)
   .skip
   (.exit 0)))
 (.seq (.blk 1 none
   (.seq (.reg none [⟨some 5, .mv (.c (.d (.int .i64 0))), none⟩] [])
   (.seq (.blk 2 (some [0, 2, 3, 4, 5])
     f38l0)
   (.seq (.reg none [⟨some 6, .mv (.c .nil), none⟩] [])
   (.seq (.reg none [⟨some 32, .mv (.t 6), none⟩,
      ⟨some 33, .mv (.t 3), none⟩,
      ⟨some 34, .mv (.t 5), none⟩,
      ⟨some 35, .slc 6 (.t 33) none (some (.t 34)) none, none⟩,
      ⟨some 36, .app 115 6 96 (.t 32) (.t 35), none⟩,
      ⟨some 6, .mv (.t 36), none⟩] [])
   (.seq (.reg none [⟨some 37, .mv (.t 6), none⟩,
      ⟨some 38, .mv (.t 0), none⟩,
      ⟨some 39, .mv (.t 4), none⟩,
      ⟨some 40, .iaddr 6 (.t 38) (.t 39), none⟩,
      ⟨some 41, .loadn 6 (.t 40), none⟩,
      ⟨some 42, .lits 115 6 96 [(.str []), (.int .i64 0), (.int .i64 0), (.str []), (.sl []), (.sl [])] 1 [(0, (.t 41))], none⟩,
      ⟨some 43, .app 115 6 96 (.t 37) (.t 42), none⟩,
      ⟨some 6, .mv (.t 43), none⟩] [])
   (.seq (.reg none [⟨some 44, .mv (.t 6), none⟩,
      ⟨some 45, .mv (.t 3), none⟩,
      ⟨some 46, .mv (.t 5), none⟩,
      ⟨some 47, .slc 6 (.t 45) (some (.t 46)) none none, none⟩,
      ⟨some 48, .app 115 6 96 (.t 44) (.t 47), none⟩,
      ⟨some 6, .mv (.t 48), none⟩] [])
   (.reg none [⟨some 49, .mv (.t 6), none⟩,
     ⟨some 3, .mv (.t 49), none⟩] []))))))))
 (.reg none [⟨some 11, .mv (.t 4), none⟩,
   ⟨some 12, .bin .add (.t 11) (.c (.d (.int .i64 1))), none⟩,
   ⟨some 4, .mv (.t 12), none⟩] [])))
def f38l1 : PC := .loop [0, 2, 3, 4] [] f38b1
/-- orchestrator/orchestratorref18.Map -/
def f38 : PFn := ⟨1, 52, [.cn 2 5], false,
 (.seq (.reg none [⟨some 2, .alloc 59 [(.d (.int .i64 0)), (.d (.int .i64 0)), (.d (.str [])), .nil, .nil], none⟩] [])
 (.seq (.reg none [⟨some 3, .mv (.c .nil), none⟩] [])
 (.seq (.seq (.reg none [⟨some 4, .mv (.c (.d (.int .i64 0))), none⟩] [])
  (.blk 0 (some [2, 3])
   f38l1))
 (.seq (.reg none [⟨some 50, .mv (.t 3), none⟩,
    ⟨some 51, .build [(.d (.int .i64 0)), (.d (.int .i64 0)), (.d (.str [])), .nil, .nil] [(0, 1, (.c (.d (.int .i64 5)))), (4, 1, (.t 50))], none⟩,
    ⟨none, .store 5 (.t 2) (.t 51), none⟩] [])
 .ret))))⟩
def f41b0 : PC :=
 (.seq (.reg none [⟨some 47, .bin .lss (.t 46) (.t 45), none⟩] [])
 (.seq (.cond (.t 47)
   .skip
   (.exit 1))
 (.seq (.blk 2 none
   (.seq (.reg none [⟨some 48, .iaddr 11 (.t 44) (.t 46), none⟩,
      ⟨some 49, .loadn 11 (.t 48), none⟩,
      ⟨some 6, .alloc 135 [(.d (.str [])), (.d (.bool false)), (.d (.bool false)), .nil, (.d (.int .i64 0)), (.d (.int .i64 0)), (.d (.int .i64 0)), .nil, (.d (.str [])), .nil, .nil], none⟩,
      ⟨none, .store 11 (.t 6) (.t 49), none⟩] [])
   (.seq (.reg none [⟨some 51, .loadn 5 (.t 3), none⟩,
      ⟨some 52, .faddr 0 (.t 6), none⟩,
      ⟨some 53, .load1 (.t 52), none⟩,
      ⟨some 54, .call 125 [(.t 51), (.t 53)], none⟩,
      ⟨some 50, .mv (.t 54), none⟩,
      ⟨some 55, .ext (.t 50) 0, none⟩,
      ⟨some 56, .ext (.t 50) 1, none⟩,
      ⟨some 7, .alloc 59 [(.d (.int .i64 0)), (.d (.int .i64 0)), (.d (.str [])), .nil, .nil], none⟩,
      ⟨none, .store 5 (.t 7) (.t 55), none⟩,
      ⟨some 8, .mv (.t 56), none⟩] [])
   (.seq (.reg none [⟨some 57, .faddr 0 (.t 7), none⟩,
      ⟨some 58, .load1 (.t 57), none⟩,
      ⟨some 59, .bin .eql (.t 58) (.c (.d (.int .i64 0))), none⟩,
      ⟨some 60, .mv (.t 59), none⟩,
      ⟨some 61, .faddr 3 (.t 6), some (60, true)⟩,
      ⟨some 62, .load1 (.t 61), some (60, true)⟩,
      ⟨some 63, .lenL (.t 62), some (60, true)⟩,
      ⟨some 64, .bin .gtr (.t 63) (.c (.d (.int .i64 0))), some (60, true)⟩,
      ⟨some 65, .pick (.t 60) (.t 64) (.c (.d (.bool false))), none⟩] [])
   (.cond (.t 65)
    (.reg (some []) [⟨some 66, .loadn 5 (.t 3), none⟩,
      ⟨some 67, .faddr 0 (.t 6), none⟩,
      ⟨some 68, .load1 (.t 67), none⟩,
      ⟨some 69, .faddr 3 (.t 6), none⟩,
      ⟨some 70, .load1 (.t 69), none⟩,
      ⟨some 71, .iaddr 5 (.t 70) (.c (.d (.int .i64 0))), none⟩,
      ⟨some 72, .loadn 5 (.t 71), none⟩,
      ⟨some 73, .call 126 [(.t 66), (.t 68), (.t 72)], none⟩,
      ⟨none, .store 5 (.t 3) (.t 73), none⟩] [])
    .skip)))))
 (.reg none [⟨some 74, .bin .add (.t 46) (.c (.d (.int .i64 1))), none⟩,
   ⟨some 46, .mv (.t 74), none⟩] []))))
def f41l0 : PC := .loop [2, 3, 4, 44, 45, 46] [] f41b0
def f41b1 : PC :=
 (.seq (.reg none [⟨some 79, .bin .lss (.t 78) (.t 77), none⟩] [])
 (.seq (.cond (.t 79)
   .skip
   (.exit 3))
 (.seq (.blk 4 none
   (.seq (.reg none [⟨some 80, .iaddr 6 (.t 76) (.t 78), none⟩,
      ⟨some 81, .loadn 6 (.t 80), none⟩,
      ⟨some 11, .alloc 115 [(.d (.str [])), (.d (.int .i64 0)), (.d (.int .i64 0)), (.d (.str [])), .nil, .nil], none⟩,
      ⟨none, .store 6 (.t 11) (.t 81), none⟩] [])
   (.seq (.seq (.reg none [⟨some 83, .loadn 7 (.t 2), none⟩,
       ⟨some 84, .faddr 0 (.t 11), none⟩,
       ⟨some 85, .load1 (.t 84), none⟩,
       ⟨some 86, .call 127 [(.t 83), (.t 85)], none⟩,
       ⟨some 82, .mv (.t 86), none⟩,
       ⟨some 87, .ext (.t 82) 0, none⟩,
       ⟨some 88, .ext (.t 82) 1, none⟩,
       ⟨some 12, .alloc 27 [(.d (.int .i64 0)), (.d (.int .i64 0)), (.d (.int .i64 0)), .nil, (.d (.str [])), .nil, .nil], none⟩,
       ⟨none, .store 7 (.t 12) (.t 87), none⟩,
       ⟨some 13, .mv (.t 88), none⟩] [])
    (.seq (.reg none [⟨some 89, .mv (.t 13), none⟩] [])
    (.cond (.t 89)
     (.reg none [⟨some 90, .loadn 7 (.t 12), none⟩,
       ⟨some 91, .faddr 1 (.t 11), none⟩,
       ⟨some 92, .loadn 5 (.t 91), none⟩,
       ⟨some 93, .call 41 [(.t 90), (.t 92)], none⟩,
       ⟨some 94, .faddr 1 (.t 11), none⟩,
       ⟨none, .store 5 (.t 94) (.t 93), none⟩] [])
     .skip)))
   (.reg none [⟨some 95, .mv (.t 9), none⟩,
     ⟨some 96, .loadn 6 (.t 11), none⟩,
     ⟨some 97, .lits 115 6 96 [(.str []), (.int .i64 0), (.int .i64 0), (.str []), (.sl []), (.sl [])] 1 [(0, (.t 96))], none⟩,
     ⟨some 98, .app 115 6 96 (.t 95) (.t 97), none⟩,
     ⟨some 9, .mv (.t 98), none⟩] []))))
 (.reg none [⟨some 99, .bin .add (.t 78) (.c (.d (.int .i64 1))), none⟩,
   ⟨some 78, .mv (.t 99), none⟩] []))))
def f41l1 : PC := .loop [2, 4, 9, 76, 77, 78] [] f41b1
/-- orchestrator/defaults.Fill -/
def f41 : PFn := ⟨2, 102, [.cn 4 5], false,
 (.seq (.reg none [⟨some 2, .box 27 (.t 0), none⟩,
    ⟨some 3, .box 59 (.t 1), none⟩,
    ⟨some 4, .alloc 59 [(.d (.int .i64 0)), (.d (.int .i64 0)), (.d (.str [])), .nil, .nil], none⟩] [])
 (.seq (.blk 0 none
   (.seq (.reg none [⟨some 15, .faddr 0 (.t 3), none⟩,
      ⟨some 16, .load1 (.t 15), none⟩,
      ⟨some 17, .faddr 0 (.t 2), none⟩,
      ⟨some 18, .load1 (.t 17), none⟩,
      ⟨some 19, .bin .neq (.t 16) (.t 18), none⟩,
      ⟨some 20, .mv (.t 19), none⟩,
      ⟨some 21, .faddr 0 (.t 3), some (20, false)⟩,
      ⟨some 22, .load1 (.t 21), some (20, false)⟩,
      ⟨some 23, .bin .neq (.t 22) (.c (.d (.int .i64 5))), some (20, false)⟩,
      ⟨some 24, .mv (.t 23), some (20, false)⟩,
      ⟨some 25, .faddr 0 (.t 3), some (24, true)⟩,
      ⟨some 26, .load1 (.t 25), some (24, true)⟩,
      ⟨some 27, .bin .neq (.t 26) (.c (.d (.int .i64 4))), some (24, true)⟩,
      ⟨some 28, .pick (.t 24) (.t 27) (.c (.d (.bool false))), some (20, false)⟩,
      ⟨some 29, .pick (.t 20) (.c (.d (.bool true))) (.t 28), none⟩,
      ⟨some 14, .mv (.t 29), none⟩] [])
   (.cond (.t 14)
    (.seq (.reg none [⟨some 30, .loadn 5 (.t 3), none⟩,
       ⟨some 31, .call 123 [(.t 30)], none⟩,
       ⟨none, .store 5 (.t 4) (.t 31), none⟩] [])
    .ret)
    (.seq (.reg none [⟨some 33, .faddr 0 (.t 3), none⟩,
       ⟨some 34, .load1 (.t 33), none⟩,
       ⟨some 35, .bin .eql (.t 34) (.c (.d (.int .i64 4))), none⟩,
       ⟨some 32, .mv (.t 35), none⟩] [])
    (.cond (.t 32)
     (.seq (.reg none [⟨some 36, .loadn 7 (.t 2), none⟩,
        ⟨some 37, .loadn 5 (.t 3), none⟩,
        ⟨some 38, .call 124 [(.t 36), (.t 37), (.c (.fn 41 []))], none⟩,
        ⟨none, .store 5 (.t 4) (.t 38), none⟩] [])
     .ret)
     .skip)))))
 (.seq (.seq (.reg none [⟨some 39, .faddr 5 (.t 2), none⟩,
     ⟨some 40, .load1 (.t 39), none⟩,
     ⟨some 41, .lenL (.t 40), none⟩,
     ⟨some 42, .bin .eql (.t 41) (.c (.d (.int .i64 0))), none⟩] [])
  (.cond (.t 42)
   (.seq (.reg none [⟨some 43, .faddr 6 (.t 2), none⟩,
      ⟨some 44, .load1 (.t 43), none⟩,
      ⟨some 45, .lenL (.t 44), none⟩,
      ⟨some 46, .mv (.c (.d (.int .i64 0))), none⟩] [])
   (.blk 1 (some [2, 3, 4])
    f41l0))
   .skip))
 (.seq (.reg none [⟨some 9, .mv (.c .nil), none⟩] [])
 (.seq (.seq (.reg none [⟨some 75, .faddr 4 (.t 3), none⟩,
     ⟨some 76, .load1 (.t 75), none⟩,
     ⟨some 77, .lenL (.t 76), none⟩,
     ⟨some 78, .mv (.c (.d (.int .i64 0))), none⟩] [])
  (.blk 3 (some [4, 9])
   f41l1))
 (.seq (.reg none [⟨some 100, .mv (.t 9), none⟩,
    ⟨some 101, .call 128 [(.t 100)], none⟩,
    ⟨none, .store 5 (.t 4) (.t 101), none⟩] [])
 .ret))))))⟩
/-- orchestrator/orchestratorlaw18.fits -/
def f19 : PFn := ⟨2, 20, [.t 4], false,
 (.seq (.reg none [⟨some 2, .box 27 (.t 0), none⟩,
    ⟨some 3, .box 59 (.t 1), none⟩,
    ⟨some 4, .mv (.c (.d (.bool false))), none⟩] [])
 (.seq (.reg none [⟨some 5, .faddr 0 (.t 2), none⟩,
    ⟨some 6, .load1 (.t 5), none⟩,
    ⟨some 7, .bin .eql (.t 6) (.c (.d (.int .i64 5))), none⟩,
    ⟨some 8, .mv (.t 7), none⟩,
    ⟨some 9, .loadn 5 (.t 3), some (8, true)⟩,
    ⟨some 10, .call 105 [(.t 9)], some (8, true)⟩,
    ⟨some 11, .un .not (.t 10), some (8, true)⟩,
    ⟨some 12, .mv (.t 11), some (8, true)⟩,
    ⟨some 13, .loadn 7 (.t 2), some (12, false)⟩,
    ⟨some 14, .loadn 5 (.t 3), some (12, false)⟩,
    ⟨some 15, .call 37 [(.t 13), (.t 14)], some (12, false)⟩,
    ⟨some 16, .lenL (.t 15), some (12, false)⟩,
    ⟨some 17, .bin .eql (.t 16) (.c (.d (.int .i64 0))), some (12, false)⟩,
    ⟨some 18, .pick (.t 12) (.c (.d (.bool true))) (.t 17), some (8, true)⟩,
    ⟨some 19, .pick (.t 8) (.t 18) (.c (.d (.bool false))), none⟩,
    ⟨some 4, .mv (.t 19), none⟩] [])
 .ret))⟩
def f42b0 : PC :=
 (.seq (.reg none [⟨some 20, .bin .lss (.t 19) (.t 18), none⟩] [])
 (.seq (.cond (.t 20)
   .skip
   (.exit 0))
 (.seq (.blk 1 none
   (.seq (.reg none [⟨some 21, .iaddr 5 (.t 17) (.t 19), none⟩,
      ⟨some 22, .loadn 5 (.t 21), none⟩,
      ⟨some 6, .alloc 130 [(.d (.int .i64 0)), (.d (.int .i64 0)), (.d (.str [])), (.d (.str [])), .nil], none⟩,
      ⟨none, .store 5 (.t 6) (.t 22), none⟩] [])
   (.seq (.reg none [⟨some 24, .faddr 2 (.t 6), none⟩,
      ⟨some 25, .load1 (.t 24), none⟩,
      ⟨some 26, .call 132 [(.t 25)], none⟩,
      ⟨some 23, .mv (.t 26), none⟩,
      ⟨some 27, .ext (.t 23) 0, none⟩,
      ⟨some 28, .ext (.t 23) 1, none⟩,
      ⟨some 7, .mv (.t 27), none⟩,
      ⟨some 8, .mv (.t 28), none⟩] [])
   (.seq (.reg none [⟨some 29, .mv (.t 7), none⟩,
      ⟨some 9, .mv (.t 29), none⟩] [])
   (.seq (.seq (.reg none [⟨some 30, .faddr 0 (.t 6), none⟩,
       ⟨some 31, .load1 (.t 30), none⟩,
       ⟨some 32, .bin .eql (.t 31) (.c (.d (.int .i64 1))), none⟩] [])
    (.cond (.t 32)
     (.reg none [⟨some 34, .faddr 3 (.t 6), none⟩,
       ⟨some 35, .load1 (.t 34), none⟩,
       ⟨some 36, .call 132 [(.t 35)], none⟩,
       ⟨some 33, .mv (.t 36), none⟩,
       ⟨some 37, .ext (.t 33) 0, none⟩,
       ⟨some 38, .ext (.t 33) 1, none⟩,
       ⟨some 9, .mv (.t 37), none⟩] [])
     .skip))
   (.reg none [⟨some 39, .mv (.t 3), none⟩,
     ⟨some 40, .mv (.t 7), none⟩,
     ⟨some 41, .lits 191 1 24 [(.sl [])] 1 [(0, (.t 40))], none⟩,
     ⟨some 42, .app 191 1 24 (.t 39) (.t 41), none⟩,
     ⟨some 43, .mv (.t 4), none⟩,
     ⟨some 44, .mv (.t 9), none⟩,
     ⟨some 45, .lits 191 1 24 [(.sl [])] 1 [(0, (.t 44))], none⟩,
     ⟨some 46, .app 191 1 24 (.t 43) (.t 45), none⟩,
     ⟨some 3, .mv (.t 42), none⟩,
     ⟨some 4, .mv (.t 46), none⟩] []))))))
 (.reg none [⟨some 47, .bin .add (.t 19) (.c (.d (.int .i64 1))), none⟩,
   ⟨some 19, .mv (.t 47), none⟩] []))))
def f42l0 : PC := .loop [3, 4, 17, 18, 19] [] f42b0
/-- orchestrator/convert.Valid -/
def f42 : PFn := ⟨1, 54, [.t 2], false,
 (.seq (.reg none [⟨some 2, .mv (.c (.d (.bool false))), none⟩] [])
 (.seq (.seq (.reg none [⟨some 10, .mv (.t 0), none⟩,
     ⟨some 11, .lenL (.t 10), none⟩,
     ⟨some 12, .bin .gtr (.t 11) (.c (.d (.int .i64 16))), none⟩,
     ⟨some 13, .mv (.t 12), none⟩,
     ⟨some 14, .mv (.t 0), some (13, false)⟩,
     ⟨some 15, .call 129 [(.t 14), (.c (.fn 130 []))], some (13, false)⟩,
     ⟨some 16, .pick (.t 13) (.c (.d (.bool true))) (.t 15), none⟩] [])
  (.cond (.t 16)
   (.seq (.reg none [⟨some 2, .mv (.c (.d (.bool false))), none⟩] [])
   .ret)
   .skip))
 (.seq (.reg none [⟨some 3, .mv (.c .nil), none⟩,
    ⟨some 4, .mv (.c .nil), none⟩] [])
 (.seq (.seq (.reg none [⟨some 17, .mv (.t 0), none⟩,
     ⟨some 18, .lenL (.t 17), none⟩,
     ⟨some 19, .mv (.c (.d (.int .i64 0))), none⟩] [])
  (.blk 0 (some [3, 4])
   f42l0))
 (.seq (.reg none [⟨some 48, .mv (.t 3), none⟩,
    ⟨some 49, .call 133 [(.t 48)], none⟩,
    ⟨some 50, .mv (.t 49), none⟩,
    ⟨some 51, .mv (.t 4), some (50, true)⟩,
    ⟨some 52, .call 133 [(.t 51)], some (50, true)⟩,
    ⟨some 53, .pick (.t 50) (.t 52) (.c (.d (.bool false))), none⟩,
    ⟨some 2, .mv (.t 53), none⟩] [])
 .ret)))))⟩
def f44b0 : PC :=
 (.seq (.reg none [⟨some 39, .bin .lss (.t 38) (.t 37), none⟩] [])
 (.seq (.cond (.t 39)
   .skip
   (.exit 1))
 (.seq (.blk 2 none
   (.seq (.reg none [⟨some 40, .iaddr 6 (.t 36) (.t 38), none⟩,
      ⟨some 41, .loadn 6 (.t 40), none⟩,
      ⟨some 7, .alloc 115 [(.d (.str [])), (.d (.int .i64 0)), (.d (.int .i64 0)), (.d (.str [])), .nil, .nil], none⟩,
      ⟨none, .store 6 (.t 7) (.t 41), none⟩] [])
   (.seq (.reg none [⟨some 43, .loadn 7 (.t 2), none⟩,
      ⟨some 44, .faddr 0 (.t 7), none⟩,
      ⟨some 45, .load1 (.t 44), none⟩,
      ⟨some 46, .call 127 [(.t 43), (.t 45)], none⟩,
      ⟨some 42, .mv (.t 46), none⟩,
      ⟨some 47, .ext (.t 42) 0, none⟩,
      ⟨some 48, .ext (.t 42) 1, none⟩,
      ⟨some 8, .alloc 27 [(.d (.int .i64 0)), (.d (.int .i64 0)), (.d (.int .i64 0)), .nil, (.d (.str [])), .nil, .nil], none⟩,
      ⟨none, .store 7 (.t 8) (.t 47), none⟩,
      ⟨some 9, .mv (.t 48), none⟩] [])
   (.seq (.reg none [⟨some 49, .mv (.t 9), none⟩,
      ⟨some 50, .mv (.t 49), none⟩,
      ⟨some 51, .faddr 1 (.t 7), some (50, true)⟩,
      ⟨some 52, .faddr 0 (.t 51), some (50, true)⟩,
      ⟨some 53, .load1 (.t 52), some (50, true)⟩,
      ⟨some 54, .bin .neq (.t 53) (.c (.d (.int .i64 0))), some (50, true)⟩,
      ⟨some 55, .pick (.t 50) (.t 54) (.c (.d (.bool false))), none⟩] [])
   (.cond (.t 55)
    (.reg (some [(2, 6)]) [⟨some 56, .mv (.t 5), none⟩,
      ⟨some 57, .faddr 0 (.t 7), none⟩,
      ⟨some 58, .load1 (.t 57), none⟩,
      ⟨some 59, .loadn 7 (.t 8), none⟩,
      ⟨some 60, .faddr 1 (.t 7), none⟩,
      ⟨some 61, .loadn 5 (.t 60), none⟩,
      ⟨some 62, .call 44 [(.t 59), (.t 61)], none⟩,
      ⟨some 63, .build [(.d (.str [])), (.d (.int .i64 0)), (.d (.int .i64 0)), (.d (.str [])), .nil, .nil] [(0, 1, (.t 58)), (1, 5, (.t 62))], none⟩,
      ⟨some 64, .lits 115 6 96 [(.str []), (.int .i64 0), (.int .i64 0), (.str []), (.sl []), (.sl [])] 1 [(0, (.t 63))], none⟩,
      ⟨some 65, .app 115 6 96 (.t 56) (.t 64), none⟩,
      ⟨some 5, .mv (.t 65), none⟩] [])
    .skip)))))
 (.reg none [⟨some 66, .bin .add (.t 38) (.c (.d (.int .i64 1))), none⟩,
   ⟨some 38, .mv (.t 66), none⟩] []))))
def f44l0 : PC := .loop [2, 4, 5, 36, 37, 38] [] f44b0
/-- orchestrator/defaults.Prune -/
def f44 : PFn := ⟨2, 69, [.cn 4 5], false,
 (.seq (.reg none [⟨some 2, .box 27 (.t 0), none⟩,
    ⟨some 3, .box 59 (.t 1), none⟩,
    ⟨some 4, .alloc 59 [(.d (.int .i64 0)), (.d (.int .i64 0)), (.d (.str [])), .nil, .nil], none⟩] [])
 (.seq (.blk 0 none
   (.seq (.reg none [⟨some 11, .faddr 0 (.t 3), none⟩,
      ⟨some 12, .load1 (.t 11), none⟩,
      ⟨some 13, .faddr 0 (.t 2), none⟩,
      ⟨some 14, .load1 (.t 13), none⟩,
      ⟨some 15, .bin .neq (.t 12) (.t 14), none⟩,
      ⟨some 16, .mv (.t 15), none⟩,
      ⟨some 17, .faddr 0 (.t 3), some (16, false)⟩,
      ⟨some 18, .load1 (.t 17), some (16, false)⟩,
      ⟨some 19, .bin .neq (.t 18) (.c (.d (.int .i64 5))), some (16, false)⟩,
      ⟨some 20, .mv (.t 19), some (16, false)⟩,
      ⟨some 21, .faddr 0 (.t 3), some (20, true)⟩,
      ⟨some 22, .load1 (.t 21), some (20, true)⟩,
      ⟨some 23, .bin .neq (.t 22) (.c (.d (.int .i64 4))), some (20, true)⟩,
      ⟨some 24, .pick (.t 20) (.t 23) (.c (.d (.bool false))), some (16, false)⟩,
      ⟨some 25, .pick (.t 16) (.c (.d (.bool true))) (.t 24), none⟩,
      ⟨some 10, .mv (.t 25), none⟩] [])
   (.cond (.t 10)
    (.seq (.reg none [⟨some 26, .loadn 5 (.t 3), none⟩,
       ⟨some 27, .call 123 [(.t 26)], none⟩,
       ⟨none, .store 5 (.t 4) (.t 27), none⟩] [])
    .ret)
    (.seq (.reg none [⟨some 29, .faddr 0 (.t 3), none⟩,
       ⟨some 30, .load1 (.t 29), none⟩,
       ⟨some 31, .bin .eql (.t 30) (.c (.d (.int .i64 4))), none⟩,
       ⟨some 28, .mv (.t 31), none⟩] [])
    (.cond (.t 28)
     (.seq (.reg none [⟨some 32, .loadn 7 (.t 2), none⟩,
        ⟨some 33, .loadn 5 (.t 3), none⟩,
        ⟨some 34, .call 124 [(.t 32), (.t 33), (.c (.fn 44 []))], none⟩,
        ⟨none, .store 5 (.t 4) (.t 34), none⟩] [])
     .ret)
     .skip)))))
 (.seq (.reg none [⟨some 5, .mv (.c .nil), none⟩] [])
 (.seq (.seq (.reg none [⟨some 35, .faddr 4 (.t 3), none⟩,
     ⟨some 36, .load1 (.t 35), none⟩,
     ⟨some 37, .lenL (.t 36), none⟩,
     ⟨some 38, .mv (.c (.d (.int .i64 0))), none⟩] [])
  (.blk 1 (some [4, 5])
   f44l0))
 (.seq (.reg none [⟨some 67, .mv (.t 5), none⟩,
    ⟨some 68, .call 128 [(.t 67)], none⟩,
    ⟨none, .store 5 (.t 4) (.t 68), none⟩] [])
 .ret)))))⟩
def f43b0 : PC :=
 (.seq (.seq (.reg none [⟨some 44, .mv (.t 5), none⟩,
     ⟨some 45, .faddr 3 (.t 2), none⟩,
     ⟨some 46, .load1 (.t 45), none⟩,
     ⟨some 47, .lenL (.t 46), none⟩,
     ⟨some 48, .bin .lss (.t 44) (.t 47), none⟩] [])
  (.cond (.t 48)
   .skip
   (.exit 0)))
 (.seq (.blk 1 none
   (.seq (.reg (some []) [⟨some 51, .faddr 3 (.t 2), none⟩,
      ⟨some 52, .load1 (.t 51), none⟩,
      ⟨some 53, .mv (.t 5), none⟩,
      ⟨some 54, .iaddr 5 (.t 52) (.t 53), none⟩,
      ⟨some 55, .loadn 5 (.t 54), none⟩,
      ⟨some 56, .faddr 3 (.t 3), none⟩,
      ⟨some 57, .load1 (.t 56), none⟩,
      ⟨some 58, .mv (.t 5), none⟩,
      ⟨some 59, .iaddr 5 (.t 57) (.t 58), none⟩,
      ⟨some 60, .loadn 5 (.t 59), none⟩,
      ⟨some 61, .call 43 [(.t 55), (.t 60)], none⟩,
      ⟨some 62, .un .not (.t 61), none⟩] [])
   (.cond (.t 62)
    (.seq (.reg none [⟨some 4, .mv (.c (.d (.bool false))), none⟩] [])
    .ret)
    .skip)))
 (.reg none [⟨some 49, .mv (.t 5), none⟩,
   ⟨some 50, .bin .add (.t 49) (.c (.d (.int .i64 1))), none⟩,
   ⟨some 5, .mv (.t 50), none⟩] [])))
def f43l0 : PC := .loop [2, 3, 5] [] f43b0
def f43b1 : PC :=
 (.seq (.seq (.reg none [⟨some 63, .mv (.t 6), none⟩,
     ⟨some 64, .faddr 4 (.t 2), none⟩,
     ⟨some 65, .load1 (.t 64), none⟩,
     ⟨some 66, .lenL (.t 65), none⟩,
     ⟨some 67, .bin .lss (.t 63) (.t 66), none⟩] [])
  (.cond (.t 67)
   .skip
   (.exit 2)))
 (.seq (.blk 3 none
   (.seq (.reg (some []) [⟨some 70, .faddr 4 (.t 2), none⟩,
      ⟨some 71, .load1 (.t 70), none⟩,
      ⟨some 72, .mv (.t 6), none⟩,
      ⟨some 73, .iaddr 6 (.t 71) (.t 72), none⟩,
      ⟨some 74, .faddr 0 (.t 73), none⟩,
      ⟨some 75, .load1 (.t 74), none⟩,
      ⟨some 76, .faddr 4 (.t 3), none⟩,
      ⟨some 77, .load1 (.t 76), none⟩,
      ⟨some 78, .mv (.t 6), none⟩,
      ⟨some 79, .iaddr 6 (.t 77) (.t 78), none⟩,
      ⟨some 80, .faddr 0 (.t 79), none⟩,
      ⟨some 81, .load1 (.t 80), none⟩,
      ⟨some 82, .bin .neq (.t 75) (.t 81), none⟩,
      ⟨some 83, .mv (.t 82), none⟩,
      ⟨some 84, .faddr 4 (.t 2), some (83, false)⟩,
      ⟨some 85, .load1 (.t 84), some (83, false)⟩,
      ⟨some 86, .mv (.t 6), some (83, false)⟩,
      ⟨some 87, .iaddr 6 (.t 85) (.t 86), some (83, false)⟩,
      ⟨some 88, .faddr 1 (.t 87), some (83, false)⟩,
      ⟨some 89, .loadn 5 (.t 88), some (83, false)⟩,
      ⟨some 90, .faddr 4 (.t 3), some (83, false)⟩,
      ⟨some 91, .load1 (.t 90), some (83, false)⟩,
      ⟨some 92, .mv (.t 6), some (83, false)⟩,
      ⟨some 93, .iaddr 6 (.t 91) (.t 92), some (83, false)⟩,
      ⟨some 94, .faddr 1 (.t 93), some (83, false)⟩,
      ⟨some 95, .loadn 5 (.t 94), some (83, false)⟩,
      ⟨some 96, .call 43 [(.t 89), (.t 95)], some (83, false)⟩,
      ⟨some 97, .un .not (.t 96), some (83, false)⟩,
      ⟨some 98, .pick (.t 83) (.c (.d (.bool true))) (.t 97), none⟩] [])
   (.cond (.t 98)
    (.seq (.reg none [⟨some 4, .mv (.c (.d (.bool false))), none⟩] [])
    .ret)
    .skip)))
 (.reg none [⟨some 68, .mv (.t 6), none⟩,
   ⟨some 69, .bin .add (.t 68) (.c (.d (.int .i64 1))), none⟩,
   ⟨some 6, .mv (.t 69), none⟩] [])))
def f43l1 : PC := .loop [2, 3, 6] [] f43b1
/-- orchestrator/orchestratorref18.SameValue -/
def f43 : PFn := ⟨2, 99, [.t 4], false,
 (.seq (.reg none [⟨some 2, .box 59 (.t 0), none⟩,
    ⟨some 3, .box 59 (.t 1), none⟩,
    ⟨some 4, .mv (.c (.d (.bool false))), none⟩] [])
 (.seq (.seq (.reg none [⟨some 7, .faddr 0 (.t 2), none⟩,
     ⟨some 8, .load1 (.t 7), none⟩,
     ⟨some 9, .faddr 0 (.t 3), none⟩,
     ⟨some 10, .load1 (.t 9), none⟩,
     ⟨some 11, .bin .neq (.t 8) (.t 10), none⟩,
     ⟨some 12, .mv (.t 11), none⟩,
     ⟨some 13, .faddr 1 (.t 2), some (12, false)⟩,
     ⟨some 14, .load1 (.t 13), some (12, false)⟩,
     ⟨some 15, .faddr 1 (.t 3), some (12, false)⟩,
     ⟨some 16, .load1 (.t 15), some (12, false)⟩,
     ⟨some 17, .bin .neq (.t 14) (.t 16), some (12, false)⟩,
     ⟨some 18, .pick (.t 12) (.c (.d (.bool true))) (.t 17), none⟩,
     ⟨some 19, .mv (.t 18), none⟩,
     ⟨some 20, .faddr 2 (.t 2), some (19, false)⟩,
     ⟨some 21, .load1 (.t 20), some (19, false)⟩,
     ⟨some 22, .faddr 2 (.t 3), some (19, false)⟩,
     ⟨some 23, .load1 (.t 22), some (19, false)⟩,
     ⟨some 24, .bin .neq (.t 21) (.t 23), some (19, false)⟩,
     ⟨some 25, .pick (.t 19) (.c (.d (.bool true))) (.t 24), none⟩,
     ⟨some 26, .mv (.t 25), none⟩,
     ⟨some 27, .faddr 3 (.t 2), some (26, false)⟩,
     ⟨some 28, .load1 (.t 27), some (26, false)⟩,
     ⟨some 29, .lenL (.t 28), some (26, false)⟩,
     ⟨some 30, .faddr 3 (.t 3), some (26, false)⟩,
     ⟨some 31, .load1 (.t 30), some (26, false)⟩,
     ⟨some 32, .lenL (.t 31), some (26, false)⟩,
     ⟨some 33, .bin .neq (.t 29) (.t 32), some (26, false)⟩,
     ⟨some 34, .pick (.t 26) (.c (.d (.bool true))) (.t 33), none⟩,
     ⟨some 35, .mv (.t 34), none⟩,
     ⟨some 36, .faddr 4 (.t 2), some (35, false)⟩,
     ⟨some 37, .load1 (.t 36), some (35, false)⟩,
     ⟨some 38, .lenL (.t 37), some (35, false)⟩,
     ⟨some 39, .faddr 4 (.t 3), some (35, false)⟩,
     ⟨some 40, .load1 (.t 39), some (35, false)⟩,
     ⟨some 41, .lenL (.t 40), some (35, false)⟩,
     ⟨some 42, .bin .neq (.t 38) (.t 41), some (35, false)⟩,
     ⟨some 43, .pick (.t 35) (.c (.d (.bool true))) (.t 42), none⟩] [])
  (.cond (.t 43)
   (.seq (.reg none [⟨some 4, .mv (.c (.d (.bool false))), none⟩] [])
   .ret)
   .skip))
 (.seq (.seq (.reg none [⟨some 5, .mv (.c (.d (.int .i64 0))), none⟩] [])
  (.blk 0 (some [2, 3])
   f43l0))
 (.seq (.seq (.reg none [⟨some 6, .mv (.c (.d (.int .i64 0))), none⟩] [])
  (.blk 2 (some [])
   f43l1))
 (.seq (.reg none [⟨some 4, .mv (.c (.d (.bool true))), none⟩] [])
 .ret)))))⟩
/-- orchestrator/kinds.Types$1 -/
def f49 : PFn := ⟨0, 4, [.cn 0 11], false,
 (.seq (.reg none [⟨some 0, .alloc 135 [(.d (.str [])), (.d (.bool false)), (.d (.bool false)), .nil, (.d (.int .i64 0)), (.d (.int .i64 0)), (.d (.int .i64 0)), .nil, (.d (.str [])), .nil, .nil], none⟩] [])
 (.seq (.reg none [⟨some 1, .call 52 [], none⟩,
    ⟨some 2, .call 51 [(.c (.d (.str [115, 101, 108, 101, 99, 116, 111, 114]))), (.t 1)], none⟩,
    ⟨some 3, .call 50 [(.t 2)], none⟩,
    ⟨none, .store 11 (.t 0) (.t 3), none⟩] [])
 .ret))⟩
/-- orchestrator/kinds.pod -/
def f53 : PFn := ⟨0, 42, [.cn 0 17], false,
 (.seq (.reg none [⟨some 0, .alloc 30 [(.d (.str [])), (.d (.bool false)), (.d (.int .i64 0)), (.d (.int .i64 0)), (.d (.int .i64 0)), .nil, (.d (.str [])), .nil, .nil, (.d (.int .i64 0)), (.d (.int .i64 0)), (.d (.int .i64 0)), .nil, (.d (.str [])), .nil, .nil, .nil], none⟩] [])
 (.seq (.reg none [⟨some 2, .call 139 [(.c (.d (.int .i64 1))), (.c (.d (.int .i64 40)))], none⟩,
    ⟨some 3, .call 51 [(.c (.d (.str [110, 97, 109, 101]))), (.t 2)], none⟩,
    ⟨some 4, .call 140 [(.c (.d (.int .i64 0))), (.c (.d (.int .i64 2)))], none⟩,
    ⟨some 5, .call 58 [(.c (.d (.str [115, 116, 97, 116, 101]))), (.t 4)], none⟩,
    ⟨some 6, .call 60 [], none⟩,
    ⟨some 7, .call 58 [(.c (.d (.str [114, 101, 115, 116, 97, 114, 116, 115]))), (.t 6)], none⟩,
    ⟨some 8, .call 142 [], none⟩,
    ⟨some 9, .call 58 [(.c (.d (.str [101, 120, 105, 116, 67, 111, 100, 101]))), (.t 8)], none⟩,
    ⟨some 10, .call 59 [], none⟩,
    ⟨some 11, .call 58 [(.c (.d (.str [115, 105, 110, 99, 101]))), (.t 10)], none⟩,
    ⟨some 12, .call 65 [], none⟩,
    ⟨some 13, .call 58 [(.c (.d (.str [114, 101, 97, 100, 121]))), (.t 12)], none⟩,
    ⟨some 14, .call 65 [], none⟩,
    ⟨some 15, .call 58 [(.c (.d (.str [115, 116, 97, 114, 116, 101, 100]))), (.t 14)], none⟩,
    ⟨some 16, .lits 135 11 160 [(.str []), (.bool false), (.bool false), (.sl []), (.int .i64 0), (.int .i64 0), (.int .i64 0), (.sl []), (.str []), (.sl []), (.sl [])] 7 [(0, (.t 3)), (1, (.t 5)), (2, (.t 7)), (3, (.t 9)), (4, (.t 11)), (5, (.t 13)), (6, (.t 15))], none⟩,
    ⟨some 17, .call 56 [(.t 16)], none⟩,
    ⟨some 1, .alloc 27 [(.d (.int .i64 0)), (.d (.int .i64 0)), (.d (.int .i64 0)), .nil, (.d (.str [])), .nil, .nil], none⟩,
    ⟨none, .store 7 (.t 1) (.t 17), none⟩] [])
 (.seq (.reg (some [(0, 11), (1, 11), (2, 11), (3, 11), (4, 11), (5, 11), (6, 11), (7, 11), (8, 11), (9, 11), (10, 11)]) [⟨some 18, .call 143 [(.c (.d (.bool true)))], none⟩,
    ⟨some 19, .call 140 [(.c (.d (.int .i64 0))), (.c (.d (.int .i64 3)))], none⟩,
    ⟨some 20, .call 58 [(.c (.d (.str [112, 104, 97, 115, 101]))), (.t 19)], none⟩,
    ⟨some 21, .call 65 [], none⟩,
    ⟨some 22, .call 58 [(.c (.d (.str [114, 101, 97, 100, 121]))), (.t 21)], none⟩,
    ⟨some 23, .call 59 [], none⟩,
    ⟨some 24, .call 58 [(.c (.d (.str [114, 101, 97, 100, 121, 83, 105, 110, 99, 101]))), (.t 23)], none⟩,
    ⟨some 25, .call 59 [], none⟩,
    ⟨some 26, .call 58 [(.c (.d (.str [115, 116, 97, 114, 116, 101, 100]))), (.t 25)], none⟩,
    ⟨some 27, .call 59 [], none⟩,
    ⟨some 28, .call 58 [(.c (.d (.str [102, 105, 110, 105, 115, 104, 101, 100]))), (.t 27)], none⟩,
    ⟨some 29, .loadn 7 (.t 1), none⟩,
    ⟨some 30, .call 138 [(.t 29)], none⟩,
    ⟨some 31, .call 144 [(.c (.d (.str [110, 97, 109, 101]))), (.t 30)], none⟩,
    ⟨some 32, .call 58 [(.c (.d (.str [99, 111, 110, 116, 97, 105, 110, 101, 114, 115]))), (.t 31)], none⟩,
    ⟨some 33, .call 60 [], none⟩,
    ⟨some 34, .call 58 [(.c (.d (.str [97, 100, 100, 114, 101, 115, 115]))), (.t 33)], none⟩,
    ⟨some 35, .call 141 [], none⟩,
    ⟨some 36, .call 58 [(.c (.d (.str [110, 111, 109, 105, 110, 97, 116, 101, 100]))), (.t 35)], none⟩,
    ⟨some 37, .call 139 [(.c (.d (.int .i64 0))), (.c (.d (.int .i64 200)))], none⟩,
    ⟨some 38, .call 58 [(.c (.d (.str [114, 101, 97, 115, 111, 110]))), (.t 37)], none⟩,
    ⟨some 39, .lits 135 11 160 [(.str []), (.bool false), (.bool false), (.sl []), (.int .i64 0), (.int .i64 0), (.int .i64 0), (.sl []), (.str []), (.sl []), (.sl [])] 9 [(0, (.t 20)), (1, (.t 22)), (2, (.t 24)), (3, (.t 26)), (4, (.t 28)), (5, (.t 32)), (6, (.t 34)), (7, (.t 36)), (8, (.t 38))], none⟩,
    ⟨some 40, .call 56 [(.t 39)], none⟩,
    ⟨some 41, .call 55 [(.c (.d (.str [80, 111, 100]))), (.t 18), (.t 40)], none⟩,
    ⟨none, .store 17 (.t 0) (.t 41), none⟩] [])
 .ret)))⟩
/-- orchestrator/kinds.node -/
def f54 : PFn := ⟨0, 53, [.cn 0 17], false,
 (.seq (.reg none [⟨some 0, .alloc 30 [(.d (.str [])), (.d (.bool false)), (.d (.int .i64 0)), (.d (.int .i64 0)), (.d (.int .i64 0)), .nil, (.d (.str [])), .nil, .nil, (.d (.int .i64 0)), (.d (.int .i64 0)), (.d (.int .i64 0)), .nil, (.d (.str [])), .nil, .nil, .nil], none⟩] [])
 (.seq (.reg none [⟨some 4, .call 141 [], none⟩,
    ⟨some 5, .call 58 [(.c (.d (.str [107, 101, 121]))), (.t 4)], none⟩,
    ⟨some 6, .call 141 [], none⟩,
    ⟨some 7, .call 58 [(.c (.d (.str [118, 97, 108, 117, 101]))), (.t 6)], none⟩,
    ⟨some 8, .call 140 [(.c (.d (.int .i64 1))), (.c (.d (.int .i64 3)))], none⟩,
    ⟨some 9, .call 51 [(.c (.d (.str [101, 102, 102, 101, 99, 116]))), (.t 8)], none⟩,
    ⟨some 10, .call 59 [], none⟩,
    ⟨some 11, .call 58 [(.c (.d (.str [115, 105, 110, 99, 101]))), (.t 10)], none⟩,
    ⟨some 12, .lits 135 11 160 [(.str []), (.bool false), (.bool false), (.sl []), (.int .i64 0), (.int .i64 0), (.int .i64 0), (.sl []), (.str []), (.sl []), (.sl [])] 4 [(0, (.t 5)), (1, (.t 7)), (2, (.t 9)), (3, (.t 11))], none⟩,
    ⟨some 13, .call 56 [(.t 12)], none⟩,
    ⟨some 14, .call 138 [(.t 13)], none⟩,
    ⟨some 1, .alloc 27 [(.d (.int .i64 0)), (.d (.int .i64 0)), (.d (.int .i64 0)), .nil, (.d (.str [])), .nil, .nil], none⟩,
    ⟨none, .store 7 (.t 1) (.t 14), none⟩] [])
 (.seq (.reg none [⟨some 15, .call 139 [(.c (.d (.int .i64 1))), (.c (.d (.int .i64 200)))], none⟩,
    ⟨some 16, .call 51 [(.c (.d (.str [110, 97, 109, 101]))), (.t 15)], none⟩,
    ⟨some 17, .call 60 [], none⟩,
    ⟨some 18, .call 58 [(.c (.d (.str [115, 105, 122, 101]))), (.t 17)], none⟩,
    ⟨some 19, .call 59 [], none⟩,
    ⟨some 20, .call 58 [(.c (.d (.str [117, 115, 101, 100]))), (.t 19)], none⟩,
    ⟨some 21, .lits 135 11 160 [(.str []), (.bool false), (.bool false), (.sl []), (.int .i64 0), (.int .i64 0), (.int .i64 0), (.sl []), (.str []), (.sl []), (.sl [])] 3 [(0, (.t 16)), (1, (.t 18)), (2, (.t 20))], none⟩,
    ⟨some 22, .call 56 [(.t 21)], none⟩,
    ⟨some 23, .call 138 [(.t 22)], none⟩,
    ⟨some 24, .call 144 [(.c (.d (.str [110, 97, 109, 101]))), (.t 23)], none⟩,
    ⟨some 2, .alloc 27 [(.d (.int .i64 0)), (.d (.int .i64 0)), (.d (.int .i64 0)), .nil, (.d (.str [])), .nil, .nil], none⟩,
    ⟨none, .store 7 (.t 2) (.t 24), none⟩] [])
 (.seq (.reg (some [(0, 9), (1, 9), (2, 9), (3, 9), (4, 9), (5, 9), (6, 9), (7, 9), (8, 9), (0, 21), (1, 21), (2, 21), (3, 21), (4, 21), (5, 21), (6, 21), (7, 21), (8, 21), (10, 21), (11, 21), (12, 21), (13, 21), (14, 21), (15, 21), (16, 21), (17, 21), (18, 21), (19, 21), (20, 21), (0, 26), (1, 26), (2, 26), (3, 26), (4, 26), (5, 26), (6, 26), (7, 26), (8, 26), (9, 26), (10, 26), (11, 26), (12, 26), (13, 26), (14, 26), (15, 26), (16, 26), (17, 26), (18, 26), (19, 26), (20, 26), (21, 26), (22, 26), (23, 26), (24, 26), (25, 26)]) [⟨some 25, .call 75 [], none⟩,
    ⟨some 26, .call 51 [(.c (.d (.str [99, 97, 112, 97, 99, 105, 116, 121]))), (.t 25)], none⟩,
    ⟨some 27, .call 50 [(.t 26)], none⟩,
    ⟨some 28, .call 60 [], none⟩,
    ⟨some 29, .call 145 [(.c (.d (.int .i64 110)))], none⟩,
    ⟨some 30, .call 66 [(.c (.d (.str [109, 97, 120, 80, 111, 100, 115]))), (.t 28), (.t 29)], none⟩,
    ⟨some 31, .call 50 [(.t 30)], none⟩,
    ⟨some 32, .call 65 [], none⟩,
    ⟨some 33, .call 58 [(.c (.d (.str [99, 111, 114, 100, 111, 110, 101, 100]))), (.t 32)], none⟩,
    ⟨some 34, .loadn 7 (.t 1), none⟩,
    ⟨some 35, .call 58 [(.c (.d (.str [116, 97, 105, 110, 116, 115]))), (.t 34)], none⟩,
    ⟨some 36, .lits 135 11 160 [(.str []), (.bool false), (.bool false), (.sl []), (.int .i64 0), (.int .i64 0), (.int .i64 0), (.sl []), (.str []), (.sl []), (.sl [])] 4 [(0, (.t 27)), (1, (.t 31)), (2, (.t 33)), (3, (.t 35))], none⟩,
    ⟨some 37, .call 56 [(.t 36)], none⟩,
    ⟨some 38, .call 65 [], none⟩,
    ⟨some 39, .call 58 [(.c (.d (.str [114, 101, 97, 100, 121]))), (.t 38)], none⟩,
    ⟨some 40, .call 59 [], none⟩,
    ⟨some 41, .call 58 [(.c (.d (.str [98, 101, 97, 116]))), (.t 40)], none⟩,
    ⟨some 42, .call 65 [], none⟩,
    ⟨some 43, .call 58 [(.c (.d (.str [108, 111, 119, 77, 101, 109]))), (.t 42)], none⟩,
    ⟨some 44, .call 65 [], none⟩,
    ⟨some 45, .call 58 [(.c (.d (.str [108, 111, 119, 68, 105, 115, 107]))), (.t 44)], none⟩,
    ⟨some 46, .loadn 7 (.t 2), none⟩,
    ⟨some 47, .call 58 [(.c (.d (.str [105, 109, 97, 103, 101, 115]))), (.t 46)], none⟩,
    ⟨some 48, .lits 135 11 160 [(.str []), (.bool false), (.bool false), (.sl []), (.int .i64 0), (.int .i64 0), (.int .i64 0), (.sl []), (.str []), (.sl []), (.sl [])] 5 [(0, (.t 39)), (1, (.t 41)), (2, (.t 43)), (3, (.t 45)), (4, (.t 47))], none⟩,
    ⟨some 49, .call 56 [(.t 48)], none⟩,
    ⟨some 50, .call 55 [(.c (.d (.str [78, 111, 100, 101]))), (.t 37), (.t 49)], none⟩,
    ⟨some 3, .alloc 30 [(.d (.str [])), (.d (.bool false)), (.d (.int .i64 0)), (.d (.int .i64 0)), (.d (.int .i64 0)), .nil, (.d (.str [])), .nil, .nil, (.d (.int .i64 0)), (.d (.int .i64 0)), (.d (.int .i64 0)), .nil, (.d (.str [])), .nil, .nil, .nil], none⟩,
    ⟨none, .store 17 (.t 3) (.t 50), none⟩] [])
 (.seq (.reg none [⟨some 51, .faddr 1 (.t 3), none⟩,
    ⟨none, .store 1 (.t 51) (.c (.d (.bool false))), none⟩] [])
 (.seq (.reg none [⟨some 52, .loadn 17 (.t 3), none⟩,
    ⟨none, .store 17 (.t 0) (.t 52), none⟩] [])
 .ret))))))⟩
/-- orchestrator/kinds.replicas -/
def f57 : PFn := ⟨0, 4, [.cn 0 11], false,
 (.seq (.reg none [⟨some 0, .alloc 135 [(.d (.str [])), (.d (.bool false)), (.d (.bool false)), .nil, (.d (.int .i64 0)), (.d (.int .i64 0)), (.d (.int .i64 0)), .nil, (.d (.str [])), .nil, .nil], none⟩] [])
 (.seq (.reg none [⟨some 1, .call 140 [(.c (.d (.int .i64 0))), (.c (.d (.int .i64 40)))], none⟩,
    ⟨some 2, .call 145 [(.c (.d (.int .i64 1)))], none⟩,
    ⟨some 3, .call 66 [(.c (.d (.str [114, 101, 112, 108, 105, 99, 97, 115]))), (.t 1), (.t 2)], none⟩,
    ⟨none, .store 11 (.t 0) (.t 3), none⟩] [])
 .ret))⟩
/-- orchestrator/kinds.time -/
def f59 : PFn := ⟨0, 2, [.cn 0 7], false,
 (.seq (.reg none [⟨some 0, .alloc 27 [(.d (.int .i64 0)), (.d (.int .i64 0)), (.d (.int .i64 0)), .nil, (.d (.str [])), .nil, .nil], none⟩] [])
 (.seq (.reg none [⟨some 1, .call 140 [(.c (.d (.int .i64 0))), (.c (.d (.int .i64 1000000000000)))], none⟩,
    ⟨none, .store 7 (.t 0) (.t 1), none⟩] [])
 .ret))⟩
/-- orchestrator/kinds.field -/
def f58 : PFn := ⟨2, 8, [.cn 4 11], false,
 (.seq (.reg none [⟨some 3, .box 27 (.t 1), none⟩,
    ⟨some 4, .alloc 135 [(.d (.str [])), (.d (.bool false)), (.d (.bool false)), .nil, (.d (.int .i64 0)), (.d (.int .i64 0)), (.d (.int .i64 0)), .nil, (.d (.str [])), .nil, .nil], none⟩] [])
 (.seq (.reg none [⟨some 5, .mv (.t 0), none⟩,
    ⟨some 6, .loadn 7 (.t 3), none⟩,
    ⟨some 7, .build [(.d (.str [])), (.d (.bool false)), (.d (.bool false)), .nil, (.d (.int .i64 0)), (.d (.int .i64 0)), (.d (.int .i64 0)), .nil, (.d (.str [])), .nil, .nil] [(0, 1, (.t 5)), (4, 7, (.t 6))], none⟩,
    ⟨none, .store 11 (.t 4) (.t 7), none⟩] [])
 .ret))⟩
/-- orchestrator/kinds.count -/
def f60 : PFn := ⟨0, 2, [.cn 0 7], false,
 (.seq (.reg none [⟨some 0, .alloc 27 [(.d (.int .i64 0)), (.d (.int .i64 0)), (.d (.int .i64 0)), .nil, (.d (.str [])), .nil, .nil], none⟩] [])
 (.seq (.reg none [⟨some 1, .call 140 [(.c (.d (.int .i64 0))), (.c (.d (.int .i64 1000000000000000)))], none⟩,
    ⟨none, .store 7 (.t 0) (.t 1), none⟩] [])
 .ret))⟩
/-- orchestrator/kinds.template -/
def f61 : PFn := ⟨0, 7, [.cn 0 7], false,
 (.seq (.reg none [⟨some 0, .alloc 27 [(.d (.int .i64 0)), (.d (.int .i64 0)), (.d (.int .i64 0)), .nil, (.d (.str [])), .nil, .nil], none⟩] [])
 (.seq (.reg none [⟨some 1, .call 149 [], none⟩,
    ⟨some 2, .call 58 [(.c (.d (.str [108, 97, 98, 101, 108, 115]))), (.t 1)], none⟩,
    ⟨some 3, .call 143 [(.c (.d (.bool false)))], none⟩,
    ⟨some 4, .call 51 [(.c (.d (.str [115, 112, 101, 99]))), (.t 3)], none⟩,
    ⟨some 5, .lits 135 11 160 [(.str []), (.bool false), (.bool false), (.sl []), (.int .i64 0), (.int .i64 0), (.int .i64 0), (.sl []), (.str []), (.sl []), (.sl [])] 2 [(0, (.t 2)), (1, (.t 4))], none⟩,
    ⟨some 6, .call 56 [(.t 5)], none⟩,
    ⟨none, .store 7 (.t 0) (.t 6), none⟩] [])
 .ret))⟩
/-- orchestrator/kinds.need -/
def f51 : PFn := ⟨2, 8, [.cn 4 11], false,
 (.seq (.reg none [⟨some 3, .box 27 (.t 1), none⟩,
    ⟨some 4, .alloc 135 [(.d (.str [])), (.d (.bool false)), (.d (.bool false)), .nil, (.d (.int .i64 0)), (.d (.int .i64 0)), (.d (.int .i64 0)), .nil, (.d (.str [])), .nil, .nil], none⟩] [])
 (.seq (.reg none [⟨some 5, .mv (.t 0), none⟩,
    ⟨some 6, .loadn 7 (.t 3), none⟩,
    ⟨some 7, .build [(.d (.str [])), (.d (.bool false)), (.d (.bool false)), .nil, (.d (.int .i64 0)), (.d (.int .i64 0)), (.d (.int .i64 0)), .nil, (.d (.str [])), .nil, .nil] [(0, 1, (.t 5)), (1, 1, (.c (.d (.bool true)))), (4, 7, (.t 6))], none⟩,
    ⟨none, .store 11 (.t 4) (.t 7), none⟩] [])
 .ret))⟩
/-- orchestrator/kinds.object -/
def f56 : PFn := ⟨1, 7, [.cn 2 7], false,
 (.seq (.reg none [⟨some 2, .alloc 27 [(.d (.int .i64 0)), (.d (.int .i64 0)), (.d (.int .i64 0)), .nil, (.d (.str [])), .nil, .nil], none⟩] [])
 (.seq (.reg none [⟨some 3, .mv (.t 0), none⟩,
    ⟨some 4, .call 146 [(.t 3), (.c (.fn 147 []))], none⟩] [])
 (.seq (.reg none [⟨some 5, .mv (.t 0), none⟩,
    ⟨some 6, .build [(.d (.int .i64 0)), (.d (.int .i64 0)), (.d (.int .i64 0)), .nil, (.d (.str [])), .nil, .nil] [(0, 1, (.c (.d (.int .i64 5)))), (6, 1, (.t 5))], none⟩,
    ⟨none, .store 7 (.t 2) (.t 6), none⟩] [])
 .ret)))⟩
/-- orchestrator/kinds.work -/
def f62 : PFn := ⟨0, 17, [.cn 0 7], false,
 (.seq (.reg none [⟨some 0, .alloc 27 [(.d (.int .i64 0)), (.d (.int .i64 0)), (.d (.int .i64 0)), .nil, (.d (.str [])), .nil, .nil], none⟩] [])
 (.seq (.reg none [⟨some 1, .call 60 [], none⟩,
    ⟨some 2, .call 58 [(.c (.d (.str [111, 98, 115, 101, 114, 118, 101, 100]))), (.t 1)], none⟩,
    ⟨some 3, .call 60 [], none⟩,
    ⟨some 4, .call 58 [(.c (.d (.str [114, 101, 112, 108, 105, 99, 97, 115]))), (.t 3)], none⟩,
    ⟨some 5, .call 60 [], none⟩,
    ⟨some 6, .call 58 [(.c (.d (.str [117, 112, 100, 97, 116, 101, 100]))), (.t 5)], none⟩,
    ⟨some 7, .call 60 [], none⟩,
    ⟨some 8, .call 58 [(.c (.d (.str [114, 101, 97, 100, 121]))), (.t 7)], none⟩,
    ⟨some 9, .call 60 [], none⟩,
    ⟨some 10, .call 58 [(.c (.d (.str [97, 118, 97, 105, 108, 97, 98, 108, 101]))), (.t 9)], none⟩,
    ⟨some 11, .call 59 [], none⟩,
    ⟨some 12, .call 58 [(.c (.d (.str [112, 114, 111, 103, 114, 101, 115, 115]))), (.t 11)], none⟩,
    ⟨some 13, .call 65 [], none⟩,
    ⟨some 14, .call 58 [(.c (.d (.str [102, 97, 105, 108, 101, 100]))), (.t 13)], none⟩,
    ⟨some 15, .lits 135 11 160 [(.str []), (.bool false), (.bool false), (.sl []), (.int .i64 0), (.int .i64 0), (.int .i64 0), (.sl []), (.str []), (.sl []), (.sl [])] 7 [(0, (.t 2)), (1, (.t 4)), (2, (.t 6)), (3, (.t 8)), (4, (.t 10)), (5, (.t 12)), (6, (.t 14))], none⟩,
    ⟨some 16, .call 56 [(.t 15)], none⟩,
    ⟨none, .store 7 (.t 0) (.t 16), none⟩] [])
 .ret))⟩
/-- orchestrator/kinds.kind -/
def f55 : PFn := ⟨3, 11, [.cn 6 17], false,
 (.seq (.reg none [⟨some 4, .box 27 (.t 1), none⟩,
    ⟨some 5, .box 27 (.t 2), none⟩,
    ⟨some 6, .alloc 30 [(.d (.str [])), (.d (.bool false)), (.d (.int .i64 0)), (.d (.int .i64 0)), (.d (.int .i64 0)), .nil, (.d (.str [])), .nil, .nil, (.d (.int .i64 0)), (.d (.int .i64 0)), (.d (.int .i64 0)), .nil, (.d (.str [])), .nil, .nil, .nil], none⟩] [])
 (.seq (.reg none [⟨some 7, .mv (.t 0), none⟩,
    ⟨some 8, .loadn 7 (.t 4), none⟩,
    ⟨some 9, .loadn 7 (.t 5), none⟩,
    ⟨some 10, .build [(.d (.str [])), (.d (.bool false)), (.d (.int .i64 0)), (.d (.int .i64 0)), (.d (.int .i64 0)), .nil, (.d (.str [])), .nil, .nil, (.d (.int .i64 0)), (.d (.int .i64 0)), (.d (.int .i64 0)), .nil, (.d (.str [])), .nil, .nil, .nil] [(0, 1, (.t 7)), (1, 1, (.c (.d (.bool true)))), (2, 7, (.t 8)), (9, 7, (.t 9))], none⟩,
    ⟨none, .store 17 (.t 6) (.t 10), none⟩] [])
 .ret))⟩
/-- orchestrator/kinds.deployment -/
def f63 : PFn := ⟨0, 41, [.cn 0 17], false,
 (.seq (.reg none [⟨some 0, .alloc 30 [(.d (.str [])), (.d (.bool false)), (.d (.int .i64 0)), (.d (.int .i64 0)), (.d (.int .i64 0)), .nil, (.d (.str [])), .nil, .nil, (.d (.int .i64 0)), (.d (.int .i64 0)), (.d (.int .i64 0)), .nil, (.d (.str [])), .nil, .nil, .nil], none⟩] [])
 (.seq (.reg none [⟨some 2, .call 57 [], none⟩,
    ⟨some 3, .call 59 [], none⟩,
    ⟨some 4, .call 58 [(.c (.d (.str [109, 105, 110, 82, 101, 97, 100, 121]))), (.t 3)], none⟩,
    ⟨some 5, .call 60 [], none⟩,
    ⟨some 6, .call 145 [(.c (.d (.int .i64 10)))], none⟩,
    ⟨some 7, .call 66 [(.c (.d (.str [104, 105, 115, 116, 111, 114, 121]))), (.t 5), (.t 6)], none⟩,
    ⟨some 8, .call 59 [], none⟩,
    ⟨some 9, .call 145 [(.c (.d (.int .i64 600)))], none⟩,
    ⟨some 10, .call 66 [(.c (.d (.str [100, 101, 97, 100, 108, 105, 110, 101]))), (.t 8), (.t 9)], none⟩,
    ⟨some 11, .call 52 [], none⟩,
    ⟨some 12, .call 51 [(.c (.d (.str [115, 101, 108, 101, 99, 116, 111, 114]))), (.t 11)], none⟩,
    ⟨some 13, .call 50 [(.t 12)], none⟩,
    ⟨some 14, .call 61 [], none⟩,
    ⟨some 15, .call 51 [(.c (.d (.str [116, 101, 109, 112, 108, 97, 116, 101]))), (.t 14)], none⟩,
    ⟨some 16, .call 65 [], none⟩,
    ⟨some 17, .call 58 [(.c (.d (.str [114, 101, 99, 114, 101, 97, 116, 101]))), (.t 16)], none⟩,
    ⟨some 18, .call 65 [], none⟩,
    ⟨some 19, .call 58 [(.c (.d (.str [112, 97, 117, 115, 101, 100]))), (.t 18)], none⟩,
    ⟨some 20, .call 67 [], none⟩,
    ⟨some 21, .call 68 [(.c (.d (.bool true))), (.c (.d (.int .i64 25)))], none⟩,
    ⟨some 22, .call 66 [(.c (.d (.str [115, 117, 114, 103, 101]))), (.t 20), (.t 21)], none⟩,
    ⟨some 23, .call 67 [], none⟩,
    ⟨some 24, .call 68 [(.c (.d (.bool true))), (.c (.d (.int .i64 25)))], none⟩,
    ⟨some 25, .call 66 [(.c (.d (.str [117, 110, 97, 118, 97, 105, 108, 97, 98, 108, 101]))), (.t 23), (.t 24)], none⟩,
    ⟨some 26, .call 60 [], none⟩,
    ⟨some 27, .call 58 [(.c (.d (.str [117, 110, 100, 111]))), (.t 26)], none⟩,
    ⟨some 28, .lits 135 11 160 [(.str []), (.bool false), (.bool false), (.sl []), (.int .i64 0), (.int .i64 0), (.int .i64 0), (.sl []), (.str []), (.sl []), (.sl [])] 11 [(0, (.t 2)), (1, (.t 4)), (2, (.t 7)), (3, (.t 10)), (4, (.t 13)), (5, (.t 15)), (6, (.t 17)), (7, (.t 19)), (8, (.t 22)), (9, (.t 25)), (10, (.t 27))], none⟩,
    ⟨some 29, .call 56 [(.t 28)], none⟩,
    ⟨some 30, .call 62 [], none⟩,
    ⟨some 31, .call 55 [(.c (.d (.str [68, 101, 112, 108, 111, 121, 109, 101, 110, 116]))), (.t 29), (.t 30)], none⟩,
    ⟨some 1, .alloc 30 [(.d (.str [])), (.d (.bool false)), (.d (.int .i64 0)), (.d (.int .i64 0)), (.d (.int .i64 0)), .nil, (.d (.str [])), .nil, .nil, (.d (.int .i64 0)), (.d (.int .i64 0)), (.d (.int .i64 0)), .nil, (.d (.str [])), .nil, .nil, .nil], none⟩,
    ⟨none, .store 17 (.t 1) (.t 31), none⟩] [])
 (.seq (.reg none [⟨some 32, .call 150 [(.c (.d (.str [109, 97, 120, 83, 117, 114, 103, 101]))), (.c (.d (.str [115, 117, 114, 103, 101])))], none⟩,
    ⟨some 33, .call 150 [(.c (.d (.str [109, 97, 120, 85, 110, 97, 118, 97, 105, 108, 97, 98, 108, 101]))), (.c (.d (.str [117, 110, 97, 118, 97, 105, 108, 97, 98, 108, 101])))], none⟩,
    ⟨some 34, .call 150 [(.c (.d (.str [114, 101, 118, 105, 115, 105, 111, 110, 72, 105, 115, 116, 111, 114, 121]))), (.c (.d (.str [104, 105, 115, 116, 111, 114, 121])))], none⟩,
    ⟨some 35, .call 150 [(.c (.d (.str [112, 114, 111, 103, 114, 101, 115, 115, 68, 101, 97, 100, 108, 105, 110, 101]))), (.c (.d (.str [100, 101, 97, 100, 108, 105, 110, 101])))], none⟩,
    ⟨some 36, .call 150 [(.c (.d (.str [114, 111, 108, 108, 98, 97, 99, 107, 84, 111]))), (.c (.d (.str [117, 110, 100, 111])))], none⟩,
    ⟨some 37, .lits 130 5 72 [(.int .i64 0), (.int .i64 0), (.str []), (.str []), (.sl [])] 5 [(0, (.t 32)), (1, (.t 33)), (2, (.t 34)), (3, (.t 35)), (4, (.t 36))], none⟩,
    ⟨some 38, .lits 123 1 24 [(.sl [])] 1 [(0, (.t 37))], none⟩,
    ⟨some 39, .faddr 16 (.t 1), none⟩,
    ⟨none, .store 1 (.t 39) (.t 38), none⟩] [])
 (.seq (.reg none [⟨some 40, .loadn 17 (.t 1), none⟩,
    ⟨none, .store 17 (.t 0) (.t 40), none⟩] [])
 .ret))))⟩
/-- orchestrator/kinds.jobs -/
def f64 : PFn := ⟨0, 20, [.cn 0 17], false,
 (.seq (.reg none [⟨some 0, .alloc 30 [(.d (.str [])), (.d (.bool false)), (.d (.int .i64 0)), (.d (.int .i64 0)), (.d (.int .i64 0)), .nil, (.d (.str [])), .nil, .nil, (.d (.int .i64 0)), (.d (.int .i64 0)), (.d (.int .i64 0)), .nil, (.d (.str [])), .nil, .nil, .nil], none⟩] [])
 (.seq (.reg none [⟨some 1, .call 151 [(.c (.d (.bool true)))], none⟩,
    ⟨some 2, .call 60 [], none⟩,
    ⟨some 3, .call 58 [(.c (.d (.str [97, 99, 116, 105, 118, 101]))), (.t 2)], none⟩,
    ⟨some 4, .call 60 [], none⟩,
    ⟨some 5, .call 58 [(.c (.d (.str [115, 117, 99, 99, 101, 101, 100, 101, 100]))), (.t 4)], none⟩,
    ⟨some 6, .call 60 [], none⟩,
    ⟨some 7, .call 58 [(.c (.d (.str [102, 97, 105, 108, 101, 100]))), (.t 6)], none⟩,
    ⟨some 8, .call 59 [], none⟩,
    ⟨some 9, .call 58 [(.c (.d (.str [115, 116, 97, 114, 116, 101, 100]))), (.t 8)], none⟩,
    ⟨some 10, .call 59 [], none⟩,
    ⟨some 11, .call 58 [(.c (.d (.str [102, 105, 110, 105, 115, 104, 101, 100]))), (.t 10)], none⟩,
    ⟨some 12, .call 60 [], none⟩,
    ⟨some 13, .call 138 [(.t 12)], none⟩,
    ⟨some 14, .call 58 [(.c (.d (.str [100, 111, 110, 101]))), (.t 13)], none⟩,
    ⟨some 15, .call 140 [(.c (.d (.int .i64 0))), (.c (.d (.int .i64 2)))], none⟩,
    ⟨some 16, .call 58 [(.c (.d (.str [114, 101, 115, 117, 108, 116]))), (.t 15)], none⟩,
    ⟨some 17, .lits 135 11 160 [(.str []), (.bool false), (.bool false), (.sl []), (.int .i64 0), (.int .i64 0), (.int .i64 0), (.sl []), (.str []), (.sl []), (.sl [])] 7 [(0, (.t 3)), (1, (.t 5)), (2, (.t 7)), (3, (.t 9)), (4, (.t 11)), (5, (.t 14)), (6, (.t 16))], none⟩,
    ⟨some 18, .call 56 [(.t 17)], none⟩,
    ⟨some 19, .call 55 [(.c (.d (.str [74, 111, 98]))), (.t 1), (.t 18)], none⟩,
    ⟨none, .store 17 (.t 0) (.t 19), none⟩] [])
 .ret))⟩
/-- orchestrator/kinds.flag -/
def f65 : PFn := ⟨0, 2, [.cn 0 7], false,
 (.seq (.reg none [⟨some 0, .alloc 27 [(.d (.int .i64 0)), (.d (.int .i64 0)), (.d (.int .i64 0)), .nil, (.d (.str [])), .nil, .nil], none⟩] [])
 (.seq (.reg none [⟨some 1, .build [(.d (.int .i64 0)), (.d (.int .i64 0)), (.d (.int .i64 0)), .nil, (.d (.str [])), .nil, .nil] [(0, 1, (.c (.d (.int .i64 1))))], none⟩,
    ⟨none, .store 7 (.t 0) (.t 1), none⟩] [])
 .ret))⟩
/-- orchestrator/kinds.fixed -/
def f50 : PFn := ⟨1, 5, [.cn 2 11], false,
 (.seq (.reg none [⟨some 1, .box 135 (.t 0), none⟩,
    ⟨some 2, .alloc 135 [(.d (.str [])), (.d (.bool false)), (.d (.bool false)), .nil, (.d (.int .i64 0)), (.d (.int .i64 0)), (.d (.int .i64 0)), .nil, (.d (.str [])), .nil, .nil], none⟩] [])
 (.seq (.reg none [⟨some 3, .faddr 2 (.t 1), none⟩,
    ⟨none, .store 1 (.t 3) (.c (.d (.bool true))), none⟩] [])
 (.seq (.reg none [⟨some 4, .loadn 11 (.t 1), none⟩,
    ⟨none, .store 11 (.t 2) (.t 4), none⟩] [])
 .ret)))⟩
/-- orchestrator/kinds.amount -/
def f67 : PFn := ⟨0, 7, [.cn 0 7], false,
 (.seq (.reg none [⟨some 0, .alloc 27 [(.d (.int .i64 0)), (.d (.int .i64 0)), (.d (.int .i64 0)), .nil, (.d (.str [])), .nil, .nil], none⟩] [])
 (.seq (.reg none [⟨some 1, .call 65 [], none⟩,
    ⟨some 2, .call 58 [(.c (.d (.str [112, 101, 114, 99, 101, 110, 116]))), (.t 1)], none⟩,
    ⟨some 3, .call 60 [], none⟩,
    ⟨some 4, .call 58 [(.c (.d (.str [110]))), (.t 3)], none⟩,
    ⟨some 5, .lits 135 11 160 [(.str []), (.bool false), (.bool false), (.sl []), (.int .i64 0), (.int .i64 0), (.int .i64 0), (.sl []), (.str []), (.sl []), (.sl [])] 2 [(0, (.t 2)), (1, (.t 4))], none⟩,
    ⟨some 6, .call 56 [(.t 5)], none⟩,
    ⟨none, .store 7 (.t 0) (.t 6), none⟩] [])
 .ret))⟩
/-- orchestrator/kinds.part -/
def f68 : PFn := ⟨2, 13, [.cn 4 5], false,
 (.seq (.reg none [⟨some 4, .alloc 59 [(.d (.int .i64 0)), (.d (.int .i64 0)), (.d (.str [])), .nil, .nil], none⟩] [])
 (.seq (.reg none [⟨some 5, .mv (.t 0), none⟩,
    ⟨some 6, .call 152 [(.t 5)], none⟩,
    ⟨some 7, .build [(.d (.str [])), (.d (.int .i64 0)), (.d (.int .i64 0)), (.d (.str [])), .nil, .nil] [(0, 1, (.c (.d (.str [112, 101, 114, 99, 101, 110, 116])))), (1, 5, (.t 6))], none⟩,
    ⟨some 8, .mv (.t 1), none⟩,
    ⟨some 9, .call 145 [(.t 8)], none⟩,
    ⟨some 10, .build [(.d (.str [])), (.d (.int .i64 0)), (.d (.int .i64 0)), (.d (.str [])), .nil, .nil] [(0, 1, (.c (.d (.str [110])))), (1, 5, (.t 9))], none⟩,
    ⟨some 11, .lits 115 6 96 [(.str []), (.int .i64 0), (.int .i64 0), (.str []), (.sl []), (.sl [])] 2 [(0, (.t 7)), (1, (.t 10))], none⟩,
    ⟨some 12, .call 128 [(.t 11)], none⟩,
    ⟨none, .store 5 (.t 4) (.t 12), none⟩] [])
 .ret))⟩
/-- orchestrator/kinds.given -/
def f66 : PFn := ⟨3, 12, [.cn 6 11], false,
 (.seq (.reg none [⟨some 4, .box 27 (.t 1), none⟩,
    ⟨some 5, .box 59 (.t 2), none⟩,
    ⟨some 6, .alloc 135 [(.d (.str [])), (.d (.bool false)), (.d (.bool false)), .nil, (.d (.int .i64 0)), (.d (.int .i64 0)), (.d (.int .i64 0)), .nil, (.d (.str [])), .nil, .nil], none⟩] [])
 (.seq (.reg none [⟨some 7, .mv (.t 0), none⟩,
    ⟨some 8, .loadn 5 (.t 5), none⟩,
    ⟨some 9, .lits 59 5 80 [(.int .i64 0), (.int .i64 0), (.str []), (.sl []), (.sl [])] 1 [(0, (.t 8))], none⟩,
    ⟨some 10, .loadn 7 (.t 4), none⟩,
    ⟨some 11, .build [(.d (.str [])), (.d (.bool false)), (.d (.bool false)), .nil, (.d (.int .i64 0)), (.d (.int .i64 0)), (.d (.int .i64 0)), .nil, (.d (.str [])), .nil, .nil] [(0, 1, (.t 7)), (3, 1, (.t 9)), (4, 7, (.t 10))], none⟩,
    ⟨none, .store 11 (.t 6) (.t 11), none⟩] [])
 .ret))⟩
/-- orchestrator/kinds.budget -/
def f69 : PFn := ⟨0, 35, [.cn 0 17], false,
 (.seq (.reg none [⟨some 0, .alloc 30 [(.d (.str [])), (.d (.bool false)), (.d (.int .i64 0)), (.d (.int .i64 0)), (.d (.int .i64 0)), .nil, (.d (.str [])), .nil, .nil, (.d (.int .i64 0)), (.d (.int .i64 0)), (.d (.int .i64 0)), .nil, (.d (.str [])), .nil, .nil, .nil], none⟩] [])
 (.seq (.reg none [⟨some 2, .call 139 [(.c (.d (.int .i64 1))), (.c (.d (.int .i64 200)))], none⟩,
    ⟨some 3, .call 51 [(.c (.d (.str [107, 101, 121]))), (.t 2)], none⟩,
    ⟨some 4, .call 59 [], none⟩,
    ⟨some 5, .call 58 [(.c (.d (.str [97, 116]))), (.t 4)], none⟩,
    ⟨some 6, .lits 135 11 160 [(.str []), (.bool false), (.bool false), (.sl []), (.int .i64 0), (.int .i64 0), (.int .i64 0), (.sl []), (.str []), (.sl []), (.sl [])] 2 [(0, (.t 3)), (1, (.t 5))], none⟩,
    ⟨some 7, .call 56 [(.t 6)], none⟩,
    ⟨some 8, .call 138 [(.t 7)], none⟩,
    ⟨some 9, .call 144 [(.c (.d (.str [107, 101, 121]))), (.t 8)], none⟩,
    ⟨some 1, .alloc 27 [(.d (.int .i64 0)), (.d (.int .i64 0)), (.d (.int .i64 0)), .nil, (.d (.str [])), .nil, .nil], none⟩,
    ⟨none, .store 7 (.t 1) (.t 9), none⟩] [])
 (.seq (.reg (some [(0, 20), (1, 20), (2, 20), (3, 20), (4, 20), (5, 20), (6, 20), (7, 20), (8, 20), (9, 20), (10, 20), (11, 20), (12, 20), (13, 20), (14, 20), (15, 20), (16, 20), (17, 20), (18, 20), (19, 20)]) [⟨some 10, .call 52 [], none⟩,
    ⟨some 11, .call 51 [(.c (.d (.str [115, 101, 108, 101, 99, 116, 111, 114]))), (.t 10)], none⟩,
    ⟨some 12, .call 67 [], none⟩,
    ⟨some 13, .call 153 [(.c (.d (.int .i64 1))), (.t 12)], none⟩,
    ⟨some 14, .call 58 [(.c (.d (.str [109, 105, 110, 65, 118, 97, 105, 108, 97, 98, 108, 101]))), (.t 13)], none⟩,
    ⟨some 15, .call 67 [], none⟩,
    ⟨some 16, .call 153 [(.c (.d (.int .i64 1))), (.t 15)], none⟩,
    ⟨some 17, .call 58 [(.c (.d (.str [109, 97, 120, 85, 110, 97, 118, 97, 105, 108, 97, 98, 108, 101]))), (.t 16)], none⟩,
    ⟨some 18, .lits 135 11 160 [(.str []), (.bool false), (.bool false), (.sl []), (.int .i64 0), (.int .i64 0), (.int .i64 0), (.sl []), (.str []), (.sl []), (.sl [])] 3 [(0, (.t 11)), (1, (.t 14)), (2, (.t 17))], none⟩,
    ⟨some 19, .call 56 [(.t 18)], none⟩,
    ⟨some 20, .call 60 [], none⟩,
    ⟨some 21, .call 58 [(.c (.d (.str [111, 98, 115, 101, 114, 118, 101, 100]))), (.t 20)], none⟩,
    ⟨some 22, .call 60 [], none⟩,
    ⟨some 23, .call 58 [(.c (.d (.str [104, 101, 97, 108, 116, 104, 121]))), (.t 22)], none⟩,
    ⟨some 24, .call 60 [], none⟩,
    ⟨some 25, .call 58 [(.c (.d (.str [100, 101, 115, 105, 114, 101, 100]))), (.t 24)], none⟩,
    ⟨some 26, .call 60 [], none⟩,
    ⟨some 27, .call 58 [(.c (.d (.str [101, 120, 112, 101, 99, 116, 101, 100]))), (.t 26)], none⟩,
    ⟨some 28, .call 60 [], none⟩,
    ⟨some 29, .call 58 [(.c (.d (.str [97, 108, 108, 111, 119, 101, 100]))), (.t 28)], none⟩,
    ⟨some 30, .loadn 7 (.t 1), none⟩,
    ⟨some 31, .call 58 [(.c (.d (.str [100, 105, 115, 114, 117, 112, 116, 101, 100]))), (.t 30)], none⟩,
    ⟨some 32, .lits 135 11 160 [(.str []), (.bool false), (.bool false), (.sl []), (.int .i64 0), (.int .i64 0), (.int .i64 0), (.sl []), (.str []), (.sl []), (.sl [])] 6 [(0, (.t 21)), (1, (.t 23)), (2, (.t 25)), (3, (.t 27)), (4, (.t 29)), (5, (.t 31))], none⟩,
    ⟨some 33, .call 56 [(.t 32)], none⟩,
    ⟨some 34, .call 55 [(.c (.d (.str [66, 117, 100, 103, 101, 116]))), (.t 19), (.t 33)], none⟩,
    ⟨none, .store 17 (.t 0) (.t 34), none⟩] [])
 .ret)))⟩
/-- orchestrator/kinds.autoscaler -/
def f70 : PFn := ⟨0, 64, [.cn 0 17], false,
 (.seq (.reg none [⟨some 0, .alloc 30 [(.d (.str [])), (.d (.bool false)), (.d (.int .i64 0)), (.d (.int .i64 0)), (.d (.int .i64 0)), .nil, (.d (.str [])), .nil, .nil, (.d (.int .i64 0)), (.d (.int .i64 0)), (.d (.int .i64 0)), .nil, (.d (.str [])), .nil, .nil, .nil], none⟩] [])
 (.seq (.reg none [⟨some 4, .call 139 [(.c (.d (.int .i64 1))), (.c (.d (.int .i64 40)))], none⟩,
    ⟨some 5, .call 51 [(.c (.d (.str [110, 97, 109, 101]))), (.t 4)], none⟩,
    ⟨some 6, .call 60 [], none⟩,
    ⟨some 7, .call 58 [(.c (.d (.str [116, 97, 114, 103, 101, 116]))), (.t 6)], none⟩,
    ⟨some 8, .lits 135 11 160 [(.str []), (.bool false), (.bool false), (.sl []), (.int .i64 0), (.int .i64 0), (.int .i64 0), (.sl []), (.str []), (.sl []), (.sl [])] 2 [(0, (.t 5)), (1, (.t 7))], none⟩,
    ⟨some 9, .call 56 [(.t 8)], none⟩,
    ⟨some 10, .call 138 [(.t 9)], none⟩,
    ⟨some 11, .call 144 [(.c (.d (.str [110, 97, 109, 101]))), (.t 10)], none⟩,
    ⟨some 1, .alloc 27 [(.d (.int .i64 0)), (.d (.int .i64 0)), (.d (.int .i64 0)), .nil, (.d (.str [])), .nil, .nil], none⟩,
    ⟨none, .store 7 (.t 1) (.t 11), none⟩] [])
 (.seq (.reg (some [(0, 9), (1, 9), (2, 9), (3, 9), (4, 9), (5, 9), (6, 9), (7, 9), (8, 9), (0, 30), (1, 30), (2, 30), (3, 30), (4, 30), (5, 30), (6, 30), (7, 30), (8, 30), (9, 30), (10, 30), (11, 30), (12, 30), (13, 30), (14, 30), (15, 30), (16, 30), (17, 30), (18, 30), (19, 30), (20, 30), (21, 30), (22, 30), (23, 30), (24, 30), (25, 30), (26, 30), (27, 30), (28, 30), (29, 30)]) [⟨some 12, .call 141 [], none⟩,
    ⟨some 13, .call 51 [(.c (.d (.str [116, 97, 114, 103, 101, 116, 75, 105, 110, 100]))), (.t 12)], none⟩,
    ⟨some 14, .call 141 [], none⟩,
    ⟨some 15, .call 51 [(.c (.d (.str [116, 97, 114, 103, 101, 116]))), (.t 14)], none⟩,
    ⟨some 16, .call 140 [(.c (.d (.int .i64 0))), (.c (.d (.int .i64 40)))], none⟩,
    ⟨some 17, .call 145 [(.c (.d (.int .i64 1)))], none⟩,
    ⟨some 18, .call 66 [(.c (.d (.str [109, 105, 110]))), (.t 16), (.t 17)], none⟩,
    ⟨some 19, .call 140 [(.c (.d (.int .i64 0))), (.c (.d (.int .i64 40)))], none⟩,
    ⟨some 20, .call 51 [(.c (.d (.str [109, 97, 120]))), (.t 19)], none⟩,
    ⟨some 21, .loadn 7 (.t 1), none⟩,
    ⟨some 22, .call 58 [(.c (.d (.str [109, 101, 116, 114, 105, 99, 115]))), (.t 21)], none⟩,
    ⟨some 23, .call 60 [], none⟩,
    ⟨some 24, .call 145 [(.c (.d (.int .i64 10)))], none⟩,
    ⟨some 25, .call 66 [(.c (.d (.str [116, 111, 108, 101, 114, 97, 110, 99, 101]))), (.t 23), (.t 24)], none⟩,
    ⟨some 26, .call 59 [], none⟩,
    ⟨some 27, .call 58 [(.c (.d (.str [117, 112, 87, 105, 110, 100, 111, 119]))), (.t 26)], none⟩,
    ⟨some 28, .call 59 [], none⟩,
    ⟨some 29, .call 145 [(.c (.d (.int .i64 300)))], none⟩,
    ⟨some 30, .call 66 [(.c (.d (.str [100, 111, 119, 110, 87, 105, 110, 100, 111, 119]))), (.t 28), (.t 29)], none⟩,
    ⟨some 31, .call 67 [], none⟩,
    ⟨some 32, .call 68 [(.c (.d (.bool true))), (.c (.d (.int .i64 100)))], none⟩,
    ⟨some 33, .call 66 [(.c (.d (.str [117, 112, 83, 116, 101, 112]))), (.t 31), (.t 32)], none⟩,
    ⟨some 34, .call 67 [], none⟩,
    ⟨some 35, .call 68 [(.c (.d (.bool true))), (.c (.d (.int .i64 100)))], none⟩,
    ⟨some 36, .call 66 [(.c (.d (.str [100, 111, 119, 110, 83, 116, 101, 112]))), (.t 34), (.t 35)], none⟩,
    ⟨some 37, .call 59 [], none⟩,
    ⟨some 38, .call 145 [(.c (.d (.int .i64 60)))], none⟩,
    ⟨some 39, .call 66 [(.c (.d (.str [112, 101, 114, 105, 111, 100]))), (.t 37), (.t 38)], none⟩,
    ⟨some 40, .lits 135 11 160 [(.str []), (.bool false), (.bool false), (.sl []), (.int .i64 0), (.int .i64 0), (.int .i64 0), (.sl []), (.str []), (.sl []), (.sl [])] 11 [(0, (.t 13)), (1, (.t 15)), (2, (.t 18)), (3, (.t 20)), (4, (.t 22)), (5, (.t 25)), (6, (.t 27)), (7, (.t 30)), (8, (.t 33)), (9, (.t 36)), (10, (.t 39))], none⟩,
    ⟨some 41, .call 56 [(.t 40)], none⟩,
    ⟨some 2, .alloc 27 [(.d (.int .i64 0)), (.d (.int .i64 0)), (.d (.int .i64 0)), .nil, (.d (.str [])), .nil, .nil], none⟩,
    ⟨none, .store 7 (.t 2) (.t 41), none⟩] [])
 (.seq (.reg (some [(0, 1), (0, 2), (0, 3), (0, 4), (0, 5), (0, 6), (0, 7), (0, 8), (0, 9), (0, 10), (0, 11), (0, 12), (0, 14), (1, 14), (2, 14), (3, 14), (4, 14), (5, 14), (6, 14), (7, 14), (8, 14), (9, 14), (10, 14), (11, 14), (12, 14), (13, 14)]) [⟨some 42, .loadn 7 (.t 2), none⟩,
    ⟨some 43, .call 59 [], none⟩,
    ⟨some 44, .call 58 [(.c (.d (.str [97, 116]))), (.t 43)], none⟩,
    ⟨some 45, .call 140 [(.c (.d (.int .i64 0))), (.c (.d (.int .i64 40)))], none⟩,
    ⟨some 46, .call 58 [(.c (.d (.str [114, 101, 112, 108, 105, 99, 97, 115]))), (.t 45)], none⟩,
    ⟨some 47, .lits 135 11 160 [(.str []), (.bool false), (.bool false), (.sl []), (.int .i64 0), (.int .i64 0), (.int .i64 0), (.sl []), (.str []), (.sl []), (.sl [])] 2 [(0, (.t 44)), (1, (.t 46))], none⟩,
    ⟨some 48, .call 56 [(.t 47)], none⟩,
    ⟨some 49, .call 138 [(.t 48)], none⟩,
    ⟨some 50, .call 58 [(.c (.d (.str [97, 100, 118, 105, 99, 101]))), (.t 49)], none⟩,
    ⟨some 51, .call 59 [], none⟩,
    ⟨some 52, .call 58 [(.c (.d (.str [115, 99, 97, 108, 101, 100]))), (.t 51)], none⟩,
    ⟨some 53, .lits 135 11 160 [(.str []), (.bool false), (.bool false), (.sl []), (.int .i64 0), (.int .i64 0), (.int .i64 0), (.sl []), (.str []), (.sl []), (.sl [])] 2 [(0, (.t 50)), (1, (.t 52))], none⟩,
    ⟨some 54, .call 56 [(.t 53)], none⟩,
    ⟨some 55, .call 55 [(.c (.d (.str [65, 117, 116, 111, 115, 99, 97, 108, 101, 114]))), (.t 42), (.t 54)], none⟩,
    ⟨some 3, .alloc 30 [(.d (.str [])), (.d (.bool false)), (.d (.int .i64 0)), (.d (.int .i64 0)), (.d (.int .i64 0)), .nil, (.d (.str [])), .nil, .nil, (.d (.int .i64 0)), (.d (.int .i64 0)), (.d (.int .i64 0)), .nil, (.d (.str [])), .nil, .nil, .nil], none⟩,
    ⟨none, .store 17 (.t 3) (.t 55), none⟩] [])
 (.seq (.reg none [⟨some 56, .call 150 [(.c (.d (.str [109, 105, 110, 82, 101, 112, 108, 105, 99, 97, 115]))), (.c (.d (.str [109, 105, 110])))], none⟩,
    ⟨some 57, .call 150 [(.c (.d (.str [109, 97, 120, 82, 101, 112, 108, 105, 99, 97, 115]))), (.c (.d (.str [109, 97, 120])))], none⟩,
    ⟨some 58, .build [(.d (.int .i64 0)), (.d (.int .i64 0)), (.d (.str [])), (.d (.str [])), .nil] [(0, 1, (.c (.d (.int .i64 4)))), (1, 1, (.c (.d (.int .i64 60)))), (2, 1, (.c (.d (.str [117, 112, 87, 105, 110, 100, 111, 119]))))], none⟩,
    ⟨some 59, .build [(.d (.int .i64 0)), (.d (.int .i64 0)), (.d (.str [])), (.d (.str [])), .nil] [(0, 1, (.c (.d (.int .i64 4)))), (1, 1, (.c (.d (.int .i64 60)))), (2, 1, (.c (.d (.str [100, 111, 119, 110, 87, 105, 110, 100, 111, 119]))))], none⟩,
    ⟨some 60, .lits 130 5 72 [(.int .i64 0), (.int .i64 0), (.str []), (.str []), (.sl [])] 4 [(0, (.t 56)), (1, (.t 57)), (2, (.t 58)), (3, (.t 59))], none⟩,
    ⟨some 61, .lits 123 1 24 [(.sl [])] 1 [(0, (.t 60))], none⟩,
    ⟨some 62, .faddr 16 (.t 3), none⟩,
    ⟨none, .store 1 (.t 62) (.t 61), none⟩] [])
 (.seq (.reg none [⟨some 63, .loadn 17 (.t 3), none⟩,
    ⟨none, .store 17 (.t 0) (.t 63), none⟩] [])
 .ret))))))⟩
/-- orchestrator/kinds.cron -/
def f71 : PFn := ⟨0, 22, [.cn 0 17], false,
 (.seq (.reg none [⟨some 0, .alloc 30 [(.d (.str [])), (.d (.bool false)), (.d (.int .i64 0)), (.d (.int .i64 0)), (.d (.int .i64 0)), .nil, (.d (.str [])), .nil, .nil, (.d (.int .i64 0)), (.d (.int .i64 0)), (.d (.int .i64 0)), .nil, (.d (.str [])), .nil, .nil, .nil], none⟩] [])
 (.seq (.reg none [⟨some 1, .call 139 [(.c (.d (.int .i64 0))), (.c (.d (.int .i64 200)))], none⟩,
    ⟨some 2, .call 51 [(.c (.d (.str [115, 99, 104, 101, 100, 117, 108, 101]))), (.t 1)], none⟩,
    ⟨some 3, .call 140 [(.c (.d (.int .i64 0))), (.c (.d (.int .i64 2)))], none⟩,
    ⟨some 4, .call 58 [(.c (.d (.str [112, 111, 108, 105, 99, 121]))), (.t 3)], none⟩,
    ⟨some 5, .call 59 [], none⟩,
    ⟨some 6, .call 58 [(.c (.d (.str [115, 116, 97, 114, 116, 87, 105, 116, 104, 105, 110]))), (.t 5)], none⟩,
    ⟨some 7, .call 60 [], none⟩,
    ⟨some 8, .call 145 [(.c (.d (.int .i64 3)))], none⟩,
    ⟨some 9, .call 66 [(.c (.d (.str [107, 101, 101, 112, 68, 111, 110, 101]))), (.t 7), (.t 8)], none⟩,
    ⟨some 10, .call 65 [], none⟩,
    ⟨some 11, .call 58 [(.c (.d (.str [115, 117, 115, 112, 101, 110, 100, 101, 100]))), (.t 10)], none⟩,
    ⟨some 12, .call 151 [(.c (.d (.bool false)))], none⟩,
    ⟨some 13, .call 51 [(.c (.d (.str [106, 111, 98]))), (.t 12)], none⟩,
    ⟨some 14, .lits 135 11 160 [(.str []), (.bool false), (.bool false), (.sl []), (.int .i64 0), (.int .i64 0), (.int .i64 0), (.sl []), (.str []), (.sl []), (.sl [])] 6 [(0, (.t 2)), (1, (.t 4)), (2, (.t 6)), (3, (.t 9)), (4, (.t 11)), (5, (.t 13))], none⟩,
    ⟨some 15, .call 56 [(.t 14)], none⟩,
    ⟨some 16, .call 140 [(.c (.d (.int .i64 (-1)))), (.c (.d (.int .i64 1000000000000)))], none⟩,
    ⟨some 17, .call 145 [(.c (.d (.int .i64 (-1))))], none⟩,
    ⟨some 18, .call 66 [(.c (.d (.str [108, 97, 115, 116]))), (.t 16), (.t 17)], none⟩,
    ⟨some 19, .lits 135 11 160 [(.str []), (.bool false), (.bool false), (.sl []), (.int .i64 0), (.int .i64 0), (.int .i64 0), (.sl []), (.str []), (.sl []), (.sl [])] 1 [(0, (.t 18))], none⟩,
    ⟨some 20, .call 56 [(.t 19)], none⟩,
    ⟨some 21, .call 55 [(.c (.d (.str [67, 114, 111, 110, 74, 111, 98]))), (.t 15), (.t 20)], none⟩,
    ⟨none, .store 17 (.t 0) (.t 21), none⟩] [])
 .ret))⟩
/-- orchestrator/kinds.selector -/
def f52 : PFn := ⟨0, 11, [.cn 0 7], false,
 (.seq (.reg none [⟨some 0, .alloc 27 [(.d (.int .i64 0)), (.d (.int .i64 0)), (.d (.int .i64 0)), .nil, (.d (.str [])), .nil, .nil], none⟩] [])
 (.seq (.reg none [⟨some 1, .call 139 [(.c (.d (.int .i64 1))), (.c (.d (.int .i64 40)))], none⟩,
    ⟨some 2, .call 51 [(.c (.d (.str [107, 101, 121]))), (.t 1)], none⟩,
    ⟨some 3, .call 140 [(.c (.d (.int .i64 1))), (.c (.d (.int .i64 4)))], none⟩,
    ⟨some 4, .call 51 [(.c (.d (.str [111, 112]))), (.t 3)], none⟩,
    ⟨some 5, .call 141 [], none⟩,
    ⟨some 6, .call 138 [(.t 5)], none⟩,
    ⟨some 7, .call 58 [(.c (.d (.str [118, 97, 108, 117, 101, 115]))), (.t 6)], none⟩,
    ⟨some 8, .lits 135 11 160 [(.str []), (.bool false), (.bool false), (.sl []), (.int .i64 0), (.int .i64 0), (.int .i64 0), (.sl []), (.str []), (.sl []), (.sl [])] 3 [(0, (.t 2)), (1, (.t 4)), (2, (.t 7))], none⟩,
    ⟨some 9, .call 56 [(.t 8)], none⟩,
    ⟨some 10, .call 138 [(.t 9)], none⟩,
    ⟨none, .store 7 (.t 0) (.t 10), none⟩] [])
 .ret))⟩
/-- orchestrator/kinds.ports -/
def f72 : PFn := ⟨0, 11, [.cn 0 7], false,
 (.seq (.reg none [⟨some 0, .alloc 27 [(.d (.int .i64 0)), (.d (.int .i64 0)), (.d (.int .i64 0)), .nil, (.d (.str [])), .nil, .nil], none⟩] [])
 (.seq (.reg none [⟨some 1, .call 139 [(.c (.d (.int .i64 1))), (.c (.d (.int .i64 40)))], none⟩,
    ⟨some 2, .call 51 [(.c (.d (.str [110, 97, 109, 101]))), (.t 1)], none⟩,
    ⟨some 3, .call 140 [(.c (.d (.int .i64 0))), (.c (.d (.int .i64 65535)))], none⟩,
    ⟨some 4, .call 58 [(.c (.d (.str [112, 111, 114, 116]))), (.t 3)], none⟩,
    ⟨some 5, .call 140 [(.c (.d (.int .i64 0))), (.c (.d (.int .i64 65535)))], none⟩,
    ⟨some 6, .call 58 [(.c (.d (.str [116, 97, 114, 103, 101, 116]))), (.t 5)], none⟩,
    ⟨some 7, .lits 135 11 160 [(.str []), (.bool false), (.bool false), (.sl []), (.int .i64 0), (.int .i64 0), (.int .i64 0), (.sl []), (.str []), (.sl []), (.sl [])] 3 [(0, (.t 2)), (1, (.t 4)), (2, (.t 6))], none⟩,
    ⟨some 8, .call 56 [(.t 7)], none⟩,
    ⟨some 9, .call 138 [(.t 8)], none⟩,
    ⟨some 10, .call 144 [(.c (.d (.str [110, 97, 109, 101]))), (.t 9)], none⟩,
    ⟨none, .store 7 (.t 0) (.t 10), none⟩] [])
 .ret))⟩
/-- orchestrator/kinds.endpoints -/
def f73 : PFn := ⟨0, 24, [.cn 0 17], false,
 (.seq (.reg none [⟨some 0, .alloc 30 [(.d (.str [])), (.d (.bool false)), (.d (.int .i64 0)), (.d (.int .i64 0)), (.d (.int .i64 0)), .nil, (.d (.str [])), .nil, .nil, (.d (.int .i64 0)), (.d (.int .i64 0)), (.d (.int .i64 0)), .nil, (.d (.str [])), .nil, .nil, .nil], none⟩] [])
 (.seq (.reg none [⟨some 2, .call 139 [(.c (.d (.int .i64 1))), (.c (.d (.int .i64 200)))], none⟩,
    ⟨some 3, .call 51 [(.c (.d (.str [112, 111, 100]))), (.t 2)], none⟩,
    ⟨some 4, .call 141 [], none⟩,
    ⟨some 5, .call 58 [(.c (.d (.str [110, 111, 100, 101]))), (.t 4)], none⟩,
    ⟨some 6, .call 60 [], none⟩,
    ⟨some 7, .call 58 [(.c (.d (.str [97, 100, 100, 114, 101, 115, 115]))), (.t 6)], none⟩,
    ⟨some 8, .call 65 [], none⟩,
    ⟨some 9, .call 58 [(.c (.d (.str [114, 101, 97, 100, 121]))), (.t 8)], none⟩,
    ⟨some 10, .call 65 [], none⟩,
    ⟨some 11, .call 58 [(.c (.d (.str [116, 101, 114, 109, 105, 110, 97, 116, 105, 110, 103]))), (.t 10)], none⟩,
    ⟨some 12, .lits 135 11 160 [(.str []), (.bool false), (.bool false), (.sl []), (.int .i64 0), (.int .i64 0), (.int .i64 0), (.sl []), (.str []), (.sl []), (.sl [])] 5 [(0, (.t 3)), (1, (.t 5)), (2, (.t 7)), (3, (.t 9)), (4, (.t 11))], none⟩,
    ⟨some 13, .call 56 [(.t 12)], none⟩,
    ⟨some 14, .call 138 [(.t 13)], none⟩,
    ⟨some 15, .call 144 [(.c (.d (.str [112, 111, 100]))), (.t 14)], none⟩,
    ⟨some 1, .alloc 27 [(.d (.int .i64 0)), (.d (.int .i64 0)), (.d (.int .i64 0)), .nil, (.d (.str [])), .nil, .nil], none⟩,
    ⟨none, .store 7 (.t 1) (.t 15), none⟩] [])
 (.seq (.reg (some [(0, 2), (1, 2)]) [⟨some 16, .call 72 [], none⟩,
    ⟨some 17, .call 58 [(.c (.d (.str [112, 111, 114, 116, 115]))), (.t 16)], none⟩,
    ⟨some 18, .loadn 7 (.t 1), none⟩,
    ⟨some 19, .call 58 [(.c (.d (.str [105, 116, 101, 109, 115]))), (.t 18)], none⟩,
    ⟨some 20, .lits 135 11 160 [(.str []), (.bool false), (.bool false), (.sl []), (.int .i64 0), (.int .i64 0), (.int .i64 0), (.sl []), (.str []), (.sl []), (.sl [])] 2 [(0, (.t 17)), (1, (.t 19))], none⟩,
    ⟨some 21, .call 56 [(.t 20)], none⟩,
    ⟨some 22, .call 56 [(.c .nil)], none⟩,
    ⟨some 23, .call 55 [(.c (.d (.str [69, 110, 100, 112, 111, 105, 110, 116, 83, 101, 116]))), (.t 21), (.t 22)], none⟩,
    ⟨none, .store 17 (.t 0) (.t 23), none⟩] [])
 .ret)))⟩
/-- orchestrator/kinds.policy -/
def f74 : PFn := ⟨0, 32, [.cn 0 17], false,
 (.seq (.reg none [⟨some 0, .alloc 30 [(.d (.str [])), (.d (.bool false)), (.d (.int .i64 0)), (.d (.int .i64 0)), (.d (.int .i64 0)), .nil, (.d (.str [])), .nil, .nil, (.d (.int .i64 0)), (.d (.int .i64 0)), (.d (.int .i64 0)), .nil, (.d (.str [])), .nil, .nil, .nil], none⟩] [])
 (.seq (.reg none [⟨some 3, .call 141 [], none⟩,
    ⟨some 4, .call 58 [(.c (.d (.str [110, 97, 109, 101, 115, 112, 97, 99, 101]))), (.t 3)], none⟩,
    ⟨some 5, .call 52 [], none⟩,
    ⟨some 6, .call 58 [(.c (.d (.str [115, 101, 108, 101, 99, 116, 111, 114]))), (.t 5)], none⟩,
    ⟨some 7, .lits 135 11 160 [(.str []), (.bool false), (.bool false), (.sl []), (.int .i64 0), (.int .i64 0), (.int .i64 0), (.sl []), (.str []), (.sl []), (.sl [])] 2 [(0, (.t 4)), (1, (.t 6))], none⟩,
    ⟨some 8, .call 56 [(.t 7)], none⟩,
    ⟨some 9, .call 138 [(.t 8)], none⟩,
    ⟨some 1, .alloc 27 [(.d (.int .i64 0)), (.d (.int .i64 0)), (.d (.int .i64 0)), .nil, (.d (.str [])), .nil, .nil], none⟩,
    ⟨none, .store 7 (.t 1) (.t 9), none⟩] [])
 (.seq (.reg (some [(0, 2), (1, 2), (0, 10), (1, 10), (2, 10), (3, 10), (4, 10), (5, 10), (6, 10), (7, 10), (8, 10), (9, 10)]) [⟨some 10, .call 65 [], none⟩,
    ⟨some 11, .call 58 [(.c (.d (.str [101, 103, 114, 101, 115, 115]))), (.t 10)], none⟩,
    ⟨some 12, .loadn 7 (.t 1), none⟩,
    ⟨some 13, .call 58 [(.c (.d (.str [112, 101, 101, 114, 115]))), (.t 12)], none⟩,
    ⟨some 14, .call 140 [(.c (.d (.int .i64 0))), (.c (.d (.int .i64 65535)))], none⟩,
    ⟨some 15, .call 138 [(.t 14)], none⟩,
    ⟨some 16, .call 58 [(.c (.d (.str [112, 111, 114, 116, 115]))), (.t 15)], none⟩,
    ⟨some 17, .lits 135 11 160 [(.str []), (.bool false), (.bool false), (.sl []), (.int .i64 0), (.int .i64 0), (.int .i64 0), (.sl []), (.str []), (.sl []), (.sl [])] 3 [(0, (.t 11)), (1, (.t 13)), (2, (.t 16))], none⟩,
    ⟨some 18, .call 56 [(.t 17)], none⟩,
    ⟨some 19, .call 153 [(.c (.d (.int .i64 16))), (.t 18)], none⟩,
    ⟨some 2, .alloc 27 [(.d (.int .i64 0)), (.d (.int .i64 0)), (.d (.int .i64 0)), .nil, (.d (.str [])), .nil, .nil], none⟩,
    ⟨none, .store 7 (.t 2) (.t 19), none⟩] [])
 (.seq (.reg (some [(0, 6), (1, 6), (2, 6), (3, 6), (4, 6), (5, 6)]) [⟨some 20, .call 52 [], none⟩,
    ⟨some 21, .call 51 [(.c (.d (.str [115, 101, 108, 101, 99, 116, 111, 114]))), (.t 20)], none⟩,
    ⟨some 22, .call 65 [], none⟩,
    ⟨some 23, .call 58 [(.c (.d (.str [105, 110, 103, 114, 101, 115, 115]))), (.t 22)], none⟩,
    ⟨some 24, .call 65 [], none⟩,
    ⟨some 25, .call 58 [(.c (.d (.str [101, 103, 114, 101, 115, 115]))), (.t 24)], none⟩,
    ⟨some 26, .loadn 7 (.t 2), none⟩,
    ⟨some 27, .call 58 [(.c (.d (.str [114, 117, 108, 101, 115]))), (.t 26)], none⟩,
    ⟨some 28, .lits 135 11 160 [(.str []), (.bool false), (.bool false), (.sl []), (.int .i64 0), (.int .i64 0), (.int .i64 0), (.sl []), (.str []), (.sl []), (.sl [])] 4 [(0, (.t 21)), (1, (.t 23)), (2, (.t 25)), (3, (.t 27))], none⟩,
    ⟨some 29, .call 56 [(.t 28)], none⟩,
    ⟨some 30, .call 56 [(.c .nil)], none⟩,
    ⟨some 31, .call 55 [(.c (.d (.str [78, 101, 116, 119, 111, 114, 107, 80, 111, 108, 105, 99, 121]))), (.t 29), (.t 30)], none⟩,
    ⟨none, .store 17 (.t 0) (.t 31), none⟩] [])
 .ret))))⟩
/-- orchestrator/kinds.resources -/
def f75 : PFn := ⟨0, 9, [.cn 0 7], false,
 (.seq (.reg none [⟨some 0, .alloc 27 [(.d (.int .i64 0)), (.d (.int .i64 0)), (.d (.int .i64 0)), .nil, (.d (.str [])), .nil, .nil], none⟩] [])
 (.seq (.reg none [⟨some 1, .call 60 [], none⟩,
    ⟨some 2, .call 58 [(.c (.d (.str [99, 112, 117]))), (.t 1)], none⟩,
    ⟨some 3, .call 60 [], none⟩,
    ⟨some 4, .call 58 [(.c (.d (.str [109, 101, 109, 111, 114, 121]))), (.t 3)], none⟩,
    ⟨some 5, .call 60 [], none⟩,
    ⟨some 6, .call 58 [(.c (.d (.str [100, 105, 115, 107]))), (.t 5)], none⟩,
    ⟨some 7, .lits 135 11 160 [(.str []), (.bool false), (.bool false), (.sl []), (.int .i64 0), (.int .i64 0), (.int .i64 0), (.sl []), (.str []), (.sl []), (.sl [])] 3 [(0, (.t 2)), (1, (.t 4)), (2, (.t 6))], none⟩,
    ⟨some 8, .call 56 [(.t 7)], none⟩,
    ⟨none, .store 7 (.t 0) (.t 8), none⟩] [])
 .ret))⟩
def f9b0 : PC :=
 (.seq (.reg none [⟨some 55, .bin .lss (.t 54) (.t 53), none⟩] [])
 (.seq (.cond (.t 55)
   .skip
   (.exit 4))
 (.seq (.blk 5 none
   (.seq (.reg none [⟨some 56, .mv (.t 54), none⟩,
      ⟨some 9, .mv (.t 56), none⟩] [])
   (.reg (some [(1, 15), (4, 15)]) [⟨some 57, .faddr 16 (.t 7), none⟩,
     ⟨some 58, .load1 (.t 57), none⟩,
     ⟨some 59, .mv (.t 8), none⟩,
     ⟨some 60, .iaddr 1 (.t 58) (.t 59), none⟩,
     ⟨some 61, .load1 (.t 60), none⟩,
     ⟨some 62, .mv (.t 9), none⟩,
     ⟨some 63, .faddr 16 (.t 7), none⟩,
     ⟨some 64, .load1 (.t 63), none⟩,
     ⟨some 65, .mv (.t 8), none⟩,
     ⟨some 66, .iaddr 1 (.t 64) (.t 65), none⟩,
     ⟨some 67, .load1 (.t 66), none⟩,
     ⟨some 68, .mv (.t 9), none⟩,
     ⟨some 69, .iaddr 5 (.t 67) (.t 68), none⟩,
     ⟨some 70, .faddr 4 (.t 69), none⟩,
     ⟨some 71, .load1 (.t 70), none⟩,
     ⟨some 72, .call 48 [(.t 71)], none⟩,
     ⟨some 73, .iaddr 5 (.t 61) (.t 62), none⟩,
     ⟨some 74, .faddr 4 (.t 73), none⟩,
     ⟨none, .store 1 (.t 74) (.t 72), none⟩] [])))
 (.reg none [⟨some 75, .bin .add (.t 54) (.c (.d (.int .i64 1))), none⟩,
   ⟨some 54, .mv (.t 75), none⟩] []))))
def f9l0 : PC := .loop [4, 7, 8, 34, 35, 53, 54] [] f9b0
def f9b1 : PC :=
 (.seq (.reg none [⟨some 36, .bin .lss (.t 35) (.t 34), none⟩] [])
 (.seq (.cond (.t 36)
   .skip
   (.exit 2))
 (.seq (.blk 3 none
   (.seq (.reg none [⟨some 37, .mv (.t 35), none⟩,
      ⟨some 8, .mv (.t 37), none⟩] [])
   (.seq (.reg (some [(1, 8)]) [⟨some 38, .faddr 16 (.t 7), none⟩,
      ⟨some 39, .load1 (.t 38), none⟩,
      ⟨some 40, .mv (.t 8), none⟩,
      ⟨some 41, .faddr 16 (.t 7), none⟩,
      ⟨some 42, .load1 (.t 41), none⟩,
      ⟨some 43, .mv (.t 8), none⟩,
      ⟨some 44, .iaddr 1 (.t 42) (.t 43), none⟩,
      ⟨some 45, .load1 (.t 44), none⟩,
      ⟨some 46, .call 47 [(.t 45)], none⟩,
      ⟨some 47, .iaddr 1 (.t 39) (.t 40), none⟩,
      ⟨none, .store 1 (.t 47) (.t 46), none⟩] [])
   (.seq (.reg none [⟨some 48, .faddr 16 (.t 7), none⟩,
      ⟨some 49, .load1 (.t 48), none⟩,
      ⟨some 50, .mv (.t 8), none⟩,
      ⟨some 51, .iaddr 1 (.t 49) (.t 50), none⟩,
      ⟨some 52, .load1 (.t 51), none⟩,
      ⟨some 53, .lenL (.t 52), none⟩,
      ⟨some 54, .mv (.c (.d (.int .i64 0))), none⟩] [])
   (.blk 4 (some [4, 7, 34, 35])
    f9l0)))))
 (.reg none [⟨some 76, .bin .add (.t 35) (.c (.d (.int .i64 1))), none⟩,
   ⟨some 35, .mv (.t 76), none⟩] []))))
def f9l1 : PC := .loop [4, 7, 34, 35] [] f9b1
def f9b2 : PC :=
 (.seq (.reg none [⟨some 13, .bin .lss (.t 12) (.t 11), none⟩] [])
 (.seq (.cond (.t 13)
   .skip
   (.exit 0))
 (.seq (.blk 1 none
   (.seq (.reg none [⟨some 14, .iaddr 17 (.t 10) (.t 12), none⟩,
      ⟨some 15, .loadn 17 (.t 14), none⟩,
      ⟨some 7, .alloc 30 [(.d (.str [])), (.d (.bool false)), (.d (.int .i64 0)), (.d (.int .i64 0)), (.d (.int .i64 0)), .nil, (.d (.str [])), .nil, .nil, (.d (.int .i64 0)), (.d (.int .i64 0)), (.d (.int .i64 0)), .nil, (.d (.str [])), .nil, .nil, .nil], none⟩,
      ⟨none, .store 17 (.t 7) (.t 15), none⟩] [])
   (.seq (.seq (.reg none [⟨some 16, .faddr 0 (.t 7), none⟩,
       ⟨some 17, .load1 (.t 16), none⟩,
       ⟨some 18, .mv (.t 1), none⟩,
       ⟨some 19, .bin .neq (.t 17) (.t 18), none⟩] [])
    (.cond (.t 19)
     (.exit 1)
     .skip))
   (.seq (.reg (some [(2, 4), (2, 7), (5, 7)]) [⟨some 20, .faddr 2 (.t 7), none⟩,
      ⟨some 21, .loadn 7 (.t 20), none⟩,
      ⟨some 22, .call 45 [(.t 21)], none⟩,
      ⟨some 23, .faddr 9 (.t 7), none⟩,
      ⟨some 24, .loadn 7 (.t 23), none⟩,
      ⟨some 25, .call 45 [(.t 24)], none⟩,
      ⟨some 26, .faddr 16 (.t 7), none⟩,
      ⟨some 27, .load1 (.t 26), none⟩,
      ⟨some 28, .call 46 [(.t 27)], none⟩,
      ⟨some 29, .faddr 2 (.t 7), none⟩,
      ⟨none, .store 7 (.t 29) (.t 22), none⟩,
      ⟨some 30, .faddr 9 (.t 7), none⟩,
      ⟨none, .store 7 (.t 30) (.t 25), none⟩,
      ⟨some 31, .faddr 16 (.t 7), none⟩,
      ⟨none, .store 1 (.t 31) (.t 28), none⟩] [])
   (.seq (.seq (.reg none [⟨some 32, .faddr 16 (.t 7), none⟩,
       ⟨some 33, .load1 (.t 32), none⟩,
       ⟨some 34, .lenL (.t 33), none⟩,
       ⟨some 35, .mv (.c (.d (.int .i64 0))), none⟩] [])
    (.blk 2 (some [4, 7])
     f9l1))
   (.seq (.reg none [⟨some 77, .loadn 17 (.t 7), none⟩,
      ⟨none, .store 17 (.t 4) (.t 77), none⟩,
      ⟨some 5, .mv (.c (.d (.bool true))), none⟩] [])
   .ret))))))
 (.reg none [⟨some 78, .bin .add (.t 12) (.c (.d (.int .i64 1))), none⟩,
   ⟨some 12, .mv (.t 78), none⟩] []))))
def f9l2 : PC := .loop [1, 4, 10, 11, 12] [] f9b2
/-- orchestrator/kinds.Find -/
def f9 : PFn := ⟨2, 80, [.cn 4 17, .t 5], false,
 (.seq (.reg none [⟨some 4, .alloc 30 [(.d (.str [])), (.d (.bool false)), (.d (.int .i64 0)), (.d (.int .i64 0)), (.d (.int .i64 0)), .nil, (.d (.str [])), .nil, .nil, (.d (.int .i64 0)), (.d (.int .i64 0)), (.d (.int .i64 0)), .nil, (.d (.str [])), .nil, .nil, .nil], none⟩,
    ⟨some 5, .mv (.c (.d (.bool false))), none⟩] [])
 (.seq (.seq (.reg none [⟨some 10, .mv (.t 0), none⟩,
     ⟨some 11, .lenL (.t 10), none⟩,
     ⟨some 12, .mv (.c (.d (.int .i64 0))), none⟩] [])
  (.blk 0 (some [4])
   f9l2))
 (.seq (.reg none [⟨some 79, .build [(.d (.str [])), (.d (.bool false)), (.d (.int .i64 0)), (.d (.int .i64 0)), (.d (.int .i64 0)), .nil, (.d (.str [])), .nil, .nil, (.d (.int .i64 0)), (.d (.int .i64 0)), (.d (.int .i64 0)), .nil, (.d (.str [])), .nil, .nil, .nil] [], none⟩,
    ⟨none, .store 17 (.t 4) (.t 79), none⟩,
    ⟨some 5, .mv (.c (.d (.bool false))), none⟩] [])
 .ret)))⟩
/-- orchestrator/schema.Check -/
def f37 : PFn := ⟨2, 18, [.t 4], false,
 (.seq (.reg none [⟨some 2, .box 27 (.t 0), none⟩,
    ⟨some 3, .box 59 (.t 1), none⟩,
    ⟨some 4, .mv (.c .nil), none⟩] [])
 (.seq (.seq (.reg none [⟨some 5, .loadn 7 (.t 2), none⟩,
     ⟨some 6, .call 40 [(.t 5)], none⟩,
     ⟨some 7, .un .not (.t 6), none⟩,
     ⟨some 8, .mv (.t 7), none⟩,
     ⟨some 9, .loadn 5 (.t 3), some (8, false)⟩,
     ⟨some 10, .call 120 [(.t 9)], some (8, false)⟩,
     ⟨some 11, .un .not (.t 10), some (8, false)⟩,
     ⟨some 12, .pick (.t 8) (.c (.d (.bool true))) (.t 11), none⟩] [])
  (.cond (.t 12)
   (.seq (.reg none [⟨some 13, .build [(.d (.str [])), (.d (.int .i64 0))] [(1, 1, (.c (.d (.int .i64 1))))], none⟩,
      ⟨some 14, .lits 118 2 24 [(.str []), (.int .i64 0)] 1 [(0, (.t 13))], none⟩,
      ⟨some 4, .mv (.t 14), none⟩] [])
   .ret)
   .skip))
 (.seq (.reg none [⟨some 15, .loadn 7 (.t 2), none⟩,
    ⟨some 16, .loadn 5 (.t 3), none⟩,
    ⟨some 17, .call 121 [(.t 15), (.t 16)], none⟩,
    ⟨some 4, .mv (.t 17), none⟩] [])
 .ret)))⟩
/-- orchestrator/schema.valid -/
def f122 : PFn := ⟨2, 160, [.t 4], false,
 (.seq (.reg none [⟨some 2, .box 27 (.t 0), none⟩,
    ⟨some 3, .box 3 (.t 1), none⟩,
    ⟨some 4, .mv (.c (.d (.bool false))), none⟩] [])
 (.seq (.seq (.reg none [⟨some 5, .load1 (.t 3), none⟩,
     ⟨some 6, .bin .eql (.t 5) (.c (.d (.int .i64 0))), none⟩,
     ⟨some 7, .mv (.t 6), none⟩,
     ⟨some 8, .faddr 0 (.t 2), some (7, false)⟩,
     ⟨some 9, .load1 (.t 8), some (7, false)⟩,
     ⟨some 10, .bin .neq (.t 9) (.c (.d (.int .i64 3))), some (7, false)⟩,
     ⟨some 11, .mv (.t 10), some (7, false)⟩,
     ⟨some 12, .faddr 3 (.t 2), some (11, true)⟩,
     ⟨some 13, .load1 (.t 12), some (11, true)⟩,
     ⟨some 14, .lenL (.t 13), some (11, true)⟩,
     ⟨some 15, .bin .gtr (.t 14) (.c (.d (.int .i64 0))), some (11, true)⟩,
     ⟨some 16, .pick (.t 11) (.t 15) (.c (.d (.bool false))), some (7, false)⟩,
     ⟨some 17, .pick (.t 7) (.c (.d (.bool true))) (.t 16), none⟩,
     ⟨some 18, .mv (.t 17), none⟩,
     ⟨some 19, .faddr 0 (.t 2), some (18, false)⟩,
     ⟨some 20, .load1 (.t 19), some (18, false)⟩,
     ⟨some 21, .bin .neq (.t 20) (.c (.d (.int .i64 4))), some (18, false)⟩,
     ⟨some 22, .mv (.t 21), some (18, false)⟩,
     ⟨some 23, .faddr 4 (.t 2), some (22, true)⟩,
     ⟨some 24, .load1 (.t 23), some (22, true)⟩,
     ⟨some 25, .bin .neq (.t 24) (.c (.d (.str []))), some (22, true)⟩,
     ⟨some 26, .pick (.t 22) (.t 25) (.c (.d (.bool false))), some (18, false)⟩,
     ⟨some 27, .pick (.t 18) (.c (.d (.bool true))) (.t 26), none⟩,
     ⟨some 28, .mv (.t 27), none⟩,
     ⟨some 29, .faddr 0 (.t 2), some (28, false)⟩,
     ⟨some 30, .load1 (.t 29), some (28, false)⟩,
     ⟨some 31, .bin .neq (.t 30) (.c (.d (.int .i64 5))), some (28, false)⟩,
     ⟨some 32, .mv (.t 31), some (28, false)⟩,
     ⟨some 33, .faddr 6 (.t 2), some (32, true)⟩,
     ⟨some 34, .load1 (.t 33), some (32, true)⟩,
     ⟨some 35, .lenL (.t 34), some (32, true)⟩,
     ⟨some 36, .bin .gtr (.t 35) (.c (.d (.int .i64 0))), some (32, true)⟩,
     ⟨some 37, .pick (.t 32) (.t 36) (.c (.d (.bool false))), some (28, false)⟩,
     ⟨some 38, .pick (.t 28) (.c (.d (.bool true))) (.t 37), none⟩,
     ⟨some 39, .mv (.t 38), none⟩,
     ⟨some 40, .faddr 0 (.t 2), some (39, false)⟩,
     ⟨some 41, .load1 (.t 40), some (39, false)⟩,
     ⟨some 42, .bin .neq (.t 41) (.c (.d (.int .i64 5))), some (39, false)⟩,
     ⟨some 43, .mv (.t 42), some (39, false)⟩,
     ⟨some 44, .faddr 0 (.t 2), some (43, true)⟩,
     ⟨some 45, .load1 (.t 44), some (43, true)⟩,
     ⟨some 46, .bin .neq (.t 45) (.c (.d (.int .i64 4))), some (43, true)⟩,
     ⟨some 47, .pick (.t 43) (.t 46) (.c (.d (.bool false))), some (39, false)⟩,
     ⟨some 48, .mv (.t 47), some (39, false)⟩,
     ⟨some 49, .faddr 5 (.t 2), some (48, true)⟩,
     ⟨some 50, .load1 (.t 49), some (48, true)⟩,
     ⟨some 51, .lenL (.t 50), some (48, true)⟩,
     ⟨some 52, .bin .gtr (.t 51) (.c (.d (.int .i64 0))), some (48, true)⟩,
     ⟨some 53, .pick (.t 48) (.t 52) (.c (.d (.bool false))), some (39, false)⟩,
     ⟨some 54, .pick (.t 39) (.c (.d (.bool true))) (.t 53), none⟩] [])
  (.cond (.t 54)
   (.seq (.reg none [⟨some 4, .mv (.c (.d (.bool false))), none⟩] [])
   .ret)
   .skip))
 (.seq (.seq (.reg none [⟨some 55, .faddr 0 (.t 2), none⟩,
     ⟨some 56, .load1 (.t 55), none⟩] [])
  (.blk 0 none
   (.seq (.reg none [⟨some 58, .bin .eql (.t 56) (.c (.d (.int .i64 1))), none⟩,
      ⟨some 57, .mv (.t 58), none⟩] [])
   (.cond (.t 57)
    (.seq (.reg none [⟨some 59, .faddr 1 (.t 2), none⟩,
       ⟨some 60, .load1 (.t 59), none⟩,
       ⟨some 61, .bin .eql (.t 60) (.c (.d (.int .i64 0))), none⟩,
       ⟨some 62, .mv (.t 61), none⟩,
       ⟨some 63, .faddr 2 (.t 2), some (62, true)⟩,
       ⟨some 64, .load1 (.t 63), some (62, true)⟩,
       ⟨some 65, .bin .eql (.t 64) (.c (.d (.int .i64 0))), some (62, true)⟩,
       ⟨some 66, .pick (.t 62) (.t 65) (.c (.d (.bool false))), none⟩,
       ⟨some 4, .mv (.t 66), none⟩] [])
    .ret)
    (.seq (.reg none [⟨some 68, .bin .eql (.t 56) (.c (.d (.int .i64 2))), none⟩,
       ⟨some 67, .mv (.t 68), none⟩] [])
    (.cond (.t 67)
     (.seq (.reg none [⟨some 69, .faddr 1 (.t 2), none⟩,
        ⟨some 70, .load1 (.t 69), none⟩,
        ⟨some 71, .bin .leq (.c (.d (.int .i64 (-1000000000000000)))) (.t 70), none⟩,
        ⟨some 72, .mv (.t 71), none⟩,
        ⟨some 73, .faddr 1 (.t 2), some (72, true)⟩,
        ⟨some 74, .load1 (.t 73), some (72, true)⟩,
        ⟨some 75, .faddr 2 (.t 2), some (72, true)⟩,
        ⟨some 76, .load1 (.t 75), some (72, true)⟩,
        ⟨some 77, .bin .leq (.t 74) (.t 76), some (72, true)⟩,
        ⟨some 78, .pick (.t 72) (.t 77) (.c (.d (.bool false))), none⟩,
        ⟨some 79, .mv (.t 78), none⟩,
        ⟨some 80, .faddr 2 (.t 2), some (79, true)⟩,
        ⟨some 81, .load1 (.t 80), some (79, true)⟩,
        ⟨some 82, .bin .leq (.t 81) (.c (.d (.int .i64 1000000000000000))), some (79, true)⟩,
        ⟨some 83, .pick (.t 79) (.t 82) (.c (.d (.bool false))), none⟩,
        ⟨some 4, .mv (.t 83), none⟩] [])
     .ret)
     (.seq (.reg none [⟨some 85, .bin .eql (.t 56) (.c (.d (.int .i64 3))), none⟩,
        ⟨some 84, .mv (.t 85), none⟩] [])
     (.cond (.t 84)
      (.seq (.reg none [⟨some 86, .loadn 7 (.t 2), none⟩,
         ⟨some 87, .call 180 [(.t 86), (.c (.d (.int .i64 200)))], none⟩,
         ⟨some 88, .mv (.t 87), none⟩,
         ⟨some 89, .loadn 7 (.t 2), some (88, true)⟩,
         ⟨some 90, .call 181 [(.t 89)], some (88, true)⟩,
         ⟨some 91, .pick (.t 88) (.t 90) (.c (.d (.bool false))), none⟩,
         ⟨some 4, .mv (.t 91), none⟩] [])
      .ret)
      (.seq (.reg none [⟨some 93, .bin .eql (.t 56) (.c (.d (.int .i64 4))), none⟩,
         ⟨some 92, .mv (.t 93), none⟩] [])
      (.cond (.t 92)
       (.seq (.reg (some []) [⟨some 94, .loadn 7 (.t 2), none⟩,
          ⟨some 95, .call 180 [(.t 94), (.c (.d (.int .i64 64)))], none⟩,
          ⟨some 96, .mv (.t 95), none⟩,
          ⟨some 97, .faddr 5 (.t 2), some (96, true)⟩,
          ⟨some 98, .load1 (.t 97), some (96, true)⟩,
          ⟨some 99, .lenL (.t 98), some (96, true)⟩,
          ⟨some 100, .bin .eql (.t 99) (.c (.d (.int .i64 1))), some (96, true)⟩,
          ⟨some 101, .pick (.t 96) (.t 100) (.c (.d (.bool false))), none⟩,
          ⟨some 102, .mv (.t 101), none⟩,
          ⟨some 103, .faddr 5 (.t 2), some (102, true)⟩,
          ⟨some 104, .load1 (.t 103), some (102, true)⟩,
          ⟨some 105, .iaddr 7 (.t 104) (.c (.d (.int .i64 0))), some (102, true)⟩,
          ⟨some 106, .loadn 7 (.t 105), some (102, true)⟩,
          ⟨some 107, .load1 (.t 3), some (102, true)⟩,
          ⟨some 108, .bin .sub (.t 107) (.c (.d (.int .i64 1))), some (102, true)⟩,
          ⟨some 109, .call 122 [(.t 106), (.t 108)], some (102, true)⟩,
          ⟨some 110, .pick (.t 102) (.t 109) (.c (.d (.bool false))), none⟩,
          ⟨some 111, .mv (.t 110), none⟩,
          ⟨some 112, .loadn 7 (.t 2), some (111, true)⟩,
          ⟨some 113, .call 182 [(.t 112)], some (111, true)⟩,
          ⟨some 114, .pick (.t 111) (.t 113) (.c (.d (.bool false))), none⟩,
          ⟨some 4, .mv (.t 114), none⟩] [])
       .ret)
       (.seq (.reg none [⟨some 116, .bin .eql (.t 56) (.c (.d (.int .i64 5))), none⟩,
          ⟨some 115, .mv (.t 116), none⟩] [])
       (.cond (.t 115)
        (.seq (.seq (.reg none [⟨some 117, .faddr 1 (.t 2), none⟩,
            ⟨some 118, .load1 (.t 117), none⟩,
            ⟨some 119, .bin .neq (.t 118) (.c (.d (.int .i64 0))), none⟩,
            ⟨some 120, .mv (.t 119), none⟩,
            ⟨some 121, .faddr 2 (.t 2), some (120, false)⟩,
            ⟨some 122, .load1 (.t 121), some (120, false)⟩,
            ⟨some 123, .bin .neq (.t 122) (.c (.d (.int .i64 0))), some (120, false)⟩,
            ⟨some 124, .pick (.t 120) (.c (.d (.bool true))) (.t 123), none⟩,
            ⟨some 125, .mv (.t 124), none⟩,
            ⟨some 126, .faddr 5 (.t 2), some (125, false)⟩,
            ⟨some 127, .load1 (.t 126), some (125, false)⟩,
            ⟨some 128, .lenL (.t 127), some (125, false)⟩,
            ⟨some 129, .bin .gtr (.t 128) (.c (.d (.int .i64 1))), some (125, false)⟩,
            ⟨some 130, .pick (.t 125) (.c (.d (.bool true))) (.t 129), none⟩,
            ⟨some 131, .mv (.t 130), none⟩,
            ⟨some 132, .faddr 5 (.t 2), some (131, false)⟩,
            ⟨some 133, .load1 (.t 132), some (131, false)⟩,
            ⟨some 134, .lenL (.t 133), some (131, false)⟩,
            ⟨some 135, .bin .eql (.t 134) (.c (.d (.int .i64 1))), some (131, false)⟩,
            ⟨some 136, .mv (.t 135), some (131, false)⟩,
            ⟨some 137, .faddr 6 (.t 2), some (136, true)⟩,
            ⟨some 138, .load1 (.t 137), some (136, true)⟩,
            ⟨some 139, .lenL (.t 138), some (136, true)⟩,
            ⟨some 140, .bin .gtr (.t 139) (.c (.d (.int .i64 0))), some (136, true)⟩,
            ⟨some 141, .pick (.t 136) (.t 140) (.c (.d (.bool false))), some (131, false)⟩,
            ⟨some 142, .pick (.t 131) (.c (.d (.bool true))) (.t 141), none⟩,
            ⟨some 143, .mv (.t 142), none⟩,
            ⟨some 144, .faddr 6 (.t 2), some (143, false)⟩,
            ⟨some 145, .load1 (.t 144), some (143, false)⟩,
            ⟨some 146, .lenL (.t 145), some (143, false)⟩,
            ⟨some 147, .bin .gtr (.t 146) (.c (.d (.int .i64 64))), some (143, false)⟩,
            ⟨some 148, .pick (.t 143) (.c (.d (.bool true))) (.t 147), none⟩] [])
         (.cond (.t 148)
          (.seq (.reg none [⟨some 4, .mv (.c (.d (.bool false))), none⟩] [])
          .ret)
          .skip))
        (.seq (.reg none [⟨some 149, .faddr 5 (.t 2), none⟩,
           ⟨some 150, .load1 (.t 149), none⟩,
           ⟨some 151, .mkf 184 [(.t 3)], none⟩,
           ⟨some 152, .call 183 [(.t 150), (.t 151)], none⟩,
           ⟨some 153, .un .not (.t 152), none⟩,
           ⟨some 154, .mv (.t 153), none⟩,
           ⟨some 155, .loadn 7 (.t 2), some (154, true)⟩,
           ⟨some 156, .load1 (.t 3), some (154, true)⟩,
           ⟨some 157, .bin .sub (.t 156) (.c (.d (.int .i64 1))), some (154, true)⟩,
           ⟨some 158, .call 185 [(.t 155), (.t 157)], some (154, true)⟩,
           ⟨some 159, .pick (.t 154) (.t 158) (.c (.d (.bool false))), none⟩,
           ⟨some 4, .mv (.t 159), none⟩] [])
        .ret))
        .skip))))))))))))
 (.seq (.reg none [⟨some 4, .mv (.c (.d (.bool false))), none⟩] [])
 .ret))))⟩
/-- orchestrator/defaults.clone -/
def f123 : PFn := ⟨1, 9, [.cn 2 5], false,
 (.seq (.reg none [⟨some 1, .box 59 (.t 0), none⟩,
    ⟨some 2, .alloc 59 [(.d (.int .i64 0)), (.d (.int .i64 0)), (.d (.str [])), .nil, .nil], none⟩] [])
 (.seq (.reg none [⟨some 3, .loadn 5 (.t 1), none⟩,
    ⟨some 4, .lits 59 5 80 [(.int .i64 0), (.int .i64 0), (.str []), (.sl []), (.sl [])] 1 [(0, (.t 3))], none⟩,
    ⟨some 5, .call 137 [(.t 4)], none⟩,
    ⟨some 6, .fld false 3 1 (.t 5), none⟩,
    ⟨some 7, .iaddr 5 (.t 6) (.c (.d (.int .i64 0))), none⟩,
    ⟨some 8, .loadn 5 (.t 7), none⟩,
    ⟨none, .store 5 (.t 2) (.t 8), none⟩] [])
 .ret))⟩
def f124b0 : PC :=
 (.seq (.reg none [⟨some 20, .bin .lss (.t 19) (.t 18), none⟩] [])
 (.seq (.cond (.t 20)
   .skip
   (.exit 0))
 (.seq (.blk 1 none
   (.seq (.reg none [⟨some 21, .iaddr 5 (.t 17) (.t 19), none⟩,
      ⟨some 22, .loadn 5 (.t 21), none⟩,
      ⟨some 9, .alloc 59 [(.d (.int .i64 0)), (.d (.int .i64 0)), (.d (.str [])), .nil, .nil], none⟩,
      ⟨none, .store 5 (.t 9) (.t 22), none⟩] [])
   (.reg (some []) [⟨some 23, .mv (.t 7), none⟩,
     ⟨some 24, .mv (.t 2), none⟩,
     ⟨some 25, .faddr 5 (.t 3), none⟩,
     ⟨some 26, .load1 (.t 25), none⟩,
     ⟨some 27, .iaddr 7 (.t 26) (.c (.d (.int .i64 0))), none⟩,
     ⟨some 28, .loadn 7 (.t 27), none⟩,
     ⟨some 29, .loadn 5 (.t 9), none⟩,
     ⟨some 30, .callv (.t 24) [(.t 28), (.t 29)], none⟩,
     ⟨some 31, .lits 59 5 80 [(.int .i64 0), (.int .i64 0), (.str []), (.sl []), (.sl [])] 1 [(0, (.t 30))], none⟩,
     ⟨some 32, .app 59 5 80 (.t 23) (.t 31), none⟩,
     ⟨some 7, .mv (.t 32), none⟩] [])))
 (.reg none [⟨some 33, .bin .add (.t 19) (.c (.d (.int .i64 1))), none⟩,
   ⟨some 19, .mv (.t 33), none⟩] []))))
def f124l0 : PC := .loop [2, 3, 6, 7, 17, 18, 19] [] f124b0
/-- orchestrator/defaults.elements -/
def f124 : PFn := ⟨3, 36, [.cn 6 5], false,
 (.seq (.reg none [⟨some 3, .box 27 (.t 0), none⟩,
    ⟨some 4, .box 59 (.t 1), none⟩,
    ⟨some 6, .alloc 59 [(.d (.int .i64 0)), (.d (.int .i64 0)), (.d (.str [])), .nil, .nil], none⟩] [])
 (.seq (.seq (.reg none [⟨some 10, .faddr 5 (.t 3), none⟩,
     ⟨some 11, .load1 (.t 10), none⟩,
     ⟨some 12, .lenL (.t 11), none⟩,
     ⟨some 13, .bin .neq (.t 12) (.c (.d (.int .i64 1))), none⟩] [])
  (.cond (.t 13)
   (.seq (.reg none [⟨some 14, .loadn 5 (.t 4), none⟩,
      ⟨some 15, .call 123 [(.t 14)], none⟩,
      ⟨none, .store 5 (.t 6) (.t 15), none⟩] [])
   .ret)
   .skip))
 (.seq (.reg none [⟨some 7, .mv (.c .nil), none⟩] [])
 (.seq (.seq (.reg none [⟨some 16, .faddr 3 (.t 4), none⟩,
     ⟨some 17, .load1 (.t 16), none⟩,
     ⟨some 18, .lenL (.t 17), none⟩,
     ⟨some 19, .mv (.c (.d (.int .i64 0))), none⟩] [])
  (.blk 0 (some [6, 7])
   f124l0))
 (.seq (.reg none [⟨some 34, .mv (.t 7), none⟩,
    ⟨some 35, .call 137 [(.t 34)], none⟩,
    ⟨none, .store 5 (.t 6) (.t 35), none⟩] [])
 .ret)))))⟩
def f125b0 : PC :=
 (.seq (.reg none [⟨some 15, .bin .lss (.t 14) (.t 13), none⟩] [])
 (.seq (.cond (.t 15)
   .skip
   (.exit 0))
 (.seq (.blk 1 none
   (.seq (.reg none [⟨some 16, .iaddr 6 (.t 12) (.t 14), none⟩,
      ⟨some 17, .loadn 6 (.t 16), none⟩,
      ⟨some 7, .alloc 115 [(.d (.str [])), (.d (.int .i64 0)), (.d (.int .i64 0)), (.d (.str [])), .nil, .nil], none⟩,
      ⟨none, .store 6 (.t 7) (.t 17), none⟩] [])
   (.seq (.reg none [⟨some 18, .faddr 0 (.t 7), none⟩,
      ⟨some 19, .load1 (.t 18), none⟩,
      ⟨some 20, .mv (.t 1), none⟩,
      ⟨some 21, .bin .eql (.t 19) (.t 20), none⟩] [])
   (.cond (.t 21)
    (.seq (.reg none [⟨some 22, .faddr 1 (.t 7), none⟩,
       ⟨some 23, .loadn 5 (.t 22), none⟩,
       ⟨some 24, .call 186 [(.t 23)], none⟩,
       ⟨none, .store 5 (.t 4) (.t 24), none⟩,
       ⟨some 5, .mv (.c (.d (.bool true))), none⟩] [])
    .ret)
    .skip))))
 (.reg none [⟨some 25, .bin .add (.t 14) (.c (.d (.int .i64 1))), none⟩,
   ⟨some 14, .mv (.t 25), none⟩] []))))
def f125l0 : PC := .loop [1, 4, 12, 13, 14] [] f125b0
/-- orchestrator/value.Get -/
def f125 : PFn := ⟨2, 27, [.cn 4 5, .t 5], false,
 (.seq (.reg none [⟨some 2, .box 59 (.t 0), none⟩,
    ⟨some 4, .alloc 59 [(.d (.int .i64 0)), (.d (.int .i64 0)), (.d (.str [])), .nil, .nil], none⟩,
    ⟨some 5, .mv (.c (.d (.bool false))), none⟩] [])
 (.seq (.seq (.reg none [⟨some 8, .faddr 0 (.t 2), none⟩,
     ⟨some 9, .load1 (.t 8), none⟩,
     ⟨some 10, .bin .eql (.t 9) (.c (.d (.int .i64 5))), none⟩] [])
  (.cond (.t 10)
   (.seq (.reg none [⟨some 11, .faddr 4 (.t 2), none⟩,
      ⟨some 12, .load1 (.t 11), none⟩,
      ⟨some 13, .lenL (.t 12), none⟩,
      ⟨some 14, .mv (.c (.d (.int .i64 0))), none⟩] [])
   (.blk 0 (some [4])
    f125l0))
   .skip))
 (.seq (.reg none [⟨some 26, .build [(.d (.int .i64 0)), (.d (.int .i64 0)), (.d (.str [])), .nil, .nil] [], none⟩,
    ⟨none, .store 5 (.t 4) (.t 26), none⟩,
    ⟨some 5, .mv (.c (.d (.bool false))), none⟩] [])
 .ret)))⟩
/-- orchestrator/value.With -/
def f126 : PFn := ⟨3, 16, [.cn 6 5], false,
 (.seq (.reg none [⟨some 3, .box 59 (.t 0), none⟩,
    ⟨some 5, .box 59 (.t 2), none⟩,
    ⟨some 6, .alloc 59 [(.d (.int .i64 0)), (.d (.int .i64 0)), (.d (.str [])), .nil, .nil], none⟩] [])
 (.seq (.reg (some [(2, 4), (0, 6), (2, 6)]) [⟨some 7, .loadn 5 (.t 3), none⟩,
    ⟨some 8, .mv (.t 1), none⟩,
    ⟨some 9, .call 187 [(.t 7), (.t 8)], none⟩,
    ⟨some 10, .mv (.t 1), none⟩,
    ⟨some 11, .loadn 5 (.t 5), none⟩,
    ⟨some 12, .build [(.d (.str [])), (.d (.int .i64 0)), (.d (.int .i64 0)), (.d (.str [])), .nil, .nil] [(0, 1, (.t 10)), (1, 5, (.t 11))], none⟩,
    ⟨some 13, .lits 115 6 96 [(.str []), (.int .i64 0), (.int .i64 0), (.str []), (.sl []), (.sl [])] 1 [(0, (.t 12))], none⟩,
    ⟨some 14, .app 115 6 96 (.t 9) (.t 13), none⟩,
    ⟨some 15, .call 128 [(.t 14)], none⟩,
    ⟨none, .store 5 (.t 6) (.t 15), none⟩] [])
 .ret))⟩
def f127b0 : PC :=
 (.seq (.reg none [⟨some 20, .bin .lss (.t 19) (.t 18), none⟩] [])
 (.seq (.cond (.t 20)
   .skip
   (.exit 0))
 (.seq (.blk 1 none
   (.seq (.reg none [⟨some 21, .iaddr 11 (.t 17) (.t 19), none⟩,
      ⟨some 22, .loadn 11 (.t 21), none⟩,
      ⟨some 7, .alloc 135 [(.d (.str [])), (.d (.bool false)), (.d (.bool false)), .nil, (.d (.int .i64 0)), (.d (.int .i64 0)), (.d (.int .i64 0)), .nil, (.d (.str [])), .nil, .nil], none⟩,
      ⟨none, .store 11 (.t 7) (.t 22), none⟩] [])
   (.seq (.reg none [⟨some 23, .faddr 0 (.t 7), none⟩,
      ⟨some 24, .load1 (.t 23), none⟩,
      ⟨some 25, .mv (.t 1), none⟩,
      ⟨some 26, .bin .eql (.t 24) (.t 25), none⟩] [])
   (.cond (.t 26)
    (.seq (.reg none [⟨some 27, .faddr 4 (.t 7), none⟩,
       ⟨some 28, .loadn 7 (.t 27), none⟩,
       ⟨none, .store 7 (.t 4) (.t 28), none⟩,
       ⟨some 5, .mv (.c (.d (.bool true))), none⟩] [])
    .ret)
    .skip))))
 (.reg none [⟨some 29, .bin .add (.t 19) (.c (.d (.int .i64 1))), none⟩,
   ⟨some 19, .mv (.t 29), none⟩] []))))
def f127l0 : PC := .loop [1, 4, 17, 18, 19] [] f127b0
/-- orchestrator/defaults.under -/
def f127 : PFn := ⟨2, 31, [.cn 4 7, .t 5], false,
 (.seq (.reg none [⟨some 2, .box 27 (.t 0), none⟩,
    ⟨some 4, .alloc 27 [(.d (.int .i64 0)), (.d (.int .i64 0)), (.d (.int .i64 0)), .nil, (.d (.str [])), .nil, .nil], none⟩,
    ⟨some 5, .mv (.c (.d (.bool false))), none⟩] [])
 (.seq (.seq (.reg none [⟨some 8, .faddr 5 (.t 2), none⟩,
     ⟨some 9, .load1 (.t 8), none⟩,
     ⟨some 10, .lenL (.t 9), none⟩,
     ⟨some 11, .bin .eql (.t 10) (.c (.d (.int .i64 1))), none⟩] [])
  (.cond (.t 11)
   (.seq (.reg none [⟨some 12, .faddr 5 (.t 2), none⟩,
      ⟨some 13, .load1 (.t 12), none⟩,
      ⟨some 14, .iaddr 7 (.t 13) (.c (.d (.int .i64 0))), none⟩,
      ⟨some 15, .loadn 7 (.t 14), none⟩,
      ⟨none, .store 7 (.t 4) (.t 15), none⟩,
      ⟨some 5, .mv (.c (.d (.bool true))), none⟩] [])
   .ret)
   .skip))
 (.seq (.seq (.reg none [⟨some 16, .faddr 6 (.t 2), none⟩,
     ⟨some 17, .load1 (.t 16), none⟩,
     ⟨some 18, .lenL (.t 17), none⟩,
     ⟨some 19, .mv (.c (.d (.int .i64 0))), none⟩] [])
  (.blk 0 (some [4])
   f127l0))
 (.seq (.reg none [⟨some 30, .build [(.d (.int .i64 0)), (.d (.int .i64 0)), (.d (.int .i64 0)), .nil, (.d (.str [])), .nil, .nil] [], none⟩,
    ⟨none, .store 7 (.t 4) (.t 30), none⟩,
    ⟨some 5, .mv (.c (.d (.bool false))), none⟩] [])
 .ret))))⟩
def f128b0 : PC :=
 (.seq (.reg none [⟨some 15, .bin .lss (.t 14) (.t 13), none⟩] [])
 (.seq (.cond (.t 15)
   .skip
   (.exit 0))
 (.seq (.blk 1 none
   (.seq (.reg none [⟨some 16, .mv (.t 14), none⟩,
      ⟨some 17, .iaddr 6 (.t 12) (.t 14), none⟩,
      ⟨some 18, .loadn 6 (.t 17), none⟩,
      ⟨some 6, .alloc 115 [(.d (.str [])), (.d (.int .i64 0)), (.d (.int .i64 0)), (.d (.str [])), .nil, .nil], none⟩,
      ⟨some 5, .mv (.t 16), none⟩,
      ⟨none, .store 6 (.t 6) (.t 18), none⟩] [])
   (.seq (.reg (some []) [⟨some 19, .mv (.t 5), none⟩,
      ⟨some 20, .bin .add (.t 19) (.c (.d (.int .i64 1))), none⟩,
      ⟨some 21, .mv (.t 3), none⟩,
      ⟨some 22, .lenL (.t 21), none⟩,
      ⟨some 23, .bin .eql (.t 20) (.t 22), none⟩,
      ⟨some 24, .mv (.t 23), none⟩,
      ⟨some 25, .mv (.t 3), some (24, false)⟩,
      ⟨some 26, .mv (.t 5), some (24, false)⟩,
      ⟨some 27, .bin .add (.t 26) (.c (.d (.int .i64 1))), some (24, false)⟩,
      ⟨some 28, .iaddr 6 (.t 25) (.t 27), some (24, false)⟩,
      ⟨some 29, .faddr 0 (.t 28), some (24, false)⟩,
      ⟨some 30, .load1 (.t 29), some (24, false)⟩,
      ⟨some 31, .faddr 0 (.t 6), some (24, false)⟩,
      ⟨some 32, .load1 (.t 31), some (24, false)⟩,
      ⟨some 33, .bin .neq (.t 30) (.t 32), some (24, false)⟩,
      ⟨some 34, .pick (.t 24) (.c (.d (.bool true))) (.t 33), none⟩] [])
   (.cond (.t 34)
    (.reg none [⟨some 35, .faddr 4 (.t 4), none⟩,
      ⟨some 36, .load1 (.t 35), none⟩,
      ⟨some 37, .loadn 6 (.t 6), none⟩,
      ⟨some 38, .lits 115 6 96 [(.str []), (.int .i64 0), (.int .i64 0), (.str []), (.sl []), (.sl [])] 1 [(0, (.t 37))], none⟩,
      ⟨some 39, .app 115 6 96 (.t 36) (.t 38), none⟩,
      ⟨some 40, .faddr 4 (.t 4), none⟩,
      ⟨none, .store 1 (.t 40) (.t 39), none⟩] [])
    .skip))))
 (.reg none [⟨some 41, .bin .add (.t 14) (.c (.d (.int .i64 1))), none⟩,
   ⟨some 14, .mv (.t 41), none⟩] []))))
def f128l0 : PC := .loop [2, 3, 4, 12, 13, 14] [] f128b0
/-- orchestrator/value.Map -/
def f128 : PFn := ⟨1, 44, [.cn 2 5], false,
 (.seq (.reg none [⟨some 2, .alloc 59 [(.d (.int .i64 0)), (.d (.int .i64 0)), (.d (.str [])), .nil, .nil], none⟩] [])
 (.seq (.reg none [⟨some 7, .mv (.t 0), none⟩,
    ⟨some 8, .call 188 [(.t 7)], none⟩,
    ⟨some 3, .mv (.t 8), none⟩] [])
 (.seq (.reg none [⟨some 9, .mv (.t 3), none⟩,
    ⟨some 10, .call 189 [(.t 9), (.c (.fn 190 []))], none⟩] [])
 (.seq (.reg none [⟨some 11, .build [(.d (.int .i64 0)), (.d (.int .i64 0)), (.d (.str [])), .nil, .nil] [(0, 1, (.c (.d (.int .i64 5))))], none⟩,
    ⟨some 4, .alloc 59 [(.d (.int .i64 0)), (.d (.int .i64 0)), (.d (.str [])), .nil, .nil], none⟩,
    ⟨none, .store 5 (.t 4) (.t 11), none⟩] [])
 (.seq (.seq (.reg none [⟨some 12, .mv (.t 3), none⟩,
     ⟨some 13, .lenL (.t 12), none⟩,
     ⟨some 14, .mv (.c (.d (.int .i64 0))), none⟩] [])
  (.blk 0 (some [2, 4])
   f128l0))
 (.seq (.reg none [⟨some 42, .loadn 5 (.t 4), none⟩,
    ⟨some 43, .call 186 [(.t 42)], none⟩,
    ⟨none, .store 5 (.t 2) (.t 43), none⟩] [])
 .ret))))))⟩
/-- orchestrator/orchestratorref04.Valid -/
def f105 : PFn := ⟨1, 10, [.t 2], false,
 (.seq (.reg none [⟨some 1, .box 59 (.t 0), none⟩,
    ⟨some 2, .mv (.c (.d (.bool false))), none⟩] [])
 (.seq (.reg none [⟨some 3, .loadn 5 (.t 1), none⟩,
    ⟨some 4, .call 172 [(.t 3), (.c (.d (.int .i64 12)))], none⟩,
    ⟨some 5, .mv (.t 4), none⟩,
    ⟨some 6, .loadn 5 (.t 1), some (5, true)⟩,
    ⟨some 7, .call 173 [(.t 6)], some (5, true)⟩,
    ⟨some 8, .bin .leq (.t 7) (.c (.d (.int .i64 600))), some (5, true)⟩,
    ⟨some 9, .pick (.t 5) (.t 8) (.c (.d (.bool false))), none⟩,
    ⟨some 2, .mv (.t 9), none⟩] [])
 .ret))⟩
/-- slices.ContainsFunc[[]orchestrator/api.ConvRule,orchestrator/api.ConvRule] -/
def f129 : PFn := ⟨2, 9, [.t 4], true,
 (.seq (.reg none [⟨some 4, .mv (.c (.d (.bool false))), none⟩] [])
 (.seq (.reg none [⟨some 5, .mv (.t 0), none⟩,
    ⟨some 6, .mv (.t 1), none⟩,
    ⟨some 7, .call 191 [(.t 5), (.t 6)], none⟩,
    ⟨some 8, .bin .geq (.t 7) (.c (.d (.int .i64 0))), none⟩,
    ⟨some 4, .mv (.t 8), none⟩] [])
 .ret))⟩
/-- orchestrator/convert.Valid$1 -/
def f130 : PFn := ⟨1, 6, [.t 2], false,
 (.seq (.reg none [⟨some 1, .box 130 (.t 0), none⟩,
    ⟨some 2, .mv (.c (.d (.bool false))), none⟩] [])
 (.seq (.reg none [⟨some 3, .loadn 5 (.t 1), none⟩,
    ⟨some 4, .call 131 [(.t 3)], none⟩,
    ⟨some 5, .un .not (.t 4), none⟩,
    ⟨some 2, .mv (.t 5), none⟩] [])
 .ret))⟩
/-- orchestrator/convert.fields -/
def f132 : PFn := ⟨1, 26, [.t 2, .t 3], false,
 (.seq (.reg none [⟨some 2, .mv (.c .nil), none⟩,
    ⟨some 3, .mv (.c (.d (.bool false))), none⟩] [])
 (.seq (.reg none [⟨some 8, .mv (.t 0), none⟩,
    ⟨some 9, .call 193 [(.t 8)], none⟩,
    ⟨some 7, .mv (.t 9), none⟩,
    ⟨some 10, .ext (.t 7) 0, none⟩,
    ⟨some 11, .ext (.t 7) 1, none⟩,
    ⟨some 4, .mv (.t 10), none⟩,
    ⟨some 5, .mv (.t 11), none⟩] [])
 (.seq (.reg none [⟨some 12, .mv (.t 5), none⟩,
    ⟨some 13, .bin .eql (.t 12) (.c (.d (.int .i64 0))), none⟩,
    ⟨some 14, .mv (.t 13), none⟩,
    ⟨some 15, .mv (.t 4), some (14, true)⟩,
    ⟨some 16, .lenL (.t 15), some (14, true)⟩,
    ⟨some 17, .bin .gtr (.t 16) (.c (.d (.int .i64 0))), some (14, true)⟩,
    ⟨some 18, .pick (.t 14) (.t 17) (.c (.d (.bool false))), none⟩,
    ⟨some 19, .mv (.t 18), none⟩,
    ⟨some 20, .mv (.t 4), some (19, true)⟩,
    ⟨some 21, .call 194 [(.t 20), (.c (.fn 195 []))], some (19, true)⟩,
    ⟨some 22, .un .not (.t 21), some (19, true)⟩,
    ⟨some 23, .pick (.t 19) (.t 22) (.c (.d (.bool false))), none⟩,
    ⟨some 6, .mv (.t 23), none⟩] [])
 (.seq (.reg none [⟨some 24, .mv (.t 4), none⟩,
    ⟨some 25, .mv (.t 6), none⟩,
    ⟨some 2, .mv (.t 24), none⟩,
    ⟨some 3, .mv (.t 25), none⟩] [])
 .ret))))⟩
def f133b0 : PC :=
 (.seq (.reg none [⟨some 19, .bin .lss (.t 18) (.t 17), none⟩] [])
 (.seq (.cond (.t 19)
   .skip
   (.exit 2))
 (.seq (.blk 3 none
   (.seq (.reg none [⟨some 20, .iaddr 1 (.t 16) (.t 18), none⟩,
      ⟨some 21, .load1 (.t 20), none⟩,
      ⟨some 6, .mv (.t 21), none⟩] [])
   (.seq (.reg none [⟨some 22, .mv (.t 4), none⟩,
      ⟨some 23, .mv (.t 6), none⟩,
      ⟨some 24, .call 196 [(.t 22), (.t 23)], none⟩,
      ⟨some 25, .mv (.t 24), none⟩,
      ⟨some 26, .mv (.t 6), some (25, false)⟩,
      ⟨some 27, .mv (.t 4), some (25, false)⟩,
      ⟨some 28, .call 196 [(.t 26), (.t 27)], some (25, false)⟩,
      ⟨some 29, .pick (.t 25) (.c (.d (.bool true))) (.t 28), none⟩] [])
   (.cond (.t 29)
    (.seq (.reg none [⟨some 2, .mv (.c (.d (.bool false))), none⟩] [])
    .ret)
    .skip))))
 (.reg none [⟨some 30, .bin .add (.t 18) (.c (.d (.int .i64 1))), none⟩,
   ⟨some 18, .mv (.t 30), none⟩] []))))
def f133l0 : PC := .loop [0, 4, 7, 8, 9, 16, 17, 18] [] f133b0
def f133b1 : PC :=
 (.seq (.reg none [⟨some 10, .bin .lss (.t 9) (.t 8), none⟩] [])
 (.seq (.cond (.t 10)
   .skip
   (.exit 0))
 (.seq (.blk 1 none
   (.seq (.reg none [⟨some 11, .mv (.t 9), none⟩,
      ⟨some 12, .iaddr 1 (.t 7) (.t 9), none⟩,
      ⟨some 13, .load1 (.t 12), none⟩,
      ⟨some 3, .mv (.t 11), none⟩,
      ⟨some 4, .mv (.t 13), none⟩] [])
   (.seq (.reg none [⟨some 14, .mv (.t 0), none⟩,
      ⟨some 15, .mv (.t 3), none⟩,
      ⟨some 16, .slc 1 (.t 14) none (some (.t 15)) none, none⟩,
      ⟨some 17, .lenL (.t 16), none⟩,
      ⟨some 18, .mv (.c (.d (.int .i64 0))), none⟩] [])
   (.blk 2 (some [0, 7, 8, 9])
    f133l0))))
 (.reg none [⟨some 31, .bin .add (.t 9) (.c (.d (.int .i64 1))), none⟩,
   ⟨some 9, .mv (.t 31), none⟩] []))))
def f133l1 : PC := .loop [0, 7, 8, 9] [] f133b1
/-- orchestrator/convert.apart -/
def f133 : PFn := ⟨1, 32, [.t 2], false,
 (.seq (.reg none [⟨some 2, .mv (.c (.d (.bool false))), none⟩] [])
 (.seq (.seq (.reg none [⟨some 7, .mv (.t 0), none⟩,
     ⟨some 8, .lenL (.t 7), none⟩,
     ⟨some 9, .mv (.c (.d (.int .i64 0))), none⟩] [])
  (.blk 0 (some [])
   f133l1))
 (.seq (.reg none [⟨some 2, .mv (.c (.d (.bool true))), none⟩] [])
 .ret)))⟩
/-- orchestrator/kinds.text -/
def f139 : PFn := ⟨2, 8, [.cn 4 7], false,
 (.seq (.reg none [⟨some 4, .alloc 27 [(.d (.int .i64 0)), (.d (.int .i64 0)), (.d (.int .i64 0)), .nil, (.d (.str [])), .nil, .nil], none⟩] [])
 (.seq (.reg none [⟨some 5, .mv (.t 0), none⟩,
    ⟨some 6, .mv (.t 1), none⟩,
    ⟨some 7, .build [(.d (.int .i64 0)), (.d (.int .i64 0)), (.d (.int .i64 0)), .nil, (.d (.str [])), .nil, .nil] [(0, 1, (.c (.d (.int .i64 3)))), (1, 1, (.t 5)), (2, 1, (.t 6))], none⟩,
    ⟨none, .store 7 (.t 4) (.t 7), none⟩] [])
 .ret))⟩
/-- orchestrator/kinds.num -/
def f140 : PFn := ⟨2, 8, [.cn 4 7], false,
 (.seq (.reg none [⟨some 4, .alloc 27 [(.d (.int .i64 0)), (.d (.int .i64 0)), (.d (.int .i64 0)), .nil, (.d (.str [])), .nil, .nil], none⟩] [])
 (.seq (.reg none [⟨some 5, .mv (.t 0), none⟩,
    ⟨some 6, .mv (.t 1), none⟩,
    ⟨some 7, .build [(.d (.int .i64 0)), (.d (.int .i64 0)), (.d (.int .i64 0)), .nil, (.d (.str [])), .nil, .nil] [(0, 1, (.c (.d (.int .i64 2)))), (1, 1, (.t 5)), (2, 1, (.t 6))], none⟩,
    ⟨none, .store 7 (.t 4) (.t 7), none⟩] [])
 .ret))⟩
/-- orchestrator/kinds.whole -/
def f142 : PFn := ⟨0, 2, [.cn 0 7], false,
 (.seq (.reg none [⟨some 0, .alloc 27 [(.d (.int .i64 0)), (.d (.int .i64 0)), (.d (.int .i64 0)), .nil, (.d (.str [])), .nil, .nil], none⟩] [])
 (.seq (.reg none [⟨some 1, .call 140 [(.c (.d (.int .i64 (-1000000000000000)))), (.c (.d (.int .i64 1000000000000000)))], none⟩,
    ⟨none, .store 7 (.t 0) (.t 1), none⟩] [])
 .ret))⟩
def f143b0 : PC :=
 (.seq (.reg none [⟨some 25, .bin .lss (.t 24) (.t 23), none⟩] [])
 (.seq (.cond (.t 25)
   .skip
   (.exit 0))
 (.seq (.blk 1 none
   (.seq (.reg none [⟨some 26, .mv (.t 24), none⟩,
      ⟨some 4, .mv (.t 26), none⟩] [])
   (.reg none [⟨some 27, .mv (.t 3), none⟩,
     ⟨some 28, .mv (.t 4), none⟩,
     ⟨some 29, .mv (.t 0), none⟩,
     ⟨some 30, .iaddr 11 (.t 27) (.t 28), none⟩,
     ⟨some 31, .faddr 2 (.t 30), none⟩,
     ⟨none, .store 1 (.t 31) (.t 29), none⟩] [])))
 (.reg none [⟨some 32, .bin .add (.t 24) (.c (.d (.int .i64 1))), none⟩,
   ⟨some 24, .mv (.t 32), none⟩] []))))
def f143l0 : PC := .loop [0, 2, 3, 23, 24] [] f143b0
/-- orchestrator/kinds.podSpec -/
def f143 : PFn := ⟨1, 44, [.cn 2 7], false,
 (.seq (.reg none [⟨some 2, .alloc 27 [(.d (.int .i64 0)), (.d (.int .i64 0)), (.d (.int .i64 0)), .nil, (.d (.str [])), .nil, .nil], none⟩] [])
 (.seq (.reg none [⟨some 5, .call 197 [], none⟩,
    ⟨some 6, .call 138 [(.t 5)], none⟩,
    ⟨some 7, .call 144 [(.c (.d (.str [110, 97, 109, 101]))), (.t 6)], none⟩,
    ⟨some 8, .call 51 [(.c (.d (.str [99, 111, 110, 116, 97, 105, 110, 101, 114, 115]))), (.t 7)], none⟩,
    ⟨some 9, .call 142 [], none⟩,
    ⟨some 10, .call 58 [(.c (.d (.str [112, 114, 105, 111, 114, 105, 116, 121]))), (.t 9)], none⟩,
    ⟨some 11, .call 140 [(.c (.d (.int .i64 0))), (.c (.d (.int .i64 2)))], none⟩,
    ⟨some 12, .call 58 [(.c (.d (.str [114, 101, 115, 116, 97, 114, 116]))), (.t 11)], none⟩,
    ⟨some 13, .call 52 [], none⟩,
    ⟨some 14, .call 58 [(.c (.d (.str [110, 111, 100, 101, 83, 101, 108, 101, 99, 116, 111, 114]))), (.t 13)], none⟩,
    ⟨some 15, .call 198 [], none⟩,
    ⟨some 16, .call 58 [(.c (.d (.str [110, 111, 100, 101, 84, 101, 114, 109, 115]))), (.t 15)], none⟩,
    ⟨some 17, .call 199 [], none⟩,
    ⟨some 18, .call 58 [(.c (.d (.str [112, 111, 100, 84, 101, 114, 109, 115]))), (.t 17)], none⟩,
    ⟨some 19, .call 200 [], none⟩,
    ⟨some 20, .call 58 [(.c (.d (.str [115, 112, 114, 101, 97, 100]))), (.t 19)], none⟩,
    ⟨some 21, .lits 135 11 160 [(.str []), (.bool false), (.bool false), (.sl []), (.int .i64 0), (.int .i64 0), (.int .i64 0), (.sl []), (.str []), (.sl []), (.sl [])] 7 [(0, (.t 8)), (1, (.t 10)), (2, (.t 12)), (3, (.t 14)), (4, (.t 16)), (5, (.t 18)), (6, (.t 20))], none⟩,
    ⟨some 3, .mv (.t 21), none⟩] [])
 (.seq (.seq (.reg none [⟨some 22, .mv (.t 3), none⟩,
     ⟨some 23, .lenL (.t 22), none⟩,
     ⟨some 24, .mv (.c (.d (.int .i64 0))), none⟩] [])
  (.blk 0 (some [2, 3])
   f143l0))
 (.seq (.reg none [⟨some 33, .mv (.t 3), none⟩,
    ⟨some 34, .call 141 [], none⟩,
    ⟨some 35, .call 58 [(.c (.d (.str [110, 111, 100, 101]))), (.t 34)], none⟩,
    ⟨some 36, .call 59 [], none⟩,
    ⟨some 37, .call 145 [(.c (.d (.int .i64 30)))], none⟩,
    ⟨some 38, .call 66 [(.c (.d (.str [103, 114, 97, 99, 101]))), (.t 36), (.t 37)], none⟩,
    ⟨some 39, .call 201 [], none⟩,
    ⟨some 40, .call 58 [(.c (.d (.str [116, 111, 108, 101, 114, 97, 116, 105, 111, 110, 115]))), (.t 39)], none⟩,
    ⟨some 41, .lits 135 11 160 [(.str []), (.bool false), (.bool false), (.sl []), (.int .i64 0), (.int .i64 0), (.int .i64 0), (.sl []), (.str []), (.sl []), (.sl [])] 3 [(0, (.t 35)), (1, (.t 38)), (2, (.t 40))], none⟩,
    ⟨some 42, .app 135 11 160 (.t 33) (.t 41), none⟩,
    ⟨some 43, .call 56 [(.t 42)], none⟩,
    ⟨none, .store 7 (.t 2) (.t 43), none⟩] [])
 .ret))))⟩
/-- orchestrator/kinds.list -/
def f138 : PFn := ⟨1, 5, [.cn 2 7], false,
 (.seq (.reg none [⟨some 1, .box 27 (.t 0), none⟩,
    ⟨some 2, .alloc 27 [(.d (.int .i64 0)), (.d (.int .i64 0)), (.d (.int .i64 0)), .nil, (.d (.str [])), .nil, .nil], none⟩] [])
 (.seq (.reg none [⟨some 3, .loadn 7 (.t 1), none⟩,
    ⟨some 4, .call 153 [(.c (.d (.int .i64 64))), (.t 3)], none⟩,
    ⟨none, .store 7 (.t 2) (.t 4), none⟩] [])
 .ret))⟩
/-- orchestrator/kinds.by -/
def f144 : PFn := ⟨2, 8, [.cn 4 7], false,
 (.seq (.reg none [⟨some 3, .box 27 (.t 1), none⟩,
    ⟨some 4, .alloc 27 [(.d (.int .i64 0)), (.d (.int .i64 0)), (.d (.int .i64 0)), .nil, (.d (.str [])), .nil, .nil], none⟩] [])
 (.seq (.reg none [⟨some 5, .mv (.t 0), none⟩,
    ⟨some 6, .faddr 4 (.t 3), none⟩,
    ⟨none, .store 1 (.t 6) (.t 5), none⟩] [])
 (.seq (.reg none [⟨some 7, .loadn 7 (.t 3), none⟩,
    ⟨none, .store 7 (.t 4) (.t 7), none⟩] [])
 .ret)))⟩
/-- orchestrator/kinds.name -/
def f141 : PFn := ⟨0, 2, [.cn 0 7], false,
 (.seq (.reg none [⟨some 0, .alloc 27 [(.d (.int .i64 0)), (.d (.int .i64 0)), (.d (.int .i64 0)), .nil, (.d (.str [])), .nil, .nil], none⟩] [])
 (.seq (.reg none [⟨some 1, .call 139 [(.c (.d (.int .i64 0))), (.c (.d (.int .i64 40)))], none⟩,
    ⟨none, .store 7 (.t 0) (.t 1), none⟩] [])
 .ret))⟩
/-- orchestrator/value.Int -/
def f145 : PFn := ⟨1, 5, [.cn 2 5], false,
 (.seq (.reg none [⟨some 2, .alloc 59 [(.d (.int .i64 0)), (.d (.int .i64 0)), (.d (.str [])), .nil, .nil], none⟩] [])
 (.seq (.reg none [⟨some 3, .mv (.t 0), none⟩,
    ⟨some 4, .build [(.d (.int .i64 0)), (.d (.int .i64 0)), (.d (.str [])), .nil, .nil] [(0, 1, (.c (.d (.int .i64 2)))), (1, 1, (.t 3))], none⟩,
    ⟨none, .store 5 (.t 2) (.t 4), none⟩] [])
 .ret))⟩
/-- orchestrator/kinds.labels -/
def f149 : PFn := ⟨0, 9, [.cn 0 7], false,
 (.seq (.reg none [⟨some 0, .alloc 27 [(.d (.int .i64 0)), (.d (.int .i64 0)), (.d (.int .i64 0)), .nil, (.d (.str [])), .nil, .nil], none⟩] [])
 (.seq (.reg none [⟨some 1, .call 139 [(.c (.d (.int .i64 1))), (.c (.d (.int .i64 40)))], none⟩,
    ⟨some 2, .call 51 [(.c (.d (.str [107, 101, 121]))), (.t 1)], none⟩,
    ⟨some 3, .call 141 [], none⟩,
    ⟨some 4, .call 58 [(.c (.d (.str [118, 97, 108, 117, 101]))), (.t 3)], none⟩,
    ⟨some 5, .lits 135 11 160 [(.str []), (.bool false), (.bool false), (.sl []), (.int .i64 0), (.int .i64 0), (.int .i64 0), (.sl []), (.str []), (.sl []), (.sl [])] 2 [(0, (.t 2)), (1, (.t 4))], none⟩,
    ⟨some 6, .call 56 [(.t 5)], none⟩,
    ⟨some 7, .call 153 [(.c (.d (.int .i64 16))), (.t 6)], none⟩,
    ⟨some 8, .call 144 [(.c (.d (.str [107, 101, 121]))), (.t 7)], none⟩,
    ⟨none, .store 7 (.t 0) (.t 8), none⟩] [])
 .ret))⟩
/-- slices.SortFunc[[]orchestrator/api.SchemaField,orchestrator/api.SchemaField] -/
def f146 : PFn := ⟨2, 14, [], true,
 (.seq (.reg none [⟨some 5, .mv (.t 0), none⟩,
    ⟨some 6, .lenL (.t 5), none⟩,
    ⟨some 4, .mv (.t 6), none⟩] [])
 (.reg none [⟨some 7, .mv (.t 0), none⟩,
   ⟨some 8, .mv (.t 4), none⟩,
   ⟨some 9, .mv (.t 4), none⟩,
   ⟨some 10, .conv .u64 (.t 9), none⟩,
   ⟨some 11, .call 203 [(.t 10)], none⟩,
   ⟨some 12, .mv (.t 1), none⟩,
   ⟨some 13, .call 202 [(.t 7), (.c (.d (.int .i64 0))), (.t 8), (.t 11), (.t 12)], none⟩] []))⟩
/-- orchestrator/kinds.object$1 -/
def f147 : PFn := ⟨2, 10, [.t 4], false,
 (.seq (.reg none [⟨some 2, .box 135 (.t 0), none⟩,
    ⟨some 3, .box 135 (.t 1), none⟩,
    ⟨some 4, .mv (.c (.d (.int .i64 0))), none⟩] [])
 (.seq (.reg none [⟨some 5, .faddr 0 (.t 2), none⟩,
    ⟨some 6, .load1 (.t 5), none⟩,
    ⟨some 7, .faddr 0 (.t 3), none⟩,
    ⟨some 8, .load1 (.t 7), none⟩,
    ⟨some 9, .call 148 [(.t 6), (.t 8)], none⟩,
    ⟨some 4, .mv (.t 9), none⟩] [])
 .ret))⟩
/-- orchestrator/kinds.move -/
def f150 : PFn := ⟨2, 8, [.cn 4 5], false,
 (.seq (.reg none [⟨some 4, .alloc 130 [(.d (.int .i64 0)), (.d (.int .i64 0)), (.d (.str [])), (.d (.str [])), .nil], none⟩] [])
 (.seq (.reg none [⟨some 5, .mv (.t 0), none⟩,
    ⟨some 6, .mv (.t 1), none⟩,
    ⟨some 7, .build [(.d (.int .i64 0)), (.d (.int .i64 0)), (.d (.str [])), (.d (.str [])), .nil] [(0, 1, (.c (.d (.int .i64 1)))), (2, 1, (.t 5)), (3, 1, (.t 6))], none⟩,
    ⟨none, .store 5 (.t 4) (.t 7), none⟩] [])
 .ret))⟩
def f151b0 : PC :=
 (.seq (.reg none [⟨some 16, .bin .lss (.t 15) (.t 14), none⟩] [])
 (.seq (.cond (.t 16)
   .skip
   (.exit 0))
 (.seq (.blk 1 none
   (.seq (.reg none [⟨some 17, .mv (.t 15), none⟩,
      ⟨some 4, .mv (.t 17), none⟩] [])
   (.reg none [⟨some 18, .mv (.t 3), none⟩,
     ⟨some 19, .mv (.t 4), none⟩,
     ⟨some 20, .mv (.t 0), none⟩,
     ⟨some 21, .iaddr 11 (.t 18) (.t 19), none⟩,
     ⟨some 22, .faddr 2 (.t 21), none⟩,
     ⟨none, .store 1 (.t 22) (.t 20), none⟩] [])))
 (.reg none [⟨some 23, .bin .add (.t 15) (.c (.d (.int .i64 1))), none⟩,
   ⟨some 15, .mv (.t 23), none⟩] []))))
def f151l0 : PC := .loop [0, 2, 3, 14, 15] [] f151b0
/-- orchestrator/kinds.job -/
def f151 : PFn := ⟨1, 38, [.cn 2 7], false,
 (.seq (.reg none [⟨some 2, .alloc 27 [(.d (.int .i64 0)), (.d (.int .i64 0)), (.d (.int .i64 0)), .nil, (.d (.str [])), .nil, .nil], none⟩] [])
 (.seq (.reg none [⟨some 5, .call 60 [], none⟩,
    ⟨some 6, .call 145 [(.c (.d (.int .i64 1)))], none⟩,
    ⟨some 7, .call 66 [(.c (.d (.str [99, 111, 109, 112, 108, 101, 116, 105, 111, 110, 115]))), (.t 5), (.t 6)], none⟩,
    ⟨some 8, .call 65 [], none⟩,
    ⟨some 9, .call 58 [(.c (.d (.str [105, 110, 100, 101, 120, 101, 100]))), (.t 8)], none⟩,
    ⟨some 10, .call 61 [], none⟩,
    ⟨some 11, .call 51 [(.c (.d (.str [116, 101, 109, 112, 108, 97, 116, 101]))), (.t 10)], none⟩,
    ⟨some 12, .lits 135 11 160 [(.str []), (.bool false), (.bool false), (.sl []), (.int .i64 0), (.int .i64 0), (.int .i64 0), (.sl []), (.str []), (.sl []), (.sl [])] 3 [(0, (.t 7)), (1, (.t 9)), (2, (.t 11))], none⟩,
    ⟨some 3, .mv (.t 12), none⟩] [])
 (.seq (.seq (.reg none [⟨some 13, .mv (.t 3), none⟩,
     ⟨some 14, .lenL (.t 13), none⟩,
     ⟨some 15, .mv (.c (.d (.int .i64 0))), none⟩] [])
  (.blk 0 (some [2, 3])
   f151l0))
 (.seq (.reg none [⟨some 24, .mv (.t 3), none⟩,
    ⟨some 25, .call 60 [], none⟩,
    ⟨some 26, .call 145 [(.c (.d (.int .i64 1)))], none⟩,
    ⟨some 27, .call 66 [(.c (.d (.str [112, 97, 114, 97, 108, 108, 101, 108, 105, 115, 109]))), (.t 25), (.t 26)], none⟩,
    ⟨some 28, .call 60 [], none⟩,
    ⟨some 29, .call 145 [(.c (.d (.int .i64 6)))], none⟩,
    ⟨some 30, .call 66 [(.c (.d (.str [114, 101, 116, 114, 105, 101, 115]))), (.t 28), (.t 29)], none⟩,
    ⟨some 31, .call 59 [], none⟩,
    ⟨some 32, .call 58 [(.c (.d (.str [100, 101, 97, 100, 108, 105, 110, 101]))), (.t 31)], none⟩,
    ⟨some 33, .call 65 [], none⟩,
    ⟨some 34, .call 58 [(.c (.d (.str [115, 117, 115, 112, 101, 110, 100, 101, 100]))), (.t 33)], none⟩,
    ⟨some 35, .lits 135 11 160 [(.str []), (.bool false), (.bool false), (.sl []), (.int .i64 0), (.int .i64 0), (.int .i64 0), (.sl []), (.str []), (.sl []), (.sl [])] 4 [(0, (.t 27)), (1, (.t 30)), (2, (.t 32)), (3, (.t 34))], none⟩,
    ⟨some 36, .app 135 11 160 (.t 24) (.t 35), none⟩,
    ⟨some 37, .call 56 [(.t 36)], none⟩,
    ⟨none, .store 7 (.t 2) (.t 37), none⟩] [])
 .ret))))⟩
/-- orchestrator/value.Bool -/
def f152 : PFn := ⟨1, 8, [.cn 2 5], false,
 (.seq (.reg none [⟨some 2, .alloc 59 [(.d (.int .i64 0)), (.d (.int .i64 0)), (.d (.str [])), .nil, .nil], none⟩] [])
 (.seq (.reg none [⟨some 4, .build [(.d (.int .i64 0)), (.d (.int .i64 0)), (.d (.str [])), .nil, .nil] [(0, 1, (.c (.d (.int .i64 1))))], none⟩,
    ⟨some 3, .alloc 59 [(.d (.int .i64 0)), (.d (.int .i64 0)), (.d (.str [])), .nil, .nil], none⟩,
    ⟨none, .store 5 (.t 3) (.t 4), none⟩] [])
 (.seq (.seq (.reg none [⟨some 5, .mv (.t 0), none⟩] [])
  (.cond (.t 5)
   (.reg none [⟨some 6, .faddr 1 (.t 3), none⟩,
     ⟨none, .store 1 (.t 6) (.c (.d (.int .i64 1))), none⟩] [])
   .skip))
 (.seq (.reg none [⟨some 7, .loadn 5 (.t 3), none⟩,
    ⟨none, .store 5 (.t 2) (.t 7), none⟩] [])
 .ret))))⟩
/-- orchestrator/kinds.most -/
def f153 : PFn := ⟨2, 9, [.cn 4 7], false,
 (.seq (.reg none [⟨some 3, .box 27 (.t 1), none⟩,
    ⟨some 4, .alloc 27 [(.d (.int .i64 0)), (.d (.int .i64 0)), (.d (.int .i64 0)), .nil, (.d (.str [])), .nil, .nil], none⟩] [])
 (.seq (.reg none [⟨some 5, .mv (.t 0), none⟩,
    ⟨some 6, .loadn 7 (.t 3), none⟩,
    ⟨some 7, .lits 27 7 112 [(.int .i64 0), (.int .i64 0), (.int .i64 0), (.sl []), (.str []), (.sl []), (.sl [])] 1 [(0, (.t 6))], none⟩,
    ⟨some 8, .build [(.d (.int .i64 0)), (.d (.int .i64 0)), (.d (.int .i64 0)), .nil, (.d (.str [])), .nil, .nil] [(0, 1, (.c (.d (.int .i64 4)))), (2, 1, (.t 5)), (5, 1, (.t 7))], none⟩,
    ⟨none, .store 7 (.t 4) (.t 8), none⟩] [])
 .ret))⟩
def f45b0 : PC :=
 (.seq (.reg none [⟨some 22, .bin .lss (.t 21) (.t 20), none⟩] [])
 (.seq (.cond (.t 22)
   .skip
   (.exit 0))
 (.seq (.blk 1 none
   (.seq (.reg none [⟨some 23, .mv (.t 21), none⟩,
      ⟨some 3, .mv (.t 23), none⟩] [])
   (.reg (some [(1, 8)]) [⟨some 24, .faddr 5 (.t 1), none⟩,
     ⟨some 25, .load1 (.t 24), none⟩,
     ⟨some 26, .mv (.t 3), none⟩,
     ⟨some 27, .faddr 5 (.t 1), none⟩,
     ⟨some 28, .load1 (.t 27), none⟩,
     ⟨some 29, .mv (.t 3), none⟩,
     ⟨some 30, .iaddr 7 (.t 28) (.t 29), none⟩,
     ⟨some 31, .loadn 7 (.t 30), none⟩,
     ⟨some 32, .call 45 [(.t 31)], none⟩,
     ⟨some 33, .iaddr 7 (.t 25) (.t 26), none⟩,
     ⟨none, .store 7 (.t 33) (.t 32), none⟩] [])))
 (.reg none [⟨some 34, .bin .add (.t 21) (.c (.d (.int .i64 1))), none⟩,
   ⟨some 21, .mv (.t 34), none⟩] []))))
def f45l0 : PC := .loop [1, 2, 20, 21] [] f45b0
def f45b1 : PC :=
 (.seq (.reg none [⟨some 39, .bin .lss (.t 38) (.t 37), none⟩] [])
 (.seq (.cond (.t 39)
   .skip
   (.exit 2))
 (.seq (.blk 3 none
   (.seq (.reg none [⟨some 40, .mv (.t 38), none⟩,
      ⟨some 41, .iaddr 11 (.t 36) (.t 38), none⟩,
      ⟨some 42, .loadn 11 (.t 41), none⟩,
      ⟨some 5, .alloc 135 [(.d (.str [])), (.d (.bool false)), (.d (.bool false)), .nil, (.d (.int .i64 0)), (.d (.int .i64 0)), (.d (.int .i64 0)), .nil, (.d (.str [])), .nil, .nil], none⟩,
      ⟨some 4, .mv (.t 40), none⟩,
      ⟨none, .store 11 (.t 5) (.t 42), none⟩] [])
   (.seq (.reg (some [(1, 5)]) [⟨some 43, .faddr 6 (.t 1), none⟩,
      ⟨some 44, .load1 (.t 43), none⟩,
      ⟨some 45, .mv (.t 4), none⟩,
      ⟨some 46, .faddr 3 (.t 5), none⟩,
      ⟨some 47, .load1 (.t 46), none⟩,
      ⟨some 48, .call 137 [(.t 47)], none⟩,
      ⟨some 49, .fld false 3 1 (.t 48), none⟩,
      ⟨some 50, .iaddr 11 (.t 44) (.t 45), none⟩,
      ⟨some 51, .faddr 3 (.t 50), none⟩,
      ⟨none, .store 1 (.t 51) (.t 49), none⟩] [])
   (.reg (some [(1, 5)]) [⟨some 52, .faddr 6 (.t 1), none⟩,
     ⟨some 53, .load1 (.t 52), none⟩,
     ⟨some 54, .mv (.t 4), none⟩,
     ⟨some 55, .faddr 4 (.t 5), none⟩,
     ⟨some 56, .loadn 7 (.t 55), none⟩,
     ⟨some 57, .call 45 [(.t 56)], none⟩,
     ⟨some 58, .iaddr 11 (.t 53) (.t 54), none⟩,
     ⟨some 59, .faddr 4 (.t 58), none⟩,
     ⟨none, .store 7 (.t 59) (.t 57), none⟩] []))))
 (.reg none [⟨some 60, .bin .add (.t 38) (.c (.d (.int .i64 1))), none⟩,
   ⟨some 38, .mv (.t 60), none⟩] []))))
def f45l1 : PC := .loop [1, 2, 36, 37, 38] [] f45b1
/-- orchestrator/kinds.clone -/
def f45 : PFn := ⟨1, 62, [.cn 2 7], false,
 (.seq (.reg none [⟨some 1, .box 27 (.t 0), none⟩,
    ⟨some 2, .alloc 27 [(.d (.int .i64 0)), (.d (.int .i64 0)), (.d (.int .i64 0)), .nil, (.d (.str [])), .nil, .nil], none⟩] [])
 (.seq (.reg (some [(2, 4), (2, 7), (5, 7)]) [⟨some 6, .faddr 3 (.t 1), none⟩,
    ⟨some 7, .load1 (.t 6), none⟩,
    ⟨some 8, .call 134 [(.t 7)], none⟩,
    ⟨some 9, .faddr 5 (.t 1), none⟩,
    ⟨some 10, .load1 (.t 9), none⟩,
    ⟨some 11, .call 135 [(.t 10)], none⟩,
    ⟨some 12, .faddr 6 (.t 1), none⟩,
    ⟨some 13, .load1 (.t 12), none⟩,
    ⟨some 14, .call 136 [(.t 13)], none⟩,
    ⟨some 15, .faddr 3 (.t 1), none⟩,
    ⟨none, .store 1 (.t 15) (.t 8), none⟩,
    ⟨some 16, .faddr 5 (.t 1), none⟩,
    ⟨none, .store 1 (.t 16) (.t 11), none⟩,
    ⟨some 17, .faddr 6 (.t 1), none⟩,
    ⟨none, .store 1 (.t 17) (.t 14), none⟩] [])
 (.seq (.seq (.reg none [⟨some 18, .faddr 5 (.t 1), none⟩,
     ⟨some 19, .load1 (.t 18), none⟩,
     ⟨some 20, .lenL (.t 19), none⟩,
     ⟨some 21, .mv (.c (.d (.int .i64 0))), none⟩] [])
  (.blk 0 (some [1, 2])
   f45l0))
 (.seq (.seq (.reg none [⟨some 35, .faddr 6 (.t 1), none⟩,
     ⟨some 36, .load1 (.t 35), none⟩,
     ⟨some 37, .lenL (.t 36), none⟩,
     ⟨some 38, .mv (.c (.d (.int .i64 0))), none⟩] [])
  (.blk 2 (some [1, 2])
   f45l1))
 (.seq (.reg none [⟨some 61, .loadn 7 (.t 1), none⟩,
    ⟨none, .store 7 (.t 2) (.t 61), none⟩] [])
 .ret)))))⟩
/-- orchestrator/value.Valid -/
def f120 : PFn := ⟨1, 10, [.t 2], false,
 (.seq (.reg none [⟨some 1, .box 59 (.t 0), none⟩,
    ⟨some 2, .mv (.c (.d (.bool false))), none⟩] [])
 (.seq (.reg none [⟨some 3, .loadn 5 (.t 1), none⟩,
    ⟨some 4, .call 177 [(.t 3), (.c (.d (.int .i64 12)))], none⟩,
    ⟨some 5, .mv (.t 4), none⟩,
    ⟨some 6, .loadn 5 (.t 1), some (5, true)⟩,
    ⟨some 7, .call 178 [(.t 6)], some (5, true)⟩,
    ⟨some 8, .bin .leq (.t 7) (.c (.d (.int .i64 600))), some (5, true)⟩,
    ⟨some 9, .pick (.t 5) (.t 8) (.c (.d (.bool false))), none⟩,
    ⟨some 2, .mv (.t 9), none⟩] [])
 .ret))⟩
/-- orchestrator/schema.errors -/
def f121 : PFn := ⟨2, 11, [.t 4], false,
 (.seq (.reg none [⟨some 2, .box 27 (.t 0), none⟩,
    ⟨some 3, .box 59 (.t 1), none⟩,
    ⟨some 4, .mv (.c .nil), none⟩] [])
 (.seq (.reg none [⟨some 5, .alloc 226 [.nil], none⟩] [])
 (.seq (.reg none [⟨some 6, .loadn 7 (.t 2), none⟩,
    ⟨some 7, .loadn 5 (.t 3), none⟩,
    ⟨some 8, .call 179 [(.t 5), (.t 6), (.t 7), (.c .nil)], none⟩] [])
 (.seq (.reg none [⟨some 9, .faddr 0 (.t 5), none⟩,
    ⟨some 10, .load1 (.t 9), none⟩,
    ⟨some 4, .mv (.t 10), none⟩] [])
 .ret))))⟩
/-- orchestrator/schema.bounded -/
def f180 : PFn := ⟨2, 21, [.t 4], false,
 (.seq (.reg none [⟨some 2, .box 27 (.t 0), none⟩,
    ⟨some 4, .mv (.c (.d (.bool false))), none⟩] [])
 (.seq (.reg none [⟨some 5, .faddr 1 (.t 2), none⟩,
    ⟨some 6, .load1 (.t 5), none⟩,
    ⟨some 7, .bin .leq (.c (.d (.int .i64 0))) (.t 6), none⟩,
    ⟨some 8, .mv (.t 7), none⟩,
    ⟨some 9, .faddr 1 (.t 2), some (8, true)⟩,
    ⟨some 10, .load1 (.t 9), some (8, true)⟩,
    ⟨some 11, .faddr 2 (.t 2), some (8, true)⟩,
    ⟨some 12, .load1 (.t 11), some (8, true)⟩,
    ⟨some 13, .bin .leq (.t 10) (.t 12), some (8, true)⟩,
    ⟨some 14, .pick (.t 8) (.t 13) (.c (.d (.bool false))), none⟩,
    ⟨some 15, .mv (.t 14), none⟩,
    ⟨some 16, .faddr 2 (.t 2), some (15, true)⟩,
    ⟨some 17, .load1 (.t 16), some (15, true)⟩,
    ⟨some 18, .mv (.t 1), some (15, true)⟩,
    ⟨some 19, .bin .leq (.t 17) (.t 18), some (15, true)⟩,
    ⟨some 20, .pick (.t 15) (.t 19) (.c (.d (.bool false))), none⟩,
    ⟨some 4, .mv (.t 20), none⟩] [])
 .ret))⟩
def f181b0 : PC :=
 (.seq (.reg none [⟨some 9, .bin .lss (.t 8) (.t 7), none⟩] [])
 (.seq (.cond (.t 9)
   .skip
   (.exit 0))
 (.seq (.blk 1 none
   (.seq (.reg none [⟨some 10, .mv (.t 8), none⟩,
      ⟨some 11, .iaddr 1 (.t 6) (.t 8), none⟩,
      ⟨some 12, .load1 (.t 11), none⟩,
      ⟨some 3, .mv (.t 10), none⟩,
      ⟨some 4, .mv (.t 12), none⟩] [])
   (.seq (.reg none [⟨some 13, .mv (.t 4), none⟩,
      ⟨some 14, .lenS (.t 13), none⟩,
      ⟨some 15, .faddr 1 (.t 1), none⟩,
      ⟨some 16, .load1 (.t 15), none⟩,
      ⟨some 17, .bin .lss (.t 14) (.t 16), none⟩,
      ⟨some 18, .mv (.t 17), none⟩,
      ⟨some 19, .mv (.t 4), some (18, false)⟩,
      ⟨some 20, .lenS (.t 19), some (18, false)⟩,
      ⟨some 21, .faddr 2 (.t 1), some (18, false)⟩,
      ⟨some 22, .load1 (.t 21), some (18, false)⟩,
      ⟨some 23, .bin .gtr (.t 20) (.t 22), some (18, false)⟩,
      ⟨some 24, .pick (.t 18) (.c (.d (.bool true))) (.t 23), none⟩,
      ⟨some 25, .mv (.t 24), none⟩,
      ⟨some 26, .mv (.t 3), some (25, false)⟩,
      ⟨some 27, .bin .gtr (.t 26) (.c (.d (.int .i64 0))), some (25, false)⟩,
      ⟨some 28, .mv (.t 27), some (25, false)⟩,
      ⟨some 29, .faddr 3 (.t 1), some (28, true)⟩,
      ⟨some 30, .load1 (.t 29), some (28, true)⟩,
      ⟨some 31, .mv (.t 3), some (28, true)⟩,
      ⟨some 32, .bin .sub (.t 31) (.c (.d (.int .i64 1))), some (28, true)⟩,
      ⟨some 33, .iaddr 1 (.t 30) (.t 32), some (28, true)⟩,
      ⟨some 34, .load1 (.t 33), some (28, true)⟩,
      ⟨some 35, .mv (.t 4), some (28, true)⟩,
      ⟨some 36, .bin .geq (.t 34) (.t 35), some (28, true)⟩,
      ⟨some 37, .pick (.t 28) (.t 36) (.c (.d (.bool false))), some (25, false)⟩,
      ⟨some 38, .pick (.t 25) (.c (.d (.bool true))) (.t 37), none⟩,
      ⟨some 39, .mv (.t 38), none⟩,
      ⟨some 40, .mv (.t 4), some (39, false)⟩,
      ⟨some 41, .call 220 [(.t 40)], some (39, false)⟩,
      ⟨some 42, .call 120 [(.t 41)], some (39, false)⟩,
      ⟨some 43, .un .not (.t 42), some (39, false)⟩,
      ⟨some 44, .pick (.t 39) (.c (.d (.bool true))) (.t 43), none⟩] [])
   (.cond (.t 44)
    (.seq (.reg none [⟨some 2, .mv (.c (.d (.bool false))), none⟩] [])
    .ret)
    .skip))))
 (.reg none [⟨some 45, .bin .add (.t 8) (.c (.d (.int .i64 1))), none⟩,
   ⟨some 8, .mv (.t 45), none⟩] []))))
def f181l0 : PC := .loop [1, 6, 7, 8] [] f181b0
/-- orchestrator/schema.enumerated -/
def f181 : PFn := ⟨1, 50, [.t 2], false,
 (.seq (.reg none [⟨some 1, .box 27 (.t 0), none⟩,
    ⟨some 2, .mv (.c (.d (.bool false))), none⟩] [])
 (.seq (.seq (.reg none [⟨some 5, .faddr 3 (.t 1), none⟩,
     ⟨some 6, .load1 (.t 5), none⟩,
     ⟨some 7, .lenL (.t 6), none⟩,
     ⟨some 8, .mv (.c (.d (.int .i64 0))), none⟩] [])
  (.blk 0 (some [1])
   f181l0))
 (.seq (.reg none [⟨some 46, .faddr 3 (.t 1), none⟩,
    ⟨some 47, .load1 (.t 46), none⟩,
    ⟨some 48, .lenL (.t 47), none⟩,
    ⟨some 49, .bin .leq (.t 48) (.c (.d (.int .i64 64))), none⟩,
    ⟨some 2, .mv (.t 49), none⟩] [])
 .ret)))⟩
/-- orchestrator/schema.keyed -/
def f182 : PFn := ⟨1, 31, [.t 2], false,
 (.seq (.reg none [⟨some 1, .box 27 (.t 0), none⟩,
    ⟨some 2, .mv (.c (.d (.bool false))), none⟩] [])
 (.seq (.reg (some [(1, 10), (3, 10), (5, 10), (6, 10)]) [⟨some 6, .faddr 5 (.t 1), none⟩,
    ⟨some 7, .load1 (.t 6), none⟩,
    ⟨some 8, .iaddr 7 (.t 7) (.c (.d (.int .i64 0))), none⟩,
    ⟨some 9, .loadn 7 (.t 8), none⟩,
    ⟨some 10, .faddr 4 (.t 1), none⟩,
    ⟨some 11, .load1 (.t 10), none⟩,
    ⟨some 12, .call 221 [(.t 9), (.t 11)], none⟩,
    ⟨some 5, .mv (.t 12), none⟩,
    ⟨some 13, .ext (.t 5) 0, none⟩,
    ⟨some 14, .ext (.t 5) 1, none⟩,
    ⟨some 3, .alloc 135 [(.d (.str [])), (.d (.bool false)), (.d (.bool false)), .nil, (.d (.int .i64 0)), (.d (.int .i64 0)), (.d (.int .i64 0)), .nil, (.d (.str [])), .nil, .nil], none⟩,
    ⟨none, .store 11 (.t 3) (.t 13), none⟩,
    ⟨some 4, .mv (.t 14), none⟩] [])
 (.seq (.reg none [⟨some 15, .faddr 4 (.t 1), none⟩,
    ⟨some 16, .load1 (.t 15), none⟩,
    ⟨some 17, .bin .eql (.t 16) (.c (.d (.str []))), none⟩,
    ⟨some 18, .mv (.t 17), none⟩,
    ⟨some 19, .mv (.t 4), some (18, false)⟩,
    ⟨some 20, .mv (.t 19), some (18, false)⟩,
    ⟨some 21, .faddr 1 (.t 3), some (20, true)⟩,
    ⟨some 22, .load1 (.t 21), some (20, true)⟩,
    ⟨some 23, .pick (.t 20) (.t 22) (.c (.d (.bool false))), some (18, false)⟩,
    ⟨some 24, .mv (.t 23), some (18, false)⟩,
    ⟨some 25, .faddr 4 (.t 3), some (24, true)⟩,
    ⟨some 26, .faddr 0 (.t 25), some (24, true)⟩,
    ⟨some 27, .load1 (.t 26), some (24, true)⟩,
    ⟨some 28, .bin .eql (.t 27) (.c (.d (.int .i64 3))), some (24, true)⟩,
    ⟨some 29, .pick (.t 24) (.t 28) (.c (.d (.bool false))), some (18, false)⟩,
    ⟨some 30, .pick (.t 18) (.c (.d (.bool true))) (.t 29), none⟩,
    ⟨some 2, .mv (.t 30), none⟩] [])
 .ret)))⟩
/-- orchestrator/schema.valid$1 -/
def f184 : PFn := ⟨2, 9, [.t 3], false,
 (.seq (.reg none [⟨some 2, .box 27 (.t 0), none⟩,
    ⟨some 3, .mv (.c (.d (.bool false))), none⟩] [])
 (.seq (.reg none [⟨some 4, .loadn 7 (.t 2), none⟩,
    ⟨some 5, .load1 (.t 1), none⟩,
    ⟨some 6, .bin .sub (.t 5) (.c (.d (.int .i64 1))), none⟩,
    ⟨some 7, .call 122 [(.t 4), (.t 6)], none⟩,
    ⟨some 8, .un .not (.t 7), none⟩,
    ⟨some 3, .mv (.t 8), none⟩] [])
 .ret))⟩
/-- slices.ContainsFunc[[]orchestrator/api.Schema,orchestrator/api.Schema] -/
def f183 : PFn := ⟨2, 9, [.t 4], true,
 (.seq (.reg none [⟨some 4, .mv (.c (.d (.bool false))), none⟩] [])
 (.seq (.reg none [⟨some 5, .mv (.t 0), none⟩,
    ⟨some 6, .mv (.t 1), none⟩,
    ⟨some 7, .call 222 [(.t 5), (.t 6)], none⟩,
    ⟨some 8, .bin .geq (.t 7) (.c (.d (.int .i64 0))), none⟩,
    ⟨some 4, .mv (.t 8), none⟩] [])
 .ret))⟩
def f185b0 : PC :=
 (.seq (.reg none [⟨some 59, .bin .lss (.t 58) (.t 57), none⟩] [])
 (.seq (.cond (.t 59)
   .skip
   (.exit 2))
 (.seq (.blk 3 none
   (.seq (.reg none [⟨some 60, .iaddr 5 (.t 56) (.t 58), none⟩,
      ⟨some 61, .loadn 5 (.t 60), none⟩,
      ⟨some 9, .alloc 59 [(.d (.int .i64 0)), (.d (.int .i64 0)), (.d (.str [])), .nil, .nil], none⟩,
      ⟨none, .store 5 (.t 9) (.t 61), none⟩] [])
   (.seq (.reg none [⟨some 62, .faddr 0 (.t 9), none⟩,
      ⟨some 63, .load1 (.t 62), none⟩,
      ⟨some 64, .bin .eql (.t 63) (.c (.d (.int .i64 0))), none⟩,
      ⟨some 65, .mv (.t 64), none⟩,
      ⟨some 66, .loadn 5 (.t 9), some (65, false)⟩,
      ⟨some 67, .call 120 [(.t 66)], some (65, false)⟩,
      ⟨some 68, .un .not (.t 67), some (65, false)⟩,
      ⟨some 69, .pick (.t 65) (.c (.d (.bool true))) (.t 68), none⟩,
      ⟨some 70, .mv (.t 69), none⟩,
      ⟨some 71, .faddr 4 (.t 6), some (70, false)⟩,
      ⟨some 72, .loadn 7 (.t 71), some (70, false)⟩,
      ⟨some 73, .loadn 5 (.t 9), some (70, false)⟩,
      ⟨some 74, .call 121 [(.t 72), (.t 73)], some (70, false)⟩,
      ⟨some 75, .lenL (.t 74), some (70, false)⟩,
      ⟨some 76, .bin .gtr (.t 75) (.c (.d (.int .i64 0))), some (70, false)⟩,
      ⟨some 77, .pick (.t 70) (.c (.d (.bool true))) (.t 76), none⟩] [])
   (.cond (.t 77)
    (.seq (.reg none [⟨some 4, .mv (.c (.d (.bool false))), none⟩] [])
    .ret)
    .skip))))
 (.reg none [⟨some 78, .bin .add (.t 58) (.c (.d (.int .i64 1))), none⟩,
   ⟨some 58, .mv (.t 78), none⟩] []))))
def f185l0 : PC := .loop [1, 2, 6, 11, 12, 13, 56, 57, 58] [] f185b0
def f185b1 : PC :=
 (.seq (.reg none [⟨some 14, .bin .lss (.t 13) (.t 12), none⟩] [])
 (.seq (.cond (.t 14)
   .skip
   (.exit 0))
 (.seq (.blk 1 none
   (.seq (.reg none [⟨some 15, .mv (.t 13), none⟩,
      ⟨some 16, .iaddr 11 (.t 11) (.t 13), none⟩,
      ⟨some 17, .loadn 11 (.t 16), none⟩,
      ⟨some 6, .alloc 135 [(.d (.str [])), (.d (.bool false)), (.d (.bool false)), .nil, (.d (.int .i64 0)), (.d (.int .i64 0)), (.d (.int .i64 0)), .nil, (.d (.str [])), .nil, .nil], none⟩,
      ⟨some 5, .mv (.t 15), none⟩,
      ⟨none, .store 11 (.t 6) (.t 17), none⟩] [])
   (.seq (.reg none [⟨some 18, .faddr 0 (.t 6), none⟩,
      ⟨some 19, .load1 (.t 18), none⟩,
      ⟨some 20, .build [(.d (.str [])), (.d (.int .i64 0)), (.d (.int .i64 0)), (.d (.str [])), .nil, .nil] [(0, 1, (.t 19))], none⟩,
      ⟨some 21, .lits 115 6 96 [(.str []), (.int .i64 0), (.int .i64 0), (.str []), (.sl []), (.sl [])] 1 [(0, (.t 20))], none⟩,
      ⟨some 22, .call 128 [(.t 21)], none⟩,
      ⟨some 23, .call 120 [(.t 22)], none⟩,
      ⟨some 7, .mv (.t 23), none⟩] [])
   (.seq (.seq (.reg (some []) [⟨some 24, .mv (.t 7), none⟩,
       ⟨some 25, .un .not (.t 24), none⟩,
       ⟨some 26, .mv (.t 25), none⟩,
       ⟨some 27, .mv (.t 5), some (26, false)⟩,
       ⟨some 28, .bin .gtr (.t 27) (.c (.d (.int .i64 0))), some (26, false)⟩,
       ⟨some 29, .mv (.t 28), some (26, false)⟩,
       ⟨some 30, .faddr 6 (.t 2), some (29, true)⟩,
       ⟨some 31, .load1 (.t 30), some (29, true)⟩,
       ⟨some 32, .mv (.t 5), some (29, true)⟩,
       ⟨some 33, .bin .sub (.t 32) (.c (.d (.int .i64 1))), some (29, true)⟩,
       ⟨some 34, .iaddr 11 (.t 31) (.t 33), some (29, true)⟩,
       ⟨some 35, .faddr 0 (.t 34), some (29, true)⟩,
       ⟨some 36, .load1 (.t 35), some (29, true)⟩,
       ⟨some 37, .faddr 0 (.t 6), some (29, true)⟩,
       ⟨some 38, .load1 (.t 37), some (29, true)⟩,
       ⟨some 39, .bin .geq (.t 36) (.t 38), some (29, true)⟩,
       ⟨some 40, .pick (.t 29) (.t 39) (.c (.d (.bool false))), some (26, false)⟩,
       ⟨some 41, .pick (.t 26) (.c (.d (.bool true))) (.t 40), none⟩,
       ⟨some 42, .mv (.t 41), none⟩,
       ⟨some 43, .faddr 4 (.t 6), some (42, false)⟩,
       ⟨some 44, .loadn 7 (.t 43), some (42, false)⟩,
       ⟨some 45, .mv (.t 1), some (42, false)⟩,
       ⟨some 46, .call 122 [(.t 44), (.t 45)], some (42, false)⟩,
       ⟨some 47, .un .not (.t 46), some (42, false)⟩,
       ⟨some 48, .pick (.t 42) (.c (.d (.bool true))) (.t 47), none⟩,
       ⟨some 49, .mv (.t 48), none⟩,
       ⟨some 50, .faddr 3 (.t 6), some (49, false)⟩,
       ⟨some 51, .load1 (.t 50), some (49, false)⟩,
       ⟨some 52, .lenL (.t 51), some (49, false)⟩,
       ⟨some 53, .bin .gtr (.t 52) (.c (.d (.int .i64 1))), some (49, false)⟩,
       ⟨some 54, .pick (.t 49) (.c (.d (.bool true))) (.t 53), none⟩] [])
    (.cond (.t 54)
     (.seq (.reg none [⟨some 4, .mv (.c (.d (.bool false))), none⟩] [])
     .ret)
     .skip))
   (.seq (.reg none [⟨some 55, .faddr 3 (.t 6), none⟩,
      ⟨some 56, .load1 (.t 55), none⟩,
      ⟨some 57, .lenL (.t 56), none⟩,
      ⟨some 58, .mv (.c (.d (.int .i64 0))), none⟩] [])
   (.blk 2 (some [1, 2, 11, 12, 13])
    f185l0))))))
 (.reg none [⟨some 79, .bin .add (.t 13) (.c (.d (.int .i64 1))), none⟩,
   ⟨some 13, .mv (.t 79), none⟩] []))))
def f185l1 : PC := .loop [1, 2, 11, 12, 13] [] f185b1
/-- orchestrator/schema.fields -/
def f185 : PFn := ⟨2, 80, [.t 4], false,
 (.seq (.reg none [⟨some 2, .box 27 (.t 0), none⟩,
    ⟨some 4, .mv (.c (.d (.bool false))), none⟩] [])
 (.seq (.seq (.reg none [⟨some 10, .faddr 6 (.t 2), none⟩,
     ⟨some 11, .load1 (.t 10), none⟩,
     ⟨some 12, .lenL (.t 11), none⟩,
     ⟨some 13, .mv (.c (.d (.int .i64 0))), none⟩] [])
  (.blk 0 (some [])
   f185l1))
 (.seq (.reg none [⟨some 4, .mv (.c (.d (.bool true))), none⟩] [])
 .ret)))⟩
/-- orchestrator/value.List -/
def f137 : PFn := ⟨1, 6, [.cn 2 5], false,
 (.seq (.reg none [⟨some 2, .alloc 59 [(.d (.int .i64 0)), (.d (.int .i64 0)), (.d (.str [])), .nil, .nil], none⟩] [])
 (.seq (.reg none [⟨some 3, .mv (.t 0), none⟩,
    ⟨some 4, .build [(.d (.int .i64 0)), (.d (.int .i64 0)), (.d (.str [])), .nil, .nil] [(0, 1, (.c (.d (.int .i64 4)))), (3, 1, (.t 3))], none⟩,
    ⟨some 5, .call 186 [(.t 4)], none⟩,
    ⟨none, .store 5 (.t 2) (.t 5), none⟩] [])
 .ret))⟩
def f186b0 : PC :=
 (.seq (.reg none [⟨some 15, .bin .lss (.t 14) (.t 13), none⟩] [])
 (.seq (.cond (.t 15)
   .skip
   (.exit 0))
 (.seq (.blk 1 none
   (.seq (.reg none [⟨some 16, .mv (.t 14), none⟩,
      ⟨some 17, .iaddr 5 (.t 12) (.t 14), none⟩,
      ⟨some 18, .loadn 5 (.t 17), none⟩,
      ⟨some 4, .alloc 59 [(.d (.int .i64 0)), (.d (.int .i64 0)), (.d (.str [])), .nil, .nil], none⟩,
      ⟨some 3, .mv (.t 16), none⟩,
      ⟨none, .store 5 (.t 4) (.t 18), none⟩] [])
   (.reg (some [(1, 4)]) [⟨some 19, .faddr 3 (.t 1), none⟩,
     ⟨some 20, .load1 (.t 19), none⟩,
     ⟨some 21, .mv (.t 3), none⟩,
     ⟨some 22, .loadn 5 (.t 4), none⟩,
     ⟨some 23, .call 186 [(.t 22)], none⟩,
     ⟨some 24, .iaddr 5 (.t 20) (.t 21), none⟩,
     ⟨none, .store 5 (.t 24) (.t 23), none⟩] [])))
 (.reg none [⟨some 25, .bin .add (.t 14) (.c (.d (.int .i64 1))), none⟩,
   ⟨some 14, .mv (.t 25), none⟩] []))))
def f186l0 : PC := .loop [1, 2, 12, 13, 14] [] f186b0
def f186b1 : PC :=
 (.seq (.reg none [⟨some 34, .bin .lss (.t 33) (.t 32), none⟩] [])
 (.seq (.cond (.t 34)
   .skip
   (.exit 2))
 (.seq (.blk 3 none
   (.seq (.reg none [⟨some 35, .mv (.t 33), none⟩,
      ⟨some 36, .iaddr 6 (.t 31) (.t 33), none⟩,
      ⟨some 37, .loadn 6 (.t 36), none⟩,
      ⟨some 6, .alloc 115 [(.d (.str [])), (.d (.int .i64 0)), (.d (.int .i64 0)), (.d (.str [])), .nil, .nil], none⟩,
      ⟨some 5, .mv (.t 35), none⟩,
      ⟨none, .store 6 (.t 6) (.t 37), none⟩] [])
   (.reg (some [(1, 5)]) [⟨some 38, .faddr 4 (.t 1), none⟩,
     ⟨some 39, .load1 (.t 38), none⟩,
     ⟨some 40, .mv (.t 5), none⟩,
     ⟨some 41, .faddr 1 (.t 6), none⟩,
     ⟨some 42, .loadn 5 (.t 41), none⟩,
     ⟨some 43, .call 186 [(.t 42)], none⟩,
     ⟨some 44, .iaddr 6 (.t 39) (.t 40), none⟩,
     ⟨some 45, .faddr 1 (.t 44), none⟩,
     ⟨none, .store 5 (.t 45) (.t 43), none⟩] [])))
 (.reg none [⟨some 46, .bin .add (.t 33) (.c (.d (.int .i64 1))), none⟩,
   ⟨some 33, .mv (.t 46), none⟩] []))))
def f186l1 : PC := .loop [1, 2, 31, 32, 33] [] f186b1
/-- orchestrator/value.clone -/
def f186 : PFn := ⟨1, 48, [.cn 2 5], false,
 (.seq (.reg none [⟨some 1, .box 59 (.t 0), none⟩,
    ⟨some 2, .alloc 59 [(.d (.int .i64 0)), (.d (.int .i64 0)), (.d (.str [])), .nil, .nil], none⟩] [])
 (.seq (.reg none [⟨some 7, .faddr 3 (.t 1), none⟩,
    ⟨some 8, .load1 (.t 7), none⟩,
    ⟨some 9, .call 223 [(.t 8)], none⟩,
    ⟨some 10, .faddr 3 (.t 1), none⟩,
    ⟨none, .store 1 (.t 10) (.t 9), none⟩] [])
 (.seq (.seq (.reg none [⟨some 11, .faddr 3 (.t 1), none⟩,
     ⟨some 12, .load1 (.t 11), none⟩,
     ⟨some 13, .lenL (.t 12), none⟩,
     ⟨some 14, .mv (.c (.d (.int .i64 0))), none⟩] [])
  (.blk 0 (some [1, 2])
   f186l0))
 (.seq (.reg none [⟨some 26, .faddr 4 (.t 1), none⟩,
    ⟨some 27, .load1 (.t 26), none⟩,
    ⟨some 28, .call 188 [(.t 27)], none⟩,
    ⟨some 29, .faddr 4 (.t 1), none⟩,
    ⟨none, .store 1 (.t 29) (.t 28), none⟩] [])
 (.seq (.seq (.reg none [⟨some 30, .faddr 4 (.t 1), none⟩,
     ⟨some 31, .load1 (.t 30), none⟩,
     ⟨some 32, .lenL (.t 31), none⟩,
     ⟨some 33, .mv (.c (.d (.int .i64 0))), none⟩] [])
  (.blk 2 (some [1, 2])
   f186l1))
 (.seq (.reg none [⟨some 47, .loadn 5 (.t 1), none⟩,
    ⟨none, .store 5 (.t 2) (.t 47), none⟩] [])
 .ret))))))⟩
/-- orchestrator/value.others -/
def f187 : PFn := ⟨2, 13, [.t 4], true,
 (.seq (.reg none [⟨some 2, .box 59 (.t 0), none⟩,
    ⟨some 3, .box 9 (.t 1), none⟩,
    ⟨some 4, .mv (.c .nil), none⟩] [])
 (.seq (.seq (.reg none [⟨some 5, .faddr 0 (.t 2), none⟩,
     ⟨some 6, .load1 (.t 5), none⟩,
     ⟨some 7, .bin .neq (.t 6) (.c (.d (.int .i64 5))), none⟩] [])
  (.cond (.t 7)
   (.seq (.reg none [⟨some 4, .mv (.c .nil), none⟩] [])
   .ret)
   .skip))
 (.seq (.reg none [⟨some 8, .faddr 4 (.t 2), none⟩,
    ⟨some 9, .load1 (.t 8), none⟩,
    ⟨some 10, .call 188 [(.t 9)], none⟩,
    ⟨some 11, .mkf 225 [(.t 3)], none⟩,
    ⟨some 12, .call 224 [(.t 10), (.t 11)], none⟩,
    ⟨some 4, .mv (.t 12), none⟩] [])
 .ret)))⟩
/-- slices.SortStableFunc[[]orchestrator/api.Field,orchestrator/api.Field] -/
def f189 : PFn := ⟨2, 9, [], true,
 (.reg none [⟨some 4, .mv (.t 0), none⟩,
   ⟨some 5, .mv (.t 0), none⟩,
   ⟨some 6, .lenL (.t 5), none⟩,
   ⟨some 7, .mv (.t 1), none⟩,
   ⟨some 8, .call 226 [(.t 4), (.t 6), (.t 7)], none⟩] [])⟩
/-- orchestrator/value.Map$1 -/
def f190 : PFn := ⟨2, 10, [.t 4], false,
 (.seq (.reg none [⟨some 2, .box 115 (.t 0), none⟩,
    ⟨some 3, .box 115 (.t 1), none⟩,
    ⟨some 4, .mv (.c (.d (.int .i64 0))), none⟩] [])
 (.seq (.reg none [⟨some 5, .faddr 0 (.t 2), none⟩,
    ⟨some 6, .load1 (.t 5), none⟩,
    ⟨some 7, .faddr 0 (.t 3), none⟩,
    ⟨some 8, .load1 (.t 7), none⟩,
    ⟨some 9, .call 148 [(.t 6), (.t 8)], none⟩,
    ⟨some 4, .mv (.t 9), none⟩] [])
 .ret))⟩
def f172b0 : PC :=
 (.seq (.seq (.reg none [⟨some 46, .mv (.t 5), none⟩,
     ⟨some 47, .faddr 3 (.t 2), none⟩,
     ⟨some 48, .load1 (.t 47), none⟩,
     ⟨some 49, .lenL (.t 48), none⟩,
     ⟨some 50, .bin .lss (.t 46) (.t 49), none⟩] [])
  (.cond (.t 50)
   .skip
   (.exit 0)))
 (.seq (.blk 1 none
   (.seq (.reg none [⟨some 53, .faddr 3 (.t 2), none⟩,
      ⟨some 54, .load1 (.t 53), none⟩,
      ⟨some 55, .mv (.t 5), none⟩,
      ⟨some 56, .iaddr 5 (.t 54) (.t 55), none⟩,
      ⟨some 57, .loadn 5 (.t 56), none⟩,
      ⟨some 58, .mv (.t 1), none⟩,
      ⟨some 59, .bin .sub (.t 58) (.c (.d (.int .i64 1))), none⟩,
      ⟨some 60, .call 172 [(.t 57), (.t 59)], none⟩,
      ⟨some 61, .un .not (.t 60), none⟩] [])
   (.cond (.t 61)
    (.seq (.reg none [⟨some 4, .mv (.c (.d (.bool false))), none⟩] [])
    .ret)
    .skip)))
 (.reg none [⟨some 51, .mv (.t 5), none⟩,
   ⟨some 52, .bin .add (.t 51) (.c (.d (.int .i64 1))), none⟩,
   ⟨some 5, .mv (.t 52), none⟩] [])))
def f172l0 : PC := .loop [1, 2, 5] [] f172b0
def f172b1 : PC :=
 (.seq (.seq (.reg none [⟨some 62, .mv (.t 6), none⟩,
     ⟨some 63, .faddr 4 (.t 2), none⟩,
     ⟨some 64, .load1 (.t 63), none⟩,
     ⟨some 65, .lenL (.t 64), none⟩,
     ⟨some 66, .bin .lss (.t 62) (.t 65), none⟩] [])
  (.cond (.t 66)
   .skip
   (.exit 2)))
 (.seq (.blk 3 none
   (.seq (.reg (some []) [⟨some 69, .faddr 4 (.t 2), none⟩,
      ⟨some 70, .load1 (.t 69), none⟩,
      ⟨some 71, .mv (.t 6), none⟩,
      ⟨some 72, .iaddr 6 (.t 70) (.t 71), none⟩,
      ⟨some 73, .faddr 0 (.t 72), none⟩,
      ⟨some 74, .load1 (.t 73), none⟩,
      ⟨some 75, .call 210 [(.t 74)], none⟩,
      ⟨some 76, .un .not (.t 75), none⟩,
      ⟨some 77, .mv (.t 76), none⟩,
      ⟨some 78, .mv (.t 6), some (77, false)⟩,
      ⟨some 79, .bin .gtr (.t 78) (.c (.d (.int .i64 0))), some (77, false)⟩,
      ⟨some 80, .mv (.t 79), some (77, false)⟩,
      ⟨some 81, .faddr 4 (.t 2), some (80, true)⟩,
      ⟨some 82, .load1 (.t 81), some (80, true)⟩,
      ⟨some 83, .mv (.t 6), some (80, true)⟩,
      ⟨some 84, .iaddr 6 (.t 82) (.t 83), some (80, true)⟩,
      ⟨some 85, .faddr 0 (.t 84), some (80, true)⟩,
      ⟨some 86, .load1 (.t 85), some (80, true)⟩,
      ⟨some 87, .faddr 4 (.t 2), some (80, true)⟩,
      ⟨some 88, .load1 (.t 87), some (80, true)⟩,
      ⟨some 89, .mv (.t 6), some (80, true)⟩,
      ⟨some 90, .bin .sub (.t 89) (.c (.d (.int .i64 1))), some (80, true)⟩,
      ⟨some 91, .iaddr 6 (.t 88) (.t 90), some (80, true)⟩,
      ⟨some 92, .faddr 0 (.t 91), some (80, true)⟩,
      ⟨some 93, .load1 (.t 92), some (80, true)⟩,
      ⟨some 94, .bin .leq (.t 86) (.t 93), some (80, true)⟩,
      ⟨some 95, .pick (.t 80) (.t 94) (.c (.d (.bool false))), some (77, false)⟩,
      ⟨some 96, .pick (.t 77) (.c (.d (.bool true))) (.t 95), none⟩,
      ⟨some 97, .mv (.t 96), none⟩,
      ⟨some 98, .faddr 4 (.t 2), some (97, false)⟩,
      ⟨some 99, .load1 (.t 98), some (97, false)⟩,
      ⟨some 100, .mv (.t 6), some (97, false)⟩,
      ⟨some 101, .iaddr 6 (.t 99) (.t 100), some (97, false)⟩,
      ⟨some 102, .faddr 1 (.t 101), some (97, false)⟩,
      ⟨some 103, .loadn 5 (.t 102), some (97, false)⟩,
      ⟨some 104, .mv (.t 1), some (97, false)⟩,
      ⟨some 105, .bin .sub (.t 104) (.c (.d (.int .i64 1))), some (97, false)⟩,
      ⟨some 106, .call 172 [(.t 103), (.t 105)], some (97, false)⟩,
      ⟨some 107, .un .not (.t 106), some (97, false)⟩,
      ⟨some 108, .pick (.t 97) (.c (.d (.bool true))) (.t 107), none⟩] [])
   (.cond (.t 108)
    (.seq (.reg none [⟨some 4, .mv (.c (.d (.bool false))), none⟩] [])
    .ret)
    .skip)))
 (.reg none [⟨some 67, .mv (.t 6), none⟩,
   ⟨some 68, .bin .add (.t 67) (.c (.d (.int .i64 1))), none⟩,
   ⟨some 6, .mv (.t 68), none⟩] [])))
def f172l1 : PC := .loop [1, 2, 6] [] f172b1
/-- orchestrator/orchestratorref04.valid -/
def f172 : PFn := ⟨2, 109, [.t 4], false,
 (.seq (.reg none [⟨some 2, .box 59 (.t 0), none⟩,
    ⟨some 4, .mv (.c (.d (.bool false))), none⟩] [])
 (.seq (.seq (.reg none [⟨some 7, .mv (.t 1), none⟩,
     ⟨some 8, .bin .eql (.t 7) (.c (.d (.int .i64 0))), none⟩,
     ⟨some 9, .mv (.t 8), none⟩,
     ⟨some 10, .loadn 5 (.t 2), some (9, false)⟩,
     ⟨some 11, .call 209 [(.t 10)], some (9, false)⟩,
     ⟨some 12, .un .not (.t 11), some (9, false)⟩,
     ⟨some 13, .pick (.t 9) (.c (.d (.bool true))) (.t 12), none⟩,
     ⟨some 14, .mv (.t 13), none⟩,
     ⟨some 15, .faddr 3 (.t 2), some (14, false)⟩,
     ⟨some 16, .load1 (.t 15), some (14, false)⟩,
     ⟨some 17, .lenL (.t 16), some (14, false)⟩,
     ⟨some 18, .bin .gtr (.t 17) (.c (.d (.int .i64 64))), some (14, false)⟩,
     ⟨some 19, .pick (.t 14) (.c (.d (.bool true))) (.t 18), none⟩,
     ⟨some 20, .mv (.t 19), none⟩,
     ⟨some 21, .faddr 4 (.t 2), some (20, false)⟩,
     ⟨some 22, .load1 (.t 21), some (20, false)⟩,
     ⟨some 23, .lenL (.t 22), some (20, false)⟩,
     ⟨some 24, .bin .gtr (.t 23) (.c (.d (.int .i64 64))), some (20, false)⟩,
     ⟨some 25, .pick (.t 20) (.c (.d (.bool true))) (.t 24), none⟩] [])
  (.cond (.t 25)
   (.seq (.reg none [⟨some 4, .mv (.c (.d (.bool false))), none⟩] [])
   .ret)
   .skip))
 (.seq (.seq (.reg none [⟨some 26, .faddr 0 (.t 2), none⟩,
     ⟨some 27, .load1 (.t 26), none⟩,
     ⟨some 28, .bin .neq (.t 27) (.c (.d (.int .i64 4))), none⟩,
     ⟨some 29, .mv (.t 28), none⟩,
     ⟨some 30, .faddr 3 (.t 2), some (29, true)⟩,
     ⟨some 31, .load1 (.t 30), some (29, true)⟩,
     ⟨some 32, .lenL (.t 31), some (29, true)⟩,
     ⟨some 33, .bin .gtr (.t 32) (.c (.d (.int .i64 0))), some (29, true)⟩,
     ⟨some 34, .pick (.t 29) (.t 33) (.c (.d (.bool false))), none⟩,
     ⟨some 35, .mv (.t 34), none⟩,
     ⟨some 36, .faddr 0 (.t 2), some (35, false)⟩,
     ⟨some 37, .load1 (.t 36), some (35, false)⟩,
     ⟨some 38, .bin .neq (.t 37) (.c (.d (.int .i64 5))), some (35, false)⟩,
     ⟨some 39, .mv (.t 38), some (35, false)⟩,
     ⟨some 40, .faddr 4 (.t 2), some (39, true)⟩,
     ⟨some 41, .load1 (.t 40), some (39, true)⟩,
     ⟨some 42, .lenL (.t 41), some (39, true)⟩,
     ⟨some 43, .bin .gtr (.t 42) (.c (.d (.int .i64 0))), some (39, true)⟩,
     ⟨some 44, .pick (.t 39) (.t 43) (.c (.d (.bool false))), some (35, false)⟩,
     ⟨some 45, .pick (.t 35) (.c (.d (.bool true))) (.t 44), none⟩] [])
  (.cond (.t 45)
   (.seq (.reg none [⟨some 4, .mv (.c (.d (.bool false))), none⟩] [])
   .ret)
   .skip))
 (.seq (.seq (.reg none [⟨some 5, .mv (.c (.d (.int .i64 0))), none⟩] [])
  (.blk 0 (some [1, 2])
   f172l0))
 (.seq (.seq (.reg none [⟨some 6, .mv (.c (.d (.int .i64 0))), none⟩] [])
  (.blk 2 (some [])
   f172l1))
 (.seq (.reg none [⟨some 4, .mv (.c (.d (.bool true))), none⟩] [])
 .ret))))))⟩
def f173b0 : PC :=
 (.seq (.seq (.reg none [⟨some 6, .mv (.t 4), none⟩,
     ⟨some 7, .faddr 3 (.t 1), none⟩,
     ⟨some 8, .load1 (.t 7), none⟩,
     ⟨some 9, .lenL (.t 8), none⟩,
     ⟨some 10, .bin .lss (.t 6) (.t 9), none⟩] [])
  (.cond (.t 10)
   .skip
   (.exit 0)))
 (.seq (.blk 1 none
   (.reg none [⟨some 13, .mv (.t 3), none⟩,
     ⟨some 14, .faddr 3 (.t 1), none⟩,
     ⟨some 15, .load1 (.t 14), none⟩,
     ⟨some 16, .mv (.t 4), none⟩,
     ⟨some 17, .iaddr 5 (.t 15) (.t 16), none⟩,
     ⟨some 18, .loadn 5 (.t 17), none⟩,
     ⟨some 19, .call 173 [(.t 18)], none⟩,
     ⟨some 20, .bin .add (.t 13) (.t 19), none⟩,
     ⟨some 3, .mv (.t 20), none⟩] []))
 (.reg none [⟨some 11, .mv (.t 4), none⟩,
   ⟨some 12, .bin .add (.t 11) (.c (.d (.int .i64 1))), none⟩,
   ⟨some 4, .mv (.t 12), none⟩] [])))
def f173l0 : PC := .loop [1, 3, 4] [] f173b0
def f173b1 : PC :=
 (.seq (.seq (.reg none [⟨some 21, .mv (.t 5), none⟩,
     ⟨some 22, .faddr 4 (.t 1), none⟩,
     ⟨some 23, .load1 (.t 22), none⟩,
     ⟨some 24, .lenL (.t 23), none⟩,
     ⟨some 25, .bin .lss (.t 21) (.t 24), none⟩] [])
  (.cond (.t 25)
   .skip
   (.exit 2)))
 (.seq (.blk 3 none
   (.reg none [⟨some 28, .mv (.t 3), none⟩,
     ⟨some 29, .faddr 4 (.t 1), none⟩,
     ⟨some 30, .load1 (.t 29), none⟩,
     ⟨some 31, .mv (.t 5), none⟩,
     ⟨some 32, .iaddr 6 (.t 30) (.t 31), none⟩,
     ⟨some 33, .faddr 1 (.t 32), none⟩,
     ⟨some 34, .loadn 5 (.t 33), none⟩,
     ⟨some 35, .call 173 [(.t 34)], none⟩,
     ⟨some 36, .bin .add (.t 28) (.t 35), none⟩,
     ⟨some 3, .mv (.t 36), none⟩] []))
 (.reg none [⟨some 26, .mv (.t 5), none⟩,
   ⟨some 27, .bin .add (.t 26) (.c (.d (.int .i64 1))), none⟩,
   ⟨some 5, .mv (.t 27), none⟩] [])))
def f173l1 : PC := .loop [1, 3, 5] [] f173b1
/-- orchestrator/orchestratorref04.Size -/
def f173 : PFn := ⟨1, 38, [.t 2], false,
 (.seq (.reg none [⟨some 1, .box 59 (.t 0), none⟩,
    ⟨some 2, .mv (.c (.d (.int .i64 0))), none⟩] [])
 (.seq (.reg none [⟨some 3, .mv (.c (.d (.int .i64 1))), none⟩] [])
 (.seq (.seq (.reg none [⟨some 4, .mv (.c (.d (.int .i64 0))), none⟩] [])
  (.blk 0 (some [1, 3])
   f173l0))
 (.seq (.seq (.reg none [⟨some 5, .mv (.c (.d (.int .i64 0))), none⟩] [])
  (.blk 2 (some [3])
   f173l1))
 (.seq (.reg none [⟨some 37, .mv (.t 3), none⟩,
    ⟨some 2, .mv (.t 37), none⟩] [])
 .ret)))))⟩
def f191b0 : PC :=
 (.seq (.reg none [⟨some 9, .bin .lss (.t 8) (.t 7), none⟩] [])
 (.seq (.cond (.t 9)
   .skip
   (.exit 0))
 (.seq (.blk 1 none
   (.seq (.reg none [⟨some 10, .mv (.t 8), none⟩,
      ⟨some 5, .mv (.t 10), none⟩] [])
   (.seq (.reg none [⟨some 11, .mv (.t 1), none⟩,
      ⟨some 12, .mv (.t 0), none⟩,
      ⟨some 13, .mv (.t 5), none⟩,
      ⟨some 14, .iaddr 5 (.t 12) (.t 13), none⟩,
      ⟨some 15, .loadn 5 (.t 14), none⟩,
      ⟨some 16, .callv (.t 11) [(.t 15)], none⟩] [])
   (.cond (.t 16)
    (.seq (.reg none [⟨some 17, .mv (.t 5), none⟩,
       ⟨some 4, .mv (.t 17), none⟩] [])
    .ret)
    .skip))))
 (.reg none [⟨some 18, .bin .add (.t 8) (.c (.d (.int .i64 1))), none⟩,
   ⟨some 8, .mv (.t 18), none⟩] []))))
def f191l0 : PC := .loop [0, 1, 7, 8] [] f191b0
/-- slices.IndexFunc[[]orchestrator/api.ConvRule,orchestrator/api.ConvRule] -/
def f191 : PFn := ⟨2, 19, [.t 4], true,
 (.seq (.reg none [⟨some 4, .mv (.c (.d (.int .i64 0))), none⟩] [])
 (.seq (.seq (.reg none [⟨some 6, .mv (.t 0), none⟩,
     ⟨some 7, .lenL (.t 6), none⟩,
     ⟨some 8, .mv (.c (.d (.int .i64 0))), none⟩] [])
  (.blk 0 (some [])
   f191l0))
 (.seq (.reg none [⟨some 4, .mv (.c (.d (.int .i64 (-1)))), none⟩] [])
 .ret)))⟩
/-- orchestrator/convert.validRule -/
def f131 : PFn := ⟨1, 89, [.t 2], false,
 (.seq (.reg none [⟨some 1, .box 130 (.t 0), none⟩,
    ⟨some 2, .mv (.c (.d (.bool false))), none⟩] [])
 (.seq (.seq (.reg none [⟨some 8, .faddr 2 (.t 1), none⟩,
     ⟨some 9, .load1 (.t 8), none⟩,
     ⟨some 10, .call 132 [(.t 9)], none⟩,
     ⟨some 7, .mv (.t 10), none⟩,
     ⟨some 11, .ext (.t 7) 0, none⟩,
     ⟨some 12, .ext (.t 7) 1, none⟩,
     ⟨some 3, .mv (.t 11), none⟩,
     ⟨some 4, .mv (.t 12), none⟩] [])
  (.seq (.reg none [⟨some 13, .mv (.t 4), none⟩,
     ⟨some 14, .un .not (.t 13), none⟩] [])
  (.cond (.t 14)
   (.seq (.reg none [⟨some 2, .mv (.c (.d (.bool false))), none⟩] [])
   .ret)
   .skip)))
 (.seq (.reg none [⟨some 16, .faddr 3 (.t 1), none⟩,
    ⟨some 17, .load1 (.t 16), none⟩,
    ⟨some 18, .call 132 [(.t 17)], none⟩,
    ⟨some 15, .mv (.t 18), none⟩,
    ⟨some 19, .ext (.t 15) 0, none⟩,
    ⟨some 20, .ext (.t 15) 1, none⟩,
    ⟨some 5, .mv (.t 19), none⟩,
    ⟨some 6, .mv (.t 20), none⟩] [])
 (.seq (.seq (.reg none [⟨some 21, .faddr 0 (.t 1), none⟩,
     ⟨some 22, .load1 (.t 21), none⟩] [])
  (.blk 0 none
   (.seq (.reg none [⟨some 24, .bin .eql (.t 22) (.c (.d (.int .i64 1))), none⟩,
      ⟨some 23, .mv (.t 24), none⟩] [])
   (.cond (.t 23)
    (.seq (.reg none [⟨some 25, .mv (.t 6), none⟩,
       ⟨some 26, .mv (.t 25), none⟩,
       ⟨some 27, .faddr 1 (.t 1), some (26, true)⟩,
       ⟨some 28, .load1 (.t 27), some (26, true)⟩,
       ⟨some 29, .bin .eql (.t 28) (.c (.d (.int .i64 0))), some (26, true)⟩,
       ⟨some 30, .pick (.t 26) (.t 29) (.c (.d (.bool false))), none⟩,
       ⟨some 31, .mv (.t 30), none⟩,
       ⟨some 32, .faddr 4 (.t 1), some (31, true)⟩,
       ⟨some 33, .load1 (.t 32), some (31, true)⟩,
       ⟨some 34, .lenL (.t 33), some (31, true)⟩,
       ⟨some 35, .bin .eql (.t 34) (.c (.d (.int .i64 0))), some (31, true)⟩,
       ⟨some 36, .pick (.t 31) (.t 35) (.c (.d (.bool false))), none⟩,
       ⟨some 2, .mv (.t 36), none⟩] [])
    .ret)
    (.seq (.reg none [⟨some 38, .bin .eql (.t 22) (.c (.d (.int .i64 2))), none⟩,
       ⟨some 37, .mv (.t 38), none⟩] [])
    (.cond (.t 37)
     (.seq (.reg none [⟨some 39, .faddr 3 (.t 1), none⟩,
        ⟨some 40, .load1 (.t 39), none⟩,
        ⟨some 41, .bin .eql (.t 40) (.c (.d (.str []))), none⟩,
        ⟨some 42, .mv (.t 41), none⟩,
        ⟨some 43, .faddr 1 (.t 1), some (42, true)⟩,
        ⟨some 44, .load1 (.t 43), some (42, true)⟩,
        ⟨some 45, .bin .eql (.t 44) (.c (.d (.int .i64 0))), some (42, true)⟩,
        ⟨some 46, .pick (.t 42) (.t 45) (.c (.d (.bool false))), none⟩,
        ⟨some 47, .mv (.t 46), none⟩,
        ⟨some 48, .faddr 4 (.t 1), some (47, true)⟩,
        ⟨some 49, .load1 (.t 48), some (47, true)⟩,
        ⟨some 50, .call 192 [(.t 49)], some (47, true)⟩,
        ⟨some 51, .pick (.t 47) (.t 50) (.c (.d (.bool false))), none⟩,
        ⟨some 2, .mv (.t 51), none⟩] [])
     .ret)
     (.seq (.reg none [⟨some 53, .bin .eql (.t 22) (.c (.d (.int .i64 3))), none⟩,
        ⟨some 52, .mv (.t 53), none⟩] [])
     (.cond (.t 52)
      (.seq (.reg none [⟨some 54, .faddr 3 (.t 1), none⟩,
         ⟨some 55, .load1 (.t 54), none⟩,
         ⟨some 56, .bin .eql (.t 55) (.c (.d (.str []))), none⟩,
         ⟨some 57, .mv (.t 56), none⟩,
         ⟨some 58, .faddr 1 (.t 1), some (57, true)⟩,
         ⟨some 59, .load1 (.t 58), some (57, true)⟩,
         ⟨some 60, .bin .eql (.t 59) (.c (.d (.int .i64 0))), some (57, true)⟩,
         ⟨some 61, .pick (.t 57) (.t 60) (.c (.d (.bool false))), none⟩,
         ⟨some 62, .mv (.t 61), none⟩,
         ⟨some 63, .faddr 4 (.t 1), some (62, true)⟩,
         ⟨some 64, .load1 (.t 63), some (62, true)⟩,
         ⟨some 65, .lenL (.t 64), some (62, true)⟩,
         ⟨some 66, .bin .eql (.t 65) (.c (.d (.int .i64 0))), some (62, true)⟩,
         ⟨some 67, .pick (.t 62) (.t 66) (.c (.d (.bool false))), none⟩,
         ⟨some 2, .mv (.t 67), none⟩] [])
      .ret)
      (.seq (.reg none [⟨some 69, .bin .eql (.t 22) (.c (.d (.int .i64 4))), none⟩,
         ⟨some 68, .mv (.t 69), none⟩] [])
      (.cond (.t 68)
       (.seq (.reg none [⟨some 70, .faddr 3 (.t 1), none⟩,
          ⟨some 71, .load1 (.t 70), none⟩,
          ⟨some 72, .bin .eql (.t 71) (.c (.d (.str []))), none⟩,
          ⟨some 73, .mv (.t 72), none⟩,
          ⟨some 74, .faddr 4 (.t 1), some (73, true)⟩,
          ⟨some 75, .load1 (.t 74), some (73, true)⟩,
          ⟨some 76, .lenL (.t 75), some (73, true)⟩,
          ⟨some 77, .bin .eql (.t 76) (.c (.d (.int .i64 0))), some (73, true)⟩,
          ⟨some 78, .pick (.t 73) (.t 77) (.c (.d (.bool false))), none⟩,
          ⟨some 79, .mv (.t 78), none⟩,
          ⟨some 80, .faddr 1 (.t 1), some (79, true)⟩,
          ⟨some 81, .load1 (.t 80), some (79, true)⟩,
          ⟨some 82, .bin .geq (.t 81) (.c (.d (.int .i64 2))), some (79, true)⟩,
          ⟨some 83, .pick (.t 79) (.t 82) (.c (.d (.bool false))), none⟩,
          ⟨some 84, .mv (.t 83), none⟩,
          ⟨some 85, .faddr 1 (.t 1), some (84, true)⟩,
          ⟨some 86, .load1 (.t 85), some (84, true)⟩,
          ⟨some 87, .bin .leq (.t 86) (.c (.d (.int .i64 1000))), some (84, true)⟩,
          ⟨some 88, .pick (.t 84) (.t 87) (.c (.d (.bool false))), none⟩,
          ⟨some 2, .mv (.t 88), none⟩] [])
       .ret)
       .skip))))))))))
 (.seq (.reg none [⟨some 2, .mv (.c (.d (.bool false))), none⟩] [])
 .ret)))))⟩
def f193b0 : PC :=
 (.seq (.seq (.reg none [⟨some 14, .mv (.t 5), none⟩,
     ⟨some 15, .bin .neq (.t 14) (.c (.d (.str []))), none⟩] [])
  (.cond (.t 15)
   .skip
   (.exit 0)))
 (.blk 1 none
  (.seq (.seq (.reg none [⟨some 16, .mv (.t 5), none⟩,
      ⟨some 17, .idx (.t 16) (.c (.d (.int .i64 0))), none⟩,
      ⟨some 18, .bin .eql (.t 17) (.c (.d (.int .u8 91))), none⟩] [])
   (.cond (.t 18)
    (.seq (.reg none [⟨some 20, .mv (.t 5), none⟩,
       ⟨some 21, .call 227 [(.t 20)], none⟩,
       ⟨some 19, .mv (.t 21), none⟩,
       ⟨some 22, .ext (.t 19) 0, none⟩,
       ⟨some 23, .ext (.t 19) 1, none⟩,
       ⟨some 24, .ext (.t 19) 2, none⟩,
       ⟨some 6, .alloc 239 [(.d (.int .i64 0)), (.d (.str [])), (.d (.int .i64 0)), (.d (.str []))], none⟩,
       ⟨none, .store 4 (.t 6) (.t 22), none⟩,
       ⟨some 7, .mv (.t 23), none⟩,
       ⟨some 8, .mv (.t 24), none⟩] [])
    (.seq (.seq (.reg none [⟨some 25, .mv (.t 8), none⟩,
        ⟨some 26, .un .not (.t 25), none⟩] [])
     (.cond (.t 26)
      (.seq (.reg none [⟨some 2, .mv (.c .nil), none⟩,
         ⟨some 3, .mv (.c (.d (.int .i64 2))), none⟩] [])
      .ret)
      .skip))
    (.seq (.reg none [⟨some 27, .mv (.t 4), none⟩,
       ⟨some 28, .loadn 4 (.t 6), none⟩,
       ⟨some 29, .lits 239 4 48 [(.int .i64 0), (.str []), (.int .i64 0), (.str [])] 1 [(0, (.t 28))], none⟩,
       ⟨some 30, .app 239 4 48 (.t 27) (.t 29), none⟩,
       ⟨some 31, .mv (.t 7), none⟩,
       ⟨some 4, .mv (.t 30), none⟩,
       ⟨some 5, .mv (.t 31), none⟩] [])
    (.exit 1))))
    .skip))
  (.seq (.seq (.reg none [⟨some 32, .mv (.t 4), none⟩,
      ⟨some 33, .lenL (.t 32), none⟩,
      ⟨some 34, .bin .gtr (.t 33) (.c (.d (.int .i64 0))), none⟩] [])
   (.cond (.t 34)
    (.seq (.seq (.reg none [⟨some 35, .mv (.t 5), none⟩,
        ⟨some 36, .idx (.t 35) (.c (.d (.int .i64 0))), none⟩,
        ⟨some 37, .bin .neq (.t 36) (.c (.d (.int .u8 46))), none⟩] [])
     (.cond (.t 37)
      (.seq (.reg none [⟨some 2, .mv (.c .nil), none⟩,
         ⟨some 3, .mv (.c (.d (.int .i64 2))), none⟩] [])
      .ret)
      .skip))
    (.reg none [⟨some 38, .mv (.t 5), none⟩,
      ⟨some 39, .sstr (.t 38) (some (.c (.d (.int .i64 1)))) none, none⟩,
      ⟨some 5, .mv (.t 39), none⟩] []))
    .skip))
  (.seq (.reg none [⟨some 40, .mv (.t 5), none⟩,
     ⟨some 41, .call 228 [(.t 40)], none⟩,
     ⟨some 9, .mv (.t 41), none⟩] [])
  (.seq (.seq (.reg none [⟨some 42, .mv (.t 9), none⟩,
      ⟨some 43, .bin .eql (.t 42) (.c (.d (.int .i64 0))), none⟩] [])
   (.cond (.t 43)
    (.seq (.reg none [⟨some 2, .mv (.c .nil), none⟩,
       ⟨some 3, .mv (.c (.d (.int .i64 2))), none⟩] [])
    .ret)
    .skip))
  (.reg (some []) [⟨some 44, .mv (.t 4), none⟩,
    ⟨some 45, .mv (.t 5), none⟩,
    ⟨some 46, .mv (.t 9), none⟩,
    ⟨some 47, .sstr (.t 45) none (some (.t 46)), none⟩,
    ⟨some 48, .build [(.d (.int .i64 0)), (.d (.str [])), (.d (.int .i64 0)), (.d (.str []))] [(0, 1, (.c (.d (.int .i64 1)))), (1, 1, (.t 47))], none⟩,
    ⟨some 49, .lits 239 4 48 [(.int .i64 0), (.str []), (.int .i64 0), (.str [])] 1 [(0, (.t 48))], none⟩,
    ⟨some 50, .app 239 4 48 (.t 44) (.t 49), none⟩,
    ⟨some 51, .mv (.t 5), none⟩,
    ⟨some 52, .mv (.t 9), none⟩,
    ⟨some 53, .sstr (.t 51) (some (.t 52)) none, none⟩,
    ⟨some 4, .mv (.t 50), none⟩,
    ⟨some 5, .mv (.t 53), none⟩] [])))))))
def f193l0 : PC := .loop [4, 5] [] f193b0
/-- orchestrator/path.Parse -/
def f193 : PFn := ⟨1, 58, [.t 2, .t 3], false,
 (.seq (.reg none [⟨some 2, .mv (.c .nil), none⟩,
    ⟨some 3, .mv (.c (.d (.int .i64 0))), none⟩] [])
 (.seq (.seq (.reg none [⟨some 10, .mv (.t 0), none⟩,
     ⟨some 11, .lenS (.t 10), none⟩,
     ⟨some 12, .bin .gtr (.t 11) (.c (.d (.int .i64 20000))), none⟩] [])
  (.cond (.t 12)
   (.seq (.reg none [⟨some 2, .mv (.c .nil), none⟩,
      ⟨some 3, .mv (.c (.d (.int .i64 4))), none⟩] [])
   .ret)
   .skip))
 (.seq (.reg none [⟨some 4, .mv (.c .nil), none⟩] [])
 (.seq (.seq (.reg none [⟨some 13, .mv (.t 0), none⟩,
     ⟨some 5, .mv (.t 13), none⟩] [])
  (.blk 0 (some [4])
   f193l0))
 (.seq (.seq (.reg none [⟨some 54, .mv (.t 4), none⟩,
     ⟨some 55, .call 229 [(.t 54)], none⟩,
     ⟨some 56, .un .not (.t 55), none⟩] [])
  (.cond (.t 56)
   (.seq (.reg none [⟨some 2, .mv (.c .nil), none⟩,
      ⟨some 3, .mv (.c (.d (.int .i64 1))), none⟩] [])
   .ret)
   .skip))
 (.seq (.reg none [⟨some 57, .mv (.t 4), none⟩,
    ⟨some 2, .mv (.t 57), none⟩,
    ⟨some 3, .mv (.c (.d (.int .i64 0))), none⟩] [])
 .ret))))))⟩
/-- slices.ContainsFunc[[]orchestrator/api.Step,orchestrator/api.Step] -/
def f194 : PFn := ⟨2, 9, [.t 4], true,
 (.seq (.reg none [⟨some 4, .mv (.c (.d (.bool false))), none⟩] [])
 (.seq (.reg none [⟨some 5, .mv (.t 0), none⟩,
    ⟨some 6, .mv (.t 1), none⟩,
    ⟨some 7, .call 230 [(.t 5), (.t 6)], none⟩,
    ⟨some 8, .bin .geq (.t 7) (.c (.d (.int .i64 0))), none⟩,
    ⟨some 4, .mv (.t 8), none⟩] [])
 .ret))⟩
/-- orchestrator/convert.fields$1 -/
def f195 : PFn := ⟨1, 6, [.t 2], false,
 (.seq (.reg none [⟨some 1, .box 239 (.t 0), none⟩,
    ⟨some 2, .mv (.c (.d (.bool false))), none⟩] [])
 (.seq (.reg none [⟨some 3, .faddr 0 (.t 1), none⟩,
    ⟨some 4, .load1 (.t 3), none⟩,
    ⟨some 5, .bin .neq (.t 4) (.c (.d (.int .i64 1))), none⟩,
    ⟨some 2, .mv (.t 5), none⟩] [])
 .ret))⟩
/-- orchestrator/path.HasPrefix -/
def f196 : PFn := ⟨2, 18, [.t 4], false,
 (.seq (.reg none [⟨some 4, .mv (.c (.d (.bool false))), none⟩] [])
 (.seq (.reg none [⟨some 5, .mv (.t 0), none⟩,
    ⟨some 6, .lenL (.t 5), none⟩,
    ⟨some 7, .mv (.t 1), none⟩,
    ⟨some 8, .lenL (.t 7), none⟩,
    ⟨some 9, .bin .geq (.t 6) (.t 8), none⟩,
    ⟨some 10, .mv (.t 9), none⟩,
    ⟨some 11, .mv (.t 0), some (10, true)⟩,
    ⟨some 12, .mv (.t 1), some (10, true)⟩,
    ⟨some 13, .lenL (.t 12), some (10, true)⟩,
    ⟨some 14, .slc 4 (.t 11) none (some (.t 13)) none, some (10, true)⟩,
    ⟨some 15, .mv (.t 1), some (10, true)⟩,
    ⟨some 16, .call 231 [(.t 14), (.t 15)], some (10, true)⟩,
    ⟨some 17, .pick (.t 10) (.t 16) (.c (.d (.bool false))), none⟩,
    ⟨some 4, .mv (.t 17), none⟩] [])
 .ret))⟩
/-- orchestrator/kinds.container -/
def f197 : PFn := ⟨0, 17, [.cn 0 7], false,
 (.seq (.reg none [⟨some 0, .alloc 27 [(.d (.int .i64 0)), (.d (.int .i64 0)), (.d (.int .i64 0)), .nil, (.d (.str [])), .nil, .nil], none⟩] [])
 (.seq (.reg none [⟨some 1, .call 139 [(.c (.d (.int .i64 1))), (.c (.d (.int .i64 40)))], none⟩,
    ⟨some 2, .call 51 [(.c (.d (.str [110, 97, 109, 101]))), (.t 1)], none⟩,
    ⟨some 3, .call 139 [(.c (.d (.int .i64 0))), (.c (.d (.int .i64 200)))], none⟩,
    ⟨some 4, .call 51 [(.c (.d (.str [105, 109, 97, 103, 101]))), (.t 3)], none⟩,
    ⟨some 5, .call 75 [], none⟩,
    ⟨some 6, .call 58 [(.c (.d (.str [114, 101, 113, 117, 101, 115, 116]))), (.t 5)], none⟩,
    ⟨some 7, .call 75 [], none⟩,
    ⟨some 8, .call 58 [(.c (.d (.str [108, 105, 109, 105, 116]))), (.t 7)], none⟩,
    ⟨some 9, .call 232 [], none⟩,
    ⟨some 10, .call 58 [(.c (.d (.str [108, 105, 118, 101]))), (.t 9)], none⟩,
    ⟨some 11, .call 232 [], none⟩,
    ⟨some 12, .call 58 [(.c (.d (.str [114, 101, 97, 100, 121]))), (.t 11)], none⟩,
    ⟨some 13, .call 232 [], none⟩,
    ⟨some 14, .call 58 [(.c (.d (.str [115, 116, 97, 114, 116, 117, 112]))), (.t 13)], none⟩,
    ⟨some 15, .lits 135 11 160 [(.str []), (.bool false), (.bool false), (.sl []), (.int .i64 0), (.int .i64 0), (.int .i64 0), (.sl []), (.str []), (.sl []), (.sl [])] 7 [(0, (.t 2)), (1, (.t 4)), (2, (.t 6)), (3, (.t 8)), (4, (.t 10)), (5, (.t 12)), (6, (.t 14))], none⟩,
    ⟨some 16, .call 56 [(.t 15)], none⟩,
    ⟨none, .store 7 (.t 0) (.t 16), none⟩] [])
 .ret))⟩
/-- orchestrator/kinds.nodeTerms -/
def f198 : PFn := ⟨0, 10, [.cn 0 7], false,
 (.seq (.reg none [⟨some 0, .alloc 27 [(.d (.int .i64 0)), (.d (.int .i64 0)), (.d (.int .i64 0)), .nil, (.d (.str [])), .nil, .nil], none⟩] [])
 (.seq (.reg none [⟨some 1, .call 65 [], none⟩,
    ⟨some 2, .call 58 [(.c (.d (.str [114, 101, 113, 117, 105, 114, 101, 100]))), (.t 1)], none⟩,
    ⟨some 3, .call 52 [], none⟩,
    ⟨some 4, .call 58 [(.c (.d (.str [115, 101, 108, 101, 99, 116, 111, 114]))), (.t 3)], none⟩,
    ⟨some 5, .call 60 [], none⟩,
    ⟨some 6, .call 58 [(.c (.d (.str [119, 101, 105, 103, 104, 116]))), (.t 5)], none⟩,
    ⟨some 7, .lits 135 11 160 [(.str []), (.bool false), (.bool false), (.sl []), (.int .i64 0), (.int .i64 0), (.int .i64 0), (.sl []), (.str []), (.sl []), (.sl [])] 3 [(0, (.t 2)), (1, (.t 4)), (2, (.t 6))], none⟩,
    ⟨some 8, .call 56 [(.t 7)], none⟩,
    ⟨some 9, .call 138 [(.t 8)], none⟩,
    ⟨none, .store 7 (.t 0) (.t 9), none⟩] [])
 .ret))⟩
/-- orchestrator/kinds.podTerms -/
def f199 : PFn := ⟨0, 14, [.cn 0 7], false,
 (.seq (.reg none [⟨some 0, .alloc 27 [(.d (.int .i64 0)), (.d (.int .i64 0)), (.d (.int .i64 0)), .nil, (.d (.str [])), .nil, .nil], none⟩] [])
 (.seq (.reg none [⟨some 1, .call 65 [], none⟩,
    ⟨some 2, .call 58 [(.c (.d (.str [114, 101, 113, 117, 105, 114, 101, 100]))), (.t 1)], none⟩,
    ⟨some 3, .call 65 [], none⟩,
    ⟨some 4, .call 58 [(.c (.d (.str [97, 110, 116, 105]))), (.t 3)], none⟩,
    ⟨some 5, .call 52 [], none⟩,
    ⟨some 6, .call 58 [(.c (.d (.str [115, 101, 108, 101, 99, 116, 111, 114]))), (.t 5)], none⟩,
    ⟨some 7, .call 141 [], none⟩,
    ⟨some 8, .call 58 [(.c (.d (.str [116, 111, 112, 111, 108, 111, 103, 121]))), (.t 7)], none⟩,
    ⟨some 9, .call 60 [], none⟩,
    ⟨some 10, .call 58 [(.c (.d (.str [119, 101, 105, 103, 104, 116]))), (.t 9)], none⟩,
    ⟨some 11, .lits 135 11 160 [(.str []), (.bool false), (.bool false), (.sl []), (.int .i64 0), (.int .i64 0), (.int .i64 0), (.sl []), (.str []), (.sl []), (.sl [])] 5 [(0, (.t 2)), (1, (.t 4)), (2, (.t 6)), (3, (.t 8)), (4, (.t 10))], none⟩,
    ⟨some 12, .call 56 [(.t 11)], none⟩,
    ⟨some 13, .call 138 [(.t 12)], none⟩,
    ⟨none, .store 7 (.t 0) (.t 13), none⟩] [])
 .ret))⟩
/-- orchestrator/kinds.spread -/
def f200 : PFn := ⟨0, 12, [.cn 0 7], false,
 (.seq (.reg none [⟨some 0, .alloc 27 [(.d (.int .i64 0)), (.d (.int .i64 0)), (.d (.int .i64 0)), .nil, (.d (.str [])), .nil, .nil], none⟩] [])
 (.seq (.reg none [⟨some 1, .call 60 [], none⟩,
    ⟨some 2, .call 58 [(.c (.d (.str [109, 97, 120, 83, 107, 101, 119]))), (.t 1)], none⟩,
    ⟨some 3, .call 141 [], none⟩,
    ⟨some 4, .call 58 [(.c (.d (.str [116, 111, 112, 111, 108, 111, 103, 121]))), (.t 3)], none⟩,
    ⟨some 5, .call 52 [], none⟩,
    ⟨some 6, .call 58 [(.c (.d (.str [115, 101, 108, 101, 99, 116, 111, 114]))), (.t 5)], none⟩,
    ⟨some 7, .call 65 [], none⟩,
    ⟨some 8, .call 58 [(.c (.d (.str [114, 101, 113, 117, 105, 114, 101, 100]))), (.t 7)], none⟩,
    ⟨some 9, .lits 135 11 160 [(.str []), (.bool false), (.bool false), (.sl []), (.int .i64 0), (.int .i64 0), (.int .i64 0), (.sl []), (.str []), (.sl []), (.sl [])] 4 [(0, (.t 2)), (1, (.t 4)), (2, (.t 6)), (3, (.t 8))], none⟩,
    ⟨some 10, .call 56 [(.t 9)], none⟩,
    ⟨some 11, .call 138 [(.t 10)], none⟩,
    ⟨none, .store 7 (.t 0) (.t 11), none⟩] [])
 .ret))⟩
/-- orchestrator/kinds.tolerations -/
def f201 : PFn := ⟨0, 15, [.cn 0 7], false,
 (.seq (.reg none [⟨some 0, .alloc 27 [(.d (.int .i64 0)), (.d (.int .i64 0)), (.d (.int .i64 0)), .nil, (.d (.str [])), .nil, .nil], none⟩] [])
 (.seq (.reg none [⟨some 1, .call 141 [], none⟩,
    ⟨some 2, .call 58 [(.c (.d (.str [107, 101, 121]))), (.t 1)], none⟩,
    ⟨some 3, .call 141 [], none⟩,
    ⟨some 4, .call 58 [(.c (.d (.str [118, 97, 108, 117, 101]))), (.t 3)], none⟩,
    ⟨some 5, .call 65 [], none⟩,
    ⟨some 6, .call 58 [(.c (.d (.str [101, 120, 105, 115, 116, 115]))), (.t 5)], none⟩,
    ⟨some 7, .call 140 [(.c (.d (.int .i64 0))), (.c (.d (.int .i64 3)))], none⟩,
    ⟨some 8, .call 58 [(.c (.d (.str [101, 102, 102, 101, 99, 116]))), (.t 7)], none⟩,
    ⟨some 9, .call 140 [(.c (.d (.int .i64 (-1)))), (.c (.d (.int .i64 1000000000000)))], none⟩,
    ⟨some 10, .call 145 [(.c (.d (.int .i64 (-1))))], none⟩,
    ⟨some 11, .call 66 [(.c (.d (.str [115, 101, 99, 111, 110, 100, 115]))), (.t 9), (.t 10)], none⟩,
    ⟨some 12, .lits 135 11 160 [(.str []), (.bool false), (.bool false), (.sl []), (.int .i64 0), (.int .i64 0), (.int .i64 0), (.sl []), (.str []), (.sl []), (.sl [])] 5 [(0, (.t 2)), (1, (.t 4)), (2, (.t 6)), (3, (.t 8)), (4, (.t 11))], none⟩,
    ⟨some 13, .call 56 [(.t 12)], none⟩,
    ⟨some 14, .call 138 [(.t 13)], none⟩,
    ⟨none, .store 7 (.t 0) (.t 14), none⟩] [])
 .ret))⟩
/-- math/bits.Len -/
def f203 : PFn := ⟨1, 8, [.t 2], false,
 (.seq (.reg none [⟨some 2, .mv (.c (.d (.int .i64 0))), none⟩] [])
 (.seq (.cond (.c (.d (.bool false)))
   (.seq (.reg none [⟨some 3, .mv (.t 0), none⟩,
      ⟨some 4, .conv .u32 (.t 3), none⟩,
      ⟨some 5, .call 241 [(.t 4)], none⟩,
      ⟨some 2, .mv (.t 5), none⟩] [])
   .ret)
   .skip)
 (.seq (.reg none [⟨some 6, .mv (.t 0), none⟩,
    ⟨some 7, .call 242 [(.t 6)], none⟩,
    ⟨some 2, .mv (.t 7), none⟩] [])
 .ret)))⟩
def f202b0 : PC :=
 (.blk 1 none
  (.seq (.reg none [⟨some 21, .mv (.t 2), none⟩,
     ⟨some 22, .mv (.t 1), none⟩,
     ⟨some 23, .bin .sub (.t 21) (.t 22), none⟩,
     ⟨some 12, .mv (.t 23), none⟩] [])
  (.seq (.seq (.reg none [⟨some 24, .mv (.t 12), none⟩,
      ⟨some 25, .bin .leq (.t 24) (.c (.d (.int .i64 12))), none⟩] [])
   (.cond (.t 25)
    (.seq (.reg none [⟨some 26, .mv (.t 0), none⟩,
       ⟨some 27, .mv (.t 1), none⟩,
       ⟨some 28, .mv (.t 2), none⟩,
       ⟨some 29, .mv (.t 4), none⟩,
       ⟨some 30, .call 233 [(.t 26), (.t 27), (.t 28), (.t 29)], none⟩] [])
    .ret)
    .skip))
  (.seq (.seq (.reg none [⟨some 31, .mv (.t 3), none⟩,
      ⟨some 32, .bin .eql (.t 31) (.c (.d (.int .i64 0))), none⟩] [])
   (.cond (.t 32)
    (.seq (.reg none [⟨some 33, .mv (.t 0), none⟩,
       ⟨some 34, .mv (.t 1), none⟩,
       ⟨some 35, .mv (.t 2), none⟩,
       ⟨some 36, .mv (.t 4), none⟩,
       ⟨some 37, .call 234 [(.t 33), (.t 34), (.t 35), (.t 36)], none⟩] [])
    .ret)
    .skip))
  (.seq (.seq (.reg none [⟨some 38, .mv (.t 10), none⟩,
      ⟨some 39, .un .not (.t 38), none⟩] [])
   (.cond (.t 39)
    (.seq (.reg none [⟨some 40, .mv (.t 0), none⟩,
       ⟨some 41, .mv (.t 1), none⟩,
       ⟨some 42, .mv (.t 2), none⟩,
       ⟨some 43, .mv (.t 4), none⟩,
       ⟨some 44, .call 235 [(.t 40), (.t 41), (.t 42), (.t 43)], none⟩] [])
    (.reg none [⟨some 45, .mv (.t 3), none⟩,
      ⟨some 46, .bin .sub (.t 45) (.c (.d (.int .i64 1))), none⟩,
      ⟨some 3, .mv (.t 46), none⟩] []))
    .skip))
  (.seq (.reg none [⟨some 48, .mv (.t 0), none⟩,
     ⟨some 49, .mv (.t 1), none⟩,
     ⟨some 50, .mv (.t 2), none⟩,
     ⟨some 51, .mv (.t 4), none⟩,
     ⟨some 52, .call 236 [(.t 48), (.t 49), (.t 50), (.t 51)], none⟩,
     ⟨some 47, .mv (.t 52), none⟩,
     ⟨some 53, .ext (.t 47) 0, none⟩,
     ⟨some 54, .ext (.t 47) 1, none⟩,
     ⟨some 13, .mv (.t 53), none⟩,
     ⟨some 14, .mv (.t 54), none⟩] [])
  (.seq (.seq (.reg none [⟨some 55, .mv (.t 14), none⟩,
      ⟨some 56, .bin .eql (.t 55) (.c (.d (.int .i64 2))), none⟩] [])
   (.cond (.t 56)
    (.seq (.reg none [⟨some 57, .mv (.t 0), none⟩,
       ⟨some 58, .mv (.t 1), none⟩,
       ⟨some 59, .mv (.t 2), none⟩,
       ⟨some 60, .mv (.t 4), none⟩,
       ⟨some 61, .call 237 [(.t 57), (.t 58), (.t 59), (.t 60)], none⟩] [])
    (.seq (.reg none [⟨some 62, .mv (.t 2), none⟩,
       ⟨some 63, .bin .sub (.t 62) (.c (.d (.int .i64 1))), none⟩,
       ⟨some 64, .mv (.t 13), none⟩,
       ⟨some 65, .mv (.t 1), none⟩,
       ⟨some 66, .bin .sub (.t 64) (.t 65), none⟩,
       ⟨some 67, .bin .sub (.t 63) (.t 66), none⟩,
       ⟨some 13, .mv (.t 67), none⟩] [])
    (.reg none [⟨some 14, .mv (.c (.d (.int .i64 1))), none⟩] [])))
    .skip))
  (.seq (.seq (.reg none [⟨some 68, .mv (.t 10), none⟩,
      ⟨some 69, .mv (.t 68), none⟩,
      ⟨some 70, .mv (.t 11), some (69, true)⟩,
      ⟨some 71, .pick (.t 69) (.t 70) (.c (.d (.bool false))), none⟩,
      ⟨some 72, .mv (.t 71), none⟩,
      ⟨some 73, .mv (.t 14), some (72, true)⟩,
      ⟨some 74, .bin .eql (.t 73) (.c (.d (.int .i64 1))), some (72, true)⟩,
      ⟨some 75, .pick (.t 72) (.t 74) (.c (.d (.bool false))), none⟩] [])
   (.cond (.t 75)
    (.seq (.reg none [⟨some 76, .mv (.t 0), none⟩,
       ⟨some 77, .mv (.t 1), none⟩,
       ⟨some 78, .mv (.t 2), none⟩,
       ⟨some 79, .mv (.t 4), none⟩,
       ⟨some 80, .call 238 [(.t 76), (.t 77), (.t 78), (.t 79)], none⟩] [])
    (.cond (.t 80)
     .ret
     .skip))
    .skip))
  (.seq (.seq (.reg (some []) [⟨some 81, .mv (.t 1), none⟩,
      ⟨some 82, .bin .gtr (.t 81) (.c (.d (.int .i64 0))), none⟩,
      ⟨some 83, .mv (.t 82), none⟩,
      ⟨some 84, .mv (.t 4), some (83, true)⟩,
      ⟨some 85, .mv (.t 0), some (83, true)⟩,
      ⟨some 86, .mv (.t 1), some (83, true)⟩,
      ⟨some 87, .bin .sub (.t 86) (.c (.d (.int .i64 1))), some (83, true)⟩,
      ⟨some 88, .iaddr 11 (.t 85) (.t 87), some (83, true)⟩,
      ⟨some 89, .loadn 11 (.t 88), some (83, true)⟩,
      ⟨some 90, .mv (.t 0), some (83, true)⟩,
      ⟨some 91, .mv (.t 13), some (83, true)⟩,
      ⟨some 92, .iaddr 11 (.t 90) (.t 91), some (83, true)⟩,
      ⟨some 93, .loadn 11 (.t 92), some (83, true)⟩,
      ⟨some 94, .callv (.t 84) [(.t 89), (.t 93)], some (83, true)⟩,
      ⟨some 95, .bin .lss (.t 94) (.c (.d (.int .i64 0))), some (83, true)⟩,
      ⟨some 96, .un .not (.t 95), some (83, true)⟩,
      ⟨some 97, .pick (.t 83) (.t 96) (.c (.d (.bool false))), none⟩] [])
   (.cond (.t 97)
    (.seq (.reg none [⟨some 98, .mv (.t 0), none⟩,
       ⟨some 99, .mv (.t 1), none⟩,
       ⟨some 100, .mv (.t 2), none⟩,
       ⟨some 101, .mv (.t 13), none⟩,
       ⟨some 102, .mv (.t 4), none⟩,
       ⟨some 103, .call 239 [(.t 98), (.t 99), (.t 100), (.t 101), (.t 102)], none⟩,
       ⟨some 15, .mv (.t 103), none⟩] [])
    (.seq (.reg none [⟨some 104, .mv (.t 15), none⟩,
       ⟨some 1, .mv (.t 104), none⟩] [])
    (.exit 1)))
    .skip))
  (.seq (.reg none [⟨some 106, .mv (.t 0), none⟩,
     ⟨some 107, .mv (.t 1), none⟩,
     ⟨some 108, .mv (.t 2), none⟩,
     ⟨some 109, .mv (.t 13), none⟩,
     ⟨some 110, .mv (.t 4), none⟩,
     ⟨some 111, .call 240 [(.t 106), (.t 107), (.t 108), (.t 109), (.t 110)], none⟩,
     ⟨some 105, .mv (.t 111), none⟩,
     ⟨some 112, .ext (.t 105) 0, none⟩,
     ⟨some 113, .ext (.t 105) 1, none⟩,
     ⟨some 16, .mv (.t 112), none⟩,
     ⟨some 17, .mv (.t 113), none⟩] [])
  (.seq (.reg none [⟨some 114, .mv (.t 17), none⟩,
     ⟨some 11, .mv (.t 114), none⟩] [])
  (.seq (.reg none [⟨some 115, .mv (.t 16), none⟩,
     ⟨some 116, .mv (.t 1), none⟩,
     ⟨some 117, .bin .sub (.t 115) (.t 116), none⟩,
     ⟨some 118, .mv (.t 2), none⟩,
     ⟨some 119, .mv (.t 16), none⟩,
     ⟨some 120, .bin .sub (.t 118) (.t 119), none⟩,
     ⟨some 18, .mv (.t 117), none⟩,
     ⟨some 19, .mv (.t 120), none⟩] [])
  (.seq (.reg none [⟨some 121, .mv (.t 12), none⟩,
     ⟨some 122, .bin .quo (.t 121) (.c (.d (.int .i64 8))), none⟩,
     ⟨some 20, .mv (.t 122), none⟩] [])
  (.seq (.reg none [⟨some 123, .mv (.t 18), none⟩,
     ⟨some 124, .mv (.t 19), none⟩,
     ⟨some 125, .bin .lss (.t 123) (.t 124), none⟩] [])
  (.cond (.t 125)
   (.seq (.reg none [⟨some 126, .mv (.t 18), none⟩,
      ⟨some 127, .mv (.t 20), none⟩,
      ⟨some 128, .bin .geq (.t 126) (.t 127), none⟩,
      ⟨some 10, .mv (.t 128), none⟩] [])
   (.seq (.reg none [⟨some 129, .mv (.t 0), none⟩,
      ⟨some 130, .mv (.t 1), none⟩,
      ⟨some 131, .mv (.t 16), none⟩,
      ⟨some 132, .mv (.t 3), none⟩,
      ⟨some 133, .mv (.t 4), none⟩,
      ⟨some 134, .call 202 [(.t 129), (.t 130), (.t 131), (.t 132), (.t 133)], none⟩] [])
   (.reg none [⟨some 135, .mv (.t 16), none⟩,
     ⟨some 136, .bin .add (.t 135) (.c (.d (.int .i64 1))), none⟩,
     ⟨some 1, .mv (.t 136), none⟩] [])))
   (.seq (.reg none [⟨some 137, .mv (.t 19), none⟩,
      ⟨some 138, .mv (.t 20), none⟩,
      ⟨some 139, .bin .geq (.t 137) (.t 138), none⟩,
      ⟨some 10, .mv (.t 139), none⟩] [])
   (.seq (.reg none [⟨some 140, .mv (.t 0), none⟩,
      ⟨some 141, .mv (.t 16), none⟩,
      ⟨some 142, .bin .add (.t 141) (.c (.d (.int .i64 1))), none⟩,
      ⟨some 143, .mv (.t 2), none⟩,
      ⟨some 144, .mv (.t 3), none⟩,
      ⟨some 145, .mv (.t 4), none⟩,
      ⟨some 146, .call 202 [(.t 140), (.t 142), (.t 143), (.t 144), (.t 145)], none⟩] [])
   (.reg none [⟨some 147, .mv (.t 16), none⟩,
     ⟨some 2, .mv (.t 147), none⟩] []))))))))))))))))))
def f202l0 : PC := .loop [0, 1, 2, 3, 4, 10, 11] [] f202b0
/-- slices.pdqsortCmpFunc[orchestrator/api.SchemaField] -/
def f202 : PFn := ⟨5, 148, [], true,
 (.seq (.reg none [⟨some 10, .mv (.c (.d (.bool true))), none⟩] [])
 (.seq (.reg none [⟨some 11, .mv (.c (.d (.bool true))), none⟩] [])
 (.blk 0 (some [])
  f202l0)))⟩
/-- strings.Compare -/
def f148 : PFn := ⟨2, 8, [.t 4], false,
 (.seq (.reg none [⟨some 4, .mv (.c (.d (.int .i64 0))), none⟩] [])
 (.seq (.reg none [⟨some 5, .mv (.t 0), none⟩,
    ⟨some 6, .mv (.t 1), none⟩,
    ⟨some 7, .call 204 [(.t 5), (.t 6)], none⟩,
    ⟨some 4, .mv (.t 7), none⟩] [])
 .ret))⟩
def f177b0 : PC :=
 (.seq (.reg none [⟨some 54, .bin .lss (.t 53) (.t 52), none⟩] [])
 (.seq (.cond (.t 54)
   .skip
   (.exit 0))
 (.seq (.blk 1 none
   (.seq (.reg none [⟨some 55, .iaddr 5 (.t 51) (.t 53), none⟩,
      ⟨some 56, .loadn 5 (.t 55), none⟩,
      ⟨some 6, .alloc 59 [(.d (.int .i64 0)), (.d (.int .i64 0)), (.d (.str [])), .nil, .nil], none⟩,
      ⟨none, .store 5 (.t 6) (.t 56), none⟩] [])
   (.seq (.reg none [⟨some 57, .loadn 5 (.t 6), none⟩,
      ⟨some 58, .mv (.t 1), none⟩,
      ⟨some 59, .bin .sub (.t 58) (.c (.d (.int .i64 1))), none⟩,
      ⟨some 60, .call 177 [(.t 57), (.t 59)], none⟩,
      ⟨some 61, .un .not (.t 60), none⟩] [])
   (.cond (.t 61)
    (.seq (.reg none [⟨some 4, .mv (.c (.d (.bool false))), none⟩] [])
    .ret)
    .skip))))
 (.reg none [⟨some 62, .bin .add (.t 53) (.c (.d (.int .i64 1))), none⟩,
   ⟨some 53, .mv (.t 62), none⟩] []))))
def f177l0 : PC := .loop [1, 2, 51, 52, 53] [] f177b0
def f177b1 : PC :=
 (.seq (.reg none [⟨some 67, .bin .lss (.t 66) (.t 65), none⟩] [])
 (.seq (.cond (.t 67)
   .skip
   (.exit 2))
 (.seq (.blk 3 none
   (.seq (.reg none [⟨some 68, .mv (.t 66), none⟩,
      ⟨some 69, .iaddr 6 (.t 64) (.t 66), none⟩,
      ⟨some 70, .loadn 6 (.t 69), none⟩,
      ⟨some 8, .alloc 115 [(.d (.str [])), (.d (.int .i64 0)), (.d (.int .i64 0)), (.d (.str [])), .nil, .nil], none⟩,
      ⟨some 7, .mv (.t 68), none⟩,
      ⟨none, .store 6 (.t 8) (.t 70), none⟩] [])
   (.seq (.reg (some []) [⟨some 71, .faddr 0 (.t 8), none⟩,
      ⟨some 72, .load1 (.t 71), none⟩,
      ⟨some 73, .call 212 [(.t 72)], none⟩,
      ⟨some 74, .un .not (.t 73), none⟩,
      ⟨some 75, .mv (.t 74), none⟩,
      ⟨some 76, .mv (.t 7), some (75, false)⟩,
      ⟨some 77, .bin .gtr (.t 76) (.c (.d (.int .i64 0))), some (75, false)⟩,
      ⟨some 78, .mv (.t 77), some (75, false)⟩,
      ⟨some 79, .faddr 4 (.t 2), some (78, true)⟩,
      ⟨some 80, .load1 (.t 79), some (78, true)⟩,
      ⟨some 81, .mv (.t 7), some (78, true)⟩,
      ⟨some 82, .bin .sub (.t 81) (.c (.d (.int .i64 1))), some (78, true)⟩,
      ⟨some 83, .iaddr 6 (.t 80) (.t 82), some (78, true)⟩,
      ⟨some 84, .faddr 0 (.t 83), some (78, true)⟩,
      ⟨some 85, .load1 (.t 84), some (78, true)⟩,
      ⟨some 86, .faddr 0 (.t 8), some (78, true)⟩,
      ⟨some 87, .load1 (.t 86), some (78, true)⟩,
      ⟨some 88, .bin .geq (.t 85) (.t 87), some (78, true)⟩,
      ⟨some 89, .pick (.t 78) (.t 88) (.c (.d (.bool false))), some (75, false)⟩,
      ⟨some 90, .pick (.t 75) (.c (.d (.bool true))) (.t 89), none⟩,
      ⟨some 91, .mv (.t 90), none⟩,
      ⟨some 92, .faddr 1 (.t 8), some (91, false)⟩,
      ⟨some 93, .loadn 5 (.t 92), some (91, false)⟩,
      ⟨some 94, .mv (.t 1), some (91, false)⟩,
      ⟨some 95, .bin .sub (.t 94) (.c (.d (.int .i64 1))), some (91, false)⟩,
      ⟨some 96, .call 177 [(.t 93), (.t 95)], some (91, false)⟩,
      ⟨some 97, .un .not (.t 96), some (91, false)⟩,
      ⟨some 98, .pick (.t 91) (.c (.d (.bool true))) (.t 97), none⟩] [])
   (.cond (.t 98)
    (.seq (.reg none [⟨some 4, .mv (.c (.d (.bool false))), none⟩] [])
    .ret)
    .skip))))
 (.reg none [⟨some 99, .bin .add (.t 66) (.c (.d (.int .i64 1))), none⟩,
   ⟨some 66, .mv (.t 99), none⟩] []))))
def f177l1 : PC := .loop [1, 2, 64, 65, 66] [] f177b1
/-- orchestrator/value.valid -/
def f177 : PFn := ⟨2, 100, [.t 4], false,
 (.seq (.reg none [⟨some 2, .box 59 (.t 0), none⟩,
    ⟨some 4, .mv (.c (.d (.bool false))), none⟩] [])
 (.seq (.seq (.reg none [⟨some 9, .mv (.t 1), none⟩,
     ⟨some 10, .bin .eql (.t 9) (.c (.d (.int .i64 0))), none⟩,
     ⟨some 11, .mv (.t 10), none⟩,
     ⟨some 12, .loadn 5 (.t 2), some (11, false)⟩,
     ⟨some 13, .call 211 [(.t 12)], some (11, false)⟩,
     ⟨some 14, .un .not (.t 13), some (11, false)⟩,
     ⟨some 15, .pick (.t 11) (.c (.d (.bool true))) (.t 14), none⟩,
     ⟨some 16, .mv (.t 15), none⟩,
     ⟨some 17, .faddr 0 (.t 2), some (16, false)⟩,
     ⟨some 18, .load1 (.t 17), some (16, false)⟩,
     ⟨some 19, .bin .neq (.t 18) (.c (.d (.int .i64 4))), some (16, false)⟩,
     ⟨some 20, .mv (.t 19), some (16, false)⟩,
     ⟨some 21, .faddr 3 (.t 2), some (20, true)⟩,
     ⟨some 22, .load1 (.t 21), some (20, true)⟩,
     ⟨some 23, .lenL (.t 22), some (20, true)⟩,
     ⟨some 24, .bin .gtr (.t 23) (.c (.d (.int .i64 0))), some (20, true)⟩,
     ⟨some 25, .pick (.t 20) (.t 24) (.c (.d (.bool false))), some (16, false)⟩,
     ⟨some 26, .pick (.t 16) (.c (.d (.bool true))) (.t 25), none⟩,
     ⟨some 27, .mv (.t 26), none⟩,
     ⟨some 28, .faddr 0 (.t 2), some (27, false)⟩,
     ⟨some 29, .load1 (.t 28), some (27, false)⟩,
     ⟨some 30, .bin .neq (.t 29) (.c (.d (.int .i64 5))), some (27, false)⟩,
     ⟨some 31, .mv (.t 30), some (27, false)⟩,
     ⟨some 32, .faddr 4 (.t 2), some (31, true)⟩,
     ⟨some 33, .load1 (.t 32), some (31, true)⟩,
     ⟨some 34, .lenL (.t 33), some (31, true)⟩,
     ⟨some 35, .bin .gtr (.t 34) (.c (.d (.int .i64 0))), some (31, true)⟩,
     ⟨some 36, .pick (.t 31) (.t 35) (.c (.d (.bool false))), some (27, false)⟩,
     ⟨some 37, .pick (.t 27) (.c (.d (.bool true))) (.t 36), none⟩,
     ⟨some 38, .mv (.t 37), none⟩,
     ⟨some 39, .faddr 3 (.t 2), some (38, false)⟩,
     ⟨some 40, .load1 (.t 39), some (38, false)⟩,
     ⟨some 41, .lenL (.t 40), some (38, false)⟩,
     ⟨some 42, .bin .gtr (.t 41) (.c (.d (.int .i64 64))), some (38, false)⟩,
     ⟨some 43, .pick (.t 38) (.c (.d (.bool true))) (.t 42), none⟩,
     ⟨some 44, .mv (.t 43), none⟩,
     ⟨some 45, .faddr 4 (.t 2), some (44, false)⟩,
     ⟨some 46, .load1 (.t 45), some (44, false)⟩,
     ⟨some 47, .lenL (.t 46), some (44, false)⟩,
     ⟨some 48, .bin .gtr (.t 47) (.c (.d (.int .i64 64))), some (44, false)⟩,
     ⟨some 49, .pick (.t 44) (.c (.d (.bool true))) (.t 48), none⟩] [])
  (.cond (.t 49)
   (.seq (.reg none [⟨some 4, .mv (.c (.d (.bool false))), none⟩] [])
   .ret)
   .skip))
 (.seq (.seq (.reg none [⟨some 50, .faddr 3 (.t 2), none⟩,
     ⟨some 51, .load1 (.t 50), none⟩,
     ⟨some 52, .lenL (.t 51), none⟩,
     ⟨some 53, .mv (.c (.d (.int .i64 0))), none⟩] [])
  (.blk 0 (some [1, 2])
   f177l0))
 (.seq (.seq (.reg none [⟨some 63, .faddr 4 (.t 2), none⟩,
     ⟨some 64, .load1 (.t 63), none⟩,
     ⟨some 65, .lenL (.t 64), none⟩,
     ⟨some 66, .mv (.c (.d (.int .i64 0))), none⟩] [])
  (.blk 2 (some [])
   f177l1))
 (.seq (.reg none [⟨some 4, .mv (.c (.d (.bool true))), none⟩] [])
 .ret)))))⟩
def f178b0 : PC :=
 (.seq (.reg none [⟨some 12, .bin .lss (.t 11) (.t 10), none⟩] [])
 (.seq (.cond (.t 12)
   .skip
   (.exit 0))
 (.seq (.blk 1 none
   (.seq (.reg none [⟨some 13, .iaddr 5 (.t 9) (.t 11), none⟩,
      ⟨some 14, .loadn 5 (.t 13), none⟩,
      ⟨some 5, .alloc 59 [(.d (.int .i64 0)), (.d (.int .i64 0)), (.d (.str [])), .nil, .nil], none⟩,
      ⟨none, .store 5 (.t 5) (.t 14), none⟩] [])
   (.reg none [⟨some 15, .mv (.t 3), none⟩,
     ⟨some 16, .loadn 5 (.t 5), none⟩,
     ⟨some 17, .call 178 [(.t 16)], none⟩,
     ⟨some 18, .bin .add (.t 15) (.t 17), none⟩,
     ⟨some 3, .mv (.t 18), none⟩] [])))
 (.reg none [⟨some 19, .bin .add (.t 11) (.c (.d (.int .i64 1))), none⟩,
   ⟨some 11, .mv (.t 19), none⟩] []))))
def f178l0 : PC := .loop [1, 3, 9, 10, 11] [] f178b0
def f178b1 : PC :=
 (.seq (.reg none [⟨some 24, .bin .lss (.t 23) (.t 22), none⟩] [])
 (.seq (.cond (.t 24)
   .skip
   (.exit 2))
 (.seq (.blk 3 none
   (.seq (.reg none [⟨some 25, .iaddr 6 (.t 21) (.t 23), none⟩,
      ⟨some 26, .loadn 6 (.t 25), none⟩,
      ⟨some 7, .alloc 115 [(.d (.str [])), (.d (.int .i64 0)), (.d (.int .i64 0)), (.d (.str [])), .nil, .nil], none⟩,
      ⟨none, .store 6 (.t 7) (.t 26), none⟩] [])
   (.reg none [⟨some 27, .mv (.t 3), none⟩,
     ⟨some 28, .faddr 1 (.t 7), none⟩,
     ⟨some 29, .loadn 5 (.t 28), none⟩,
     ⟨some 30, .call 178 [(.t 29)], none⟩,
     ⟨some 31, .bin .add (.t 27) (.t 30), none⟩,
     ⟨some 3, .mv (.t 31), none⟩] [])))
 (.reg none [⟨some 32, .bin .add (.t 23) (.c (.d (.int .i64 1))), none⟩,
   ⟨some 23, .mv (.t 32), none⟩] []))))
def f178l1 : PC := .loop [3, 21, 22, 23] [] f178b1
/-- orchestrator/value.Size -/
def f178 : PFn := ⟨1, 34, [.t 2], false,
 (.seq (.reg none [⟨some 1, .box 59 (.t 0), none⟩,
    ⟨some 2, .mv (.c (.d (.int .i64 0))), none⟩] [])
 (.seq (.reg none [⟨some 3, .mv (.c (.d (.int .i64 1))), none⟩] [])
 (.seq (.seq (.reg none [⟨some 8, .faddr 3 (.t 1), none⟩,
     ⟨some 9, .load1 (.t 8), none⟩,
     ⟨some 10, .lenL (.t 9), none⟩,
     ⟨some 11, .mv (.c (.d (.int .i64 0))), none⟩] [])
  (.blk 0 (some [1, 3])
   f178l0))
 (.seq (.seq (.reg none [⟨some 20, .faddr 4 (.t 1), none⟩,
     ⟨some 21, .load1 (.t 20), none⟩,
     ⟨some 22, .lenL (.t 21), none⟩,
     ⟨some 23, .mv (.c (.d (.int .i64 0))), none⟩] [])
  (.blk 2 (some [3])
   f178l1))
 (.seq (.reg none [⟨some 33, .mv (.t 3), none⟩,
    ⟨some 2, .mv (.t 33), none⟩] [])
 .ret)))))⟩
def f179b0 : PC :=
 (.seq (.reg none [⟨some 90, .bin .lss (.t 89) (.t 88), none⟩] [])
 (.seq (.cond (.t 90)
   .skip
   (.exit 1))
 (.seq (.blk 2 none
   (.seq (.reg none [⟨some 91, .iaddr 6 (.t 87) (.t 89), none⟩,
      ⟨some 92, .loadn 6 (.t 91), none⟩,
      ⟨some 9, .alloc 115 [(.d (.str [])), (.d (.int .i64 0)), (.d (.int .i64 0)), (.d (.str [])), .nil, .nil], none⟩,
      ⟨none, .store 6 (.t 9) (.t 92), none⟩] [])
   (.seq (.reg none [⟨some 93, .faddr 1 (.t 9), none⟩,
      ⟨some 94, .faddr 0 (.t 93), none⟩,
      ⟨some 95, .load1 (.t 94), none⟩,
      ⟨some 96, .bin .neq (.t 95) (.c (.d (.int .i64 0))), none⟩] [])
   (.cond (.t 96)
    (.reg (some [(2, 10), (4, 10), (6, 10), (2, 11), (4, 11), (6, 11)]) [⟨some 97, .mv (.t 0), none⟩,
      ⟨some 98, .faddr 5 (.t 5), none⟩,
      ⟨some 99, .load1 (.t 98), none⟩,
      ⟨some 100, .iaddr 7 (.t 99) (.c (.d (.int .i64 0))), none⟩,
      ⟨some 101, .loadn 7 (.t 100), none⟩,
      ⟨some 102, .faddr 1 (.t 9), none⟩,
      ⟨some 103, .loadn 5 (.t 102), none⟩,
      ⟨some 104, .mv (.t 3), none⟩,
      ⟨some 105, .faddr 0 (.t 9), none⟩,
      ⟨some 106, .load1 (.t 105), none⟩,
      ⟨some 107, .call 218 [(.t 106)], none⟩,
      ⟨some 108, .call 217 [(.t 104), (.t 107)], none⟩,
      ⟨some 109, .call 179 [(.t 97), (.t 101), (.t 103), (.t 108)], none⟩] [])
    .skip))))
 (.reg none [⟨some 110, .bin .add (.t 89) (.c (.d (.int .i64 1))), none⟩,
   ⟨some 89, .mv (.t 110), none⟩] []))))
def f179l0 : PC := .loop [0, 3, 5, 87, 88, 89] [] f179b0
/-- (*orchestrator/schema.report).check -/
def f179 : PFn := ⟨4, 120, [], false,
 (.seq (.reg none [⟨some 5, .box 27 (.t 1), none⟩,
    ⟨some 6, .box 59 (.t 2), none⟩] [])
 (.blk 0 none
  (.seq (.reg none [⟨some 11, .faddr 0 (.t 6), none⟩,
     ⟨some 12, .load1 (.t 11), none⟩,
     ⟨some 13, .faddr 0 (.t 5), none⟩,
     ⟨some 14, .load1 (.t 13), none⟩,
     ⟨some 15, .bin .neq (.t 12) (.t 14), none⟩,
     ⟨some 10, .mv (.t 15), none⟩] [])
  (.cond (.t 10)
   (.reg none [⟨some 16, .mv (.t 0), none⟩,
     ⟨some 17, .mv (.t 3), none⟩,
     ⟨some 18, .call 213 [(.t 16), (.t 17), (.c (.d (.int .i64 6)))], none⟩] [])
   (.seq (.reg none [⟨some 20, .faddr 0 (.t 6), none⟩,
      ⟨some 21, .load1 (.t 20), none⟩,
      ⟨some 22, .bin .eql (.t 21) (.c (.d (.int .i64 2))), none⟩,
      ⟨some 19, .mv (.t 22), none⟩] [])
   (.cond (.t 19)
    (.seq (.reg none [⟨some 23, .faddr 1 (.t 6), none⟩,
       ⟨some 24, .load1 (.t 23), none⟩,
       ⟨some 25, .faddr 1 (.t 5), none⟩,
       ⟨some 26, .load1 (.t 25), none⟩,
       ⟨some 27, .bin .lss (.t 24) (.t 26), none⟩,
       ⟨some 28, .mv (.t 27), none⟩,
       ⟨some 29, .faddr 1 (.t 6), some (28, false)⟩,
       ⟨some 30, .load1 (.t 29), some (28, false)⟩,
       ⟨some 31, .faddr 2 (.t 5), some (28, false)⟩,
       ⟨some 32, .load1 (.t 31), some (28, false)⟩,
       ⟨some 33, .bin .gtr (.t 30) (.t 32), some (28, false)⟩,
       ⟨some 34, .pick (.t 28) (.c (.d (.bool true))) (.t 33), none⟩] [])
    (.cond (.t 34)
     (.reg none [⟨some 35, .mv (.t 0), none⟩,
       ⟨some 36, .mv (.t 3), none⟩,
       ⟨some 37, .call 213 [(.t 35), (.t 36), (.c (.d (.int .i64 5)))], none⟩] [])
     .skip))
    (.seq (.reg none [⟨some 39, .faddr 0 (.t 6), none⟩,
       ⟨some 40, .load1 (.t 39), none⟩,
       ⟨some 41, .bin .eql (.t 40) (.c (.d (.int .i64 3))), none⟩,
       ⟨some 38, .mv (.t 41), none⟩] [])
    (.cond (.t 38)
     (.seq (.reg none [⟨some 42, .faddr 2 (.t 6), none⟩,
        ⟨some 43, .load1 (.t 42), none⟩,
        ⟨some 44, .lenS (.t 43), none⟩,
        ⟨some 45, .faddr 1 (.t 5), none⟩,
        ⟨some 46, .load1 (.t 45), none⟩,
        ⟨some 47, .bin .lss (.t 44) (.t 46), none⟩,
        ⟨some 48, .mv (.t 47), none⟩,
        ⟨some 49, .faddr 2 (.t 6), some (48, false)⟩,
        ⟨some 50, .load1 (.t 49), some (48, false)⟩,
        ⟨some 51, .lenS (.t 50), some (48, false)⟩,
        ⟨some 52, .faddr 2 (.t 5), some (48, false)⟩,
        ⟨some 53, .load1 (.t 52), some (48, false)⟩,
        ⟨some 54, .bin .gtr (.t 51) (.t 53), some (48, false)⟩,
        ⟨some 55, .pick (.t 48) (.c (.d (.bool true))) (.t 54), none⟩] [])
     (.cond (.t 55)
      (.reg none [⟨some 56, .mv (.t 0), none⟩,
        ⟨some 57, .mv (.t 3), none⟩,
        ⟨some 58, .call 213 [(.t 56), (.t 57), (.c (.d (.int .i64 5)))], none⟩] [])
      (.seq (.reg none [⟨some 59, .faddr 3 (.t 5), none⟩,
         ⟨some 60, .load1 (.t 59), none⟩,
         ⟨some 61, .lenL (.t 60), none⟩,
         ⟨some 62, .bin .gtr (.t 61) (.c (.d (.int .i64 0))), none⟩,
         ⟨some 63, .mv (.t 62), none⟩,
         ⟨some 64, .faddr 3 (.t 5), some (63, true)⟩,
         ⟨some 65, .load1 (.t 64), some (63, true)⟩,
         ⟨some 66, .faddr 2 (.t 6), some (63, true)⟩,
         ⟨some 67, .load1 (.t 66), some (63, true)⟩,
         ⟨some 68, .call 214 [(.t 65), (.t 67)], some (63, true)⟩,
         ⟨some 69, .un .not (.t 68), some (63, true)⟩,
         ⟨some 70, .pick (.t 63) (.t 69) (.c (.d (.bool false))), none⟩] [])
      (.cond (.t 70)
       (.reg none [⟨some 71, .mv (.t 0), none⟩,
         ⟨some 72, .mv (.t 3), none⟩,
         ⟨some 73, .call 213 [(.t 71), (.t 72), (.c (.d (.int .i64 1)))], none⟩] [])
       .skip))))
     (.seq (.reg none [⟨some 75, .faddr 0 (.t 6), none⟩,
        ⟨some 76, .load1 (.t 75), none⟩,
        ⟨some 77, .bin .eql (.t 76) (.c (.d (.int .i64 4))), none⟩,
        ⟨some 74, .mv (.t 77), none⟩] [])
     (.cond (.t 74)
      (.reg none [⟨some 78, .mv (.t 0), none⟩,
        ⟨some 79, .loadn 7 (.t 5), none⟩,
        ⟨some 80, .loadn 5 (.t 6), none⟩,
        ⟨some 81, .mv (.t 3), none⟩,
        ⟨some 82, .call 215 [(.t 78), (.t 79), (.t 80), (.t 81)], none⟩] [])
      (.seq (.reg none [⟨some 84, .loadn 7 (.t 5), none⟩,
         ⟨some 85, .call 216 [(.t 84)], none⟩,
         ⟨some 83, .mv (.t 85), none⟩] [])
      (.cond (.t 83)
       (.seq (.reg none [⟨some 86, .faddr 4 (.t 6), none⟩,
          ⟨some 87, .load1 (.t 86), none⟩,
          ⟨some 88, .lenL (.t 87), none⟩,
          ⟨some 89, .mv (.c (.d (.int .i64 0))), none⟩] [])
       (.blk 1 (some [])
        f179l0))
       (.seq (.reg none [⟨some 112, .faddr 0 (.t 6), none⟩,
          ⟨some 113, .load1 (.t 112), none⟩,
          ⟨some 114, .bin .eql (.t 113) (.c (.d (.int .i64 5))), none⟩,
          ⟨some 111, .mv (.t 114), none⟩] [])
       (.cond (.t 111)
        (.reg none [⟨some 115, .mv (.t 0), none⟩,
          ⟨some 116, .loadn 7 (.t 5), none⟩,
          ⟨some 117, .loadn 5 (.t 6), none⟩,
          ⟨some 118, .mv (.t 3), none⟩,
          ⟨some 119, .call 219 [(.t 115), (.t 116), (.t 117), (.t 118)], none⟩] [])
        .skip))))))))))))))⟩
/-- orchestrator/value.String -/
def f220 : PFn := ⟨1, 5, [.cn 2 5], false,
 (.seq (.reg none [⟨some 2, .alloc 59 [(.d (.int .i64 0)), (.d (.int .i64 0)), (.d (.str [])), .nil, .nil], none⟩] [])
 (.seq (.reg none [⟨some 3, .mv (.t 0), none⟩,
    ⟨some 4, .build [(.d (.int .i64 0)), (.d (.int .i64 0)), (.d (.str [])), .nil, .nil] [(0, 1, (.c (.d (.int .i64 3)))), (2, 1, (.t 3))], none⟩,
    ⟨none, .store 5 (.t 2) (.t 4), none⟩] [])
 .ret))⟩
/-- orchestrator/schema.field -/
def f221 : PFn := ⟨2, 24, [.cn 4 11, .t 5], false,
 (.seq (.reg none [⟨some 2, .box 27 (.t 0), none⟩,
    ⟨some 3, .box 9 (.t 1), none⟩,
    ⟨some 4, .alloc 135 [(.d (.str [])), (.d (.bool false)), (.d (.bool false)), .nil, (.d (.int .i64 0)), (.d (.int .i64 0)), (.d (.int .i64 0)), .nil, (.d (.str [])), .nil, .nil], none⟩,
    ⟨some 5, .mv (.c (.d (.bool false))), none⟩] [])
 (.seq (.reg none [⟨some 7, .faddr 6 (.t 2), none⟩,
    ⟨some 8, .load1 (.t 7), none⟩,
    ⟨some 9, .mkf 254 [(.t 3)], none⟩,
    ⟨some 10, .call 253 [(.t 8), (.t 9)], none⟩,
    ⟨some 6, .mv (.t 10), none⟩] [])
 (.seq (.seq (.reg none [⟨some 11, .mv (.t 6), none⟩,
     ⟨some 12, .bin .lss (.t 11) (.c (.d (.int .i64 0))), none⟩,
     ⟨some 13, .mv (.t 12), none⟩,
     ⟨some 14, .loadn 7 (.t 2), some (13, false)⟩,
     ⟨some 15, .call 255 [(.t 14)], some (13, false)⟩,
     ⟨some 16, .un .not (.t 15), some (13, false)⟩,
     ⟨some 17, .pick (.t 13) (.c (.d (.bool true))) (.t 16), none⟩] [])
  (.cond (.t 17)
   (.seq (.reg none [⟨some 18, .build [(.d (.str [])), (.d (.bool false)), (.d (.bool false)), .nil, (.d (.int .i64 0)), (.d (.int .i64 0)), (.d (.int .i64 0)), .nil, (.d (.str [])), .nil, .nil] [], none⟩,
      ⟨none, .store 11 (.t 4) (.t 18), none⟩,
      ⟨some 5, .mv (.c (.d (.bool false))), none⟩] [])
   .ret)
   .skip))
 (.seq (.reg none [⟨some 19, .faddr 6 (.t 2), none⟩,
    ⟨some 20, .load1 (.t 19), none⟩,
    ⟨some 21, .mv (.t 6), none⟩,
    ⟨some 22, .iaddr 11 (.t 20) (.t 21), none⟩,
    ⟨some 23, .loadn 11 (.t 22), none⟩,
    ⟨none, .store 11 (.t 4) (.t 23), none⟩,
    ⟨some 5, .mv (.c (.d (.bool true))), none⟩] [])
 .ret))))⟩
def f222b0 : PC :=
 (.seq (.reg none [⟨some 9, .bin .lss (.t 8) (.t 7), none⟩] [])
 (.seq (.cond (.t 9)
   .skip
   (.exit 0))
 (.seq (.blk 1 none
   (.seq (.reg none [⟨some 10, .mv (.t 8), none⟩,
      ⟨some 5, .mv (.t 10), none⟩] [])
   (.seq (.reg none [⟨some 11, .mv (.t 1), none⟩,
      ⟨some 12, .mv (.t 0), none⟩,
      ⟨some 13, .mv (.t 5), none⟩,
      ⟨some 14, .iaddr 7 (.t 12) (.t 13), none⟩,
      ⟨some 15, .loadn 7 (.t 14), none⟩,
      ⟨some 16, .callv (.t 11) [(.t 15)], none⟩] [])
   (.cond (.t 16)
    (.seq (.reg none [⟨some 17, .mv (.t 5), none⟩,
       ⟨some 4, .mv (.t 17), none⟩] [])
    .ret)
    .skip))))
 (.reg none [⟨some 18, .bin .add (.t 8) (.c (.d (.int .i64 1))), none⟩,
   ⟨some 8, .mv (.t 18), none⟩] []))))
def f222l0 : PC := .loop [0, 1, 7, 8] [] f222b0
/-- slices.IndexFunc[[]orchestrator/api.Schema,orchestrator/api.Schema] -/
def f222 : PFn := ⟨2, 19, [.t 4], true,
 (.seq (.reg none [⟨some 4, .mv (.c (.d (.int .i64 0))), none⟩] [])
 (.seq (.seq (.reg none [⟨some 6, .mv (.t 0), none⟩,
     ⟨some 7, .lenL (.t 6), none⟩,
     ⟨some 8, .mv (.c (.d (.int .i64 0))), none⟩] [])
  (.blk 0 (some [])
   f222l0))
 (.seq (.reg none [⟨some 4, .mv (.c (.d (.int .i64 (-1)))), none⟩] [])
 .ret)))⟩
/-- orchestrator/value.others$1 -/
def f225 : PFn := ⟨2, 8, [.t 3], false,
 (.seq (.reg none [⟨some 2, .box 115 (.t 0), none⟩,
    ⟨some 3, .mv (.c (.d (.bool false))), none⟩] [])
 (.seq (.reg none [⟨some 4, .faddr 0 (.t 2), none⟩,
    ⟨some 5, .load1 (.t 4), none⟩,
    ⟨some 6, .load1 (.t 1), none⟩,
    ⟨some 7, .bin .eql (.t 5) (.t 6), none⟩,
    ⟨some 3, .mv (.t 7), none⟩] [])
 .ret))⟩
def f224b0 : PC :=
 (.seq (.seq (.reg none [⟨some 16, .mv (.t 6), none⟩,
     ⟨some 17, .mv (.t 0), none⟩,
     ⟨some 18, .lenL (.t 17), none⟩,
     ⟨some 19, .bin .lss (.t 16) (.t 18), none⟩] [])
  (.cond (.t 19)
   .skip
   (.exit 0)))
 (.seq (.blk 1 none
   (.seq (.reg none [⟨some 22, .mv (.t 0), none⟩,
      ⟨some 23, .mv (.t 6), none⟩,
      ⟨some 24, .iaddr 6 (.t 22) (.t 23), none⟩,
      ⟨some 25, .loadn 6 (.t 24), none⟩,
      ⟨some 7, .alloc 115 [(.d (.str [])), (.d (.int .i64 0)), (.d (.int .i64 0)), (.d (.str [])), .nil, .nil], none⟩,
      ⟨none, .store 6 (.t 7) (.t 25), none⟩] [])
   (.seq (.reg none [⟨some 26, .mv (.t 1), none⟩,
      ⟨some 27, .loadn 6 (.t 7), none⟩,
      ⟨some 28, .callv (.t 26) [(.t 27)], none⟩,
      ⟨some 29, .un .not (.t 28), none⟩] [])
   (.cond (.t 29)
    (.seq (.reg none [⟨some 30, .mv (.t 0), none⟩,
       ⟨some 31, .mv (.t 5), none⟩,
       ⟨some 32, .loadn 6 (.t 7), none⟩,
       ⟨some 33, .iaddr 6 (.t 30) (.t 31), none⟩,
       ⟨none, .store 6 (.t 33) (.t 32), none⟩] [])
    (.reg none [⟨some 34, .mv (.t 5), none⟩,
      ⟨some 35, .bin .add (.t 34) (.c (.d (.int .i64 1))), none⟩,
      ⟨some 5, .mv (.t 35), none⟩] []))
    .skip))))
 (.reg none [⟨some 20, .mv (.t 6), none⟩,
   ⟨some 21, .bin .add (.t 20) (.c (.d (.int .i64 1))), none⟩,
   ⟨some 6, .mv (.t 21), none⟩] [])))
def f224l0 : PC := .loop [0, 1, 5, 6] [] f224b0
/-- slices.DeleteFunc[[]orchestrator/api.Field,orchestrator/api.Field] -/
def f224 : PFn := ⟨2, 42, [.t 4], true,
 (.seq (.reg none [⟨some 4, .mv (.c .nil), none⟩] [])
 (.seq (.reg none [⟨some 8, .mv (.t 0), none⟩,
    ⟨some 9, .mv (.t 1), none⟩,
    ⟨some 10, .call 256 [(.t 8), (.t 9)], none⟩,
    ⟨some 5, .mv (.t 10), none⟩] [])
 (.seq (.seq (.reg none [⟨some 11, .mv (.t 5), none⟩,
     ⟨some 12, .bin .eql (.t 11) (.c (.d (.int .i64 (-1)))), none⟩] [])
  (.cond (.t 12)
   (.seq (.reg none [⟨some 13, .mv (.t 0), none⟩,
      ⟨some 4, .mv (.t 13), none⟩] [])
   .ret)
   .skip))
 (.seq (.seq (.reg none [⟨some 14, .mv (.t 5), none⟩,
     ⟨some 15, .bin .add (.t 14) (.c (.d (.int .i64 1))), none⟩,
     ⟨some 6, .mv (.t 15), none⟩] [])
  (.blk 0 (some [0, 5])
   f224l0))
 (.seq (.reg none [⟨some 36, .mv (.t 0), none⟩,
    ⟨some 37, .mv (.t 5), none⟩,
    ⟨some 38, .slc 6 (.t 36) (some (.t 37)) none none, none⟩,
    ⟨none, .clr 6 [(.str []), (.int .i64 0), (.int .i64 0), (.str []), (.sl []), (.sl [])] (.t 38), none⟩] [])
 (.seq (.reg none [⟨some 39, .mv (.t 0), none⟩,
    ⟨some 40, .mv (.t 5), none⟩,
    ⟨some 41, .slc 6 (.t 39) none (some (.t 40)) none, none⟩,
    ⟨some 4, .mv (.t 41), none⟩] [])
 .ret))))))⟩
def f226b0 : PC :=
 (.seq (.seq (.reg none [⟨some 11, .mv (.t 8), none⟩,
     ⟨some 12, .mv (.t 1), none⟩,
     ⟨some 13, .bin .leq (.t 11) (.t 12), none⟩] [])
  (.cond (.t 13)
   .skip
   (.exit 0)))
 (.blk 1 none
  (.seq (.reg none [⟨some 14, .mv (.t 0), none⟩,
     ⟨some 15, .mv (.t 7), none⟩,
     ⟨some 16, .mv (.t 8), none⟩,
     ⟨some 17, .mv (.t 2), none⟩,
     ⟨some 18, .call 257 [(.t 14), (.t 15), (.t 16), (.t 17)], none⟩] [])
  (.seq (.reg none [⟨some 19, .mv (.t 8), none⟩,
     ⟨some 7, .mv (.t 19), none⟩] [])
  (.reg none [⟨some 20, .mv (.t 8), none⟩,
    ⟨some 21, .mv (.t 6), none⟩,
    ⟨some 22, .bin .add (.t 20) (.t 21), none⟩,
    ⟨some 8, .mv (.t 22), none⟩] [])))))
def f226l0 : PC := .loop [0, 1, 2, 6, 7, 8] [] f226b0
def f226b1 : PC :=
 (.seq (.seq (.reg none [⟨some 33, .mv (.t 8), none⟩,
     ⟨some 34, .mv (.t 1), none⟩,
     ⟨some 35, .bin .leq (.t 33) (.t 34), none⟩] [])
  (.cond (.t 35)
   .skip
   (.exit 4)))
 (.blk 5 none
  (.seq (.reg none [⟨some 36, .mv (.t 0), none⟩,
     ⟨some 37, .mv (.t 7), none⟩,
     ⟨some 38, .mv (.t 7), none⟩,
     ⟨some 39, .mv (.t 6), none⟩,
     ⟨some 40, .bin .add (.t 38) (.t 39), none⟩,
     ⟨some 41, .mv (.t 8), none⟩,
     ⟨some 42, .mv (.t 2), none⟩,
     ⟨some 43, .call 258 [(.t 36), (.t 37), (.t 40), (.t 41), (.t 42)], none⟩] [])
  (.seq (.reg none [⟨some 44, .mv (.t 8), none⟩,
     ⟨some 7, .mv (.t 44), none⟩] [])
  (.reg none [⟨some 45, .mv (.t 8), none⟩,
    ⟨some 46, .mv (.t 6), none⟩,
    ⟨some 47, .bin .mul (.c (.d (.int .i64 2))) (.t 46), none⟩,
    ⟨some 48, .bin .add (.t 45) (.t 47), none⟩,
    ⟨some 8, .mv (.t 48), none⟩] [])))))
def f226l1 : PC := .loop [0, 1, 2, 6, 7, 8] [] f226b1
def f226b2 : PC :=
 (.seq (.seq (.reg none [⟨some 28, .mv (.t 6), none⟩,
     ⟨some 29, .mv (.t 1), none⟩,
     ⟨some 30, .bin .lss (.t 28) (.t 29), none⟩] [])
  (.cond (.t 30)
   .skip
   (.exit 2)))
 (.blk 3 none
  (.seq (.reg none [⟨some 31, .mv (.t 6), none⟩,
     ⟨some 32, .bin .mul (.c (.d (.int .i64 2))) (.t 31), none⟩,
     ⟨some 7, .mv (.c (.d (.int .i64 0))), none⟩,
     ⟨some 8, .mv (.t 32), none⟩] [])
  (.seq (.blk 4 (some [0, 1, 2, 6, 7])
    f226l1)
  (.seq (.seq (.reg none [⟨some 49, .mv (.t 7), none⟩,
      ⟨some 50, .mv (.t 6), none⟩,
      ⟨some 51, .bin .add (.t 49) (.t 50), none⟩,
      ⟨some 9, .mv (.t 51), none⟩] [])
   (.seq (.reg none [⟨some 52, .mv (.t 9), none⟩,
      ⟨some 53, .mv (.t 1), none⟩,
      ⟨some 54, .bin .lss (.t 52) (.t 53), none⟩] [])
   (.cond (.t 54)
    (.reg none [⟨some 55, .mv (.t 0), none⟩,
      ⟨some 56, .mv (.t 7), none⟩,
      ⟨some 57, .mv (.t 9), none⟩,
      ⟨some 58, .mv (.t 1), none⟩,
      ⟨some 59, .mv (.t 2), none⟩,
      ⟨some 60, .call 258 [(.t 55), (.t 56), (.t 57), (.t 58), (.t 59)], none⟩] [])
    .skip)))
  (.reg none [⟨some 61, .mv (.t 6), none⟩,
    ⟨some 62, .bin .mul (.t 61) (.c (.d (.int .i64 2))), none⟩,
    ⟨some 6, .mv (.t 62), none⟩] []))))))
def f226l2 : PC := .loop [0, 1, 2, 6] [] f226b2
/-- slices.stableCmpFunc[orchestrator/api.Field] -/
def f226 : PFn := ⟨3, 63, [], true,
 (.seq (.reg none [⟨some 6, .mv (.c (.d (.int .i64 20))), none⟩] [])
 (.seq (.reg none [⟨some 10, .mv (.t 6), none⟩,
    ⟨some 7, .mv (.c (.d (.int .i64 0))), none⟩,
    ⟨some 8, .mv (.t 10), none⟩] [])
 (.seq (.blk 0 (some [0, 1, 2, 6, 7])
   f226l0)
 (.seq (.reg none [⟨some 23, .mv (.t 0), none⟩,
    ⟨some 24, .mv (.t 7), none⟩,
    ⟨some 25, .mv (.t 1), none⟩,
    ⟨some 26, .mv (.t 2), none⟩,
    ⟨some 27, .call 257 [(.t 23), (.t 24), (.t 25), (.t 26)], none⟩] [])
 (.blk 2 (some [])
  f226l2)))))⟩
/-- orchestrator/orchestratorref04.scalar -/
def f209 : PFn := ⟨1, 57, [.t 2], false,
 (.seq (.reg none [⟨some 1, .box 59 (.t 0), none⟩,
    ⟨some 2, .mv (.c (.d (.bool false))), none⟩] [])
 (.seq (.seq (.reg none [⟨some 3, .faddr 0 (.t 1), none⟩,
     ⟨some 4, .load1 (.t 3), none⟩] [])
  (.blk 0 none
   (.seq (.reg none [⟨some 6, .bin .eql (.t 4) (.c (.d (.int .i64 1))), none⟩,
      ⟨some 5, .mv (.t 6), none⟩] [])
   (.cond (.t 5)
    (.seq (.reg none [⟨some 7, .faddr 1 (.t 1), none⟩,
       ⟨some 8, .load1 (.t 7), none⟩,
       ⟨some 9, .bin .eql (.t 8) (.c (.d (.int .i64 0))), none⟩,
       ⟨some 10, .mv (.t 9), none⟩,
       ⟨some 11, .faddr 1 (.t 1), some (10, false)⟩,
       ⟨some 12, .load1 (.t 11), some (10, false)⟩,
       ⟨some 13, .bin .eql (.t 12) (.c (.d (.int .i64 1))), some (10, false)⟩,
       ⟨some 14, .pick (.t 10) (.c (.d (.bool true))) (.t 13), none⟩,
       ⟨some 15, .mv (.t 14), none⟩,
       ⟨some 16, .faddr 2 (.t 1), some (15, true)⟩,
       ⟨some 17, .load1 (.t 16), some (15, true)⟩,
       ⟨some 18, .bin .eql (.t 17) (.c (.d (.str []))), some (15, true)⟩,
       ⟨some 19, .pick (.t 15) (.t 18) (.c (.d (.bool false))), none⟩,
       ⟨some 2, .mv (.t 19), none⟩] [])
    .ret)
    (.seq (.reg none [⟨some 21, .bin .eql (.t 4) (.c (.d (.int .i64 2))), none⟩,
       ⟨some 20, .mv (.t 21), none⟩] [])
    (.cond (.t 20)
     (.seq (.reg none [⟨some 22, .faddr 1 (.t 1), none⟩,
        ⟨some 23, .load1 (.t 22), none⟩,
        ⟨some 24, .bin .geq (.t 23) (.c (.d (.int .i64 (-1000000000000000)))), none⟩,
        ⟨some 25, .mv (.t 24), none⟩,
        ⟨some 26, .faddr 1 (.t 1), some (25, true)⟩,
        ⟨some 27, .load1 (.t 26), some (25, true)⟩,
        ⟨some 28, .bin .leq (.t 27) (.c (.d (.int .i64 1000000000000000))), some (25, true)⟩,
        ⟨some 29, .pick (.t 25) (.t 28) (.c (.d (.bool false))), none⟩,
        ⟨some 30, .mv (.t 29), none⟩,
        ⟨some 31, .faddr 2 (.t 1), some (30, true)⟩,
        ⟨some 32, .load1 (.t 31), some (30, true)⟩,
        ⟨some 33, .bin .eql (.t 32) (.c (.d (.str []))), some (30, true)⟩,
        ⟨some 34, .pick (.t 30) (.t 33) (.c (.d (.bool false))), none⟩,
        ⟨some 2, .mv (.t 34), none⟩] [])
     .ret)
     (.seq (.reg none [⟨some 36, .bin .eql (.t 4) (.c (.d (.int .i64 3))), none⟩,
        ⟨some 35, .mv (.t 36), none⟩] [])
     (.cond (.t 35)
      (.seq (.reg none [⟨some 37, .faddr 1 (.t 1), none⟩,
         ⟨some 38, .load1 (.t 37), none⟩,
         ⟨some 39, .bin .eql (.t 38) (.c (.d (.int .i64 0))), none⟩,
         ⟨some 40, .mv (.t 39), none⟩,
         ⟨some 41, .faddr 2 (.t 1), some (40, true)⟩,
         ⟨some 42, .load1 (.t 41), some (40, true)⟩,
         ⟨some 43, .call 244 [(.t 42)], some (40, true)⟩,
         ⟨some 44, .pick (.t 40) (.t 43) (.c (.d (.bool false))), none⟩,
         ⟨some 2, .mv (.t 44), none⟩] [])
      .ret)
      (.seq (.seq (.reg none [⟨some 46, .bin .eql (.t 4) (.c (.d (.int .i64 0))), none⟩,
          ⟨some 45, .mv (.t 46), none⟩] [])
       (.cond (.t 45)
        .skip
        (.seq (.reg none [⟨some 47, .bin .eql (.t 4) (.c (.d (.int .i64 4))), none⟩,
           ⟨some 45, .mv (.t 47), none⟩] [])
        (.cond (.t 45)
         .skip
         (.reg none [⟨some 48, .bin .eql (.t 4) (.c (.d (.int .i64 5))), none⟩,
           ⟨some 45, .mv (.t 48), none⟩] [])))))
      (.cond (.t 45)
       (.seq (.reg none [⟨some 49, .faddr 1 (.t 1), none⟩,
          ⟨some 50, .load1 (.t 49), none⟩,
          ⟨some 51, .bin .eql (.t 50) (.c (.d (.int .i64 0))), none⟩,
          ⟨some 52, .mv (.t 51), none⟩,
          ⟨some 53, .faddr 2 (.t 1), some (52, true)⟩,
          ⟨some 54, .load1 (.t 53), some (52, true)⟩,
          ⟨some 55, .bin .eql (.t 54) (.c (.d (.str []))), some (52, true)⟩,
          ⟨some 56, .pick (.t 52) (.t 55) (.c (.d (.bool false))), none⟩,
          ⟨some 2, .mv (.t 56), none⟩] [])
       .ret)
       .skip))))))))))
 (.seq (.reg none [⟨some 2, .mv (.c (.d (.bool false))), none⟩] [])
 .ret)))⟩
def f210b0 : PC :=
 (.seq (.seq (.reg none [⟨some 6, .mv (.t 3), none⟩,
     ⟨some 7, .mv (.t 0), none⟩,
     ⟨some 8, .lenS (.t 7), none⟩,
     ⟨some 9, .bin .lss (.t 6) (.t 8), none⟩] [])
  (.cond (.t 9)
   .skip
   (.exit 0)))
 (.seq (.blk 1 none
   (.seq (.reg none [⟨some 12, .mv (.t 0), none⟩,
      ⟨some 13, .mv (.t 3), none⟩,
      ⟨some 14, .idx (.t 12) (.t 13), none⟩,
      ⟨some 4, .mv (.t 14), none⟩] [])
   (.seq (.reg none [⟨some 15, .mv (.t 4), none⟩,
      ⟨some 16, .bin .geq (.t 15) (.c (.d (.int .u8 97))), none⟩,
      ⟨some 17, .mv (.t 16), none⟩,
      ⟨some 18, .mv (.t 4), some (17, true)⟩,
      ⟨some 19, .bin .leq (.t 18) (.c (.d (.int .u8 122))), some (17, true)⟩,
      ⟨some 20, .pick (.t 17) (.t 19) (.c (.d (.bool false))), none⟩,
      ⟨some 21, .mv (.t 20), none⟩,
      ⟨some 22, .mv (.t 4), some (21, false)⟩,
      ⟨some 23, .bin .geq (.t 22) (.c (.d (.int .u8 65))), some (21, false)⟩,
      ⟨some 24, .mv (.t 23), some (21, false)⟩,
      ⟨some 25, .mv (.t 4), some (24, true)⟩,
      ⟨some 26, .bin .leq (.t 25) (.c (.d (.int .u8 90))), some (24, true)⟩,
      ⟨some 27, .pick (.t 24) (.t 26) (.c (.d (.bool false))), some (21, false)⟩,
      ⟨some 28, .pick (.t 21) (.c (.d (.bool true))) (.t 27), none⟩,
      ⟨some 5, .mv (.t 28), none⟩] [])
   (.seq (.reg none [⟨some 29, .mv (.t 5), none⟩,
      ⟨some 30, .un .not (.t 29), none⟩,
      ⟨some 31, .mv (.t 30), none⟩,
      ⟨some 32, .mv (.t 4), some (31, true)⟩,
      ⟨some 33, .bin .geq (.t 32) (.c (.d (.int .u8 48))), some (31, true)⟩,
      ⟨some 34, .mv (.t 33), some (31, true)⟩,
      ⟨some 35, .mv (.t 4), some (34, true)⟩,
      ⟨some 36, .bin .leq (.t 35) (.c (.d (.int .u8 57))), some (34, true)⟩,
      ⟨some 37, .pick (.t 34) (.t 36) (.c (.d (.bool false))), some (31, true)⟩,
      ⟨some 38, .un .not (.t 37), some (31, true)⟩,
      ⟨some 39, .pick (.t 31) (.t 38) (.c (.d (.bool false))), none⟩,
      ⟨some 40, .mv (.t 39), none⟩,
      ⟨some 41, .mv (.t 4), some (40, true)⟩,
      ⟨some 42, .bin .neq (.t 41) (.c (.d (.int .u8 45))), some (40, true)⟩,
      ⟨some 43, .pick (.t 40) (.t 42) (.c (.d (.bool false))), none⟩,
      ⟨some 44, .mv (.t 43), none⟩,
      ⟨some 45, .mv (.t 4), some (44, true)⟩,
      ⟨some 46, .bin .neq (.t 45) (.c (.d (.int .u8 95))), some (44, true)⟩,
      ⟨some 47, .pick (.t 44) (.t 46) (.c (.d (.bool false))), none⟩,
      ⟨some 48, .mv (.t 47), none⟩,
      ⟨some 49, .mv (.t 4), some (48, true)⟩,
      ⟨some 50, .bin .neq (.t 49) (.c (.d (.int .u8 47))), some (48, true)⟩,
      ⟨some 51, .pick (.t 48) (.t 50) (.c (.d (.bool false))), none⟩] [])
   (.cond (.t 51)
    (.seq (.reg none [⟨some 2, .mv (.c (.d (.bool false))), none⟩] [])
    .ret)
    .skip)))))
 (.reg none [⟨some 10, .mv (.t 3), none⟩,
   ⟨some 11, .bin .add (.t 10) (.c (.d (.int .i64 1))), none⟩,
   ⟨some 3, .mv (.t 11), none⟩] [])))
def f210l0 : PC := .loop [0, 3] [] f210b0
/-- orchestrator/orchestratorref04.ValidField -/
def f210 : PFn := ⟨1, 60, [.t 2], false,
 (.seq (.reg none [⟨some 2, .mv (.c (.d (.bool false))), none⟩] [])
 (.seq (.seq (.reg none [⟨some 3, .mv (.c (.d (.int .i64 0))), none⟩] [])
  (.blk 0 (some [0])
   f210l0))
 (.seq (.reg none [⟨some 52, .mv (.t 0), none⟩,
    ⟨some 53, .lenS (.t 52), none⟩,
    ⟨some 54, .bin .geq (.t 53) (.c (.d (.int .i64 1))), none⟩,
    ⟨some 55, .mv (.t 54), none⟩,
    ⟨some 56, .mv (.t 0), some (55, true)⟩,
    ⟨some 57, .lenS (.t 56), some (55, true)⟩,
    ⟨some 58, .bin .leq (.t 57) (.c (.d (.int .i64 40))), some (55, true)⟩,
    ⟨some 59, .pick (.t 55) (.t 58) (.c (.d (.bool false))), none⟩,
    ⟨some 2, .mv (.t 59), none⟩] [])
 .ret)))⟩
def f192b0 : PC :=
 (.seq (.reg none [⟨some 31, .bin .lss (.t 30) (.t 29), none⟩] [])
 (.seq (.cond (.t 31)
   .skip
   (.exit 2))
 (.seq (.blk 3 none
   (.seq (.reg none [⟨some 32, .iaddr 2 (.t 28) (.t 30), none⟩,
      ⟨some 33, .loadn 2 (.t 32), none⟩,
      ⟨some 6, .alloc 133 [(.d (.str [])), (.d (.str []))], none⟩,
      ⟨none, .store 2 (.t 6) (.t 33), none⟩] [])
   (.seq (.reg none [⟨some 34, .faddr 0 (.t 4), none⟩,
      ⟨some 35, .load1 (.t 34), none⟩,
      ⟨some 36, .faddr 0 (.t 6), none⟩,
      ⟨some 37, .load1 (.t 36), none⟩,
      ⟨some 38, .bin .eql (.t 35) (.t 37), none⟩,
      ⟨some 39, .mv (.t 38), none⟩,
      ⟨some 40, .faddr 1 (.t 4), some (39, false)⟩,
      ⟨some 41, .load1 (.t 40), some (39, false)⟩,
      ⟨some 42, .faddr 1 (.t 6), some (39, false)⟩,
      ⟨some 43, .load1 (.t 42), some (39, false)⟩,
      ⟨some 44, .bin .eql (.t 41) (.t 43), some (39, false)⟩,
      ⟨some 45, .pick (.t 39) (.c (.d (.bool true))) (.t 44), none⟩] [])
   (.cond (.t 45)
    (.seq (.reg none [⟨some 2, .mv (.c (.d (.bool false))), none⟩] [])
    .ret)
    .skip))))
 (.reg none [⟨some 46, .bin .add (.t 30) (.c (.d (.int .i64 1))), none⟩,
   ⟨some 30, .mv (.t 46), none⟩] []))))
def f192l0 : PC := .loop [0, 4, 7, 8, 9, 28, 29, 30] [] f192b0
def f192b1 : PC :=
 (.seq (.reg none [⟨some 10, .bin .lss (.t 9) (.t 8), none⟩] [])
 (.seq (.cond (.t 10)
   .skip
   (.exit 0))
 (.seq (.blk 1 none
   (.seq (.reg none [⟨some 11, .mv (.t 9), none⟩,
      ⟨some 12, .iaddr 2 (.t 7) (.t 9), none⟩,
      ⟨some 13, .loadn 2 (.t 12), none⟩,
      ⟨some 4, .alloc 133 [(.d (.str [])), (.d (.str []))], none⟩,
      ⟨some 3, .mv (.t 11), none⟩,
      ⟨none, .store 2 (.t 4) (.t 13), none⟩] [])
   (.seq (.seq (.reg none [⟨some 14, .faddr 0 (.t 4), none⟩,
       ⟨some 15, .load1 (.t 14), none⟩,
       ⟨some 16, .call 220 [(.t 15)], none⟩,
       ⟨some 17, .call 120 [(.t 16)], none⟩,
       ⟨some 18, .un .not (.t 17), none⟩,
       ⟨some 19, .mv (.t 18), none⟩,
       ⟨some 20, .faddr 1 (.t 4), some (19, false)⟩,
       ⟨some 21, .load1 (.t 20), some (19, false)⟩,
       ⟨some 22, .call 220 [(.t 21)], some (19, false)⟩,
       ⟨some 23, .call 120 [(.t 22)], some (19, false)⟩,
       ⟨some 24, .un .not (.t 23), some (19, false)⟩,
       ⟨some 25, .pick (.t 19) (.c (.d (.bool true))) (.t 24), none⟩] [])
    (.cond (.t 25)
     (.seq (.reg none [⟨some 2, .mv (.c (.d (.bool false))), none⟩] [])
     .ret)
     .skip))
   (.seq (.reg none [⟨some 26, .mv (.t 0), none⟩,
      ⟨some 27, .mv (.t 3), none⟩,
      ⟨some 28, .slc 2 (.t 26) none (some (.t 27)) none, none⟩,
      ⟨some 29, .lenL (.t 28), none⟩,
      ⟨some 30, .mv (.c (.d (.int .i64 0))), none⟩] [])
   (.blk 2 (some [0, 7, 8, 9])
    f192l0)))))
 (.reg none [⟨some 47, .bin .add (.t 9) (.c (.d (.int .i64 1))), none⟩,
   ⟨some 9, .mv (.t 47), none⟩] []))))
def f192l1 : PC := .loop [0, 7, 8, 9] [] f192b1
/-- orchestrator/convert.validNames -/
def f192 : PFn := ⟨1, 56, [.t 2], false,
 (.seq (.reg none [⟨some 2, .mv (.c (.d (.bool false))), none⟩] [])
 (.seq (.seq (.reg none [⟨some 7, .mv (.t 0), none⟩,
     ⟨some 8, .lenL (.t 7), none⟩,
     ⟨some 9, .mv (.c (.d (.int .i64 0))), none⟩] [])
  (.blk 0 (some [0])
   f192l1))
 (.seq (.reg none [⟨some 48, .mv (.t 0), none⟩,
    ⟨some 49, .lenL (.t 48), none⟩,
    ⟨some 50, .bin .geq (.t 49) (.c (.d (.int .i64 1))), none⟩,
    ⟨some 51, .mv (.t 50), none⟩,
    ⟨some 52, .mv (.t 0), some (51, true)⟩,
    ⟨some 53, .lenL (.t 52), some (51, true)⟩,
    ⟨some 54, .bin .leq (.t 53) (.c (.d (.int .i64 64))), some (51, true)⟩,
    ⟨some 55, .pick (.t 51) (.t 54) (.c (.d (.bool false))), none⟩,
    ⟨some 2, .mv (.t 55), none⟩] [])
 .ret)))⟩
/-- orchestrator/path.bracket -/
def f227 : PFn := ⟨1, 72, [.cn 2 4, .t 3, .t 4], false,
 (.seq (.reg none [⟨some 2, .alloc 239 [(.d (.int .i64 0)), (.d (.str [])), (.d (.int .i64 0)), (.d (.str []))], none⟩,
    ⟨some 3, .mv (.c (.d (.str []))), none⟩,
    ⟨some 4, .mv (.c (.d (.bool false))), none⟩] [])
 (.seq (.reg none [⟨some 10, .mv (.t 0), none⟩,
    ⟨some 11, .sstr (.t 10) (some (.c (.d (.int .i64 1)))) none, none⟩,
    ⟨some 12, .call 228 [(.t 11)], none⟩,
    ⟨some 5, .mv (.t 12), none⟩] [])
 (.seq (.reg (some []) [⟨some 13, .mv (.t 0), none⟩,
    ⟨some 14, .mv (.t 5), none⟩,
    ⟨some 15, .bin .add (.c (.d (.int .i64 1))) (.t 14), none⟩,
    ⟨some 16, .sstr (.t 13) (some (.c (.d (.int .i64 1)))) (some (.t 15)), none⟩,
    ⟨some 17, .mv (.t 0), none⟩,
    ⟨some 18, .mv (.t 5), none⟩,
    ⟨some 19, .bin .add (.c (.d (.int .i64 1))) (.t 18), none⟩,
    ⟨some 20, .sstr (.t 17) (some (.t 19)) none, none⟩,
    ⟨some 6, .mv (.t 16), none⟩,
    ⟨some 3, .mv (.t 20), none⟩] [])
 (.seq (.blk 0 none
   (.seq (.reg none [⟨some 22, .mv (.t 5), none⟩,
      ⟨some 23, .bin .eql (.t 22) (.c (.d (.int .i64 0))), none⟩,
      ⟨some 24, .mv (.t 23), none⟩,
      ⟨some 25, .mv (.t 3), some (24, false)⟩,
      ⟨some 26, .bin .eql (.t 25) (.c (.d (.str []))), some (24, false)⟩,
      ⟨some 27, .pick (.t 24) (.c (.d (.bool true))) (.t 26), none⟩,
      ⟨some 21, .mv (.t 27), none⟩] [])
   (.cond (.t 21)
    (.seq (.reg none [⟨some 28, .loadn 4 (.t 2), none⟩,
       ⟨none, .store 4 (.t 2) (.t 28), none⟩,
       ⟨some 3, .mv (.c (.d (.str []))), none⟩,
       ⟨some 4, .mv (.c (.d (.bool false))), none⟩] [])
    .ret)
    (.seq (.reg none [⟨some 30, .mv (.t 3), none⟩,
       ⟨some 31, .idx (.t 30) (.c (.d (.int .i64 0))), none⟩,
       ⟨some 32, .bin .eql (.t 31) (.c (.d (.int .u8 93))), none⟩,
       ⟨some 29, .mv (.t 32), none⟩] [])
    (.cond (.t 29)
     (.seq (.reg none [⟨some 34, .mv (.t 6), none⟩,
        ⟨some 35, .call 259 [(.t 34)], none⟩,
        ⟨some 33, .mv (.t 35), none⟩,
        ⟨some 36, .ext (.t 33) 0, none⟩,
        ⟨some 37, .ext (.t 33) 1, none⟩,
        ⟨some 7, .mv (.t 36), none⟩,
        ⟨some 8, .mv (.t 37), none⟩] [])
     (.seq (.reg (some []) [⟨some 38, .mv (.t 7), none⟩,
        ⟨some 39, .build [(.d (.int .i64 0)), (.d (.str [])), (.d (.int .i64 0)), (.d (.str []))] [(0, 1, (.c (.d (.int .i64 2)))), (2, 1, (.t 38))], none⟩,
        ⟨some 40, .mv (.t 3), none⟩,
        ⟨some 41, .sstr (.t 40) (some (.c (.d (.int .i64 1)))) none, none⟩,
        ⟨some 42, .mv (.t 8), none⟩,
        ⟨none, .store 4 (.t 2) (.t 39), none⟩,
        ⟨some 3, .mv (.t 41), none⟩,
        ⟨some 4, .mv (.t 42), none⟩] [])
     .ret))
     (.seq (.reg none [⟨some 44, .mv (.t 3), none⟩,
        ⟨some 45, .idx (.t 44) (.c (.d (.int .i64 0))), none⟩,
        ⟨some 46, .bin .neq (.t 45) (.c (.d (.int .u8 61))), none⟩,
        ⟨some 43, .mv (.t 46), none⟩] [])
     (.cond (.t 43)
      (.seq (.reg none [⟨some 47, .loadn 4 (.t 2), none⟩,
         ⟨none, .store 4 (.t 2) (.t 47), none⟩,
         ⟨some 3, .mv (.c (.d (.str []))), none⟩,
         ⟨some 4, .mv (.c (.d (.bool false))), none⟩] [])
      .ret)
      .skip)))))))
 (.seq (.reg none [⟨some 49, .mv (.t 3), none⟩,
    ⟨some 50, .sstr (.t 49) (some (.c (.d (.int .i64 1)))) none, none⟩,
    ⟨some 51, .call 260 [(.t 50)], none⟩,
    ⟨some 48, .mv (.t 51), none⟩,
    ⟨some 52, .ext (.t 48) 0, none⟩,
    ⟨some 53, .ext (.t 48) 1, none⟩,
    ⟨some 54, .ext (.t 48) 2, none⟩,
    ⟨some 9, .mv (.t 52), none⟩,
    ⟨some 3, .mv (.t 53), none⟩,
    ⟨some 4, .mv (.t 54), none⟩] [])
 (.seq (.seq (.reg none [⟨some 55, .mv (.t 4), none⟩,
     ⟨some 56, .un .not (.t 55), none⟩,
     ⟨some 57, .mv (.t 56), none⟩,
     ⟨some 58, .mv (.t 3), some (57, false)⟩,
     ⟨some 59, .bin .eql (.t 58) (.c (.d (.str []))), some (57, false)⟩,
     ⟨some 60, .pick (.t 57) (.c (.d (.bool true))) (.t 59), none⟩,
     ⟨some 61, .mv (.t 60), none⟩,
     ⟨some 62, .mv (.t 3), some (61, false)⟩,
     ⟨some 63, .idx (.t 62) (.c (.d (.int .i64 0))), some (61, false)⟩,
     ⟨some 64, .bin .neq (.t 63) (.c (.d (.int .u8 93))), some (61, false)⟩,
     ⟨some 65, .pick (.t 61) (.c (.d (.bool true))) (.t 64), none⟩] [])
  (.cond (.t 65)
   (.seq (.reg none [⟨some 66, .loadn 4 (.t 2), none⟩,
      ⟨none, .store 4 (.t 2) (.t 66), none⟩,
      ⟨some 3, .mv (.c (.d (.str []))), none⟩,
      ⟨some 4, .mv (.c (.d (.bool false))), none⟩] [])
   .ret)
   .skip))
 (.seq (.reg (some []) [⟨some 67, .mv (.t 6), none⟩,
    ⟨some 68, .mv (.t 9), none⟩,
    ⟨some 69, .build [(.d (.int .i64 0)), (.d (.str [])), (.d (.int .i64 0)), (.d (.str []))] [(0, 1, (.c (.d (.int .i64 3)))), (1, 1, (.t 67)), (3, 1, (.t 68))], none⟩,
    ⟨some 70, .mv (.t 3), none⟩,
    ⟨some 71, .sstr (.t 70) (some (.c (.d (.int .i64 1)))) none, none⟩,
    ⟨none, .store 4 (.t 2) (.t 69), none⟩,
    ⟨some 3, .mv (.t 71), none⟩,
    ⟨some 4, .mv (.c (.d (.bool true))), none⟩] [])
 .ret)))))))⟩
def f228b0 : PC :=
 (.seq (.reg none [⟨some 7, .nxt (.t 6), none⟩,
    ⟨some 8, .ext (.t 7) 0, none⟩] [])
 (.seq (.cond (.t 8)
   .skip
   (.exit 0))
 (.blk 1 none
  (.seq (.reg none [⟨some 9, .ext (.t 7) 1, none⟩,
     ⟨some 10, .ext (.t 7) 2, none⟩,
     ⟨some 3, .mv (.t 9), none⟩,
     ⟨some 4, .mv (.t 10), none⟩] [])
  (.seq (.reg none [⟨some 11, .mv (.t 4), none⟩,
     ⟨some 12, .call 261 [(.t 11)], none⟩,
     ⟨some 13, .un .not (.t 12), none⟩] [])
  (.cond (.t 13)
   (.seq (.reg none [⟨some 14, .mv (.t 3), none⟩,
      ⟨some 2, .mv (.t 14), none⟩] [])
   .ret)
   .skip))))))
def f228l0 : PC := .loop [0, 6] [] f228b0
/-- orchestrator/path.nameLength -/
def f228 : PFn := ⟨1, 17, [.t 2], false,
 (.seq (.reg none [⟨some 2, .mv (.c (.d (.int .i64 0))), none⟩] [])
 (.seq (.seq (.reg none [⟨some 5, .mv (.t 0), none⟩,
     ⟨some 6, .rng (.t 5), none⟩] [])
  (.blk 0 (some [0])
   f228l0))
 (.seq (.reg none [⟨some 15, .mv (.t 0), none⟩,
    ⟨some 16, .lenS (.t 15), none⟩,
    ⟨some 2, .mv (.t 16), none⟩] [])
 .ret)))⟩
/-- orchestrator/path.Valid -/
def f229 : PFn := ⟨1, 11, [.t 2], false,
 (.seq (.reg none [⟨some 2, .mv (.c (.d (.bool false))), none⟩] [])
 (.seq (.reg none [⟨some 3, .mv (.t 0), none⟩,
    ⟨some 4, .lenL (.t 3), none⟩,
    ⟨some 5, .bin .leq (.t 4) (.c (.d (.int .i64 16))), none⟩,
    ⟨some 6, .mv (.t 5), none⟩,
    ⟨some 7, .mv (.t 0), some (6, true)⟩,
    ⟨some 8, .call 194 [(.t 7), (.c (.fn 262 []))], some (6, true)⟩,
    ⟨some 9, .un .not (.t 8), some (6, true)⟩,
    ⟨some 10, .pick (.t 6) (.t 9) (.c (.d (.bool false))), none⟩,
    ⟨some 2, .mv (.t 10), none⟩] [])
 .ret))⟩
def f230b0 : PC :=
 (.seq (.reg none [⟨some 9, .bin .lss (.t 8) (.t 7), none⟩] [])
 (.seq (.cond (.t 9)
   .skip
   (.exit 0))
 (.seq (.blk 1 none
   (.seq (.reg none [⟨some 10, .mv (.t 8), none⟩,
      ⟨some 5, .mv (.t 10), none⟩] [])
   (.seq (.reg none [⟨some 11, .mv (.t 1), none⟩,
      ⟨some 12, .mv (.t 0), none⟩,
      ⟨some 13, .mv (.t 5), none⟩,
      ⟨some 14, .iaddr 4 (.t 12) (.t 13), none⟩,
      ⟨some 15, .loadn 4 (.t 14), none⟩,
      ⟨some 16, .callv (.t 11) [(.t 15)], none⟩] [])
   (.cond (.t 16)
    (.seq (.reg none [⟨some 17, .mv (.t 5), none⟩,
       ⟨some 4, .mv (.t 17), none⟩] [])
    .ret)
    .skip))))
 (.reg none [⟨some 18, .bin .add (.t 8) (.c (.d (.int .i64 1))), none⟩,
   ⟨some 8, .mv (.t 18), none⟩] []))))
def f230l0 : PC := .loop [0, 1, 7, 8] [] f230b0
/-- slices.IndexFunc[[]orchestrator/api.Step,orchestrator/api.Step] -/
def f230 : PFn := ⟨2, 19, [.t 4], true,
 (.seq (.reg none [⟨some 4, .mv (.c (.d (.int .i64 0))), none⟩] [])
 (.seq (.seq (.reg none [⟨some 6, .mv (.t 0), none⟩,
     ⟨some 7, .lenL (.t 6), none⟩,
     ⟨some 8, .mv (.c (.d (.int .i64 0))), none⟩] [])
  (.blk 0 (some [])
   f230l0))
 (.seq (.reg none [⟨some 4, .mv (.c (.d (.int .i64 (-1)))), none⟩] [])
 .ret)))⟩
def f231b0 : PC :=
 (.seq (.reg none [⟨some 14, .bin .lss (.t 13) (.t 12), none⟩] [])
 (.seq (.cond (.t 14)
   .skip
   (.exit 0))
 (.seq (.blk 1 none
   (.seq (.reg none [⟨some 15, .mv (.t 13), none⟩,
      ⟨some 5, .mv (.t 15), none⟩] [])
   (.seq (.reg (some []) [⟨some 16, .mv (.t 0), none⟩,
      ⟨some 17, .mv (.t 5), none⟩,
      ⟨some 18, .iaddr 4 (.t 16) (.t 17), none⟩,
      ⟨some 19, .loadn 4 (.t 18), none⟩,
      ⟨some 20, .mv (.t 1), none⟩,
      ⟨some 21, .mv (.t 5), none⟩,
      ⟨some 22, .iaddr 4 (.t 20) (.t 21), none⟩,
      ⟨some 23, .loadn 4 (.t 22), none⟩,
      ⟨some 24, .eqs true [.i, .s, .i, .s] (.t 19) (.t 23), none⟩] [])
   (.cond (.t 24)
    (.seq (.reg none [⟨some 4, .mv (.c (.d (.bool false))), none⟩] [])
    .ret)
    .skip))))
 (.reg none [⟨some 25, .bin .add (.t 13) (.c (.d (.int .i64 1))), none⟩,
   ⟨some 13, .mv (.t 25), none⟩] []))))
def f231l0 : PC := .loop [0, 1, 12, 13] [] f231b0
/-- slices.Equal[[]orchestrator/api.Step,orchestrator/api.Step] -/
def f231 : PFn := ⟨2, 26, [.t 4], true,
 (.seq (.reg none [⟨some 4, .mv (.c (.d (.bool false))), none⟩] [])
 (.seq (.seq (.reg none [⟨some 6, .mv (.t 0), none⟩,
     ⟨some 7, .lenL (.t 6), none⟩,
     ⟨some 8, .mv (.t 1), none⟩,
     ⟨some 9, .lenL (.t 8), none⟩,
     ⟨some 10, .bin .neq (.t 7) (.t 9), none⟩] [])
  (.cond (.t 10)
   (.seq (.reg none [⟨some 4, .mv (.c (.d (.bool false))), none⟩] [])
   .ret)
   .skip))
 (.seq (.seq (.reg none [⟨some 11, .mv (.t 0), none⟩,
     ⟨some 12, .lenL (.t 11), none⟩,
     ⟨some 13, .mv (.c (.d (.int .i64 0))), none⟩] [])
  (.blk 0 (some [])
   f231l0))
 (.seq (.reg none [⟨some 4, .mv (.c (.d (.bool true))), none⟩] [])
 .ret))))⟩
/-- orchestrator/kinds.probe -/
def f232 : PFn := ⟨0, 15, [.cn 0 7], false,
 (.seq (.reg none [⟨some 0, .alloc 27 [(.d (.int .i64 0)), (.d (.int .i64 0)), (.d (.int .i64 0)), .nil, (.d (.str [])), .nil, .nil], none⟩] [])
 (.seq (.reg none [⟨some 1, .call 59 [], none⟩,
    ⟨some 2, .call 58 [(.c (.d (.str [100, 101, 108, 97, 121]))), (.t 1)], none⟩,
    ⟨some 3, .call 59 [], none⟩,
    ⟨some 4, .call 145 [(.c (.d (.int .i64 10)))], none⟩,
    ⟨some 5, .call 66 [(.c (.d (.str [112, 101, 114, 105, 111, 100]))), (.t 3), (.t 4)], none⟩,
    ⟨some 6, .call 60 [], none⟩,
    ⟨some 7, .call 145 [(.c (.d (.int .i64 1)))], none⟩,
    ⟨some 8, .call 66 [(.c (.d (.str [115, 117, 99, 99, 101, 115, 115]))), (.t 6), (.t 7)], none⟩,
    ⟨some 9, .call 60 [], none⟩,
    ⟨some 10, .call 145 [(.c (.d (.int .i64 3)))], none⟩,
    ⟨some 11, .call 66 [(.c (.d (.str [102, 97, 105, 108, 117, 114, 101]))), (.t 9), (.t 10)], none⟩,
    ⟨some 12, .lits 135 11 160 [(.str []), (.bool false), (.bool false), (.sl []), (.int .i64 0), (.int .i64 0), (.int .i64 0), (.sl []), (.str []), (.sl []), (.sl [])] 4 [(0, (.t 2)), (1, (.t 5)), (2, (.t 8)), (3, (.t 11))], none⟩,
    ⟨some 13, .call 56 [(.t 12)], none⟩,
    ⟨some 14, .call 153 [(.c (.d (.int .i64 1))), (.t 13)], none⟩,
    ⟨none, .store 7 (.t 0) (.t 14), none⟩] [])
 .ret))⟩
/-- math/bits.Len32 -/
def f241 : PFn := ⟨1, 19, [.t 2], false,
 (.seq (.reg none [⟨some 2, .mv (.c (.d (.int .i64 0))), none⟩] [])
 (.seq (.seq (.reg none [⟨some 3, .mv (.t 0), none⟩,
     ⟨some 4, .bin .geq (.t 3) (.c (.d (.int .u32 65536))), none⟩] [])
  (.cond (.t 4)
   (.seq (.reg none [⟨some 5, .mv (.t 0), none⟩,
      ⟨some 6, .bin .shr (.t 5) (.c (.d (.int .u64 16))), none⟩,
      ⟨some 0, .mv (.t 6), none⟩] [])
   (.reg none [⟨some 2, .mv (.c (.d (.int .i64 16))), none⟩] []))
   .skip))
 (.seq (.seq (.reg none [⟨some 7, .mv (.t 0), none⟩,
     ⟨some 8, .bin .geq (.t 7) (.c (.d (.int .u32 256))), none⟩] [])
  (.cond (.t 8)
   (.seq (.reg none [⟨some 9, .mv (.t 0), none⟩,
      ⟨some 10, .bin .shr (.t 9) (.c (.d (.int .u64 8))), none⟩,
      ⟨some 0, .mv (.t 10), none⟩] [])
   (.reg none [⟨some 11, .mv (.t 2), none⟩,
     ⟨some 12, .bin .add (.t 11) (.c (.d (.int .i64 8))), none⟩,
     ⟨some 2, .mv (.t 12), none⟩] []))
   .skip))
 (.seq (.reg none [⟨some 13, .mv (.t 2), none⟩,
    ⟨some 14, .mv (.t 0), none⟩,
    ⟨some 15, .conv .u8 (.t 14), none⟩,
    ⟨some 16, .idx (.c (.d (.str [0, 1, 2, 2, 3, 3, 3, 3, 4, 4, 4, 4, 4, 4, 4, 4, 5, 5, 5, 5, 5, 5, 5, 5, 5, 5, 5, 5, 5, 5, 5, 5, 6, 6, 6, 6, 6, 6, 6, 6, 6, 6, 6, 6, 6, 6, 6, 6, 6, 6, 6, 6, 6, 6, 6, 6, 6, 6, 6, 6, 6, 6, 6, 6, 7, 7, 7, 7, 7, 7, 7, 7, 7, 7, 7, 7, 7, 7, 7, 7, 7, 7, 7, 7, 7, 7, 7, 7, 7, 7, 7, 7, 7, 7, 7, 7, 7, 7, 7, 7, 7, 7, 7, 7, 7, 7, 7, 7, 7, 7, 7, 7, 7, 7, 7, 7, 7, 7, 7, 7, 7, 7, 7, 7, 7, 7, 7, 7, 8, 8, 8, 8, 8, 8, 8, 8, 8, 8, 8, 8, 8, 8, 8, 8, 8, 8, 8, 8, 8, 8, 8, 8, 8, 8, 8, 8, 8, 8, 8, 8, 8, 8, 8, 8, 8, 8, 8, 8, 8, 8, 8, 8, 8, 8, 8, 8, 8, 8, 8, 8, 8, 8, 8, 8, 8, 8, 8, 8, 8, 8, 8, 8, 8, 8, 8, 8, 8, 8, 8, 8, 8, 8, 8, 8, 8, 8, 8, 8, 8, 8, 8, 8, 8, 8, 8, 8, 8, 8, 8, 8, 8, 8, 8, 8, 8, 8, 8, 8, 8, 8, 8, 8, 8, 8, 8, 8, 8, 8, 8, 8, 8, 8, 8, 8, 8, 8, 8, 8, 8, 8, 8, 8, 8, 8, 8, 8]))) (.t 15), none⟩,
    ⟨some 17, .conv .i64 (.t 16), none⟩,
    ⟨some 18, .bin .add (.t 13) (.t 17), none⟩,
    ⟨some 2, .mv (.t 18), none⟩] [])
 .ret))))⟩
/-- math/bits.Len64 -/
def f242 : PFn := ⟨1, 25, [.t 2], false,
 (.seq (.reg none [⟨some 2, .mv (.c (.d (.int .i64 0))), none⟩] [])
 (.seq (.seq (.reg none [⟨some 3, .mv (.t 0), none⟩,
     ⟨some 4, .bin .geq (.t 3) (.c (.d (.int .u64 4294967296))), none⟩] [])
  (.cond (.t 4)
   (.seq (.reg none [⟨some 5, .mv (.t 0), none⟩,
      ⟨some 6, .bin .shr (.t 5) (.c (.d (.int .u64 32))), none⟩,
      ⟨some 0, .mv (.t 6), none⟩] [])
   (.reg none [⟨some 2, .mv (.c (.d (.int .i64 32))), none⟩] []))
   .skip))
 (.seq (.seq (.reg none [⟨some 7, .mv (.t 0), none⟩,
     ⟨some 8, .bin .geq (.t 7) (.c (.d (.int .u64 65536))), none⟩] [])
  (.cond (.t 8)
   (.seq (.reg none [⟨some 9, .mv (.t 0), none⟩,
      ⟨some 10, .bin .shr (.t 9) (.c (.d (.int .u64 16))), none⟩,
      ⟨some 0, .mv (.t 10), none⟩] [])
   (.reg none [⟨some 11, .mv (.t 2), none⟩,
     ⟨some 12, .bin .add (.t 11) (.c (.d (.int .i64 16))), none⟩,
     ⟨some 2, .mv (.t 12), none⟩] []))
   .skip))
 (.seq (.seq (.reg none [⟨some 13, .mv (.t 0), none⟩,
     ⟨some 14, .bin .geq (.t 13) (.c (.d (.int .u64 256))), none⟩] [])
  (.cond (.t 14)
   (.seq (.reg none [⟨some 15, .mv (.t 0), none⟩,
      ⟨some 16, .bin .shr (.t 15) (.c (.d (.int .u64 8))), none⟩,
      ⟨some 0, .mv (.t 16), none⟩] [])
   (.reg none [⟨some 17, .mv (.t 2), none⟩,
     ⟨some 18, .bin .add (.t 17) (.c (.d (.int .i64 8))), none⟩,
     ⟨some 2, .mv (.t 18), none⟩] []))
   .skip))
 (.seq (.reg none [⟨some 19, .mv (.t 2), none⟩,
    ⟨some 20, .mv (.t 0), none⟩,
    ⟨some 21, .conv .u8 (.t 20), none⟩,
    ⟨some 22, .idx (.c (.d (.str [0, 1, 2, 2, 3, 3, 3, 3, 4, 4, 4, 4, 4, 4, 4, 4, 5, 5, 5, 5, 5, 5, 5, 5, 5, 5, 5, 5, 5, 5, 5, 5, 6, 6, 6, 6, 6, 6, 6, 6, 6, 6, 6, 6, 6, 6, 6, 6, 6, 6, 6, 6, 6, 6, 6, 6, 6, 6, 6, 6, 6, 6, 6, 6, 7, 7, 7, 7, 7, 7, 7, 7, 7, 7, 7, 7, 7, 7, 7, 7, 7, 7, 7, 7, 7, 7, 7, 7, 7, 7, 7, 7, 7, 7, 7, 7, 7, 7, 7, 7, 7, 7, 7, 7, 7, 7, 7, 7, 7, 7, 7, 7, 7, 7, 7, 7, 7, 7, 7, 7, 7, 7, 7, 7, 7, 7, 7, 7, 8, 8, 8, 8, 8, 8, 8, 8, 8, 8, 8, 8, 8, 8, 8, 8, 8, 8, 8, 8, 8, 8, 8, 8, 8, 8, 8, 8, 8, 8, 8, 8, 8, 8, 8, 8, 8, 8, 8, 8, 8, 8, 8, 8, 8, 8, 8, 8, 8, 8, 8, 8, 8, 8, 8, 8, 8, 8, 8, 8, 8, 8, 8, 8, 8, 8, 8, 8, 8, 8, 8, 8, 8, 8, 8, 8, 8, 8, 8, 8, 8, 8, 8, 8, 8, 8, 8, 8, 8, 8, 8, 8, 8, 8, 8, 8, 8, 8, 8, 8, 8, 8, 8, 8, 8, 8, 8, 8, 8, 8, 8, 8, 8, 8, 8, 8, 8, 8, 8, 8, 8, 8, 8, 8, 8, 8, 8, 8]))) (.t 21), none⟩,
    ⟨some 23, .conv .i64 (.t 22), none⟩,
    ⟨some 24, .bin .add (.t 19) (.t 23), none⟩,
    ⟨some 2, .mv (.t 24), none⟩] [])
 .ret)))))⟩
def f233b0 : PC :=
 (.seq (.seq (.reg (some []) [⟨some 18, .mv (.t 9), none⟩,
     ⟨some 19, .mv (.t 1), none⟩,
     ⟨some 20, .bin .gtr (.t 18) (.t 19), none⟩,
     ⟨some 21, .mv (.t 20), none⟩,
     ⟨some 22, .mv (.t 3), some (21, true)⟩,
     ⟨some 23, .mv (.t 0), some (21, true)⟩,
     ⟨some 24, .mv (.t 9), some (21, true)⟩,
     ⟨some 25, .iaddr 11 (.t 23) (.t 24), some (21, true)⟩,
     ⟨some 26, .loadn 11 (.t 25), some (21, true)⟩,
     ⟨some 27, .mv (.t 0), some (21, true)⟩,
     ⟨some 28, .mv (.t 9), some (21, true)⟩,
     ⟨some 29, .bin .sub (.t 28) (.c (.d (.int .i64 1))), some (21, true)⟩,
     ⟨some 30, .iaddr 11 (.t 27) (.t 29), some (21, true)⟩,
     ⟨some 31, .loadn 11 (.t 30), some (21, true)⟩,
     ⟨some 32, .callv (.t 22) [(.t 26), (.t 31)], some (21, true)⟩,
     ⟨some 33, .bin .lss (.t 32) (.c (.d (.int .i64 0))), some (21, true)⟩,
     ⟨some 34, .pick (.t 21) (.t 33) (.c (.d (.bool false))), none⟩] [])
  (.cond (.t 34)
   .skip
   (.exit 2)))
 (.seq (.blk 3 none
   (.reg (some []) [⟨some 37, .mv (.t 0), none⟩,
     ⟨some 38, .mv (.t 9), none⟩,
     ⟨some 39, .mv (.t 0), none⟩,
     ⟨some 40, .mv (.t 9), none⟩,
     ⟨some 41, .bin .sub (.t 40) (.c (.d (.int .i64 1))), none⟩,
     ⟨some 42, .mv (.t 0), none⟩,
     ⟨some 43, .mv (.t 9), none⟩,
     ⟨some 44, .bin .sub (.t 43) (.c (.d (.int .i64 1))), none⟩,
     ⟨some 45, .iaddr 11 (.t 42) (.t 44), none⟩,
     ⟨some 46, .loadn 11 (.t 45), none⟩,
     ⟨some 47, .mv (.t 0), none⟩,
     ⟨some 48, .mv (.t 9), none⟩,
     ⟨some 49, .iaddr 11 (.t 47) (.t 48), none⟩,
     ⟨some 50, .loadn 11 (.t 49), none⟩,
     ⟨some 51, .iaddr 11 (.t 37) (.t 38), none⟩,
     ⟨none, .store 11 (.t 51) (.t 46), none⟩,
     ⟨some 52, .iaddr 11 (.t 39) (.t 41), none⟩,
     ⟨none, .store 11 (.t 52) (.t 50), none⟩] []))
 (.reg none [⟨some 35, .mv (.t 9), none⟩,
   ⟨some 36, .bin .sub (.t 35) (.c (.d (.int .i64 1))), none⟩,
   ⟨some 9, .mv (.t 36), none⟩] [])))
def f233l0 : PC := .loop [0, 1, 2, 3, 8, 9] [] f233b0
def f233b1 : PC :=
 (.seq (.seq (.reg none [⟨some 12, .mv (.t 8), none⟩,
     ⟨some 13, .mv (.t 2), none⟩,
     ⟨some 14, .bin .lss (.t 12) (.t 13), none⟩] [])
  (.cond (.t 14)
   .skip
   (.exit 0)))
 (.seq (.blk 1 none
   (.seq (.reg none [⟨some 17, .mv (.t 8), none⟩,
      ⟨some 9, .mv (.t 17), none⟩] [])
   (.blk 2 (some [0, 1, 2, 3, 8])
    f233l0)))
 (.reg none [⟨some 15, .mv (.t 8), none⟩,
   ⟨some 16, .bin .add (.t 15) (.c (.d (.int .i64 1))), none⟩,
   ⟨some 8, .mv (.t 16), none⟩] [])))
def f233l1 : PC := .loop [0, 1, 2, 3, 8] [] f233b1
/-- slices.insertionSortCmpFunc[orchestrator/api.SchemaField] -/
def f233 : PFn := ⟨4, 53, [], true,
 (.seq (.reg none [⟨some 10, .mv (.t 1), none⟩,
    ⟨some 11, .bin .add (.t 10) (.c (.d (.int .i64 1))), none⟩,
    ⟨some 8, .mv (.t 11), none⟩] [])
 (.blk 0 (some [])
  f233l1))⟩
def f234b0 : PC :=
 (.seq (.seq (.reg none [⟨some 20, .mv (.t 11), none⟩,
     ⟨some 21, .bin .geq (.t 20) (.c (.d (.int .i64 0))), none⟩] [])
  (.cond (.t 21)
   .skip
   (.exit 0)))
 (.seq (.blk 1 none
   (.reg none [⟨some 24, .mv (.t 0), none⟩,
     ⟨some 25, .mv (.t 11), none⟩,
     ⟨some 26, .mv (.t 10), none⟩,
     ⟨some 27, .mv (.t 8), none⟩,
     ⟨some 28, .mv (.t 3), none⟩,
     ⟨some 29, .call 264 [(.t 24), (.t 25), (.t 26), (.t 27), (.t 28)], none⟩] []))
 (.reg none [⟨some 22, .mv (.t 11), none⟩,
   ⟨some 23, .bin .sub (.t 22) (.c (.d (.int .i64 1))), none⟩,
   ⟨some 11, .mv (.t 23), none⟩] [])))
def f234l0 : PC := .loop [0, 3, 8, 9, 10, 11] [] f234b0
def f234b1 : PC :=
 (.seq (.seq (.reg none [⟨some 32, .mv (.t 12), none⟩,
     ⟨some 33, .bin .geq (.t 32) (.c (.d (.int .i64 0))), none⟩] [])
  (.cond (.t 33)
   .skip
   (.exit 2)))
 (.seq (.blk 3 none
   (.seq (.reg (some []) [⟨some 36, .mv (.t 0), none⟩,
      ⟨some 37, .mv (.t 8), none⟩,
      ⟨some 38, .mv (.t 0), none⟩,
      ⟨some 39, .mv (.t 8), none⟩,
      ⟨some 40, .mv (.t 12), none⟩,
      ⟨some 41, .bin .add (.t 39) (.t 40), none⟩,
      ⟨some 42, .mv (.t 0), none⟩,
      ⟨some 43, .mv (.t 8), none⟩,
      ⟨some 44, .mv (.t 12), none⟩,
      ⟨some 45, .bin .add (.t 43) (.t 44), none⟩,
      ⟨some 46, .iaddr 11 (.t 42) (.t 45), none⟩,
      ⟨some 47, .loadn 11 (.t 46), none⟩,
      ⟨some 48, .mv (.t 0), none⟩,
      ⟨some 49, .mv (.t 8), none⟩,
      ⟨some 50, .iaddr 11 (.t 48) (.t 49), none⟩,
      ⟨some 51, .loadn 11 (.t 50), none⟩,
      ⟨some 52, .iaddr 11 (.t 36) (.t 37), none⟩,
      ⟨none, .store 11 (.t 52) (.t 47), none⟩,
      ⟨some 53, .iaddr 11 (.t 38) (.t 41), none⟩,
      ⟨none, .store 11 (.t 53) (.t 51), none⟩] [])
   (.reg none [⟨some 54, .mv (.t 0), none⟩,
     ⟨some 55, .mv (.t 9), none⟩,
     ⟨some 56, .mv (.t 12), none⟩,
     ⟨some 57, .mv (.t 8), none⟩,
     ⟨some 58, .mv (.t 3), none⟩,
     ⟨some 59, .call 264 [(.t 54), (.t 55), (.t 56), (.t 57), (.t 58)], none⟩] [])))
 (.reg none [⟨some 34, .mv (.t 12), none⟩,
   ⟨some 35, .bin .sub (.t 34) (.c (.d (.int .i64 1))), none⟩,
   ⟨some 12, .mv (.t 35), none⟩] [])))
def f234l1 : PC := .loop [0, 3, 8, 9, 12] [] f234b1
/-- slices.heapSortCmpFunc[orchestrator/api.SchemaField] -/
def f234 : PFn := ⟨4, 60, [], true,
 (.seq (.reg none [⟨some 13, .mv (.t 1), none⟩,
    ⟨some 8, .mv (.t 13), none⟩] [])
 (.seq (.reg none [⟨some 9, .mv (.c (.d (.int .i64 0))), none⟩] [])
 (.seq (.reg none [⟨some 14, .mv (.t 2), none⟩,
    ⟨some 15, .mv (.t 1), none⟩,
    ⟨some 16, .bin .sub (.t 14) (.t 15), none⟩,
    ⟨some 10, .mv (.t 16), none⟩] [])
 (.seq (.seq (.reg none [⟨some 17, .mv (.t 10), none⟩,
     ⟨some 18, .bin .sub (.t 17) (.c (.d (.int .i64 1))), none⟩,
     ⟨some 19, .bin .quo (.t 18) (.c (.d (.int .i64 2))), none⟩,
     ⟨some 11, .mv (.t 19), none⟩] [])
  (.blk 0 (some [0, 3, 8, 9, 10])
   f234l0))
 (.seq (.reg none [⟨some 30, .mv (.t 10), none⟩,
    ⟨some 31, .bin .sub (.t 30) (.c (.d (.int .i64 1))), none⟩,
    ⟨some 12, .mv (.t 31), none⟩] [])
 (.blk 2 (some [])
  f234l1))))))⟩
end Go.K18
