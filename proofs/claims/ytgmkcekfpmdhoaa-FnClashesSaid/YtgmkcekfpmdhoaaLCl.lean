/- The types and the functions that a law reaches, told for the reading (Fw). Written by a program (gen.py). -/
import Derived.Test.YtgmkcekfpmdhoaaFwC
import Derived.Test.YtgmkcekfpmdhoaaPuAll
import Derived.Test.YtgmkcekfpmdhoaaProg
namespace Go.Proofs.Ytgmkcekfpmdhoaa.LCl
open Go Go.Fw
open Go.Proofs
noncomputable def tyL : List (Nat × TI) := [(2, ⟨(.int .i64), 0, 8⟩),
  (3, ⟨(.int .i64), 0, 8⟩),
  (4, ⟨.bool, 0, 1⟩),
  (5, ⟨(.int .u8), 0, 1⟩),
  (24, ⟨(.slc (.int .i64)), 2, 24⟩),
  (27, ⟨(.slc (.pair (.int .i16) (.pair (.int .i16) (.pair (.int .i16) (.pair (.slc (.int .i16)) .unit))))), 51, 24⟩),
  (34, ⟨(.slc (.int .u8)), 5, 24⟩),
  (47, ⟨(.int .i16), 0, 2⟩),
  (49, ⟨(.slc (.int .i16)), 47, 24⟩),
  (51, ⟨(.pair (.int .i16) (.pair (.int .i16) (.pair (.int .i16) (.pair (.slc (.int .i16)) .unit)))), 0, 32⟩),
  (60, ⟨(.ptr (.int .i64)), 0, 8⟩),
  (72, ⟨(.ptr (.pair (.slc (.int .u8)) (.pair (.int .i64) (.pair (.int .u64) .unit)))), 0, 8⟩),
  (76, ⟨(.ptr (.pair (.int .i16) (.pair (.int .i16) (.pair (.int .i16) (.pair (.slc (.int .i16)) .unit))))), 0, 8⟩),
  (94, ⟨(.int .u64), 0, 8⟩),
  (96, ⟨(.pair (.slc (.int .u8)) (.pair (.int .i64) (.pair (.int .u64) .unit))), 0, 40⟩),
  (101, ⟨.fn, 0, 8⟩),
  (107, ⟨.fn, 0, 8⟩)]
noncomputable def T : Nat → Option TI := findT tyL
/- laws.a2Long -/
noncomputable def I14 : Inst := { f := 14, nt := 13, params := [((.ro (.slc (.int .u8))), false), ((.ro (.slc (.int .u8))), false)], res := [(.ro .bool)], slots := [.tmp 4], code := bd Try.f14 }
/- spec.l00From -/
noncomputable def I39 : Inst := { f := 39, nt := 6, params := [((.ro (.slc (.int .u8))), false)], res := [(.box (.ro (.pair (.slc (.int .u8)) (.pair (.int .i64) (.pair (.int .u64) .unit)))))], slots := [.tmp 2], code := bd Try.f39, strict := true }
/- spec.l00Src).next -/
noncomputable def I75 : Inst := { f := 75, nt := 62, params := [((.box (.ro (.pair (.slc (.int .u8)) (.pair (.int .i64) (.pair (.int .u64) .unit))))), true)], res := [(.ro (.int .i64))], slots := [.tmp 2], code := bd Try.f75, strict := true, pins := [0] }
/- spec.l00Src).pick -/
noncomputable def I61 : Inst := { f := 61, nt := 20, params := [((.box (.ro (.pair (.slc (.int .u8)) (.pair (.int .i64) (.pair (.int .u64) .unit))))), true), ((.ro (.int .i64)), false)], res := [(.ro (.int .i64))], slots := [.tmp 4], code := bd Try.f61, strict := true, callee := fun r i => find 0 [(3001, 75), (5003, 75)] (r * 1000 + i), pins := [0] }
/- spec.l00Src).among -/
noncomputable def I76 : Inst := { f := 76, nt := 12, params := [((.box (.ro (.pair (.slc (.int .u8)) (.pair (.int .i64) (.pair (.int .u64) .unit))))), true), ((.ro (.slc (.int .i64))), false)], res := [(.ro (.int .i64))], slots := [.tmp 4], code := bd Try.f76, strict := true, callee := fun r i => find 0 [(1004, 61)] (r * 1000 + i), pins := [0] }
/- spec.l00Src).one -/
noncomputable def I77 : Inst := { f := 77, nt := 9, params := [((.box (.ro (.pair (.slc (.int .u8)) (.pair (.int .i64) (.pair (.int .u64) .unit))))), true), ((.ro (.int .i64)), false)], res := [(.ro .bool)], slots := [.tmp 4], code := bd Try.f77, strict := true, callee := fun r i => find 0 [(1002, 61)] (r * 1000 + i), pins := [0] }
/- spec.l04Cam -/
noncomputable def I62 : Inst := { f := 62, nt := 24, params := [((.box (.ro (.pair (.slc (.int .u8)) (.pair (.int .i64) (.pair (.int .u64) .unit))))), true)], res := [(.ro (.slc (.int .i16)))], slots := [.tmp 2], code := bd Try.f62, strict := true, callee := fun r i => find 0 [(2002, 76), (6001, 77), (7001, 61)] (r * 1000 + i), loops := fun b => find [] [(0, [.own 0 (.box (.ro (.pair (.slc (.int .u8)) (.pair (.int .i64) (.pair (.int .u64) .unit))))), .own 3 (.row false (.int .i16)), .own 4 (.ro (.int .i64))])] b, pins := [0], frz := fun r i => find false [(2001, true)] (r * 1000 + i) }
/- spec.l04Drawn -/
noncomputable def I38 : Inst := { f := 38, nt := 38, params := [((.box (.ro (.pair (.slc (.int .u8)) (.pair (.int .i64) (.pair (.int .u64) .unit))))), true)], res := [(.ro (.slc (.pair (.int .i16) (.pair (.int .i16) (.pair (.int .i16) (.pair (.slc (.int .i16)) .unit))))))], slots := [.tmp 2], code := bd Try.f38, strict := true, callee := fun r i => find 0 [(2001, 61), (5001, 61), (5005, 61), (6001, 62), (7004, 61)] (r * 1000 + i), loops := fun b => find [] [(0, [.own 0 (.box (.ro (.pair (.slc (.int .u8)) (.pair (.int .i64) (.pair (.int .u64) .unit))))), .own 3 (.row false (.pair (.int .i16) (.pair (.int .i16) (.pair (.int .i16) (.pair (.slc (.int .i16)) .unit))))), .own 4 (.ro (.int .i64))])] b, pins := [0] }
/- spec.A2Shafts -/
noncomputable def I15 : Inst := { f := 15, nt := 6, params := [((.ro (.slc (.int .u8))), false)], res := [(.ro (.slc (.pair (.int .i16) (.pair (.int .i16) (.pair (.int .i16) (.pair (.slc (.int .i16)) .unit))))))], slots := [.tmp 2], code := bd Try.f15, strict := true, callee := fun r i => find 0 [(1001, 39), (1002, 38)] (r * 1000 + i) }
/- laws.a2At -/
noncomputable def I16 : Inst := { f := 16, nt := 22, params := [((.ro (.slc (.int .u8))), false), ((.ro (.int .i64)), false), ((.ro (.int .i64)), false)], res := [(.ro (.int .i64))], slots := [.tmp 6], code := bd Try.f16 }
/- spec.l00In -/
noncomputable def I28 : Inst := { f := 28, nt := 15, params := [((.ro (.int .i64)), false), ((.ro (.int .i64)), false), ((.ro (.int .i64)), false)], res := [(.ro .bool)], slots := [.tmp 6], code := bd Try.f28 }
/- spec.l01Steps -/
noncomputable def I71 : Inst := { f := 71, nt := 5, params := [((.ro (.int .i64)), false)], res := [(.ro .bool)], slots := [.tmp 2], code := bd Try.f71, callee := fun r i => find 0 [(1001, 28)] (r * 1000 + i) }
/- spec.l01Lift -/
noncomputable def I72 : Inst := { f := 72, nt := 5, params := [((.ro (.int .i64)), false)], res := [(.ro .bool)], slots := [.tmp 2], code := bd Try.f72, callee := fun r i => find 0 [(1001, 28)] (r * 1000 + i) }
/- spec.l01Ok -/
noncomputable def I54 : Inst := { f := 54, nt := 21, params := [((.ro (.slc (.int .i16))), false)], res := [(.ro .bool)], slots := [.tmp 2], code := bd Try.f54, callee := fun r i => find 0 [(1002, 71), (6005, 72)] (r * 1000 + i), loops := fun b => find [] [(0, [.own 0 (.ro (.slc (.int .i16))), .own 3 (.ro (.int .i64))])] b }
/- spec.l04Ok -/
noncomputable def I27 : Inst := { f := 27, nt := 57, params := [((.ro (.slc (.pair (.int .i16) (.pair (.int .i16) (.pair (.int .i16) (.pair (.slc (.int .i16)) .unit)))))), false)], res := [(.ro .bool)], slots := [.tmp 2], code := bd Try.f27, callee := fun r i => find 0 [(1002, 28), (7005, 28), (7013, 28), (7021, 54), (7036, 28)] (r * 1000 + i), loops := fun b => find [] [(0, [.own 0 (.ro (.slc (.pair (.int .i16) (.pair (.int .i16) (.pair (.int .i16) (.pair (.slc (.int .i16)) .unit)))))), .own 3 (.ro (.int .i64))])] b }
/- spec.l04Gcd -/
noncomputable def I64 : Inst := { f := 64, nt := 13, params := [((.ro (.int .i64)), false), ((.ro (.int .i64)), false)], res := [(.ro (.int .i64))], slots := [.tmp 4], code := bd Try.f64, callee := fun r i => find 0 [(3004, 64)] (r * 1000 + i) }
/- spec.l04Own -/
noncomputable def I63 : Inst := { f := 63, nt := 24, params := [((.ro (.ptr (.pair (.int .i16) (.pair (.int .i16) (.pair (.int .i16) (.pair (.slc (.int .i16)) .unit)))))), false)], res := [(.ro (.int .i64))], slots := [.tmp 2], code := bd Try.f63, callee := fun r i => find 0 [(2007, 64)] (r * 1000 + i) }
/- spec.l04All -/
noncomputable def I40 : Inst := { f := 40, nt := 30, params := [((.ro (.slc (.pair (.int .i16) (.pair (.int .i16) (.pair (.int .i16) (.pair (.slc (.int .i16)) .unit)))))), false)], res := [(.ro (.int .i64)), (.ro (.int .i64))], slots := [.tmp 2, .tmp 3], code := bd Try.f40, callee := fun r i => find 0 [(1001, 27), (7003, 63), (8003, 64)] (r * 1000 + i), loops := fun b => find [] [(0, [.own 0 (.ro (.slc (.pair (.int .i16) (.pair (.int .i16) (.pair (.int .i16) (.pair (.slc (.int .i16)) .unit)))))), .own 4 (.ro (.int .i64)), .own 5 (.ro (.int .i64))])] b }
/- spec.PeriodOfAll -/
noncomputable def I17 : Inst := { f := 17, nt := 8, params := [((.ro (.slc (.pair (.int .i16) (.pair (.int .i16) (.pair (.int .i16) (.pair (.slc (.int .i16)) .unit)))))), false)], res := [(.ro (.int .i64)), (.ro (.int .i64))], slots := [.tmp 2, .tmp 3], code := bd Try.f17, callee := fun r i => find 0 [(1001, 40)] (r * 1000 + i) }
/- impl.inRange -/
noncomputable def I34 : Inst := { f := 34, nt := 15, params := [((.ro (.int .i64)), false), ((.ro (.int .i64)), false), ((.ro (.int .i64)), false)], res := [(.ro .bool)], slots := [.tmp 6], code := bd Try.f34 }
/- impl.isRoom -/
noncomputable def I33 : Inst := { f := 33, nt := 5, params := [((.ro (.int .i64)), false)], res := [(.ro .bool)], slots := [.tmp 2], code := bd Try.f33, callee := fun r i => find 0 [(1001, 34)] (r * 1000 + i) }
/- impl.Cam).steps -/
noncomputable def I48 : Inst := { f := 48, nt := 5, params := [((.ro (.slc (.int .i16))), false)], res := [(.ro (.int .i64))], slots := [.tmp 2], code := bd Try.f48 }
/- impl.isSteps -/
noncomputable def I80 : Inst := { f := 80, nt := 5, params := [((.ro (.int .i64)), false)], res := [(.ro .bool)], slots := [.tmp 2], code := bd Try.f80, callee := fun r i => find 0 [(1001, 34)] (r * 1000 + i) }
/- impl.isLift -/
noncomputable def I83 : Inst := { f := 83, nt := 5, params := [((.ro (.int .i64)), false)], res := [(.ro .bool)], slots := [.tmp 2], code := bd Try.f83, callee := fun r i => find 0 [(1001, 34)] (r * 1000 + i) }
/- impl.ValidCam$1 -/
noncomputable def I82 : Inst := { f := 82, nt := 7, params := [((.ro (.int .i16)), false)], res := [(.ro .bool)], slots := [.tmp 2], code := bd Try.f82, callee := fun r i => find 0 [(1002, 83)] (r * 1000 + i) }
/- impl.Cam,int16] -/
noncomputable def I85 : Inst := { f := 85, nt := 19, params := [((.ro (.slc (.int .i16))), false), ((.clo 82 (.ro .unit) (.ro .unit)), false)], res := [(.ro (.int .i64))], slots := [.tmp 4], code := bd Try.f85, callee := fun r i => find 0 [(4005, 82)] (r * 1000 + i), loops := fun b => find [] [(0, [.own 0 (.ro (.slc (.int .i16))), .own 1 (.clo 82 (.ro .unit) (.ro .unit)), .own 7 (.ro (.int .i64)), .own 8 (.ro (.int .i64))])] b }
/- impl.Cam,int16] -/
noncomputable def I81 : Inst := { f := 81, nt := 9, params := [((.ro (.slc (.int .i16))), false), ((.clo 82 (.ro .unit) (.ro .unit)), false)], res := [(.ro .bool)], slots := [.tmp 4], code := bd Try.f81, callee := fun r i => find 0 [(1002, 85)] (r * 1000 + i) }
/- impl.ValidCam -/
noncomputable def I69 : Inst := { f := 69, nt := 11, params := [((.ro (.slc (.int .i16))), false)], res := [(.ro .bool)], slots := [.tmp 2], code := bd Try.f69, callee := fun r i => find 0 [(1001, 48), (1002, 80), (1005, 81)] (r * 1000 + i) }
/- impl.isPlace -/
noncomputable def I51 : Inst := { f := 51, nt := 9, params := [((.ro (.int .i64)), false), ((.ro (.int .i64)), false)], res := [(.ro .bool)], slots := [.tmp 4], code := bd Try.f51, callee := fun r i => find 0 [(1003, 34)] (r * 1000 + i) }
/- impl.ValidShafts$1 -/
noncomputable def I68 : Inst := { f := 68, nt := 31, params := [((.ro (.pair (.int .i16) (.pair (.int .i16) (.pair (.int .i16) (.pair (.slc (.int .i16)) .unit))))), false)], res := [(.ro .bool)], slots := [.tmp 2], code := bd Try.f68, callee := fun r i => find 0 [(1003, 34), (1009, 34), (1015, 69), (1025, 51)] (r * 1000 + i) }
/- impl.Shaft] -/
noncomputable def I79 : Inst := { f := 79, nt := 19, params := [((.ro (.slc (.pair (.int .i16) (.pair (.int .i16) (.pair (.int .i16) (.pair (.slc (.int .i16)) .unit)))))), false), ((.clo 68 (.ro .unit) (.ro .unit)), false)], res := [(.ro (.int .i64))], slots := [.tmp 4], code := bd Try.f79, callee := fun r i => find 0 [(4005, 68)] (r * 1000 + i), loops := fun b => find [] [(0, [.own 0 (.ro (.slc (.pair (.int .i16) (.pair (.int .i16) (.pair (.int .i16) (.pair (.slc (.int .i16)) .unit)))))), .own 1 (.clo 68 (.ro .unit) (.ro .unit)), .own 7 (.ro (.int .i64)), .own 8 (.ro (.int .i64))])] b }
/- impl.Shaft] -/
noncomputable def I67 : Inst := { f := 67, nt := 9, params := [((.ro (.slc (.pair (.int .i16) (.pair (.int .i16) (.pair (.int .i16) (.pair (.slc (.int .i16)) .unit)))))), false), ((.clo 68 (.ro .unit) (.ro .unit)), false)], res := [(.ro .bool)], slots := [.tmp 4], code := bd Try.f67, callee := fun r i => find 0 [(1002, 79)] (r * 1000 + i) }
/- impl.ValidShafts -/
noncomputable def I45 : Inst := { f := 45, nt := 11, params := [((.ro (.slc (.pair (.int .i16) (.pair (.int .i16) (.pair (.int .i16) (.pair (.slc (.int .i16)) .unit)))))), false)], res := [(.ro .bool)], slots := [.tmp 2], code := bd Try.f45, callee := fun r i => find 0 [(1002, 34), (1005, 67)] (r * 1000 + i) }
/- impl.codeIf -/
noncomputable def I44 : Inst := { f := 44, nt := 7, params := [((.ro .bool), false), ((.ro (.int .i64)), false)], res := [(.ro (.int .i64))], slots := [.tmp 4], code := bd Try.f44 }
/- impl.firstCode -/
noncomputable def I43 : Inst := { f := 43, nt := 15, params := [((.ro (.slc (.int .i64))), false)], res := [(.ro (.int .i64))], slots := [.tmp 2], code := bd Try.f43, loops := fun b => find [] [(0, [.own 5 (.ro (.slc (.int .i64))), .own 6 (.ro (.int .i64)), .own 7 (.ro (.int .i64))])] b }
/- impl.common -/
noncomputable def I74 : Inst := { f := 74, nt := 12, params := [((.ro (.int .i64)), false), ((.ro (.int .i64)), false)], res := [(.ro (.int .i64))], slots := [.tmp 4], code := bd Try.f74, loops := fun b => find [] [(0, [.own 0 (.ro (.int .i64)), .own 1 (.ro (.int .i64))])] b }
/- impl.Shaft).period -/
noncomputable def I73 : Inst := { f := 73, nt := 18, params := [((.ro (.pair (.int .i16) (.pair (.int .i16) (.pair (.int .i16) (.pair (.slc (.int .i16)) .unit))))), false)], res := [(.ro (.int .i64))], slots := [.tmp 2], code := bd Try.f73, callee := fun r i => find 0 [(1005, 48), (2005, 74)] (r * 1000 + i) }
/- impl.periodOf -/
noncomputable def I58 : Inst := { f := 58, nt := 27, params := [((.ro (.slc (.pair (.int .i16) (.pair (.int .i16) (.pair (.int .i16) (.pair (.slc (.int .i16)) .unit)))))), false)], res := [(.ro (.int .i64)), (.ro .bool)], slots := [.tmp 2, .tmp 3], code := bd Try.f58, callee := fun r i => find 0 [(5001, 73), (6003, 74)] (r * 1000 + i), loops := fun b => find [] [(0, [.own 4 (.ro (.int .i64)), .own 8 (.ro (.slc (.pair (.int .i16) (.pair (.int .i16) (.pair (.int .i16) (.pair (.slc (.int .i16)) .unit)))))), .own 9 (.ro (.int .i64)), .own 10 (.ro (.int .i64))])] b }
/- impl.shaftsCode -/
noncomputable def I32 : Inst := { f := 32, nt := 30, params := [((.ro (.slc (.pair (.int .i16) (.pair (.int .i16) (.pair (.int .i16) (.pair (.slc (.int .i16)) .unit)))))), false), ((.ro .bool), false)], res := [(.ro (.int .i64)), (.ro (.int .i64))], slots := [.tmp 4, .tmp 5], code := bd Try.f32, callee := fun r i => find 0 [(1001, 45), (1003, 44), (1006, 44), (1008, 43), (4001, 58), (5003, 44)] (r * 1000 + i), deep := fun r i => find false [(1007, true)] (r * 1000 + i), frz := fun r i => find false [(1007, true)] (r * 1000 + i) }
/- impl.Shaft).step -/
noncomputable def I84 : Inst := { f := 84, nt := 22, params := [((.ro (.pair (.int .i16) (.pair (.int .i16) (.pair (.int .i16) (.pair (.slc (.int .i16)) .unit))))), false), ((.ro (.int .i64)), false), ((.ro (.int .i64)), false)], res := [(.ro (.int .i64))], slots := [.tmp 6], code := bd Try.f84, callee := fun r i => find 0 [(1013, 48)] (r * 1000 + i) }
/- impl.Shaft).lift -/
noncomputable def I70 : Inst := { f := 70, nt := 16, params := [((.ro (.pair (.int .i16) (.pair (.int .i16) (.pair (.int .i16) (.pair (.slc (.int .i16)) .unit))))), false), ((.ro (.int .i64)), false), ((.ro (.int .i64)), false)], res := [(.ro (.int .i64))], slots := [.tmp 6], code := bd Try.f70, callee := fun r i => find 0 [(1005, 84)] (r * 1000 + i) }
/- impl.Shaft).now -/
noncomputable def I65 : Inst := { f := 65, nt := 11, params := [((.ro (.pair (.int .i16) (.pair (.int .i16) (.pair (.int .i16) (.pair (.slc (.int .i16)) .unit))))), false), ((.ro (.int .i64)), false)], res := [(.ro (.int .i64))], slots := [.tmp 4], code := bd Try.f65, callee := fun r i => find 0 [(1005, 70)] (r * 1000 + i) }
/- impl.liftsOn -/
noncomputable def I41 : Inst := { f := 41, nt := 23, params := [((.ro (.slc (.pair (.int .i16) (.pair (.int .i16) (.pair (.int .i16) (.pair (.slc (.int .i16)) .unit)))))), false), ((.ro (.int .i64)), false)], res := [(.row false (.int .i64))], slots := [.tmp 4], code := bd Try.f41, callee := fun r i => find 0 [(5003, 65)] (r * 1000 + i), loops := fun b => find [] [(0, [.own 1 (.ro (.int .i64)), .own 5 (.row false (.int .i64)), .own 9 (.ro (.slc (.pair (.int .i16) (.pair (.int .i16) (.pair (.int .i16) (.pair (.slc (.int .i16)) .unit)))))), .own 10 (.ro (.int .i64)), .own 11 (.ro (.int .i64))])] b, deep := fun r i => find false [(1000, true), (5004, true), (5005, true)] (r * 1000 + i) }
/- impl.FirstClash -/
noncomputable def I18 : Inst := { f := 18, nt := 53, params := [((.ro (.slc (.pair (.int .i16) (.pair (.int .i16) (.pair (.int .i16) (.pair (.slc (.int .i16)) .unit)))))), false), ((.ro (.int .i64)), false)], res := [(.ro (.int .i64)), (.ro (.int .i64)), (.ro (.int .i64)), (.ro (.int .i64))], slots := [.tmp 4, .tmp 5, .tmp 6, .tmp 7], code := bd Try.f18, callee := fun r i => find 0 [(1002, 33), (1003, 32), (7002, 41)] (r * 1000 + i), loops := fun b => find [] [(2, [.own 0 (.ro (.slc (.pair (.int .i16) (.pair (.int .i16) (.pair (.int .i16) (.pair (.slc (.int .i16)) .unit)))))), .own 1 (.ro (.int .i64)), .own 10 (.ro (.int .i64)), .own 11 (.ro (.slc (.int .i64))), .own 12 (.ro (.int .i64)), .own 23 (.ro (.int .i64)), .own 24 (.ro (.int .i64))]), (0, [.own 0 (.ro (.slc (.pair (.int .i16) (.pair (.int .i16) (.pair (.int .i16) (.pair (.slc (.int .i16)) .unit)))))), .own 1 (.ro (.int .i64)), .own 23 (.ro (.int .i64)), .own 24 (.ro (.int .i64))])] b }
/- spec.l04Index -/
noncomputable def I55 : Inst := { f := 55, nt := 10, params := [((.ro (.slc (.pair (.int .i16) (.pair (.int .i16) (.pair (.int .i16) (.pair (.slc (.int .i16)) .unit)))))), false), ((.ro (.int .i64)), false)], res := [(.ro .bool)], slots := [.tmp 4], code := bd Try.f55, callee := fun r i => find 0 [(1004, 28)] (r * 1000 + i) }
/- spec.l04Asked -/
noncomputable def I29 : Inst := { f := 29, nt := 32, params := [((.ro (.slc (.pair (.int .i16) (.pair (.int .i16) (.pair (.int .i16) (.pair (.slc (.int .i16)) .unit)))))), false), ((.ro (.int .i64)), false), ((.ro (.int .i64)), false), ((.ro (.int .i64)), false)], res := [(.ro (.int .i64)), (.ro (.int .i64))], slots := [.tmp 8, .tmp 9], code := bd Try.f29, callee := fun r i => find 0 [(1001, 27), (3002, 55), (3007, 55), (3012, 28), (5001, 40)] (r * 1000 + i) }
/- spec.l04Step -/
noncomputable def I78 : Inst := { f := 78, nt := 30, params := [((.ro (.ptr (.pair (.int .i16) (.pair (.int .i16) (.pair (.int .i16) (.pair (.slc (.int .i16)) .unit)))))), false), ((.ro (.int .i64)), false)], res := [(.ro (.int .i64))], slots := [.tmp 4], code := bd Try.f78 }
/- spec.l04Lift -/
noncomputable def I66 : Inst := { f := 66, nt := 15, params := [((.ro (.ptr (.pair (.int .i16) (.pair (.int .i16) (.pair (.int .i16) (.pair (.slc (.int .i16)) .unit)))))), false), ((.ro (.int .i64)), false)], res := [(.ro (.int .i64))], slots := [.tmp 4], code := bd Try.f66, callee := fun r i => find 0 [(1006, 78)] (r * 1000 + i) }
/- spec.l04Clash -/
noncomputable def I42 : Inst := { f := 42, nt := 18, params := [((.ro (.ptr (.pair (.int .i16) (.pair (.int .i16) (.pair (.int .i16) (.pair (.slc (.int .i16)) .unit)))))), false), ((.ro (.ptr (.pair (.int .i16) (.pair (.int .i16) (.pair (.int .i16) (.pair (.slc (.int .i16)) .unit)))))), false), ((.ro (.int .i64)), false), ((.ro (.int .i64)), false)], res := [(.ro .bool)], slots := [.tmp 8], code := bd Try.f42, callee := fun r i => find 0 [(1002, 66), (1005, 66)] (r * 1000 + i) }
/- spec.FirstClash -/
noncomputable def I19 : Inst := { f := 19, nt := 47, params := [((.ro (.slc (.pair (.int .i16) (.pair (.int .i16) (.pair (.int .i16) (.pair (.slc (.int .i16)) .unit)))))), false), ((.ro (.int .i64)), false)], res := [(.ro (.int .i64)), (.ro (.int .i64)), (.ro (.int .i64)), (.ro (.int .i64))], slots := [.tmp 4, .tmp 5, .tmp 6, .tmp 7], code := bd Try.f19, callee := fun r i => find 0 [(1002, 29), (10009, 42)] (r * 1000 + i), loops := fun b => find [] [(2, [.own 0 (.ro (.slc (.pair (.int .i16) (.pair (.int .i16) (.pair (.int .i16) (.pair (.slc (.int .i16)) .unit)))))), .own 1 (.ro (.int .i64)), .own 8 (.ro (.int .i64)), .own 10 (.ro (.int .i64)), .own 11 (.ro (.int .i64))]), (0, [.own 0 (.ro (.slc (.pair (.int .i16) (.pair (.int .i16) (.pair (.int .i16) (.pair (.slc (.int .i16)) .unit)))))), .own 1 (.ro (.int .i64)), .own 8 (.ro (.int .i64)), .own 10 (.ro (.int .i64))])] b }
/- impl.LiftsOn -/
noncomputable def I20 : Inst := { f := 20, nt := 23, params := [((.ro (.slc (.pair (.int .i16) (.pair (.int .i16) (.pair (.int .i16) (.pair (.slc (.int .i16)) .unit)))))), false), ((.ro (.int .i64)), false)], res := [(.row false (.int .i64)), (.ro (.int .i64))], slots := [.tmp 4, .tmp 5], code := bd Try.f20, callee := fun r i => find 0 [(1001, 45), (1003, 44), (1005, 34), (1007, 44), (1009, 43), (4002, 41)] (r * 1000 + i), deep := fun r i => find false [(1008, true)] (r * 1000 + i), frz := fun r i => find false [(1008, true)] (r * 1000 + i) }
/- impl.pairCodeOn -/
noncomputable def I46 : Inst := { f := 46, nt := 39, params := [((.ro (.slc (.pair (.int .i16) (.pair (.int .i16) (.pair (.int .i16) (.pair (.slc (.int .i16)) .unit)))))), false), ((.ro (.int .i64)), false), ((.ro (.int .i64)), false), ((.ro (.int .i64)), false)], res := [(.ro (.int .i64)), (.ro (.int .i64))], slots := [.tmp 8, .tmp 9], code := bd Try.f46, callee := fun r i => find 0 [(1004, 51), (1009, 51), (1013, 33), (1015, 32), (2005, 44), (2007, 43)] (r * 1000 + i), deep := fun r i => find false [(2006, true)] (r * 1000 + i), frz := fun r i => find false [(2006, true)] (r * 1000 + i) }
/- impl.clashes -/
noncomputable def I47 : Inst := { f := 47, nt := 31, params := [((.ro (.pair (.int .i16) (.pair (.int .i16) (.pair (.int .i16) (.pair (.slc (.int .i16)) .unit))))), false), ((.ro (.pair (.int .i16) (.pair (.int .i16) (.pair (.int .i16) (.pair (.slc (.int .i16)) .unit))))), false), ((.ro (.int .i64)), false), ((.ro (.int .i64)), false), ((.ro (.int .i64)), false)], res := [(.ro (.int .i64))], slots := [.tmp 10], code := bd Try.f47, callee := fun r i => find 0 [(5002, 65), (5006, 70)] (r * 1000 + i), loops := fun b => find [] [(0, [.own 2 (.ro (.int .i64)), .own 3 (.ro (.int .i64)), .own 5 (.box (.ro (.pair (.int .i16) (.pair (.int .i16) (.pair (.int .i16) (.pair (.slc (.int .i16)) .unit)))))), .own 6 (.box (.ro (.pair (.int .i16) (.pair (.int .i16) (.pair (.int .i16) (.pair (.slc (.int .i16)) .unit)))))), .own 11 (.ro (.int .i64)), .own 13 (.ro (.int .i64)), .own 14 (.ro (.int .i64))])] b }
/- impl.ClashesOf -/
noncomputable def I21 : Inst := { f := 21, nt := 40, params := [((.ro (.slc (.pair (.int .i16) (.pair (.int .i16) (.pair (.int .i16) (.pair (.slc (.int .i16)) .unit)))))), false), ((.ro (.int .i64)), false), ((.ro (.int .i64)), false), ((.ro (.int .i64)), false)], res := [(.ro (.int .i64)), (.ro (.int .i64))], slots := [.tmp 8, .tmp 9], code := bd Try.f21, callee := fun r i => find 0 [(1004, 46), (4016, 47)] (r * 1000 + i) }
/- impl.BestPhase -/
noncomputable def I22 : Inst := { f := 22, nt := 59, params := [((.ro (.slc (.pair (.int .i16) (.pair (.int .i16) (.pair (.int .i16) (.pair (.slc (.int .i16)) .unit)))))), false), ((.ro (.int .i64)), false), ((.ro (.int .i64)), false), ((.ro (.int .i64)), false)], res := [(.ro (.int .i64)), (.ro (.int .i64)), (.ro (.int .i64))], slots := [.tmp 8, .tmp 9, .tmp 10], code := bd Try.f22, callee := fun r i => find 0 [(1004, 46), (5005, 48), (8011, 47)] (r * 1000 + i), loops := fun b => find [] [(0, [.own 0 (.ro (.slc (.pair (.int .i16) (.pair (.int .i16) (.pair (.int .i16) (.pair (.slc (.int .i16)) .unit)))))), .own 1 (.ro (.int .i64)), .own 2 (.ro (.int .i64)), .own 3 (.ro (.int .i64)), .own 11 (.ro (.int .i64)), .own 13 (.ro (.int .i64)), .own 14 (.ro (.int .i64)), .own 35 (.ro (.int .i64)), .own 36 (.ro (.int .i64))])] b }
/- spec.l04Count -/
noncomputable def I49 : Inst := { f := 49, nt := 24, params := [((.ro (.ptr (.pair (.int .i16) (.pair (.int .i16) (.pair (.int .i16) (.pair (.slc (.int .i16)) .unit)))))), false), ((.ro (.ptr (.pair (.int .i16) (.pair (.int .i16) (.pair (.int .i16) (.pair (.slc (.int .i16)) .unit)))))), false), ((.ro (.int .i64)), false), ((.ro (.int .i64)), false)], res := [(.ro (.int .i64))], slots := [.tmp 8], code := bd Try.f49, callee := fun r i => find 0 [(5004, 42)] (r * 1000 + i), loops := fun b => find [] [(0, [.own 0 (.ro (.ptr (.pair (.int .i16) (.pair (.int .i16) (.pair (.int .i16) (.pair (.slc (.int .i16)) .unit)))))), .own 1 (.ro (.ptr (.pair (.int .i16) (.pair (.int .i16) (.pair (.int .i16) (.pair (.slc (.int .i16)) .unit)))))), .own 2 (.ro (.int .i64)), .own 3 (.ro (.int .i64)), .own 9 (.ro (.int .i64)), .own 10 (.ro (.int .i64))])] b }
/- spec.BestPhase -/
noncomputable def I23 : Inst := { f := 23, nt := 68, params := [((.ro (.slc (.pair (.int .i16) (.pair (.int .i16) (.pair (.int .i16) (.pair (.slc (.int .i16)) .unit)))))), false), ((.ro (.int .i64)), false), ((.ro (.int .i64)), false), ((.ro (.int .i64)), false)], res := [(.ro (.int .i64)), (.ro (.int .i64)), (.ro (.int .i64))], slots := [.tmp 8, .tmp 9, .tmp 10], code := bd Try.f23, callee := fun r i => find 0 [(1004, 29), (13005, 49)] (r * 1000 + i), loops := fun b => find [] [(0, [.own 0 (.ro (.slc (.pair (.int .i16) (.pair (.int .i16) (.pair (.int .i16) (.pair (.slc (.int .i16)) .unit)))))), .own 1 (.ro (.int .i64)), .own 2 (.ro (.int .i64)), .own 3 (.ro (.int .i64)), .own 11 (.ro (.int .i64)), .own 13 (.ro (.int .i64)), .own 14 (.ro (.int .i64)), .own 15 (.ro (.int .i64))])] b }
/- impl.PhasesFor: told by its contract -/
noncomputable def I8 : Inst := { f := 8, nt := 0, params := [((.ro (.slc (.pair (.int .i16) (.pair (.int .i16) (.pair (.int .i16) (.pair (.slc (.int .i16)) .unit)))))), false), ((.ro (.int .i64)), false), ((.ro (.int .i64)), false)], res := [(.row false (.int .i64)), (.ro (.int .i64)), (.ro (.int .i64))], slots := [], code := .skip, ext := some (fun x => if Go.Cams.smallB x.1 = true then some ((Go.Cams.pfI x.1 x.2.1 x.2.2.1), ()) else none) }
/- spec.l04Free -/
noncomputable def I56 : Inst := { f := 56, nt := 20, params := [((.ro (.ptr (.pair (.int .i16) (.pair (.int .i16) (.pair (.int .i16) (.pair (.slc (.int .i16)) .unit)))))), false), ((.ro (.ptr (.pair (.int .i16) (.pair (.int .i16) (.pair (.int .i16) (.pair (.slc (.int .i16)) .unit)))))), false), ((.ro (.int .i64)), false), ((.ro (.int .i64)), false)], res := [(.ro .bool)], slots := [.tmp 8], code := bd Try.f56, callee := fun r i => find 0 [(4004, 42)] (r * 1000 + i), loops := fun b => find [] [(0, [.own 0 (.ro (.ptr (.pair (.int .i16) (.pair (.int .i16) (.pair (.int .i16) (.pair (.slc (.int .i16)) .unit)))))), .own 1 (.ro (.ptr (.pair (.int .i16) (.pair (.int .i16) (.pair (.int .i16) (.pair (.slc (.int .i16)) .unit)))))), .own 2 (.ro (.int .i64)), .own 3 (.ro (.int .i64)), .own 9 (.ro (.int .i64))])] b }
/- spec.l04Look -/
noncomputable def I30 : Inst := { f := 30, nt := 67, params := [((.row false (.pair (.int .i16) (.pair (.int .i16) (.pair (.int .i16) (.pair (.slc (.int .i16)) .unit))))), true), ((.ro (.int .i64)), false), ((.ro (.int .i64)), false), ((.ro (.int .i64)), false), ((.ro (.int .i64)), false), ((.box (.ro (.int .i64))), true)], res := [(.ro (.int .i64))], slots := [.tmp 12], code := bd Try.f30, strict := true, callee := fun r i => find 0 [(10009, 56), (11007, 30)] (r * 1000 + i), loops := fun b => find [] [(0, [.own 0 (.row false (.pair (.int .i16) (.pair (.int .i16) (.pair (.int .i16) (.pair (.slc (.int .i16)) .unit))))), .own 1 (.ro (.int .i64)), .own 2 (.ro (.int .i64)), .own 3 (.ro (.int .i64)), .own 4 (.ro (.int .i64)), .own 5 (.box (.ro (.int .i64))), .own 13 (.ro (.int .i64))])] b, pins := [0, 5] }
/- spec.PhasesFor -/
noncomputable def I6 : Inst := { f := 6, nt := 63, params := [((.ro (.slc (.pair (.int .i16) (.pair (.int .i16) (.pair (.int .i16) (.pair (.slc (.int .i16)) .unit)))))), false), ((.ro (.int .i64)), false), ((.ro (.int .i64)), false)], res := [(.row false (.int .i64)), (.ro (.int .i64)), (.ro (.int .i64))], slots := [.tmp 6, .tmp 7, .tmp 8], code := bd Try.f6, callee := fun r i => find 0 [(1001, 27), (3001, 28), (5002, 29), (10004, 30)] (r * 1000 + i), loops := fun b => find [] [(0, [.own 11 (.row false (.pair (.int .i16) (.pair (.int .i16) (.pair (.int .i16) (.pair (.slc (.int .i16)) .unit))))), .own 12 (.box (.ro (.int .i64))), .own 13 (.row false (.int .i64)), .own 14 (.ro (.int .i64))])] b }
/- spec.l00Same -/
noncomputable def I50 : Inst := { f := 50, nt := 26, params := [((.ro (.slc (.int .i64))), false), ((.ro (.slc (.int .i64))), false)], res := [(.ro .bool)], slots := [.tmp 4], code := bd Try.f50, loops := fun b => find [] [(0, [.own 0 (.ro (.slc (.int .i64))), .own 1 (.ro (.slc (.int .i64))), .own 5 (.ro (.int .i64))])] b }
/- spec.A2Same -/
noncomputable def I24 : Inst := { f := 24, nt := 8, params := [((.ro (.slc (.int .i64))), false), ((.ro (.slc (.int .i64))), false)], res := [(.ro .bool)], slots := [.tmp 4], code := bd Try.f24, callee := fun r i => find 0 [(1002, 50)] (r * 1000 + i) }
/- impl.Cam,int16] -/
noncomputable def I52 : Inst := { f := 52, nt := 8, params := [((.ro (.slc (.int .i16))), false)], res := [(.row false (.int .i16))], slots := [.tmp 2], code := bd Try.f52 }
/- impl.WithPhases -/
noncomputable def I25 : Inst := { f := 25, nt := 50, params := [((.ro (.slc (.pair (.int .i16) (.pair (.int .i16) (.pair (.int .i16) (.pair (.slc (.int .i16)) .unit)))))), false), ((.ro (.slc (.int .i64))), false)], res := [(.row true (.pair (.int .i16) (.pair (.int .i16) (.pair (.int .i16) (.pair (.slc (.int .i16)) .unit))))), (.ro (.int .i64))], slots := [.tmp 4, .tmp 5], code := bd Try.f25, callee := fun r i => find 0 [(1001, 45), (9007, 51), (11007, 52)] (r * 1000 + i), loops := fun b => find [] [(0, [.own 1 (.ro (.slc (.int .i64))), .own 6 (.row true (.pair (.int .i16) (.pair (.int .i16) (.pair (.int .i16) (.pair (.slc (.int .i16)) .unit))))), .own 18 (.ro (.slc (.pair (.int .i16) (.pair (.int .i16) (.pair (.int .i16) (.pair (.slc (.int .i16)) .unit)))))), .own 19 (.ro (.int .i64)), .own 20 (.ro (.int .i64))])] b, deep := fun r i => find false [(5000, true), (12002, true), (12003, true)] (r * 1000 + i) }
/- laws.FnClashes -/
noncomputable def I4 : Inst := { f := 4, nt := 288, params := [((.ro (.slc (.int .u8))), false), ((.ro (.slc (.int .u8))), false)], res := [(.ro .bool)], slots := [.tmp 4], code := bd Try.f4, callee := fun r i => find 0 [(1002, 14), (3001, 15), (4001, 16), (5001, 17), (6002, 18), (7002, 19), (13002, 20), (19002, 21), (20002, 22), (21002, 23), (26002, 21), (29002, 8), (30002, 6), (31006, 24), (35002, 25), (36002, 18)] (r * 1000 + i) }
noncomputable def CL : List (Nat × Inst) := [(14, I14), (39, I39), (75, I75), (61, I61), (76, I76), (77, I77), (62, I62), (38, I38), (15, I15), (16, I16), (28, I28), (71, I71), (72, I72), (54, I54), (27, I27), (64, I64), (63, I63), (40, I40), (17, I17), (34, I34), (33, I33), (48, I48), (80, I80), (83, I83), (82, I82), (85, I85), (81, I81), (69, I69), (51, I51), (68, I68), (79, I79), (67, I67), (45, I45), (44, I44), (43, I43), (74, I74), (73, I73), (58, I58), (32, I32), (84, I84), (70, I70), (65, I65), (41, I41), (18, I18), (55, I55), (29, I29), (78, I78), (66, I66), (42, I42), (19, I19), (20, I20), (46, I46), (47, I47), (21, I21), (22, I22), (49, I49), (23, I23), (8, I8), (56, I56), (30, I30), (6, I6), (50, I50), (24, I24), (52, I52), (25, I25), (4, I4)]
noncomputable def C : Nat → Inst := find I14 CL
theorem tsOk : TsOk Try.prog T := tsOkB_sound (by kernel_rfl)
theorem ok14 : InstOk Try.prog I14 := instOk_of Try.func14 (by kernel_rfl) (by kernel_rfl) (by kernel_rfl) (by kernel_rfl)
theorem ok39 : InstOk Try.prog I39 := instOk_of Try.func39 (by kernel_rfl) (by kernel_rfl) (by kernel_rfl) (by kernel_rfl)
theorem ok75 : InstOk Try.prog I75 := instOk_of Try.func75 (by kernel_rfl) (by kernel_rfl) (by kernel_rfl) (by kernel_rfl)
theorem ok61 : InstOk Try.prog I61 := instOk_of Try.func61 (by kernel_rfl) (by kernel_rfl) (by kernel_rfl) (by kernel_rfl)
theorem ok76 : InstOk Try.prog I76 := instOk_of Try.func76 (by kernel_rfl) (by kernel_rfl) (by kernel_rfl) (by kernel_rfl)
theorem ok77 : InstOk Try.prog I77 := instOk_of Try.func77 (by kernel_rfl) (by kernel_rfl) (by kernel_rfl) (by kernel_rfl)
theorem ok62 : InstOk Try.prog I62 := instOk_of Try.func62 (by kernel_rfl) (by kernel_rfl) (by kernel_rfl) (by kernel_rfl)
theorem ok38 : InstOk Try.prog I38 := instOk_of Try.func38 (by kernel_rfl) (by kernel_rfl) (by kernel_rfl) (by kernel_rfl)
theorem ok15 : InstOk Try.prog I15 := instOk_of Try.func15 (by kernel_rfl) (by kernel_rfl) (by kernel_rfl) (by kernel_rfl)
theorem ok16 : InstOk Try.prog I16 := instOk_of Try.func16 (by kernel_rfl) (by kernel_rfl) (by kernel_rfl) (by kernel_rfl)
theorem ok28 : InstOk Try.prog I28 := instOk_of Try.func28 (by kernel_rfl) (by kernel_rfl) (by kernel_rfl) (by kernel_rfl)
theorem ok71 : InstOk Try.prog I71 := instOk_of Try.func71 (by kernel_rfl) (by kernel_rfl) (by kernel_rfl) (by kernel_rfl)
theorem ok72 : InstOk Try.prog I72 := instOk_of Try.func72 (by kernel_rfl) (by kernel_rfl) (by kernel_rfl) (by kernel_rfl)
theorem ok54 : InstOk Try.prog I54 := instOk_of Try.func54 (by kernel_rfl) (by kernel_rfl) (by kernel_rfl) (by kernel_rfl)
theorem ok27 : InstOk Try.prog I27 := instOk_of Try.func27 (by kernel_rfl) (by kernel_rfl) (by kernel_rfl) (by kernel_rfl)
theorem ok64 : InstOk Try.prog I64 := instOk_of Try.func64 (by kernel_rfl) (by kernel_rfl) (by kernel_rfl) (by kernel_rfl)
theorem ok63 : InstOk Try.prog I63 := instOk_of Try.func63 (by kernel_rfl) (by kernel_rfl) (by kernel_rfl) (by kernel_rfl)
theorem ok40 : InstOk Try.prog I40 := instOk_of Try.func40 (by kernel_rfl) (by kernel_rfl) (by kernel_rfl) (by kernel_rfl)
theorem ok17 : InstOk Try.prog I17 := instOk_of Try.func17 (by kernel_rfl) (by kernel_rfl) (by kernel_rfl) (by kernel_rfl)
theorem ok34 : InstOk Try.prog I34 := instOk_of Try.func34 (by kernel_rfl) (by kernel_rfl) (by kernel_rfl) (by kernel_rfl)
theorem ok33 : InstOk Try.prog I33 := instOk_of Try.func33 (by kernel_rfl) (by kernel_rfl) (by kernel_rfl) (by kernel_rfl)
theorem ok48 : InstOk Try.prog I48 := instOk_of Try.func48 (by kernel_rfl) (by kernel_rfl) (by kernel_rfl) (by kernel_rfl)
theorem ok80 : InstOk Try.prog I80 := instOk_of Try.func80 (by kernel_rfl) (by kernel_rfl) (by kernel_rfl) (by kernel_rfl)
theorem ok83 : InstOk Try.prog I83 := instOk_of Try.func83 (by kernel_rfl) (by kernel_rfl) (by kernel_rfl) (by kernel_rfl)
theorem ok82 : InstOk Try.prog I82 := instOk_of Try.func82 (by kernel_rfl) (by kernel_rfl) (by kernel_rfl) (by kernel_rfl)
theorem ok85 : InstOk Try.prog I85 := instOk_of Try.func85 (by kernel_rfl) (by kernel_rfl) (by kernel_rfl) (by kernel_rfl)
theorem ok81 : InstOk Try.prog I81 := instOk_of Try.func81 (by kernel_rfl) (by kernel_rfl) (by kernel_rfl) (by kernel_rfl)
theorem ok69 : InstOk Try.prog I69 := instOk_of Try.func69 (by kernel_rfl) (by kernel_rfl) (by kernel_rfl) (by kernel_rfl)
theorem ok51 : InstOk Try.prog I51 := instOk_of Try.func51 (by kernel_rfl) (by kernel_rfl) (by kernel_rfl) (by kernel_rfl)
theorem ok68 : InstOk Try.prog I68 := instOk_of Try.func68 (by kernel_rfl) (by kernel_rfl) (by kernel_rfl) (by kernel_rfl)
theorem ok79 : InstOk Try.prog I79 := instOk_of Try.func79 (by kernel_rfl) (by kernel_rfl) (by kernel_rfl) (by kernel_rfl)
theorem ok67 : InstOk Try.prog I67 := instOk_of Try.func67 (by kernel_rfl) (by kernel_rfl) (by kernel_rfl) (by kernel_rfl)
theorem ok45 : InstOk Try.prog I45 := instOk_of Try.func45 (by kernel_rfl) (by kernel_rfl) (by kernel_rfl) (by kernel_rfl)
theorem ok44 : InstOk Try.prog I44 := instOk_of Try.func44 (by kernel_rfl) (by kernel_rfl) (by kernel_rfl) (by kernel_rfl)
theorem ok43 : InstOk Try.prog I43 := instOk_of Try.func43 (by kernel_rfl) (by kernel_rfl) (by kernel_rfl) (by kernel_rfl)
theorem ok74 : InstOk Try.prog I74 := instOk_of Try.func74 (by kernel_rfl) (by kernel_rfl) (by kernel_rfl) (by kernel_rfl)
theorem ok73 : InstOk Try.prog I73 := instOk_of Try.func73 (by kernel_rfl) (by kernel_rfl) (by kernel_rfl) (by kernel_rfl)
theorem ok58 : InstOk Try.prog I58 := instOk_of Try.func58 (by kernel_rfl) (by kernel_rfl) (by kernel_rfl) (by kernel_rfl)
theorem ok32 : InstOk Try.prog I32 := instOk_of Try.func32 (by kernel_rfl) (by kernel_rfl) (by kernel_rfl) (by kernel_rfl)
theorem ok84 : InstOk Try.prog I84 := instOk_of Try.func84 (by kernel_rfl) (by kernel_rfl) (by kernel_rfl) (by kernel_rfl)
theorem ok70 : InstOk Try.prog I70 := instOk_of Try.func70 (by kernel_rfl) (by kernel_rfl) (by kernel_rfl) (by kernel_rfl)
theorem ok65 : InstOk Try.prog I65 := instOk_of Try.func65 (by kernel_rfl) (by kernel_rfl) (by kernel_rfl) (by kernel_rfl)
theorem ok41 : InstOk Try.prog I41 := instOk_of Try.func41 (by kernel_rfl) (by kernel_rfl) (by kernel_rfl) (by kernel_rfl)
theorem ok18 : InstOk Try.prog I18 := instOk_of Try.func18 (by kernel_rfl) (by kernel_rfl) (by kernel_rfl) (by kernel_rfl)
theorem ok55 : InstOk Try.prog I55 := instOk_of Try.func55 (by kernel_rfl) (by kernel_rfl) (by kernel_rfl) (by kernel_rfl)
theorem ok29 : InstOk Try.prog I29 := instOk_of Try.func29 (by kernel_rfl) (by kernel_rfl) (by kernel_rfl) (by kernel_rfl)
theorem ok78 : InstOk Try.prog I78 := instOk_of Try.func78 (by kernel_rfl) (by kernel_rfl) (by kernel_rfl) (by kernel_rfl)
theorem ok66 : InstOk Try.prog I66 := instOk_of Try.func66 (by kernel_rfl) (by kernel_rfl) (by kernel_rfl) (by kernel_rfl)
theorem ok42 : InstOk Try.prog I42 := instOk_of Try.func42 (by kernel_rfl) (by kernel_rfl) (by kernel_rfl) (by kernel_rfl)
theorem ok19 : InstOk Try.prog I19 := instOk_of Try.func19 (by kernel_rfl) (by kernel_rfl) (by kernel_rfl) (by kernel_rfl)
theorem ok20 : InstOk Try.prog I20 := instOk_of Try.func20 (by kernel_rfl) (by kernel_rfl) (by kernel_rfl) (by kernel_rfl)
theorem ok46 : InstOk Try.prog I46 := instOk_of Try.func46 (by kernel_rfl) (by kernel_rfl) (by kernel_rfl) (by kernel_rfl)
theorem ok47 : InstOk Try.prog I47 := instOk_of Try.func47 (by kernel_rfl) (by kernel_rfl) (by kernel_rfl) (by kernel_rfl)
theorem ok21 : InstOk Try.prog I21 := instOk_of Try.func21 (by kernel_rfl) (by kernel_rfl) (by kernel_rfl) (by kernel_rfl)
theorem ok22 : InstOk Try.prog I22 := instOk_of Try.func22 (by kernel_rfl) (by kernel_rfl) (by kernel_rfl) (by kernel_rfl)
theorem ok49 : InstOk Try.prog I49 := instOk_of Try.func49 (by kernel_rfl) (by kernel_rfl) (by kernel_rfl) (by kernel_rfl)
theorem ok23 : InstOk Try.prog I23 := instOk_of Try.func23 (by kernel_rfl) (by kernel_rfl) (by kernel_rfl) (by kernel_rfl)
theorem ok8 : InstOk Try.prog I8 := instOk_ext rfl
theorem ok56 : InstOk Try.prog I56 := instOk_of Try.func56 (by kernel_rfl) (by kernel_rfl) (by kernel_rfl) (by kernel_rfl)
theorem ok30 : InstOk Try.prog I30 := instOk_of Try.func30 (by kernel_rfl) (by kernel_rfl) (by kernel_rfl) (by kernel_rfl)
theorem ok6 : InstOk Try.prog I6 := instOk_of Try.func6 (by kernel_rfl) (by kernel_rfl) (by kernel_rfl) (by kernel_rfl)
theorem ok50 : InstOk Try.prog I50 := instOk_of Try.func50 (by kernel_rfl) (by kernel_rfl) (by kernel_rfl) (by kernel_rfl)
theorem ok24 : InstOk Try.prog I24 := instOk_of Try.func24 (by kernel_rfl) (by kernel_rfl) (by kernel_rfl) (by kernel_rfl)
theorem ok52 : InstOk Try.prog I52 := instOk_of Try.func52 (by kernel_rfl) (by kernel_rfl) (by kernel_rfl) (by kernel_rfl)
theorem ok25 : InstOk Try.prog I25 := instOk_of Try.func25 (by kernel_rfl) (by kernel_rfl) (by kernel_rfl) (by kernel_rfl)
theorem ok4 : InstOk Try.prog I4 := instOk_of Try.func4 (by kernel_rfl) (by kernel_rfl) (by kernel_rfl) (by kernel_rfl)
theorem insts : ∀ j, InstOk Try.prog (C j) := find_all ok14 (List.forall_mem_cons.2 ⟨ok14, List.forall_mem_cons.2 ⟨ok39, List.forall_mem_cons.2 ⟨ok75, List.forall_mem_cons.2 ⟨ok61, List.forall_mem_cons.2 ⟨ok76, List.forall_mem_cons.2 ⟨ok77, List.forall_mem_cons.2 ⟨ok62, List.forall_mem_cons.2 ⟨ok38, List.forall_mem_cons.2 ⟨ok15, List.forall_mem_cons.2 ⟨ok16, List.forall_mem_cons.2 ⟨ok28, List.forall_mem_cons.2 ⟨ok71, List.forall_mem_cons.2 ⟨ok72, List.forall_mem_cons.2 ⟨ok54, List.forall_mem_cons.2 ⟨ok27, List.forall_mem_cons.2 ⟨ok64, List.forall_mem_cons.2 ⟨ok63, List.forall_mem_cons.2 ⟨ok40, List.forall_mem_cons.2 ⟨ok17, List.forall_mem_cons.2 ⟨ok34, List.forall_mem_cons.2 ⟨ok33, List.forall_mem_cons.2 ⟨ok48, List.forall_mem_cons.2 ⟨ok80, List.forall_mem_cons.2 ⟨ok83, List.forall_mem_cons.2 ⟨ok82, List.forall_mem_cons.2 ⟨ok85, List.forall_mem_cons.2 ⟨ok81, List.forall_mem_cons.2 ⟨ok69, List.forall_mem_cons.2 ⟨ok51, List.forall_mem_cons.2 ⟨ok68, List.forall_mem_cons.2 ⟨ok79, List.forall_mem_cons.2 ⟨ok67, List.forall_mem_cons.2 ⟨ok45, List.forall_mem_cons.2 ⟨ok44, List.forall_mem_cons.2 ⟨ok43, List.forall_mem_cons.2 ⟨ok74, List.forall_mem_cons.2 ⟨ok73, List.forall_mem_cons.2 ⟨ok58, List.forall_mem_cons.2 ⟨ok32, List.forall_mem_cons.2 ⟨ok84, List.forall_mem_cons.2 ⟨ok70, List.forall_mem_cons.2 ⟨ok65, List.forall_mem_cons.2 ⟨ok41, List.forall_mem_cons.2 ⟨ok18, List.forall_mem_cons.2 ⟨ok55, List.forall_mem_cons.2 ⟨ok29, List.forall_mem_cons.2 ⟨ok78, List.forall_mem_cons.2 ⟨ok66, List.forall_mem_cons.2 ⟨ok42, List.forall_mem_cons.2 ⟨ok19, List.forall_mem_cons.2 ⟨ok20, List.forall_mem_cons.2 ⟨ok46, List.forall_mem_cons.2 ⟨ok47, List.forall_mem_cons.2 ⟨ok21, List.forall_mem_cons.2 ⟨ok22, List.forall_mem_cons.2 ⟨ok49, List.forall_mem_cons.2 ⟨ok23, List.forall_mem_cons.2 ⟨ok8, List.forall_mem_cons.2 ⟨ok56, List.forall_mem_cons.2 ⟨ok30, List.forall_mem_cons.2 ⟨ok6, List.forall_mem_cons.2 ⟨ok50, List.forall_mem_cons.2 ⟨ok24, List.forall_mem_cons.2 ⟨ok52, List.forall_mem_cons.2 ⟨ok25, List.forall_mem_cons.2 ⟨ok4, fun _ h => absurd h List.not_mem_nil⟩⟩⟩⟩⟩⟩⟩⟩⟩⟩⟩⟩⟩⟩⟩⟩⟩⟩⟩⟩⟩⟩⟩⟩⟩⟩⟩⟩⟩⟩⟩⟩⟩⟩⟩⟩⟩⟩⟩⟩⟩⟩⟩⟩⟩⟩⟩⟩⟩⟩⟩⟩⟩⟩⟩⟩⟩⟩⟩⟩⟩⟩⟩⟩⟩⟩)
theorem c8 : C 8 = I8 := by kernel_rfl
theorem exts {L : Laid} (h8 : ExtOk Try.prog L I8) : ∀ j, ExtOk Try.prog L (C j) := by
  have hC : C = find I14 CL := by delta C; with_reducible rfl
  refine fun j => exts_of (C := C) _ _ [8] hC (by kernel_rfl) (by kernel_rfl) ?_ j
  intro e he
  change ExtOk _ _ (C e)
  simp only [List.mem_cons, List.not_mem_nil, or_false] at he
  subst he; rw [c8]; exact h8
end Go.Proofs.Ytgmkcekfpmdhoaa.LCl
