/- The types and the functions that a law reaches, told for the reading (Fw). Written by a program (gen.py). -/
import Derived.Test.YtkcapecjamijaaaFwC
import Derived.Test.YtkcapecjamijaaaProg
namespace Go.Proofs.Ytkcapecjamijaaa.LDrawMachine
open Go Go.Fw
open Go.Proofs
noncomputable def tyL : List (Nat × TI) := [(2, ⟨(.int .i64), 0, 8⟩),
  (3, ⟨(.int .i64), 0, 8⟩),
  (4, ⟨.bool, 0, 1⟩),
  (22, ⟨(.slc (.int .i16)), 60, 24⟩),
  (24, ⟨(.pair (.slc (.int .i16)) (.pair (.slc (.int .i16)) (.pair (.slc (.int .i16)) .unit))), 0, 72⟩),
  (26, ⟨(.int .u64), 0, 8⟩),
  (28, ⟨(.arr 64 (.int .u64)), 26, 512⟩),
  (31, ⟨(.slc (.int .i16)), 60, 24⟩),
  (33, ⟨(.pair (.slc (.int .i16)) (.pair (.slc (.int .i16)) (.pair (.slc (.int .i16)) .unit))), 0, 72⟩),
  (60, ⟨(.int .i16), 0, 2⟩),
  (74, ⟨(.ptr (.pair (.slc (.int .i16)) (.pair (.slc (.int .i16)) (.pair (.slc (.int .i16)) .unit)))), 0, 8⟩),
  (112, ⟨(.slc (.pair (.arr 2 (.int .i16)) (.pair .bool .unit))), 117, 24⟩),
  (115, ⟨(.arr 2 (.int .i16)), 60, 4⟩),
  (117, ⟨(.pair (.arr 2 (.int .i16)) (.pair .bool .unit)), 0, 6⟩),
  (119, ⟨(.ptr (.arr 64 (.int .u64))), 0, 8⟩),
  (120, ⟨(.arr 2 (.slc (.int .i16))), 31, 48⟩),
  (140, ⟨(.slc (.arr 2 (.int .i16))), 115, 24⟩),
  (142, ⟨(.int .u64), 0, 8⟩),
  (144, ⟨.fn, 0, 8⟩)]
noncomputable def T : Nat → Option TI := findT tyL
/- laws.szCam -/
noncomputable def I36 : Inst := { f := 36, nt := 12, params := [((.ro (.slc (.int .i16))), false), ((.ro (.int .i64)), false)], res := [(.ro (.int .i64))], slots := [.tmp 4], code := bd Try.f36 }
/- laws.szMachine -/
noncomputable def I7 : Inst := { f := 7, nt := 24, params := [((.ro (.pair (.slc (.int .i16)) (.pair (.slc (.int .i16)) (.pair (.slc (.int .i16)) .unit)))), false), ((.ro (.int .i64)), false)], res := [(.ro (.int .i64))], slots := [.tmp 4], code := bd Try.f7, callee := fun r i => find 0 [(1003, 36), (4003, 36), (7003, 36)] (r * 1000 + i) }
/- laws.toCam -/
noncomputable def I39 : Inst := { f := 39, nt := 22, params := [((.ro (.slc (.int .i16))), false)], res := [(.row false (.int .i16))], slots := [.tmp 2], code := bd Try.f39, loops := fun b => find [] [(0, [.own 0 (.ro (.slc (.int .i16))), .own 3 (.row false (.int .i16)), .own 4 (.ro (.int .i64))])] b, deep := fun r i => find false [(1002, true)] (r * 1000 + i) }
/- laws.toMachine -/
noncomputable def I9 : Inst := { f := 9, nt := 17, params := [((.ro (.pair (.slc (.int .i16)) (.pair (.slc (.int .i16)) (.pair (.slc (.int .i16)) .unit)))), false)], res := [(.pr (.row false (.int .i16)) (.pr (.row false (.int .i16)) (.pr (.row false (.int .i16)) (.ro .unit))))], slots := [.cell 2 33], code := bd Try.f9, callee := fun r i => find 0 [(2002, 39), (3002, 39), (4002, 39)] (r * 1000 + i) }
/- spec.l00In -/
noncomputable def I61 : Inst := { f := 61, nt := 15, params := [((.ro (.int .i64)), false), ((.ro (.int .i64)), false), ((.ro (.int .i64)), false)], res := [(.ro .bool)], slots := [.tmp 6], code := bd Try.f61 }
/- spec.l01Steps -/
noncomputable def I74 : Inst := { f := 74, nt := 5, params := [((.ro (.int .i64)), false)], res := [(.ro .bool)], slots := [.tmp 2], code := bd Try.f74, callee := fun r i => find 0 [(1001, 61)] (r * 1000 + i) }
/- spec.l01Lift -/
noncomputable def I65 : Inst := { f := 65, nt := 5, params := [((.ro (.int .i64)), false)], res := [(.ro .bool)], slots := [.tmp 2], code := bd Try.f65, callee := fun r i => find 0 [(1001, 61)] (r * 1000 + i) }
/- spec.l01Ok -/
noncomputable def I82 : Inst := { f := 82, nt := 21, params := [((.ro (.slc (.int .i16))), false)], res := [(.ro .bool)], slots := [.tmp 2], code := bd Try.f82, callee := fun r i => find 0 [(1002, 74), (6005, 65)] (r * 1000 + i), loops := fun b => find [] [(0, [.own 0 (.ro (.slc (.int .i16))), .own 3 (.ro (.int .i64))])] b }
/- spec.l00Min -/
noncomputable def I125 : Inst := { f := 125, nt := 10, params := [((.ro (.int .i64)), false), ((.ro (.int .i64)), false)], res := [(.ro (.int .i64))], slots := [.tmp 4], code := bd Try.f125 }
/- spec.l00Max -/
noncomputable def I110 : Inst := { f := 110, nt := 10, params := [((.ro (.int .i64)), false), ((.ro (.int .i64)), false)], res := [(.ro (.int .i64))], slots := [.tmp 4], code := bd Try.f110 }
/- spec.l01Range -/
noncomputable def I111 : Inst := { f := 111, nt := 34, params := [((.ro (.slc (.int .i16))), false)], res := [(.ro (.int .i64)), (.ro (.int .i64))], slots := [.tmp 2, .tmp 3], code := bd Try.f111, callee := fun r i => find 0 [(6006, 125), (7006, 110)] (r * 1000 + i), loops := fun b => find [] [(0, [.own 0 (.ro (.slc (.int .i16))), .own 4 (.ro (.int .i64)), .own 5 (.ro (.int .i64)), .own 6 (.ro (.int .i64))])] b }
/- spec.l07Moves -/
noncomputable def I81 : Inst := { f := 81, nt := 15, params := [((.ro (.slc (.int .i16))), false)], res := [(.ro .bool)], slots := [.tmp 2], code := bd Try.f81, callee := fun r i => find 0 [(1001, 82), (3001, 111)] (r * 1000 + i) }
/- spec.l07Ok -/
noncomputable def I37 : Inst := { f := 37, nt := 48, params := [((.ro (.ptr (.pair (.slc (.int .i16)) (.pair (.slc (.int .i16)) (.pair (.slc (.int .i16)) .unit))))), false)], res := [(.ro .bool)], slots := [.tmp 2], code := bd Try.f37, callee := fun r i => find 0 [(1004, 81), (1010, 81), (1017, 82)] (r * 1000 + i) }
/- spec.l07Stops -/
noncomputable def I83 : Inst := { f := 83, nt := 43, params := [((.ro (.ptr (.pair (.slc (.int .i16)) (.pair (.slc (.int .i16)) (.pair (.slc (.int .i16)) .unit))))), false)], res := [(.row false (.pair (.arr 2 (.int .i16)) (.pair .bool .unit)))], slots := [.tmp 2], code := bd Try.f83, loops := fun b => find [] [(0, [.own 0 (.ro (.ptr (.pair (.slc (.int .i16)) (.pair (.slc (.int .i16)) (.pair (.slc (.int .i16)) .unit))))), .own 3 (.row false (.pair (.arr 2 (.int .i16)) (.pair .bool .unit))), .own 4 (.ro (.int .i64))])] b, deep := fun r i => find false [(1000, true), (5025, true), (5026, true)] (r * 1000 + i) }
/- spec.l01Size -/
noncomputable def I63 : Inst := { f := 63, nt := 8, params := [((.ro (.int .i64)), false)], res := [(.ro (.int .i64))], slots := [.tmp 2], code := bd Try.f63 }
/- spec.l07Far -/
noncomputable def I126 : Inst := { f := 126, nt := 22, params := [((.ro (.arr 2 (.int .i16))), false), ((.ro (.arr 2 (.int .i16))), false)], res := [(.ro (.int .i64))], slots := [.tmp 4], code := bd Try.f126, callee := fun r i => find 0 [(1007, 63), (1015, 63), (1016, 110)] (r * 1000 + i) }
/- spec.l01Near -/
noncomputable def I106 : Inst := { f := 106, nt := 23, params := [((.ro (.int .i64)), false), ((.ro (.int .i64)), false)], res := [(.ro (.int .i64))], slots := [.tmp 4], code := bd Try.f106 }
/- spec.l07Line -/
noncomputable def I112 : Inst := { f := 112, nt := 54, params := [((.ro (.arr 2 (.int .i16))), false), ((.ro (.arr 2 (.int .i16))), false)], res := [(.row false (.arr 2 (.int .i16)))], slots := [.tmp 4], code := bd Try.f112, callee := fun r i => find 0 [(1002, 126), (12017, 106)] (r * 1000 + i), loops := fun b => find [] [(2, [.own 2 (.box (.ro (.arr 2 (.int .i16)))), .own 3 (.box (.ro (.arr 2 (.int .i16)))), .own 5 (.ro (.int .i64)), .own 6 (.row false (.arr 2 (.int .i16))), .own 7 (.ro (.int .i64)), .own 8 (.box (.ro (.arr 2 (.int .i16)))), .own 9 (.ro (.int .i64))]), (0, [.own 2 (.box (.ro (.arr 2 (.int .i16)))), .own 3 (.box (.ro (.arr 2 (.int .i16)))), .own 5 (.ro (.int .i64)), .own 6 (.row false (.arr 2 (.int .i16))), .own 7 (.ro (.int .i64))])] b, deep := fun r i => find false [(3001, true), (4000, true), (13002, true), (13003, true)] (r * 1000 + i) }
/- spec.l07Ink -/
noncomputable def I84 : Inst := { f := 84, nt := 36, params := [((.box (.ro (.arr 64 (.int .u64)))), true), ((.ro (.arr 2 (.int .i16))), false), ((.ro (.arr 2 (.int .i16))), false)], res := [], slots := [], code := bd Try.f84, callee := fun r i => find 0 [(1002, 112)] (r * 1000 + i), loops := fun b => find [] [(0, [.own 0 (.box (.ro (.arr 64 (.int .u64)))), .own 6 (.ro (.slc (.arr 2 (.int .i16)))), .own 7 (.ro (.int .i64))])] b, pins := [0] }
/- spec.l07Draw -/
noncomputable def I38 : Inst := { f := 38, nt := 52, params := [((.ro (.ptr (.pair (.slc (.int .i16)) (.pair (.slc (.int .i16)) (.pair (.slc (.int .i16)) .unit))))), false)], res := [(.ro (.arr 64 (.int .u64)))], slots := [.cell 2 28], code := bd Try.f38, callee := fun r i => find 0 [(1001, 83), (8010, 84), (10007, 84)] (r * 1000 + i), loops := fun b => find [] [(0, [.own 2 (.box (.ro (.arr 64 (.int .u64)))), .own 3 (.ro (.slc (.pair (.arr 2 (.int .i16)) (.pair .bool .unit)))), .own 4 (.box (.ro (.arr 64 (.int .u64)))), .own 5 (.ro (.int .i64))])] b }
/- spec.DrawMachine -/
noncomputable def I8 : Inst := { f := 8, nt := 8, params := [((.ro (.pair (.slc (.int .i16)) (.pair (.slc (.int .i16)) (.pair (.slc (.int .i16)) .unit)))), false)], res := [(.ro (.arr 64 (.int .u64))), (.ro (.int .i64))], slots := [.cell 2 28, .tmp 3], code := bd Try.f8, callee := fun r i => find 0 [(1000, 37), (3000, 38)] (r * 1000 + i) }
/- impl.Cam).steps -/
noncomputable def I48 : Inst := { f := 48, nt := 5, params := [((.ro (.slc (.int .i16))), false)], res := [(.ro (.int .i64))], slots := [.tmp 2], code := bd Try.f48 }
/- impl.inRange -/
noncomputable def I57 : Inst := { f := 57, nt := 15, params := [((.ro (.int .i64)), false), ((.ro (.int .i64)), false), ((.ro (.int .i64)), false)], res := [(.ro .bool)], slots := [.tmp 6], code := bd Try.f57 }
/- impl.isSteps -/
noncomputable def I72 : Inst := { f := 72, nt := 5, params := [((.ro (.int .i64)), false)], res := [(.ro .bool)], slots := [.tmp 2], code := bd Try.f72, callee := fun r i => find 0 [(1001, 57)] (r * 1000 + i) }
/- impl.isLift -/
noncomputable def I71 : Inst := { f := 71, nt := 5, params := [((.ro (.int .i64)), false)], res := [(.ro .bool)], slots := [.tmp 2], code := bd Try.f71, callee := fun r i => find 0 [(1001, 57)] (r * 1000 + i) }
/- impl.ValidCam$1 -/
noncomputable def I114 : Inst := { f := 114, nt := 7, params := [((.ro (.int .i16)), false)], res := [(.ro .bool)], slots := [.tmp 2], code := bd Try.f114, callee := fun r i => find 0 [(1002, 71)] (r * 1000 + i) }
/- impl.Cam,int16] -/
noncomputable def I127 : Inst := { f := 127, nt := 19, params := [((.ro (.slc (.int .i16))), false), ((.clo 114 (.ro .unit) (.ro .unit)), false)], res := [(.ro (.int .i64))], slots := [.tmp 4], code := bd Try.f127, callee := fun r i => find 0 [(4005, 114)] (r * 1000 + i), loops := fun b => find [] [(0, [.own 0 (.ro (.slc (.int .i16))), .own 1 (.clo 114 (.ro .unit) (.ro .unit)), .own 7 (.ro (.int .i64)), .own 8 (.ro (.int .i64))])] b }
/- impl.Cam,int16] -/
noncomputable def I113 : Inst := { f := 113, nt := 9, params := [((.ro (.slc (.int .i16))), false), ((.clo 114 (.ro .unit) (.ro .unit)), false)], res := [(.ro .bool)], slots := [.tmp 4], code := bd Try.f113, callee := fun r i => find 0 [(1002, 127)] (r * 1000 + i) }
/- impl.ValidCam -/
noncomputable def I85 : Inst := { f := 85, nt := 11, params := [((.ro (.slc (.int .i16))), false)], res := [(.ro .bool)], slots := [.tmp 2], code := bd Try.f85, callee := fun r i => find 0 [(1001, 48), (1002, 72), (1005, 113)] (r * 1000 + i) }
/- impl.Cam,int16] -/
noncomputable def I86 : Inst := { f := 86, nt := 25, params := [((.ro (.slc (.int .i16))), false)], res := [(.ro (.int .i16))], slots := [.tmp 2], code := bd Try.f86, loops := fun b => find [] [(0, [.own 0 (.ro (.slc (.int .i16))), .own 3 (.ro (.int .i16)), .own 4 (.ro (.int .i64))])] b }
/- impl.ValidMachine -/
noncomputable def I40 : Inst := { f := 40, nt := 33, params := [((.ro (.pair (.slc (.int .i16)) (.pair (.slc (.int .i16)) (.pair (.slc (.int .i16)) .unit)))), false)], res := [(.ro .bool)], slots := [.tmp 2], code := bd Try.f40, callee := fun r i => find 0 [(4001, 85), (4013, 86), (7002, 85)] (r * 1000 + i), loops := fun b => find [] [(0, [.own 1 (.box (.ro (.pair (.slc (.int .i16)) (.pair (.slc (.int .i16)) (.pair (.slc (.int .i16)) .unit))))), .own 9 (.ro (.arr 2 (.slc (.int .i16)))), .own 10 (.ro (.int .i64))])] b }
/- impl.Machine).steps -/
noncomputable def I115 : Inst := { f := 115, nt := 6, params := [((.ro (.pair (.slc (.int .i16)) (.pair (.slc (.int .i16)) (.pair (.slc (.int .i16)) .unit)))), false)], res := [(.ro (.int .i64))], slots := [.tmp 2], code := bd Try.f115, callee := fun r i => find 0 [(1002, 48)] (r * 1000 + i) }
/- impl.floorDiv -/
noncomputable def I131 : Inst := { f := 131, nt := 16, params := [((.ro (.int .i64)), false), ((.ro (.int .i64)), false)], res := [(.ro (.int .i64))], slots := [.tmp 4], code := bd Try.f131 }
/- impl.mod -/
noncomputable def I132 : Inst := { f := 132, nt := 12, params := [((.ro (.int .i64)), false), ((.ro (.int .i64)), false)], res := [(.ro (.int .i64))], slots := [.tmp 4], code := bd Try.f132, callee := fun r i => find 0 [(1004, 131)] (r * 1000 + i) }
/- impl.Cam).at -/
noncomputable def I128 : Inst := { f := 128, nt := 13, params := [((.ro (.slc (.int .i16))), false), ((.ro (.int .i64)), false)], res := [(.ro (.int .i64))], slots := [.tmp 4], code := bd Try.f128, callee := fun r i => find 0 [(1003, 48), (1004, 132)] (r * 1000 + i) }
/- impl.Machine).stop -/
noncomputable def I116 : Inst := { f := 116, nt := 22, params := [((.ro (.pair (.slc (.int .i16)) (.pair (.slc (.int .i16)) (.pair (.slc (.int .i16)) .unit)))), false), ((.ro (.int .i64)), false)], res := [(.ro (.pair (.arr 2 (.int .i16)) (.pair .bool .unit)))], slots := [.cell 4 117], code := bd Try.f116, callee := fun r i => find 0 [(1003, 128), (1008, 128), (1014, 128)] (r * 1000 + i) }
/- impl.Machine).stops -/
noncomputable def I87 : Inst := { f := 87, nt := 19, params := [((.ro (.pair (.slc (.int .i16)) (.pair (.slc (.int .i16)) (.pair (.slc (.int .i16)) .unit)))), false)], res := [(.ro (.slc (.pair (.arr 2 (.int .i16)) (.pair .bool .unit))))], slots := [.tmp 2], code := bd Try.f87, strict := true, callee := fun r i => find 0 [(2001, 115), (5003, 116)] (r * 1000 + i), loops := fun b => find [] [(0, [.own 1 (.box (.ro (.pair (.slc (.int .i16)) (.pair (.slc (.int .i16)) (.pair (.slc (.int .i16)) .unit))))), .own 3 (.row false (.pair (.arr 2 (.int .i16)) (.pair .bool .unit))), .own 7 (.ro (.int .i64)), .own 8 (.ro (.int .i64))])] b }
/- impl.Plate).ink -/
noncomputable def I88 : Inst := { f := 88, nt := 16, params := [((.box (.ro (.arr 64 (.int .u64)))), true), ((.ro (.arr 2 (.int .i16))), false)], res := [], slots := [], code := bd Try.f88, pins := [0] }
/- impl.abs -/
noncomputable def I73 : Inst := { f := 73, nt := 7, params := [((.ro (.int .i64)), false)], res := [(.ro (.int .i64))], slots := [.tmp 2], code := bd Try.f73 }
/- impl.between -/
noncomputable def I129 : Inst := { f := 129, nt := 22, params := [((.ro (.arr 2 (.int .i16))), false), ((.ro (.arr 2 (.int .i16))), false)], res := [(.ro (.int .i64))], slots := [.tmp 4], code := bd Try.f129, callee := fun r i => find 0 [(1007, 73), (1015, 73)] (r * 1000 + i) }
/- impl.nearest -/
noncomputable def I124 : Inst := { f := 124, nt := 12, params := [((.ro (.int .i64)), false), ((.ro (.int .i64)), false)], res := [(.ro (.int .i64))], slots := [.tmp 4], code := bd Try.f124, callee := fun r i => find 0 [(1006, 131)] (r * 1000 + i) }
/- impl.lineOf -/
noncomputable def I117 : Inst := { f := 117, nt := 57, params := [((.ro (.arr 2 (.int .i16))), false), ((.ro (.arr 2 (.int .i16))), false)], res := [(.row false (.arr 2 (.int .i16)))], slots := [.tmp 4], code := bd Try.f117, callee := fun r i => find 0 [(1004, 129), (10009, 124)] (r * 1000 + i), loops := fun b => find [] [(2, [.own 2 (.box (.ro (.arr 2 (.int .i16)))), .own 3 (.box (.ro (.arr 2 (.int .i16)))), .own 5 (.row false (.arr 2 (.int .i16))), .own 6 (.ro (.int .i64)), .own 7 (.ro (.int .i64)), .own 8 (.box (.ro (.arr 2 (.int .i16)))), .own 23 (.ro (.int .i64))]), (0, [.own 2 (.box (.ro (.arr 2 (.int .i16)))), .own 3 (.box (.ro (.arr 2 (.int .i16)))), .own 5 (.row false (.arr 2 (.int .i16))), .own 6 (.ro (.int .i64)), .own 7 (.ro (.int .i64))])] b, deep := fun r i => find false [(1001, true), (12002, true), (12003, true)] (r * 1000 + i) }
/- impl.Plate).line -/
noncomputable def I89 : Inst := { f := 89, nt := 20, params := [((.box (.ro (.arr 64 (.int .u64)))), true), ((.ro (.arr 2 (.int .i16))), false), ((.ro (.arr 2 (.int .i16))), false)], res := [], slots := [], code := bd Try.f89, callee := fun r i => find 0 [(1002, 117), (4002, 88)] (r * 1000 + i), loops := fun b => find [] [(0, [.own 0 (.box (.ro (.arr 64 (.int .u64)))), .own 10 (.ro (.slc (.arr 2 (.int .i16)))), .own 11 (.ro (.int .i64)), .own 12 (.ro (.int .i64))])] b, pins := [0] }
/- impl.Machine).draw -/
noncomputable def I41 : Inst := { f := 41, nt := 41, params := [((.ro (.pair (.slc (.int .i16)) (.pair (.slc (.int .i16)) (.pair (.slc (.int .i16)) .unit)))), false)], res := [(.ro (.arr 64 (.int .u64)))], slots := [.cell 2 28], code := bd Try.f41, callee := fun r i => find 0 [(1002, 87), (6002, 88), (9004, 89)] (r * 1000 + i), loops := fun b => find [] [(0, [.own 2 (.box (.ro (.arr 64 (.int .u64)))), .own 3 (.box (.ro (.arr 64 (.int .u64)))), .own 4 (.ro (.slc (.pair (.arr 2 (.int .i16)) (.pair .bool .unit)))), .own 11 (.ro (.slc (.pair (.arr 2 (.int .i16)) (.pair .bool .unit)))), .own 12 (.ro (.int .i64)), .own 13 (.ro (.int .i64))])] b }
/- impl.DrawMachine -/
noncomputable def I10 : Inst := { f := 10, nt := 10, params := [((.ro (.pair (.slc (.int .i16)) (.pair (.slc (.int .i16)) (.pair (.slc (.int .i16)) .unit)))), false)], res := [(.ro (.arr 64 (.int .u64))), (.ro (.int .i64))], slots := [.cell 2 28, .tmp 3], code := bd Try.f10, callee := fun r i => find 0 [(1001, 40), (3001, 41)] (r * 1000 + i) }
/- laws.eqPlate -/
noncomputable def I11 : Inst := { f := 11, nt := 17, params := [((.ro (.arr 64 (.int .u64))), false), ((.ro (.arr 64 (.int .u64))), false)], res := [(.ro .bool)], slots := [.tmp 4], code := bd Try.f11, loops := fun b => find [] [(0, [.own 2 (.box (.ro (.arr 64 (.int .u64)))), .own 3 (.box (.ro (.arr 64 (.int .u64)))), .own 5 (.ro (.int .i64))])] b }
/- laws.eqCam -/
noncomputable def I42 : Inst := { f := 42, nt := 26, params := [((.ro (.slc (.int .i16))), false), ((.ro (.slc (.int .i16))), false)], res := [(.ro .bool)], slots := [.tmp 4], code := bd Try.f42, loops := fun b => find [] [(0, [.own 0 (.ro (.slc (.int .i16))), .own 1 (.ro (.slc (.int .i16))), .own 5 (.ro (.int .i64))])] b }
/- laws.eqMachine -/
noncomputable def I12 : Inst := { f := 12, nt := 23, params := [((.ro (.pair (.slc (.int .i16)) (.pair (.slc (.int .i16)) (.pair (.slc (.int .i16)) .unit)))), false), ((.ro (.pair (.slc (.int .i16)) (.pair (.slc (.int .i16)) (.pair (.slc (.int .i16)) .unit)))), false)], res := [(.ro .bool)], slots := [.tmp 4], code := bd Try.f12, callee := fun r i => find 0 [(1004, 42), (3004, 42), (5004, 42)] (r * 1000 + i) }
/- laws.FnExactDrawMachine -/
noncomputable def I3 : Inst := { f := 3, nt := 41, params := [((.ro (.pair (.slc (.int .i16)) (.pair (.slc (.int .i16)) (.pair (.slc (.int .i16)) .unit)))), false)], res := [(.ro .bool)], slots := [.tmp 2], code := bd Try.f3, callee := fun r i => find 0 [(2002, 7), (5001, 9), (5002, 8), (6001, 9), (7001, 10), (8002, 11), (10002, 9), (10003, 12)] (r * 1000 + i) }
noncomputable def C : Nat → Inst := find I36 [(36, I36), (7, I7), (39, I39), (9, I9), (61, I61), (74, I74), (65, I65), (82, I82), (125, I125), (110, I110), (111, I111), (81, I81), (37, I37), (83, I83), (63, I63), (126, I126), (106, I106), (112, I112), (84, I84), (38, I38), (8, I8), (48, I48), (57, I57), (72, I72), (71, I71), (114, I114), (127, I127), (113, I113), (85, I85), (86, I86), (40, I40), (115, I115), (131, I131), (132, I132), (128, I128), (116, I116), (87, I87), (88, I88), (73, I73), (129, I129), (124, I124), (117, I117), (89, I89), (41, I41), (10, I10), (11, I11), (42, I42), (12, I12), (3, I3)]
theorem tsOk : TsOk Try.prog T := tsOkB_sound (by kernel_rfl)
theorem ok36 : InstOk Try.prog I36 := instOk_of Try.func36 (by kernel_rfl) (by kernel_rfl) (by kernel_rfl) (by kernel_rfl)
theorem ok7 : InstOk Try.prog I7 := instOk_of Try.func7 (by kernel_rfl) (by kernel_rfl) (by kernel_rfl) (by kernel_rfl)
theorem ok39 : InstOk Try.prog I39 := instOk_of Try.func39 (by kernel_rfl) (by kernel_rfl) (by kernel_rfl) (by kernel_rfl)
theorem ok9 : InstOk Try.prog I9 := instOk_of Try.func9 (by kernel_rfl) (by kernel_rfl) (by kernel_rfl) (by kernel_rfl)
theorem ok61 : InstOk Try.prog I61 := instOk_of Try.func61 (by kernel_rfl) (by kernel_rfl) (by kernel_rfl) (by kernel_rfl)
theorem ok74 : InstOk Try.prog I74 := instOk_of Try.func74 (by kernel_rfl) (by kernel_rfl) (by kernel_rfl) (by kernel_rfl)
theorem ok65 : InstOk Try.prog I65 := instOk_of Try.func65 (by kernel_rfl) (by kernel_rfl) (by kernel_rfl) (by kernel_rfl)
theorem ok82 : InstOk Try.prog I82 := instOk_of Try.func82 (by kernel_rfl) (by kernel_rfl) (by kernel_rfl) (by kernel_rfl)
theorem ok125 : InstOk Try.prog I125 := instOk_of Try.func125 (by kernel_rfl) (by kernel_rfl) (by kernel_rfl) (by kernel_rfl)
theorem ok110 : InstOk Try.prog I110 := instOk_of Try.func110 (by kernel_rfl) (by kernel_rfl) (by kernel_rfl) (by kernel_rfl)
theorem ok111 : InstOk Try.prog I111 := instOk_of Try.func111 (by kernel_rfl) (by kernel_rfl) (by kernel_rfl) (by kernel_rfl)
theorem ok81 : InstOk Try.prog I81 := instOk_of Try.func81 (by kernel_rfl) (by kernel_rfl) (by kernel_rfl) (by kernel_rfl)
theorem ok37 : InstOk Try.prog I37 := instOk_of Try.func37 (by kernel_rfl) (by kernel_rfl) (by kernel_rfl) (by kernel_rfl)
theorem ok83 : InstOk Try.prog I83 := instOk_of Try.func83 (by kernel_rfl) (by kernel_rfl) (by kernel_rfl) (by kernel_rfl)
theorem ok63 : InstOk Try.prog I63 := instOk_of Try.func63 (by kernel_rfl) (by kernel_rfl) (by kernel_rfl) (by kernel_rfl)
theorem ok126 : InstOk Try.prog I126 := instOk_of Try.func126 (by kernel_rfl) (by kernel_rfl) (by kernel_rfl) (by kernel_rfl)
theorem ok106 : InstOk Try.prog I106 := instOk_of Try.func106 (by kernel_rfl) (by kernel_rfl) (by kernel_rfl) (by kernel_rfl)
theorem ok112 : InstOk Try.prog I112 := instOk_of Try.func112 (by kernel_rfl) (by kernel_rfl) (by kernel_rfl) (by kernel_rfl)
theorem ok84 : InstOk Try.prog I84 := instOk_of Try.func84 (by kernel_rfl) (by kernel_rfl) (by kernel_rfl) (by kernel_rfl)
theorem ok38 : InstOk Try.prog I38 := instOk_of Try.func38 (by kernel_rfl) (by kernel_rfl) (by kernel_rfl) (by kernel_rfl)
theorem ok8 : InstOk Try.prog I8 := instOk_of Try.func8 (by kernel_rfl) (by kernel_rfl) (by kernel_rfl) (by kernel_rfl)
theorem ok48 : InstOk Try.prog I48 := instOk_of Try.func48 (by kernel_rfl) (by kernel_rfl) (by kernel_rfl) (by kernel_rfl)
theorem ok57 : InstOk Try.prog I57 := instOk_of Try.func57 (by kernel_rfl) (by kernel_rfl) (by kernel_rfl) (by kernel_rfl)
theorem ok72 : InstOk Try.prog I72 := instOk_of Try.func72 (by kernel_rfl) (by kernel_rfl) (by kernel_rfl) (by kernel_rfl)
theorem ok71 : InstOk Try.prog I71 := instOk_of Try.func71 (by kernel_rfl) (by kernel_rfl) (by kernel_rfl) (by kernel_rfl)
theorem ok114 : InstOk Try.prog I114 := instOk_of Try.func114 (by kernel_rfl) (by kernel_rfl) (by kernel_rfl) (by kernel_rfl)
theorem ok127 : InstOk Try.prog I127 := instOk_of Try.func127 (by kernel_rfl) (by kernel_rfl) (by kernel_rfl) (by kernel_rfl)
theorem ok113 : InstOk Try.prog I113 := instOk_of Try.func113 (by kernel_rfl) (by kernel_rfl) (by kernel_rfl) (by kernel_rfl)
theorem ok85 : InstOk Try.prog I85 := instOk_of Try.func85 (by kernel_rfl) (by kernel_rfl) (by kernel_rfl) (by kernel_rfl)
theorem ok86 : InstOk Try.prog I86 := instOk_of Try.func86 (by kernel_rfl) (by kernel_rfl) (by kernel_rfl) (by kernel_rfl)
theorem ok40 : InstOk Try.prog I40 := instOk_of Try.func40 (by kernel_rfl) (by kernel_rfl) (by kernel_rfl) (by kernel_rfl)
theorem ok115 : InstOk Try.prog I115 := instOk_of Try.func115 (by kernel_rfl) (by kernel_rfl) (by kernel_rfl) (by kernel_rfl)
theorem ok131 : InstOk Try.prog I131 := instOk_of Try.func131 (by kernel_rfl) (by kernel_rfl) (by kernel_rfl) (by kernel_rfl)
theorem ok132 : InstOk Try.prog I132 := instOk_of Try.func132 (by kernel_rfl) (by kernel_rfl) (by kernel_rfl) (by kernel_rfl)
theorem ok128 : InstOk Try.prog I128 := instOk_of Try.func128 (by kernel_rfl) (by kernel_rfl) (by kernel_rfl) (by kernel_rfl)
theorem ok116 : InstOk Try.prog I116 := instOk_of Try.func116 (by kernel_rfl) (by kernel_rfl) (by kernel_rfl) (by kernel_rfl)
theorem ok87 : InstOk Try.prog I87 := instOk_of Try.func87 (by kernel_rfl) (by kernel_rfl) (by kernel_rfl) (by kernel_rfl)
theorem ok88 : InstOk Try.prog I88 := instOk_of Try.func88 (by kernel_rfl) (by kernel_rfl) (by kernel_rfl) (by kernel_rfl)
theorem ok73 : InstOk Try.prog I73 := instOk_of Try.func73 (by kernel_rfl) (by kernel_rfl) (by kernel_rfl) (by kernel_rfl)
theorem ok129 : InstOk Try.prog I129 := instOk_of Try.func129 (by kernel_rfl) (by kernel_rfl) (by kernel_rfl) (by kernel_rfl)
theorem ok124 : InstOk Try.prog I124 := instOk_of Try.func124 (by kernel_rfl) (by kernel_rfl) (by kernel_rfl) (by kernel_rfl)
theorem ok117 : InstOk Try.prog I117 := instOk_of Try.func117 (by kernel_rfl) (by kernel_rfl) (by kernel_rfl) (by kernel_rfl)
theorem ok89 : InstOk Try.prog I89 := instOk_of Try.func89 (by kernel_rfl) (by kernel_rfl) (by kernel_rfl) (by kernel_rfl)
theorem ok41 : InstOk Try.prog I41 := instOk_of Try.func41 (by kernel_rfl) (by kernel_rfl) (by kernel_rfl) (by kernel_rfl)
theorem ok10 : InstOk Try.prog I10 := instOk_of Try.func10 (by kernel_rfl) (by kernel_rfl) (by kernel_rfl) (by kernel_rfl)
theorem ok11 : InstOk Try.prog I11 := instOk_of Try.func11 (by kernel_rfl) (by kernel_rfl) (by kernel_rfl) (by kernel_rfl)
theorem ok42 : InstOk Try.prog I42 := instOk_of Try.func42 (by kernel_rfl) (by kernel_rfl) (by kernel_rfl) (by kernel_rfl)
theorem ok12 : InstOk Try.prog I12 := instOk_of Try.func12 (by kernel_rfl) (by kernel_rfl) (by kernel_rfl) (by kernel_rfl)
theorem ok3 : InstOk Try.prog I3 := instOk_of Try.func3 (by kernel_rfl) (by kernel_rfl) (by kernel_rfl) (by kernel_rfl)
theorem insts : ∀ j, InstOk Try.prog (C j) := find_all ok36 (List.forall_mem_cons.2 ⟨ok36, List.forall_mem_cons.2 ⟨ok7, List.forall_mem_cons.2 ⟨ok39, List.forall_mem_cons.2 ⟨ok9, List.forall_mem_cons.2 ⟨ok61, List.forall_mem_cons.2 ⟨ok74, List.forall_mem_cons.2 ⟨ok65, List.forall_mem_cons.2 ⟨ok82, List.forall_mem_cons.2 ⟨ok125, List.forall_mem_cons.2 ⟨ok110, List.forall_mem_cons.2 ⟨ok111, List.forall_mem_cons.2 ⟨ok81, List.forall_mem_cons.2 ⟨ok37, List.forall_mem_cons.2 ⟨ok83, List.forall_mem_cons.2 ⟨ok63, List.forall_mem_cons.2 ⟨ok126, List.forall_mem_cons.2 ⟨ok106, List.forall_mem_cons.2 ⟨ok112, List.forall_mem_cons.2 ⟨ok84, List.forall_mem_cons.2 ⟨ok38, List.forall_mem_cons.2 ⟨ok8, List.forall_mem_cons.2 ⟨ok48, List.forall_mem_cons.2 ⟨ok57, List.forall_mem_cons.2 ⟨ok72, List.forall_mem_cons.2 ⟨ok71, List.forall_mem_cons.2 ⟨ok114, List.forall_mem_cons.2 ⟨ok127, List.forall_mem_cons.2 ⟨ok113, List.forall_mem_cons.2 ⟨ok85, List.forall_mem_cons.2 ⟨ok86, List.forall_mem_cons.2 ⟨ok40, List.forall_mem_cons.2 ⟨ok115, List.forall_mem_cons.2 ⟨ok131, List.forall_mem_cons.2 ⟨ok132, List.forall_mem_cons.2 ⟨ok128, List.forall_mem_cons.2 ⟨ok116, List.forall_mem_cons.2 ⟨ok87, List.forall_mem_cons.2 ⟨ok88, List.forall_mem_cons.2 ⟨ok73, List.forall_mem_cons.2 ⟨ok129, List.forall_mem_cons.2 ⟨ok124, List.forall_mem_cons.2 ⟨ok117, List.forall_mem_cons.2 ⟨ok89, List.forall_mem_cons.2 ⟨ok41, List.forall_mem_cons.2 ⟨ok10, List.forall_mem_cons.2 ⟨ok11, List.forall_mem_cons.2 ⟨ok42, List.forall_mem_cons.2 ⟨ok12, List.forall_mem_cons.2 ⟨ok3, fun _ h => absurd h List.not_mem_nil⟩⟩⟩⟩⟩⟩⟩⟩⟩⟩⟩⟩⟩⟩⟩⟩⟩⟩⟩⟩⟩⟩⟩⟩⟩⟩⟩⟩⟩⟩⟩⟩⟩⟩⟩⟩⟩⟩⟩⟩⟩⟩⟩⟩⟩⟩⟩⟩⟩)
end Go.Proofs.Ytkcapecjamijaaa.LDrawMachine
