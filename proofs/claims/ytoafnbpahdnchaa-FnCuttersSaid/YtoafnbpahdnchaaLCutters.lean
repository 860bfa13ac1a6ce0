/- The types and the functions that a law reaches, told for the reading (Fw). Written by a program (gen.py). -/
import Derived.Test.YtoafnbpahdnchaaFwC
import Derived.Test.YtoafnbpahdnchaaProg
namespace Go.Proofs.Ytoafnbpahdnchaa.LCutters
open Go Go.Fw
open Go.Proofs
noncomputable def tyL : List (Nat × TI) := [(2, ⟨(.int .i64), 0, 8⟩),
  (3, ⟨(.int .i64), 0, 8⟩),
  (4, ⟨.bool, 0, 1⟩),
  (5, ⟨(.int .u8), 0, 1⟩),
  (27, ⟨(.slc (.int .i16)), 57, 24⟩),
  (31, ⟨(.slc (.slc (.int .i16))), 48, 24⟩),
  (45, ⟨(.slc (.int .u8)), 5, 24⟩),
  (48, ⟨(.slc (.int .i16)), 57, 24⟩),
  (52, ⟨(.slc (.int .i64)), 2, 24⟩),
  (57, ⟨(.int .i16), 0, 2⟩),
  (59, ⟨.fn, 0, 8⟩),
  (85, ⟨(.int .i8), 0, 1⟩),
  (108, ⟨(.slc (.pair (.int .i8) (.pair (.int .i16) (.pair (.int .i16) .unit)))), 154, 24⟩),
  (110, ⟨(.pair (.int .i16) (.pair (.slc (.pair (.int .i8) (.pair (.int .i16) (.pair (.int .i16) .unit)))) .unit)), 0, 32⟩),
  (112, ⟨(.ptr (.pair (.slc (.int .u8)) (.pair (.int .i64) (.pair (.int .u64) .unit)))), 0, 8⟩),
  (115, ⟨(.ptr (.pair (.int .i16) (.pair (.slc (.pair (.int .i8) (.pair (.int .i16) (.pair (.int .i16) .unit)))) .unit))), 0, 8⟩),
  (122, ⟨.fn, 0, 8⟩),
  (123, ⟨(.slc .bool), 4, 24⟩),
  (129, ⟨.fn, 0, 8⟩),
  (152, ⟨.fn, 0, 8⟩),
  (154, ⟨(.pair (.int .i8) (.pair (.int .i16) (.pair (.int .i16) .unit))), 0, 6⟩),
  (156, ⟨(.int .u64), 0, 8⟩),
  (158, ⟨(.pair (.slc (.int .u8)) (.pair (.int .i64) (.pair (.int .u64) .unit))), 0, 40⟩)]
noncomputable def T : Nat → Option TI := findT tyL
/- laws.a2Long -/
noncomputable def I23 : Inst := { f := 23, nt := 13, params := [((.ro (.slc (.int .u8))), false), ((.ro (.slc (.int .u8))), false)], res := [(.ro .bool)], slots := [.tmp 4], code := bd Try.f23 }
/- spec.l00From -/
noncomputable def I81 : Inst := { f := 81, nt := 6, params := [((.ro (.slc (.int .u8))), false)], res := [(.box (.ro (.pair (.slc (.int .u8)) (.pair (.int .i64) (.pair (.int .u64) .unit)))))], slots := [.tmp 2], code := bd Try.f81, strict := true }
/- spec.l00Src).next -/
noncomputable def I154 : Inst := { f := 154, nt := 62, params := [((.box (.ro (.pair (.slc (.int .u8)) (.pair (.int .i64) (.pair (.int .u64) .unit))))), true)], res := [(.ro (.int .i64))], slots := [.tmp 2], code := bd Try.f154, strict := true, pins := [0] }
/- spec.l00Src).pick -/
noncomputable def I101 : Inst := { f := 101, nt := 20, params := [((.box (.ro (.pair (.slc (.int .u8)) (.pair (.int .i64) (.pair (.int .u64) .unit))))), true), ((.ro (.int .i64)), false)], res := [(.ro (.int .i64))], slots := [.tmp 4], code := bd Try.f101, strict := true, callee := fun r i => find 0 [(3001, 154), (5003, 154)] (r * 1000 + i), pins := [0] }
/- spec.l00Src).one -/
noncomputable def I142 : Inst := { f := 142, nt := 9, params := [((.box (.ro (.pair (.slc (.int .u8)) (.pair (.int .i64) (.pair (.int .u64) .unit))))), true), ((.ro (.int .i64)), false)], res := [(.ro .bool)], slots := [.tmp 4], code := bd Try.f142, strict := true, callee := fun r i => find 0 [(1002, 101)] (r * 1000 + i), pins := [0] }
/- spec.l02Drawn -/
noncomputable def I80 : Inst := { f := 80, nt := 84, params := [((.box (.ro (.pair (.slc (.int .u8)) (.pair (.int .i64) (.pair (.int .u64) .unit))))), true)], res := [(.pr (.ro (.int .i16)) (.pr (.row false (.pair (.int .i8) (.pair (.int .i16) (.pair (.int .i16) .unit)))) (.ro .unit)))], slots := [.cell 2 110], code := bd Try.f80, strict := true, callee := fun r i => find 0 [(1001, 101), (3001, 101), (6001, 101), (6004, 101), (6008, 101), (7001, 142)] (r * 1000 + i), loops := fun b => find [] [(0, [.own 0 (.box (.ro (.pair (.slc (.int .u8)) (.pair (.int .i64) (.pair (.int .u64) .unit))))), .own 2 (.box (.ro (.pair (.int .i16) (.pair (.slc (.pair (.int .i8) (.pair (.int .i16) (.pair (.int .i16) .unit)))) .unit)))), .own 3 (.box (.pr (.ro (.int .i16)) (.pr (.row false (.pair (.int .i8) (.pair (.int .i16) (.pair (.int .i16) .unit)))) (.ro .unit)))), .own 4 (.ro (.int .i64)), .own 5 (.ro (.int .i64))])] b, pins := [0], deep := fun r i => find false [(10003, true), (10004, true)] (r * 1000 + i) }
/- spec.l02Shape -/
noncomputable def I174 : Inst := { f := 174, nt := 90, params := [((.ro (.int .i64)), false), ((.ro (.int .i64)), false), ((.ro (.int .i64)), false)], res := [(.ro (.int .i64)), (.ro (.int .i64))], slots := [.tmp 6, .tmp 7], code := bd Try.f174 }
/- spec.l01Near -/
noncomputable def I175 : Inst := { f := 175, nt := 23, params := [((.ro (.int .i64)), false), ((.ro (.int .i64)), false)], res := [(.ro (.int .i64))], slots := [.tmp 4], code := bd Try.f175 }
/- spec.l02Lift -/
noncomputable def I143 : Inst := { f := 143, nt := 31, params := [((.ro (.int .i64)), false), ((.ro (.int .i64)), false), ((.ro (.int .i64)), false), ((.ro (.int .i64)), false), ((.ro (.int .i64)), false)], res := [(.ro (.int .i64))], slots := [.tmp 10], code := bd Try.f143, callee := fun r i => find 0 [(1003, 174), (2010, 175)] (r * 1000 + i) }
/- spec.l02Make -/
noncomputable def I82 : Inst := { f := 82, nt := 66, params := [((.ro (.ptr (.pair (.int .i16) (.pair (.slc (.pair (.int .i8) (.pair (.int .i16) (.pair (.int .i16) .unit)))) .unit)))), false)], res := [(.row false (.int .i16))], slots := [.tmp 2], code := bd Try.f82, callee := fun r i => find 0 [(10018, 143)] (r * 1000 + i), loops := fun b => find [] [(2, [.own 0 (.ro (.ptr (.pair (.int .i16) (.pair (.slc (.pair (.int .i8) (.pair (.int .i16) (.pair (.int .i16) .unit)))) .unit)))), .own 3 (.row false (.int .i16)), .own 4 (.ro (.int .i64)), .own 5 (.ro (.int .i64)), .own 6 (.ro (.ptr (.pair (.int .i8) (.pair (.int .i16) (.pair (.int .i16) .unit))))), .own 7 (.ro (.int .i64))]), (0, [.own 0 (.ro (.ptr (.pair (.int .i16) (.pair (.slc (.pair (.int .i8) (.pair (.int .i16) (.pair (.int .i16) .unit)))) .unit)))), .own 3 (.row false (.int .i16)), .own 4 (.ro (.int .i64)), .own 5 (.ro (.int .i64))])] b, deep := fun r i => find false [(1000, true), (10020, true), (10021, true)] (r * 1000 + i) }
/- spec.A2Cam -/
noncomputable def I24 : Inst := { f := 24, nt := 8, params := [((.ro (.slc (.int .u8))), false)], res := [(.row false (.int .i16))], slots := [.tmp 2], code := bd Try.f24, callee := fun r i => find 0 [(1001, 81), (1002, 80), (2000, 82)] (r * 1000 + i) }
/- spec.l00In -/
noncomputable def I129 : Inst := { f := 129, nt := 15, params := [((.ro (.int .i64)), false), ((.ro (.int .i64)), false), ((.ro (.int .i64)), false)], res := [(.ro .bool)], slots := [.tmp 6], code := bd Try.f129 }
/- spec.FlatCutter -/
noncomputable def I144 : Inst := { f := 144, nt := 15, params := [((.ro (.int .i64)), false)], res := [(.row false (.int .i16)), (.ro (.int .i64))], slots := [.tmp 2, .tmp 3], code := bd Try.f144, callee := fun r i => find 0 [(1001, 129)] (r * 1000 + i), deep := fun r i => find false [(2000, true), (3001, true)] (r * 1000 + i) }
/- spec.l06Drawn -/
noncomputable def I83 : Inst := { f := 83, nt := 49, params := [((.box (.ro (.pair (.slc (.int .u8)) (.pair (.int .i64) (.pair (.int .u64) .unit))))), true)], res := [(.row false (.int .i16))], slots := [.tmp 2], code := bd Try.f83, strict := true, callee := fun r i => find 0 [(1001, 142), (2001, 101), (2004, 144), (4001, 101), (10002, 101)] (r * 1000 + i), loops := fun b => find [] [(0, [.own 0 (.box (.ro (.pair (.slc (.int .u8)) (.pair (.int .i64) (.pair (.int .u64) .unit))))), .own 5 (.ro (.int .i64)), .own 6 (.row false (.int .i16)), .own 7 (.ro (.int .i16)), .own 8 (.ro (.int .i64))])] b, pins := [0], deep := fun r i => find false [(5003, true)] (r * 1000 + i) }
/- spec.A2Cutter -/
noncomputable def I25 : Inst := { f := 25, nt := 6, params := [((.ro (.slc (.int .u8))), false)], res := [(.row false (.int .i16))], slots := [.tmp 2], code := bd Try.f25, callee := fun r i => find 0 [(1001, 81), (1002, 83)] (r * 1000 + i) }
/- impl.Cam).steps -/
noncomputable def I77 : Inst := { f := 77, nt := 5, params := [((.ro (.slc (.int .i16))), false)], res := [(.ro (.int .i64))], slots := [.tmp 2], code := bd Try.f77 }
/- impl.inRange -/
noncomputable def I133 : Inst := { f := 133, nt := 15, params := [((.ro (.int .i64)), false), ((.ro (.int .i64)), false), ((.ro (.int .i64)), false)], res := [(.ro .bool)], slots := [.tmp 6], code := bd Try.f133 }
/- impl.isSteps -/
noncomputable def I91 : Inst := { f := 91, nt := 5, params := [((.ro (.int .i64)), false)], res := [(.ro .bool)], slots := [.tmp 2], code := bd Try.f91, callee := fun r i => find 0 [(1001, 133)] (r * 1000 + i) }
/- impl.isLift -/
noncomputable def I73 : Inst := { f := 73, nt := 5, params := [((.ro (.int .i64)), false)], res := [(.ro .bool)], slots := [.tmp 2], code := bd Try.f73, callee := fun r i => find 0 [(1001, 133)] (r * 1000 + i) }
/- impl.ValidCam$1 -/
noncomputable def I93 : Inst := { f := 93, nt := 7, params := [((.ro (.int .i16)), false)], res := [(.ro .bool)], slots := [.tmp 2], code := bd Try.f93, callee := fun r i => find 0 [(1002, 73)] (r * 1000 + i) }
/- impl.Cam,int16] -/
noncomputable def I148 : Inst := { f := 148, nt := 19, params := [((.ro (.slc (.int .i16))), false), ((.clo 93 (.ro .unit) (.ro .unit)), false)], res := [(.ro (.int .i64))], slots := [.tmp 4], code := bd Try.f148, callee := fun r i => find 0 [(4005, 93)] (r * 1000 + i), loops := fun b => find [] [(0, [.own 0 (.ro (.slc (.int .i16))), .own 1 (.clo 93 (.ro .unit) (.ro .unit)), .own 7 (.ro (.int .i64)), .own 8 (.ro (.int .i64))])] b }
/- impl.Cam,int16] -/
noncomputable def I92 : Inst := { f := 92, nt := 9, params := [((.ro (.slc (.int .i16))), false), ((.clo 93 (.ro .unit) (.ro .unit)), false)], res := [(.ro .bool)], slots := [.tmp 4], code := bd Try.f92, callee := fun r i => find 0 [(1002, 148)] (r * 1000 + i) }
/- impl.ValidCam -/
noncomputable def I35 : Inst := { f := 35, nt := 11, params := [((.ro (.slc (.int .i16))), false)], res := [(.ro .bool)], slots := [.tmp 2], code := bd Try.f35, callee := fun r i => find 0 [(1001, 77), (1002, 91), (1005, 92)] (r * 1000 + i) }
/- impl.ValidCutter -/
noncomputable def I34 : Inst := { f := 34, nt := 61, params := [((.ro (.slc (.int .i16))), false)], res := [(.ro .bool)], slots := [.tmp 2], code := bd Try.f34, callee := fun r i => find 0 [(7002, 73)] (r * 1000 + i), loops := fun b => find [] [(0, [.own 0 (.ro (.slc (.int .i16))), .own 3 (.ro (.int .i64)), .own 23 (.ro (.slc (.int .i16))), .own 24 (.ro (.int .i64)), .own 25 (.ro (.int .i64))])] b }
/- impl.codeIf -/
noncomputable def I72 : Inst := { f := 72, nt := 7, params := [((.ro .bool), false), ((.ro (.int .i64)), false)], res := [(.ro (.int .i64))], slots := [.tmp 4], code := bd Try.f72 }
/- impl.cutterCode -/
noncomputable def I84 : Inst := { f := 84, nt := 14, params := [((.ro (.slc (.int .i16))), false), ((.ro (.slc (.int .i16))), false)], res := [(.ro (.int .i64))], slots := [.tmp 4], code := bd Try.f84, callee := fun r i => find 0 [(1001, 35), (1005, 34), (1008, 72)] (r * 1000 + i) }
/- impl.floorDiv -/
noncomputable def I109 : Inst := { f := 109, nt := 16, params := [((.ro (.int .i64)), false), ((.ro (.int .i64)), false)], res := [(.ro (.int .i64))], slots := [.tmp 4], code := bd Try.f109 }
/- impl.mod -/
noncomputable def I141 : Inst := { f := 141, nt := 12, params := [((.ro (.int .i64)), false), ((.ro (.int .i64)), false)], res := [(.ro (.int .i64))], slots := [.tmp 4], code := bd Try.f141, callee := fun r i => find 0 [(1004, 109)] (r * 1000 + i) }
/- impl.Cam).at -/
noncomputable def I112 : Inst := { f := 112, nt := 13, params := [((.ro (.slc (.int .i16))), false), ((.ro (.int .i64)), false)], res := [(.ro (.int .i64))], slots := [.tmp 4], code := bd Try.f112, callee := fun r i => find 0 [(1003, 77), (1004, 141)] (r * 1000 + i) }
/- impl.Cam).tips$1$1 -/
noncomputable def I147 : Inst := { f := 147, nt := 13, params := [((.ro (.int .i64)), false), ((.ro (.int .i64)), false), ((.box (.ro (.int .i64))), true), ((.box (.ro (.slc (.int .i16)))), true)], res := [], slots := [], code := bd Try.f147, strict := true, callee := fun r i => find 0 [(3, 112)] (r * 1000 + i), pins := [2, 3] }
/- impl.Cutter).each -/
noncomputable def I139 : Inst := { f := 139, nt := 29, params := [((.ro (.slc (.int .i16))), false), ((.ro (.int .i64)), false), ((.clo 147 (.ro .unit) (.pr (.box (.ro (.int .i64))) (.pr (.box (.ro (.slc (.int .i16)))) (.ro .unit)))), true)], res := [], slots := [], code := bd Try.f139, strict := true, callee := fun r i => find 0 [(4008, 147)] (r * 1000 + i), loops := fun b => find [] [(0, [.own 1 (.ro (.int .i64)), .own 2 (.clo 147 (.ro .unit) (.pr (.box (.ro (.int .i64))) (.pr (.box (.ro (.slc (.int .i16)))) (.ro .unit)))), .own 6 (.ro (.int .i64)), .own 12 (.ro (.slc (.int .i16))), .own 13 (.ro (.int .i64)), .own 14 (.ro (.int .i64))])] b, pins := [2] }
/- impl.Cam).tips$1 -/
noncomputable def I146 : Inst := { f := 146, nt := 11, params := [((.ro (.int .i64)), false), ((.box (.ro (.slc (.int .i16)))), true), ((.box (.ro (.slc (.int .i16)))), true)], res := [(.ro (.int .i64))], slots := [.tmp 4], code := bd Try.f146, strict := true, callee := fun r i => find 0 [(2003, 139)] (r * 1000 + i), pins := [1, 2] }
/- impl.Cam).numbers -/
noncomputable def I145 : Inst := { f := 145, nt := 21, params := [((.ro (.slc (.int .i16))), false), ((.clo 146 (.ro .unit) (.pr (.box (.ro (.slc (.int .i16)))) (.pr (.box (.ro (.slc (.int .i16)))) (.ro .unit)))), true)], res := [(.row false (.int .i64))], slots := [.tmp 4], code := bd Try.f145, strict := true, callee := fun r i => find 0 [(2001, 77), (5003, 146)] (r * 1000 + i), loops := fun b => find [] [(0, [.own 1 (.clo 146 (.ro .unit) (.pr (.box (.ro (.slc (.int .i16)))) (.pr (.box (.ro (.slc (.int .i16)))) (.ro .unit)))), .own 5 (.row false (.int .i64)), .own 9 (.ro (.int .i64)), .own 10 (.ro (.int .i64))])] b, pins := [1], deep := fun r i => find false [(1000, true), (5004, true), (5005, true)] (r * 1000 + i) }
/- impl.Cam).tips -/
noncomputable def I86 : Inst := { f := 86, nt := 8, params := [((.ro (.slc (.int .i16))), false), ((.ro (.slc (.int .i16))), false)], res := [(.row false (.int .i64))], slots := [.tmp 4], code := bd Try.f86, callee := fun r i => find 0 [(1002, 145)] (r * 1000 + i) }
/- impl.Cam).left$1$1 -/
noncomputable def I140 : Inst := { f := 140, nt := 18, params := [((.ro (.int .i64)), false), ((.ro (.int .i64)), false), ((.box (.ro (.int .i64))), true), ((.box (.ro (.slc (.int .i64)))), true), ((.box (.ro (.slc (.int .i16)))), true)], res := [], slots := [], code := bd Try.f140, strict := true, callee := fun r i => find 0 [(4, 77), (5, 141)] (r * 1000 + i), pins := [2, 3, 4] }
/- impl.Cutter).each -/
noncomputable def I1139 : Inst := { f := 139, nt := 29, params := [((.ro (.slc (.int .i16))), false), ((.ro (.int .i64)), false), ((.clo 140 (.ro .unit) (.pr (.box (.ro (.int .i64))) (.pr (.box (.ro (.slc (.int .i64)))) (.pr (.box (.ro (.slc (.int .i16)))) (.ro .unit))))), true)], res := [], slots := [], code := bd Try.f139, strict := true, callee := fun r i => find 0 [(4008, 140)] (r * 1000 + i), loops := fun b => find [] [(0, [.own 1 (.ro (.int .i64)), .own 2 (.clo 140 (.ro .unit) (.pr (.box (.ro (.int .i64))) (.pr (.box (.ro (.slc (.int .i64)))) (.pr (.box (.ro (.slc (.int .i16)))) (.ro .unit))))), .own 6 (.ro (.int .i64)), .own 12 (.ro (.slc (.int .i16))), .own 13 (.ro (.int .i64)), .own 14 (.ro (.int .i64))])] b, pins := [2] }
/- impl.Cam).left$1 -/
noncomputable def I138 : Inst := { f := 138, nt := 16, params := [((.ro (.int .i64)), false), ((.box (.ro (.slc (.int .i64)))), true), ((.box (.ro (.slc (.int .i16)))), true), ((.box (.ro (.slc (.int .i16)))), true)], res := [(.ro (.int .i64))], slots := [.tmp 5], code := bd Try.f138, strict := true, callee := fun r i => find 0 [(2003, 1139)] (r * 1000 + i), pins := [1, 2, 3] }
/- impl.camOf -/
noncomputable def I136 : Inst := { f := 136, nt := 27, params := [((.ro (.int .i64)), false), ((.clo 138 (.ro .unit) (.pr (.box (.ro (.slc (.int .i64)))) (.pr (.box (.ro (.slc (.int .i16)))) (.pr (.box (.ro (.slc (.int .i16)))) (.ro .unit))))), true)], res := [(.row false (.int .i16)), (.ro (.int .i64))], slots := [.tmp 4, .tmp 5], code := bd Try.f136, strict := true, callee := fun r i => find 0 [(5002, 138), (6001, 73)] (r * 1000 + i), loops := fun b => find [] [(0, [.own 1 (.clo 138 (.ro .unit) (.pr (.box (.ro (.slc (.int .i64)))) (.pr (.box (.ro (.slc (.int .i16)))) (.pr (.box (.ro (.slc (.int .i16)))) (.ro .unit))))), .own 6 (.row false (.int .i16)), .own 10 (.ro (.int .i64)), .own 11 (.ro (.int .i64))])] b, pins := [1], deep := fun r i => find false [(1000, true), (8003, true), (8004, true)] (r * 1000 + i) }
/- impl.Cam).left -/
noncomputable def I79 : Inst := { f := 79, nt := 19, params := [((.ro (.slc (.int .i16))), false), ((.ro (.slc (.int .i16))), false)], res := [(.row false (.int .i16))], slots := [.tmp 4], code := bd Try.f79, callee := fun r i => find 0 [(1002, 86), (2001, 77), (2003, 136)] (r * 1000 + i) }
/- impl.LeftBy -/
noncomputable def I26 : Inst := { f := 26, nt := 16, params := [((.ro (.slc (.int .i16))), false), ((.ro (.slc (.int .i16))), false)], res := [(.row false (.int .i16)), (.ro (.int .i64))], slots := [.tmp 4, .tmp 5], code := bd Try.f26, callee := fun r i => find 0 [(1002, 84), (4002, 79)] (r * 1000 + i) }
/- spec.l01Steps -/
noncomputable def I159 : Inst := { f := 159, nt := 5, params := [((.ro (.int .i64)), false)], res := [(.ro .bool)], slots := [.tmp 2], code := bd Try.f159, callee := fun r i => find 0 [(1001, 129)] (r * 1000 + i) }
/- spec.l01Lift -/
noncomputable def I65 : Inst := { f := 65, nt := 5, params := [((.ro (.int .i64)), false)], res := [(.ro .bool)], slots := [.tmp 2], code := bd Try.f65, callee := fun r i => find 0 [(1001, 129)] (r * 1000 + i) }
/- spec.l01Ok -/
noncomputable def I113 : Inst := { f := 113, nt := 21, params := [((.ro (.slc (.int .i16))), false)], res := [(.ro .bool)], slots := [.tmp 2], code := bd Try.f113, callee := fun r i => find 0 [(1002, 159), (6005, 65)] (r * 1000 + i), loops := fun b => find [] [(0, [.own 0 (.ro (.slc (.int .i16))), .own 3 (.ro (.int .i64))])] b }
/- spec.l06Ok -/
noncomputable def I96 : Inst := { f := 96, nt := 66, params := [((.ro (.slc (.int .i16))), false)], res := [(.ro .bool)], slots := [.tmp 2], code := bd Try.f96, callee := fun r i => find 0 [(2001, 129), (7005, 65)] (r * 1000 + i), loops := fun b => find [] [(0, [.own 0 (.ro (.slc (.int .i16))), .own 3 (.ro (.int .i64)), .own 4 (.ro (.int .i64))])] b }
/- spec.l06Asked -/
noncomputable def I85 : Inst := { f := 85, nt := 13, params := [((.ro (.slc (.int .i16))), false), ((.ro (.slc (.int .i16))), false)], res := [(.ro (.int .i64))], slots := [.tmp 4], code := bd Try.f85, callee := fun r i => find 0 [(1001, 113), (1005, 96)] (r * 1000 + i) }
/- spec.l01At -/
noncomputable def I161 : Inst := { f := 161, nt := 19, params := [((.ro (.slc (.int .i16))), false), ((.ro (.int .i64)), false)], res := [(.ro (.int .i64))], slots := [.tmp 4], code := bd Try.f161 }
/- spec.l00Max -/
noncomputable def I117 : Inst := { f := 117, nt := 10, params := [((.ro (.int .i64)), false), ((.ro (.int .i64)), false)], res := [(.ro (.int .i64))], slots := [.tmp 4], code := bd Try.f117 }
/- spec.l06Tip -/
noncomputable def I131 : Inst := { f := 131, nt := 36, params := [((.ro (.slc (.int .i16))), false), ((.ro (.slc (.int .i16))), false), ((.ro (.int .i64)), false)], res := [(.ro (.int .i64))], slots := [.tmp 6], code := bd Try.f131, callee := fun r i => find 0 [(6005, 161), (6014, 117)] (r * 1000 + i), loops := fun b => find [] [(0, [.own 0 (.ro (.slc (.int .i16))), .own 1 (.ro (.slc (.int .i16))), .own 2 (.ro (.int .i64)), .own 7 (.ro (.int .i64)), .own 8 (.ro (.int .i64)), .own 9 (.ro (.int .i64))])] b }
/- spec.l06Tips -/
noncomputable def I87 : Inst := { f := 87, nt := 22, params := [((.ro (.slc (.int .i16))), false), ((.ro (.slc (.int .i16))), false)], res := [(.row false (.int .i64))], slots := [.tmp 4], code := bd Try.f87, callee := fun r i => find 0 [(5004, 131)] (r * 1000 + i), loops := fun b => find [] [(0, [.own 0 (.ro (.slc (.int .i16))), .own 1 (.ro (.slc (.int .i16))), .own 5 (.row false (.int .i64)), .own 6 (.ro (.int .i64))])] b, deep := fun r i => find false [(1000, true), (5005, true), (5006, true)] (r * 1000 + i) }
/- spec.l06Cut -/
noncomputable def I125 : Inst := { f := 125, nt := 73, params := [((.ro (.slc (.int .i16))), false), ((.ro (.slc (.int .i16))), false), ((.ro (.int .i64)), false), ((.ro (.int .i64)), false)], res := [(.row false (.int .i16)), (.ro (.int .i64))], slots := [.tmp 8, .tmp 9], code := bd Try.f125, loops := fun b => find [] [(0, [.own 1 (.ro (.slc (.int .i16))), .own 2 (.ro (.int .i64)), .own 3 (.ro (.int .i64)), .own 10 (.row false (.int .i16)), .own 11 (.ro (.int .i64)), .own 12 (.ro (.int .i64)), .own 13 (.ro (.int .i64)), .own 14 (.ro (.int .i64))])] b, deep := fun r i => find false [(1000, true), (1002, true)] (r * 1000 + i) }
/- spec.l06Left -/
noncomputable def I69 : Inst := { f := 69, nt := 38, params := [((.ro (.slc (.int .i16))), false), ((.ro (.slc (.int .i16))), false)], res := [(.row false (.int .i16))], slots := [.tmp 4], code := bd Try.f69, callee := fun r i => find 0 [(6002, 87), (10007, 125)] (r * 1000 + i), loops := fun b => find [] [(2, [.own 1 (.ro (.slc (.int .i16))), .own 5 (.row false (.int .i16)), .own 6 (.ro (.slc (.int .i64))), .own 7 (.ro (.int .i64))]), (0, [.own 0 (.ro (.slc (.int .i16))), .own 1 (.ro (.slc (.int .i16))), .own 5 (.row false (.int .i16)), .own 10 (.ro (.int .i64)), .own 11 (.ro (.int .i64))])] b, deep := fun r i => find false [(1000, true), (4001, true), (4002, true)] (r * 1000 + i) }
/- spec.LeftBy -/
noncomputable def I27 : Inst := { f := 27, nt := 17, params := [((.ro (.slc (.int .i16))), false), ((.ro (.slc (.int .i16))), false)], res := [(.row false (.int .i16)), (.ro (.int .i64))], slots := [.tmp 4, .tmp 5], code := bd Try.f27, callee := fun r i => find 0 [(1002, 85), (4002, 69)] (r * 1000 + i), deep := fun r i => find false [(3000, true)] (r * 1000 + i) }
/- impl.TipsFor -/
noncomputable def I28 : Inst := { f := 28, nt := 16, params := [((.ro (.slc (.int .i16))), false), ((.ro (.slc (.int .i16))), false)], res := [(.row false (.int .i64)), (.ro (.int .i64))], slots := [.tmp 4, .tmp 5], code := bd Try.f28, callee := fun r i => find 0 [(1002, 84), (4002, 86)] (r * 1000 + i) }
/- spec.TipsFor -/
noncomputable def I29 : Inst := { f := 29, nt := 17, params := [((.ro (.slc (.int .i16))), false), ((.ro (.slc (.int .i16))), false)], res := [(.row false (.int .i64)), (.ro (.int .i64))], slots := [.tmp 4, .tmp 5], code := bd Try.f29, callee := fun r i => find 0 [(1002, 85), (4002, 87)] (r * 1000 + i), deep := fun r i => find false [(3000, true)] (r * 1000 + i) }
/- impl.Cam).waste -/
noncomputable def I88 : Inst := { f := 88, nt := 28, params := [((.ro (.slc (.int .i16))), false), ((.ro (.slc (.int .i16))), false)], res := [(.ro (.int .i64))], slots := [.tmp 4], code := bd Try.f88, callee := fun r i => find 0 [(2002, 79)] (r * 1000 + i), loops := fun b => find [] [(0, [.own 0 (.ro (.slc (.int .i16))), .own 5 (.ro (.int .i64)), .own 10 (.ro (.slc (.int .i16))), .own 11 (.ro (.int .i64)), .own 12 (.ro (.int .i64))])] b }
/- impl.WasteOf -/
noncomputable def I30 : Inst := { f := 30, nt := 16, params := [((.ro (.slc (.int .i16))), false), ((.ro (.slc (.int .i16))), false)], res := [(.ro (.int .i64)), (.ro (.int .i64))], slots := [.tmp 4, .tmp 5], code := bd Try.f30, callee := fun r i => find 0 [(1002, 84), (4002, 88)] (r * 1000 + i) }
/- impl.NotReached -/
noncomputable def I31 : Inst := { f := 31, nt := 38, params := [((.ro (.slc (.int .i16))), false), ((.ro (.slc (.int .i16))), false)], res := [(.row false (.int .i64)), (.ro (.int .i64))], slots := [.tmp 4, .tmp 5], code := bd Try.f31, callee := fun r i => find 0 [(1002, 84), (5002, 79)] (r * 1000 + i), loops := fun b => find [] [(0, [.own 0 (.ro (.slc (.int .i16))), .own 7 (.row false (.int .i64)), .own 19 (.ro (.slc (.int .i16))), .own 20 (.ro (.int .i64)), .own 21 (.ro (.int .i64))])] b, deep := fun r i => find false [(4000, true), (9002, true), (9003, true)] (r * 1000 + i) }
/- spec.l01Same -/
noncomputable def I89 : Inst := { f := 89, nt := 26, params := [((.ro (.slc (.int .i16))), false), ((.ro (.slc (.int .i16))), false)], res := [(.ro .bool)], slots := [.tmp 4], code := bd Try.f89, loops := fun b => find [] [(0, [.own 0 (.ro (.slc (.int .i16))), .own 1 (.ro (.slc (.int .i16))), .own 5 (.ro (.int .i64))])] b }
/- spec.SameCam -/
noncomputable def I32 : Inst := { f := 32, nt := 8, params := [((.ro (.slc (.int .i16))), false), ((.ro (.slc (.int .i16))), false)], res := [(.ro .bool)], slots := [.tmp 4], code := bd Try.f32, callee := fun r i => find 0 [(1002, 89)] (r * 1000 + i) }
/- spec.l00Same -/
noncomputable def I90 : Inst := { f := 90, nt := 26, params := [((.ro (.slc (.int .i64))), false), ((.ro (.slc (.int .i64))), false)], res := [(.ro .bool)], slots := [.tmp 4], code := bd Try.f90, loops := fun b => find [] [(0, [.own 0 (.ro (.slc (.int .i64))), .own 1 (.ro (.slc (.int .i64))), .own 5 (.ro (.int .i64))])] b }
/- spec.A2Same -/
noncomputable def I33 : Inst := { f := 33, nt := 8, params := [((.ro (.slc (.int .i64))), false), ((.ro (.slc (.int .i64))), false)], res := [(.ro .bool)], slots := [.tmp 4], code := bd Try.f33, callee := fun r i => find 0 [(1002, 90)] (r * 1000 + i) }
/- spec.A2Has -/
noncomputable def I36 : Inst := { f := 36, nt := 18, params := [((.ro (.slc (.int .i64))), false), ((.ro (.int .i64)), false)], res := [(.ro .bool)], slots := [.tmp 4], code := bd Try.f36, loops := fun b => find [] [(0, [.own 0 (.ro (.slc (.int .i64))), .own 1 (.ro (.int .i64)), .own 5 (.ro (.int .i64))])] b }
/- impl.Cutter).standsAt -/
noncomputable def I94 : Inst := { f := 94, nt := 37, params := [((.ro (.slc (.int .i16))), false), ((.ro (.slc (.int .i16))), false), ((.ro (.int .i64)), false)], res := [(.ro (.int .i16))], slots := [.tmp 6], code := bd Try.f94, loops := fun b => find [] [(0, [.own 1 (.ro (.slc (.int .i16))), .own 2 (.ro (.int .i64)), .own 7 (.ro (.int .i16)), .own 18 (.ro (.slc (.int .i16))), .own 19 (.ro (.int .i64)), .own 20 (.ro (.int .i64))])] b }
/- slices.Index[[]bool,bool] -/
noncomputable def I149 : Inst := { f := 149, nt := 19, params := [((.ro (.slc .bool)), false), ((.ro .bool), false)], res := [(.ro (.int .i64))], slots := [.tmp 4], code := bd Try.f149, loops := fun b => find [] [(0, [.own 0 (.ro (.slc .bool)), .own 1 (.ro .bool), .own 7 (.ro (.int .i64)), .own 8 (.ro (.int .i64))])] b }
/- slices.Contains[[]bool,bool] -/
noncomputable def I95 : Inst := { f := 95, nt := 9, params := [((.ro (.slc .bool)), false), ((.ro .bool), false)], res := [(.ro .bool)], slots := [.tmp 4], code := bd Try.f95, callee := fun r i => find 0 [(1002, 149)] (r * 1000 + i) }
/- impl.CanReplace -/
noncomputable def I37 : Inst := { f := 37, nt := 61, params := [((.ro (.slc (.int .i16))), false), ((.ro (.slc (.int .i16))), false)], res := [(.ro .bool), (.ro (.int .i64))], slots := [.tmp 4, .tmp 5], code := bd Try.f37, callee := fun r i => find 0 [(1001, 34), (1005, 34), (7003, 94), (14001, 95)] (r * 1000 + i), loops := fun b => find [] [(2, [.own 0 (.ro (.slc (.int .i16))), .own 1 (.ro (.slc (.int .i16))), .own 6 (.row false .bool), .own 7 (.ro (.int .i64)), .own 8 (.ro (.int .i16)), .own 35 (.ro (.slc (.int .i16))), .own 36 (.ro (.int .i64)), .own 37 (.ro (.int .i64))]), (0, [.own 0 (.ro (.slc (.int .i16))), .own 1 (.ro (.slc (.int .i16))), .own 6 (.row false .bool), .own 7 (.ro (.int .i64))])] b, deep := fun r i => find false [(3002, true)] (r * 1000 + i) }
/- spec.l06Stand -/
noncomputable def I97 : Inst := { f := 97, nt := 31, params := [((.ro (.slc (.int .i16))), false), ((.ro (.slc (.int .i16))), false), ((.ro (.int .i64)), false)], res := [(.ro (.int .i64))], slots := [.tmp 6], code := bd Try.f97, callee := fun r i => find 0 [(5014, 117)] (r * 1000 + i), loops := fun b => find [] [(0, [.own 0 (.ro (.slc (.int .i16))), .own 1 (.ro (.slc (.int .i16))), .own 2 (.ro (.int .i64)), .own 7 (.ro (.int .i64)), .own 8 (.ro (.int .i64))])] b }
/- spec.CanReplace -/
noncomputable def I38 : Inst := { f := 38, nt := 67, params := [((.ro (.slc (.int .i16))), false), ((.ro (.slc (.int .i16))), false)], res := [(.ro .bool), (.ro (.int .i64))], slots := [.tmp 4, .tmp 5], code := bd Try.f38, callee := fun r i => find 0 [(1001, 96), (1005, 96), (11014, 97)] (r * 1000 + i), loops := fun b => find [] [(2, [.own 0 (.ro (.slc (.int .i16))), .own 1 (.ro (.slc (.int .i16))), .own 6 (.ro (.int .i64)), .own 7 (.ro .bool), .own 8 (.ro (.int .i64))]), (0, [.own 0 (.ro (.slc (.int .i16))), .own 1 (.ro (.slc (.int .i16))), .own 6 (.ro (.int .i64))])] b }
/- impl.areCutters$1 -/
noncomputable def I151 : Inst := { f := 151, nt := 6, params := [((.ro (.slc (.int .i16))), false)], res := [(.ro .bool)], slots := [.tmp 2], code := bd Try.f151, callee := fun r i => find 0 [(1001, 34)] (r * 1000 + i) }
/- impl.Cutter] -/
noncomputable def I176 : Inst := { f := 176, nt := 19, params := [((.ro (.slc (.slc (.int .i16)))), false), ((.clo 151 (.ro .unit) (.ro .unit)), false)], res := [(.ro (.int .i64))], slots := [.tmp 4], code := bd Try.f176, callee := fun r i => find 0 [(4005, 151)] (r * 1000 + i), loops := fun b => find [] [(0, [.own 0 (.ro (.slc (.slc (.int .i16)))), .own 1 (.clo 151 (.ro .unit) (.ro .unit)), .own 7 (.ro (.int .i64)), .own 8 (.ro (.int .i64))])] b }
/- impl.Cutter] -/
noncomputable def I150 : Inst := { f := 150, nt := 9, params := [((.ro (.slc (.slc (.int .i16)))), false), ((.clo 151 (.ro .unit) (.ro .unit)), false)], res := [(.ro .bool)], slots := [.tmp 4], code := bd Try.f150, callee := fun r i => find 0 [(1002, 176)] (r * 1000 + i) }
/- impl.areCutters -/
noncomputable def I98 : Inst := { f := 98, nt := 6, params := [((.ro (.slc (.slc (.int .i16)))), false)], res := [(.ro .bool)], slots := [.tmp 2], code := bd Try.f98, callee := fun r i => find 0 [(1001, 150)] (r * 1000 + i) }
/- impl.isCount -/
noncomputable def I99 : Inst := { f := 99, nt := 6, params := [((.ro (.slc (.slc (.int .i16)))), false)], res := [(.ro .bool)], slots := [.tmp 2], code := bd Try.f99, callee := fun r i => find 0 [(1002, 133)] (r * 1000 + i) }
/- impl.firstCode -/
noncomputable def I71 : Inst := { f := 71, nt := 15, params := [((.ro (.slc (.int .i64))), false)], res := [(.ro (.int .i64))], slots := [.tmp 2], code := bd Try.f71, loops := fun b => find [] [(0, [.own 5 (.ro (.slc (.int .i64))), .own 6 (.ro (.int .i64)), .own 7 (.ro (.int .i64))])] b }
/- impl.Cam).best -/
noncomputable def I78 : Inst := { f := 78, nt := 33, params := [((.ro (.slc (.int .i16))), false), ((.ro (.slc (.slc (.int .i16)))), false)], res := [(.ro (.int .i64)), (.ro (.int .i64))], slots := [.tmp 4, .tmp 5], code := bd Try.f78, callee := fun r i => find 0 [(5002, 88)] (r * 1000 + i), loops := fun b => find [] [(0, [.own 0 (.ro (.slc (.int .i16))), .own 6 (.ro (.int .i64)), .own 7 (.ro (.int .i64)), .own 11 (.ro (.slc (.slc (.int .i16)))), .own 12 (.ro (.int .i64)), .own 13 (.ro (.int .i64))])] b }
/- impl.BestCutter -/
noncomputable def I39 : Inst := { f := 39, nt := 36, params := [((.ro (.slc (.int .i16))), false), ((.ro (.slc (.slc (.int .i16)))), false)], res := [(.ro (.int .i64)), (.ro (.int .i64)), (.ro (.int .i64))], slots := [.tmp 4, .tmp 5, .tmp 6], code := bd Try.f39, callee := fun r i => find 0 [(1001, 35), (1005, 98), (1008, 72), (1010, 99), (1012, 72), (1014, 71), (4002, 78)] (r * 1000 + i), deep := fun r i => find false [(1013, true)] (r * 1000 + i), frz := fun r i => find false [(1013, true)] (r * 1000 + i) }
/- laws.FnCutters -/
noncomputable def I5 : Inst := { f := 5, nt := 294, params := [((.ro (.slc (.int .u8))), false), ((.ro (.slc (.int .u8))), false)], res := [(.ro .bool)], slots := [.tmp 4], code := bd Try.f5, callee := fun r i => find 0 [(1002, 23), (3001, 24), (4001, 25), (5002, 26), (6002, 27), (7002, 28), (8002, 29), (9002, 30), (10002, 31), (11002, 26), (12010, 32), (12025, 33), (12043, 32), (12048, 34), (12053, 35), (18024, 36), (23003, 25), (24002, 37), (25002, 38), (26002, 26), (34004, 39), (35002, 30)] (r * 1000 + i), loops := fun b => find [] [(2, [.own 5 (.ro (.slc (.int .i16))), .own 6 (.ro (.slc (.int .i16))), .own 9 (.ro (.slc (.int .i16))), .own 15 (.ro (.int .i64)), .own 23 (.ro (.slc (.int .i16))), .own 26 (.ro .bool), .own 28 (.ro (.slc (.int .i16))), .own 30 (.ro (.int .i64))]), (0, [.own 0 (.ro (.slc (.int .u8))), .own 5 (.ro (.slc (.int .i16))), .own 6 (.ro (.slc (.int .i16))), .own 9 (.ro (.slc (.int .i16))), .own 13 (.ro (.slc (.int .i64))), .own 15 (.ro (.int .i64)), .own 17 (.ro (.slc (.int .i64))), .own 21 (.ro (.int .i64)), .own 22 (.ro (.int .i64))])] b, frz := fun r i => find false [(11001, true), (34003, true)] (r * 1000 + i) }
noncomputable def CL : List (Nat × Inst) := [(23, I23), (81, I81), (154, I154), (101, I101), (142, I142), (80, I80), (174, I174), (175, I175), (143, I143), (82, I82), (24, I24), (129, I129), (144, I144), (83, I83), (25, I25), (77, I77), (133, I133), (91, I91), (73, I73), (93, I93), (148, I148), (92, I92), (35, I35), (34, I34), (72, I72), (84, I84), (109, I109), (141, I141), (112, I112), (147, I147), (139, I139), (146, I146), (145, I145), (86, I86), (140, I140), (1139, I1139), (138, I138), (136, I136), (79, I79), (26, I26), (159, I159), (65, I65), (113, I113), (96, I96), (85, I85), (161, I161), (117, I117), (131, I131), (87, I87), (125, I125), (69, I69), (27, I27), (28, I28), (29, I29), (88, I88), (30, I30), (31, I31), (89, I89), (32, I32), (90, I90), (33, I33), (36, I36), (94, I94), (149, I149), (95, I95), (37, I37), (97, I97), (38, I38), (151, I151), (176, I176), (150, I150), (98, I98), (99, I99), (71, I71), (78, I78), (39, I39), (5, I5)]
noncomputable def C : Nat → Inst := find I23 CL
theorem tsOk : TsOk Try.prog T := tsOkB_sound (by kernel_rfl)
theorem ok23 : InstOk Try.prog I23 := instOk_of Try.func23 (by kernel_rfl) (by kernel_rfl) (by kernel_rfl) (by kernel_rfl)
theorem ok81 : InstOk Try.prog I81 := instOk_of Try.func81 (by kernel_rfl) (by kernel_rfl) (by kernel_rfl) (by kernel_rfl)
theorem ok154 : InstOk Try.prog I154 := instOk_of Try.func154 (by kernel_rfl) (by kernel_rfl) (by kernel_rfl) (by kernel_rfl)
theorem ok101 : InstOk Try.prog I101 := instOk_of Try.func101 (by kernel_rfl) (by kernel_rfl) (by kernel_rfl) (by kernel_rfl)
theorem ok142 : InstOk Try.prog I142 := instOk_of Try.func142 (by kernel_rfl) (by kernel_rfl) (by kernel_rfl) (by kernel_rfl)
theorem ok80 : InstOk Try.prog I80 := instOk_of Try.func80 (by kernel_rfl) (by kernel_rfl) (by kernel_rfl) (by kernel_rfl)
theorem ok174 : InstOk Try.prog I174 := instOk_of Try.func174 (by kernel_rfl) (by kernel_rfl) (by kernel_rfl) (by kernel_rfl)
theorem ok175 : InstOk Try.prog I175 := instOk_of Try.func175 (by kernel_rfl) (by kernel_rfl) (by kernel_rfl) (by kernel_rfl)
theorem ok143 : InstOk Try.prog I143 := instOk_of Try.func143 (by kernel_rfl) (by kernel_rfl) (by kernel_rfl) (by kernel_rfl)
theorem ok82 : InstOk Try.prog I82 := instOk_of Try.func82 (by kernel_rfl) (by kernel_rfl) (by kernel_rfl) (by kernel_rfl)
theorem ok24 : InstOk Try.prog I24 := instOk_of Try.func24 (by kernel_rfl) (by kernel_rfl) (by kernel_rfl) (by kernel_rfl)
theorem ok129 : InstOk Try.prog I129 := instOk_of Try.func129 (by kernel_rfl) (by kernel_rfl) (by kernel_rfl) (by kernel_rfl)
theorem ok144 : InstOk Try.prog I144 := instOk_of Try.func144 (by kernel_rfl) (by kernel_rfl) (by kernel_rfl) (by kernel_rfl)
theorem ok83 : InstOk Try.prog I83 := instOk_of Try.func83 (by kernel_rfl) (by kernel_rfl) (by kernel_rfl) (by kernel_rfl)
theorem ok25 : InstOk Try.prog I25 := instOk_of Try.func25 (by kernel_rfl) (by kernel_rfl) (by kernel_rfl) (by kernel_rfl)
theorem ok77 : InstOk Try.prog I77 := instOk_of Try.func77 (by kernel_rfl) (by kernel_rfl) (by kernel_rfl) (by kernel_rfl)
theorem ok133 : InstOk Try.prog I133 := instOk_of Try.func133 (by kernel_rfl) (by kernel_rfl) (by kernel_rfl) (by kernel_rfl)
theorem ok91 : InstOk Try.prog I91 := instOk_of Try.func91 (by kernel_rfl) (by kernel_rfl) (by kernel_rfl) (by kernel_rfl)
theorem ok73 : InstOk Try.prog I73 := instOk_of Try.func73 (by kernel_rfl) (by kernel_rfl) (by kernel_rfl) (by kernel_rfl)
theorem ok93 : InstOk Try.prog I93 := instOk_of Try.func93 (by kernel_rfl) (by kernel_rfl) (by kernel_rfl) (by kernel_rfl)
theorem ok148 : InstOk Try.prog I148 := instOk_of Try.func148 (by kernel_rfl) (by kernel_rfl) (by kernel_rfl) (by kernel_rfl)
theorem ok92 : InstOk Try.prog I92 := instOk_of Try.func92 (by kernel_rfl) (by kernel_rfl) (by kernel_rfl) (by kernel_rfl)
theorem ok35 : InstOk Try.prog I35 := instOk_of Try.func35 (by kernel_rfl) (by kernel_rfl) (by kernel_rfl) (by kernel_rfl)
theorem ok34 : InstOk Try.prog I34 := instOk_of Try.func34 (by kernel_rfl) (by kernel_rfl) (by kernel_rfl) (by kernel_rfl)
theorem ok72 : InstOk Try.prog I72 := instOk_of Try.func72 (by kernel_rfl) (by kernel_rfl) (by kernel_rfl) (by kernel_rfl)
theorem ok84 : InstOk Try.prog I84 := instOk_of Try.func84 (by kernel_rfl) (by kernel_rfl) (by kernel_rfl) (by kernel_rfl)
theorem ok109 : InstOk Try.prog I109 := instOk_of Try.func109 (by kernel_rfl) (by kernel_rfl) (by kernel_rfl) (by kernel_rfl)
theorem ok141 : InstOk Try.prog I141 := instOk_of Try.func141 (by kernel_rfl) (by kernel_rfl) (by kernel_rfl) (by kernel_rfl)
theorem ok112 : InstOk Try.prog I112 := instOk_of Try.func112 (by kernel_rfl) (by kernel_rfl) (by kernel_rfl) (by kernel_rfl)
theorem ok147 : InstOk Try.prog I147 := instOk_of Try.func147 (by kernel_rfl) (by kernel_rfl) (by kernel_rfl) (by kernel_rfl)
theorem ok139 : InstOk Try.prog I139 := instOk_of Try.func139 (by kernel_rfl) (by kernel_rfl) (by kernel_rfl) (by kernel_rfl)
theorem ok146 : InstOk Try.prog I146 := instOk_of Try.func146 (by kernel_rfl) (by kernel_rfl) (by kernel_rfl) (by kernel_rfl)
theorem ok145 : InstOk Try.prog I145 := instOk_of Try.func145 (by kernel_rfl) (by kernel_rfl) (by kernel_rfl) (by kernel_rfl)
theorem ok86 : InstOk Try.prog I86 := instOk_of Try.func86 (by kernel_rfl) (by kernel_rfl) (by kernel_rfl) (by kernel_rfl)
theorem ok140 : InstOk Try.prog I140 := instOk_of Try.func140 (by kernel_rfl) (by kernel_rfl) (by kernel_rfl) (by kernel_rfl)
theorem ok1139 : InstOk Try.prog I1139 := instOk_of Try.func139 (by kernel_rfl) (by kernel_rfl) (by kernel_rfl) (by kernel_rfl)
theorem ok138 : InstOk Try.prog I138 := instOk_of Try.func138 (by kernel_rfl) (by kernel_rfl) (by kernel_rfl) (by kernel_rfl)
theorem ok136 : InstOk Try.prog I136 := instOk_of Try.func136 (by kernel_rfl) (by kernel_rfl) (by kernel_rfl) (by kernel_rfl)
theorem ok79 : InstOk Try.prog I79 := instOk_of Try.func79 (by kernel_rfl) (by kernel_rfl) (by kernel_rfl) (by kernel_rfl)
theorem ok26 : InstOk Try.prog I26 := instOk_of Try.func26 (by kernel_rfl) (by kernel_rfl) (by kernel_rfl) (by kernel_rfl)
theorem ok159 : InstOk Try.prog I159 := instOk_of Try.func159 (by kernel_rfl) (by kernel_rfl) (by kernel_rfl) (by kernel_rfl)
theorem ok65 : InstOk Try.prog I65 := instOk_of Try.func65 (by kernel_rfl) (by kernel_rfl) (by kernel_rfl) (by kernel_rfl)
theorem ok113 : InstOk Try.prog I113 := instOk_of Try.func113 (by kernel_rfl) (by kernel_rfl) (by kernel_rfl) (by kernel_rfl)
theorem ok96 : InstOk Try.prog I96 := instOk_of Try.func96 (by kernel_rfl) (by kernel_rfl) (by kernel_rfl) (by kernel_rfl)
theorem ok85 : InstOk Try.prog I85 := instOk_of Try.func85 (by kernel_rfl) (by kernel_rfl) (by kernel_rfl) (by kernel_rfl)
theorem ok161 : InstOk Try.prog I161 := instOk_of Try.func161 (by kernel_rfl) (by kernel_rfl) (by kernel_rfl) (by kernel_rfl)
theorem ok117 : InstOk Try.prog I117 := instOk_of Try.func117 (by kernel_rfl) (by kernel_rfl) (by kernel_rfl) (by kernel_rfl)
theorem ok131 : InstOk Try.prog I131 := instOk_of Try.func131 (by kernel_rfl) (by kernel_rfl) (by kernel_rfl) (by kernel_rfl)
theorem ok87 : InstOk Try.prog I87 := instOk_of Try.func87 (by kernel_rfl) (by kernel_rfl) (by kernel_rfl) (by kernel_rfl)
theorem ok125 : InstOk Try.prog I125 := instOk_of Try.func125 (by kernel_rfl) (by kernel_rfl) (by kernel_rfl) (by kernel_rfl)
theorem ok69 : InstOk Try.prog I69 := instOk_of Try.func69 (by kernel_rfl) (by kernel_rfl) (by kernel_rfl) (by kernel_rfl)
theorem ok27 : InstOk Try.prog I27 := instOk_of Try.func27 (by kernel_rfl) (by kernel_rfl) (by kernel_rfl) (by kernel_rfl)
theorem ok28 : InstOk Try.prog I28 := instOk_of Try.func28 (by kernel_rfl) (by kernel_rfl) (by kernel_rfl) (by kernel_rfl)
theorem ok29 : InstOk Try.prog I29 := instOk_of Try.func29 (by kernel_rfl) (by kernel_rfl) (by kernel_rfl) (by kernel_rfl)
theorem ok88 : InstOk Try.prog I88 := instOk_of Try.func88 (by kernel_rfl) (by kernel_rfl) (by kernel_rfl) (by kernel_rfl)
theorem ok30 : InstOk Try.prog I30 := instOk_of Try.func30 (by kernel_rfl) (by kernel_rfl) (by kernel_rfl) (by kernel_rfl)
theorem ok31 : InstOk Try.prog I31 := instOk_of Try.func31 (by kernel_rfl) (by kernel_rfl) (by kernel_rfl) (by kernel_rfl)
theorem ok89 : InstOk Try.prog I89 := instOk_of Try.func89 (by kernel_rfl) (by kernel_rfl) (by kernel_rfl) (by kernel_rfl)
theorem ok32 : InstOk Try.prog I32 := instOk_of Try.func32 (by kernel_rfl) (by kernel_rfl) (by kernel_rfl) (by kernel_rfl)
theorem ok90 : InstOk Try.prog I90 := instOk_of Try.func90 (by kernel_rfl) (by kernel_rfl) (by kernel_rfl) (by kernel_rfl)
theorem ok33 : InstOk Try.prog I33 := instOk_of Try.func33 (by kernel_rfl) (by kernel_rfl) (by kernel_rfl) (by kernel_rfl)
theorem ok36 : InstOk Try.prog I36 := instOk_of Try.func36 (by kernel_rfl) (by kernel_rfl) (by kernel_rfl) (by kernel_rfl)
theorem ok94 : InstOk Try.prog I94 := instOk_of Try.func94 (by kernel_rfl) (by kernel_rfl) (by kernel_rfl) (by kernel_rfl)
theorem ok149 : InstOk Try.prog I149 := instOk_of Try.func149 (by kernel_rfl) (by kernel_rfl) (by kernel_rfl) (by kernel_rfl)
theorem ok95 : InstOk Try.prog I95 := instOk_of Try.func95 (by kernel_rfl) (by kernel_rfl) (by kernel_rfl) (by kernel_rfl)
theorem ok37 : InstOk Try.prog I37 := instOk_of Try.func37 (by kernel_rfl) (by kernel_rfl) (by kernel_rfl) (by kernel_rfl)
theorem ok97 : InstOk Try.prog I97 := instOk_of Try.func97 (by kernel_rfl) (by kernel_rfl) (by kernel_rfl) (by kernel_rfl)
theorem ok38 : InstOk Try.prog I38 := instOk_of Try.func38 (by kernel_rfl) (by kernel_rfl) (by kernel_rfl) (by kernel_rfl)
theorem ok151 : InstOk Try.prog I151 := instOk_of Try.func151 (by kernel_rfl) (by kernel_rfl) (by kernel_rfl) (by kernel_rfl)
theorem ok176 : InstOk Try.prog I176 := instOk_of Try.func176 (by kernel_rfl) (by kernel_rfl) (by kernel_rfl) (by kernel_rfl)
theorem ok150 : InstOk Try.prog I150 := instOk_of Try.func150 (by kernel_rfl) (by kernel_rfl) (by kernel_rfl) (by kernel_rfl)
theorem ok98 : InstOk Try.prog I98 := instOk_of Try.func98 (by kernel_rfl) (by kernel_rfl) (by kernel_rfl) (by kernel_rfl)
theorem ok99 : InstOk Try.prog I99 := instOk_of Try.func99 (by kernel_rfl) (by kernel_rfl) (by kernel_rfl) (by kernel_rfl)
theorem ok71 : InstOk Try.prog I71 := instOk_of Try.func71 (by kernel_rfl) (by kernel_rfl) (by kernel_rfl) (by kernel_rfl)
theorem ok78 : InstOk Try.prog I78 := instOk_of Try.func78 (by kernel_rfl) (by kernel_rfl) (by kernel_rfl) (by kernel_rfl)
theorem ok39 : InstOk Try.prog I39 := instOk_of Try.func39 (by kernel_rfl) (by kernel_rfl) (by kernel_rfl) (by kernel_rfl)
theorem ok5 : InstOk Try.prog I5 := instOk_of Try.func5 (by kernel_rfl) (by kernel_rfl) (by kernel_rfl) (by kernel_rfl)
theorem insts : ∀ j, InstOk Try.prog (C j) := find_all ok23 (List.forall_mem_cons.2 ⟨ok23, List.forall_mem_cons.2 ⟨ok81, List.forall_mem_cons.2 ⟨ok154, List.forall_mem_cons.2 ⟨ok101, List.forall_mem_cons.2 ⟨ok142, List.forall_mem_cons.2 ⟨ok80, List.forall_mem_cons.2 ⟨ok174, List.forall_mem_cons.2 ⟨ok175, List.forall_mem_cons.2 ⟨ok143, List.forall_mem_cons.2 ⟨ok82, List.forall_mem_cons.2 ⟨ok24, List.forall_mem_cons.2 ⟨ok129, List.forall_mem_cons.2 ⟨ok144, List.forall_mem_cons.2 ⟨ok83, List.forall_mem_cons.2 ⟨ok25, List.forall_mem_cons.2 ⟨ok77, List.forall_mem_cons.2 ⟨ok133, List.forall_mem_cons.2 ⟨ok91, List.forall_mem_cons.2 ⟨ok73, List.forall_mem_cons.2 ⟨ok93, List.forall_mem_cons.2 ⟨ok148, List.forall_mem_cons.2 ⟨ok92, List.forall_mem_cons.2 ⟨ok35, List.forall_mem_cons.2 ⟨ok34, List.forall_mem_cons.2 ⟨ok72, List.forall_mem_cons.2 ⟨ok84, List.forall_mem_cons.2 ⟨ok109, List.forall_mem_cons.2 ⟨ok141, List.forall_mem_cons.2 ⟨ok112, List.forall_mem_cons.2 ⟨ok147, List.forall_mem_cons.2 ⟨ok139, List.forall_mem_cons.2 ⟨ok146, List.forall_mem_cons.2 ⟨ok145, List.forall_mem_cons.2 ⟨ok86, List.forall_mem_cons.2 ⟨ok140, List.forall_mem_cons.2 ⟨ok1139, List.forall_mem_cons.2 ⟨ok138, List.forall_mem_cons.2 ⟨ok136, List.forall_mem_cons.2 ⟨ok79, List.forall_mem_cons.2 ⟨ok26, List.forall_mem_cons.2 ⟨ok159, List.forall_mem_cons.2 ⟨ok65, List.forall_mem_cons.2 ⟨ok113, List.forall_mem_cons.2 ⟨ok96, List.forall_mem_cons.2 ⟨ok85, List.forall_mem_cons.2 ⟨ok161, List.forall_mem_cons.2 ⟨ok117, List.forall_mem_cons.2 ⟨ok131, List.forall_mem_cons.2 ⟨ok87, List.forall_mem_cons.2 ⟨ok125, List.forall_mem_cons.2 ⟨ok69, List.forall_mem_cons.2 ⟨ok27, List.forall_mem_cons.2 ⟨ok28, List.forall_mem_cons.2 ⟨ok29, List.forall_mem_cons.2 ⟨ok88, List.forall_mem_cons.2 ⟨ok30, List.forall_mem_cons.2 ⟨ok31, List.forall_mem_cons.2 ⟨ok89, List.forall_mem_cons.2 ⟨ok32, List.forall_mem_cons.2 ⟨ok90, List.forall_mem_cons.2 ⟨ok33, List.forall_mem_cons.2 ⟨ok36, List.forall_mem_cons.2 ⟨ok94, List.forall_mem_cons.2 ⟨ok149, List.forall_mem_cons.2 ⟨ok95, List.forall_mem_cons.2 ⟨ok37, List.forall_mem_cons.2 ⟨ok97, List.forall_mem_cons.2 ⟨ok38, List.forall_mem_cons.2 ⟨ok151, List.forall_mem_cons.2 ⟨ok176, List.forall_mem_cons.2 ⟨ok150, List.forall_mem_cons.2 ⟨ok98, List.forall_mem_cons.2 ⟨ok99, List.forall_mem_cons.2 ⟨ok71, List.forall_mem_cons.2 ⟨ok78, List.forall_mem_cons.2 ⟨ok39, List.forall_mem_cons.2 ⟨ok5, fun _ h => absurd h List.not_mem_nil⟩⟩⟩⟩⟩⟩⟩⟩⟩⟩⟩⟩⟩⟩⟩⟩⟩⟩⟩⟩⟩⟩⟩⟩⟩⟩⟩⟩⟩⟩⟩⟩⟩⟩⟩⟩⟩⟩⟩⟩⟩⟩⟩⟩⟩⟩⟩⟩⟩⟩⟩⟩⟩⟩⟩⟩⟩⟩⟩⟩⟩⟩⟩⟩⟩⟩⟩⟩⟩⟩⟩⟩⟩⟩⟩⟩⟩)
theorem noExt : ∀ j, (C j).ext = none := by
  have hC : C = find I23 CL := by delta C; with_reducible rfl
  exact fun j => noExt_of (C := C) _ _ hC (by kernel_rfl) (by kernel_rfl) j
end Go.Proofs.Ytoafnbpahdnchaa.LCutters
