/- The types and the functions that a law reaches, told for the reading (Fw). Written by a program (gen.py). -/
import Derived.Test.YtoafnbpahdnchaaGreatFwC
import Derived.Test.YtoafnbpahdnchaaGreatProg
namespace Go.Proofs.YtoafnbpahdnchaaGreat.LMi
open Go Go.Fw
open Go.Proofs
noncomputable def tyL : List (Nat × TI) := [(2, ⟨(.int .i64), 0, 8⟩),
  (3, ⟨(.int .i64), 0, 8⟩),
  (4, ⟨.bool, 0, 1⟩),
  (5, ⟨(.int .u8), 0, 1⟩),
  (22, ⟨(.slc (.int .u8)), 5, 24⟩),
  (25, ⟨(.slc (.int .i16)), 52, 24⟩),
  (27, ⟨(.slc (.int .i16)), 52, 24⟩),
  (29, ⟨(.slc (.slc (.int .i16))), 27, 24⟩),
  (33, ⟨(.slc (.pair (.int .i16) (.pair (.int .i16) (.pair (.int .i8) .unit)))), 55, 24⟩),
  (47, ⟨(.slc (.int .i64)), 2, 24⟩),
  (52, ⟨(.int .i16), 0, 2⟩),
  (53, ⟨(.int .i8), 0, 1⟩),
  (55, ⟨(.pair (.int .i16) (.pair (.int .i16) (.pair (.int .i8) .unit))), 0, 6⟩),
  (56, ⟨(.slc (.pair (.int .i8) (.pair (.int .i16) (.pair (.int .i16) .unit)))), 94, 24⟩),
  (58, ⟨(.pair (.int .i16) (.pair (.slc (.pair (.int .i8) (.pair (.int .i16) (.pair (.int .i16) .unit)))) .unit)), 0, 32⟩),
  (60, ⟨(.ptr (.pair (.slc (.int .u8)) (.pair (.int .i64) (.pair (.int .u64) .unit)))), 0, 8⟩),
  (63, ⟨(.ptr (.pair (.int .i16) (.pair (.slc (.pair (.int .i8) (.pair (.int .i16) (.pair (.int .i16) .unit)))) .unit))), 0, 8⟩),
  (92, ⟨.fn, 0, 8⟩),
  (94, ⟨(.pair (.int .i8) (.pair (.int .i16) (.pair (.int .i16) .unit))), 0, 6⟩),
  (96, ⟨(.int .u64), 0, 8⟩),
  (98, ⟨(.pair (.slc (.int .u8)) (.pair (.int .i64) (.pair (.int .u64) .unit))), 0, 40⟩),
  (103, ⟨.fn, 0, 8⟩),
  (105, ⟨.fn, 0, 8⟩),
  (108, ⟨.fn, 0, 8⟩),
  (110, ⟨(.slc (.slc (.int .i64))), 47, 24⟩),
  (112, ⟨.fn, 0, 8⟩)]
noncomputable def T : Nat → Option TI := findT tyL
/- laws.a2Long -/
noncomputable def I4 : Inst := { f := 4, nt := 13, params := [((.ro (.slc (.int .u8))), false), ((.ro (.slc (.int .u8))), false)], res := [(.ro .bool)], slots := [.tmp 4], code := bd Tryz.f4 }
/- spec.l00From -/
noncomputable def I24 : Inst := { f := 24, nt := 6, params := [((.ro (.slc (.int .u8))), false)], res := [(.box (.ro (.pair (.slc (.int .u8)) (.pair (.int .i64) (.pair (.int .u64) .unit)))))], slots := [.tmp 2], code := bd Tryz.f24, strict := true }
/- spec.l00Src).next -/
noncomputable def I99 : Inst := { f := 99, nt := 62, params := [((.box (.ro (.pair (.slc (.int .u8)) (.pair (.int .i64) (.pair (.int .u64) .unit))))), true)], res := [(.ro (.int .i64))], slots := [.tmp 2], code := bd Tryz.f99, strict := true, pins := [0] }
/- spec.l00Src).pick -/
noncomputable def I68 : Inst := { f := 68, nt := 20, params := [((.box (.ro (.pair (.slc (.int .u8)) (.pair (.int .i64) (.pair (.int .u64) .unit))))), true), ((.ro (.int .i64)), false)], res := [(.ro (.int .i64))], slots := [.tmp 4], code := bd Tryz.f68, strict := true, callee := fun r i => find 0 [(3001, 99), (5003, 99)] (r * 1000 + i), pins := [0] }
/- spec.l00Src).one -/
noncomputable def I69 : Inst := { f := 69, nt := 9, params := [((.box (.ro (.pair (.slc (.int .u8)) (.pair (.int .i64) (.pair (.int .u64) .unit))))), true), ((.ro (.int .i64)), false)], res := [(.ro .bool)], slots := [.tmp 4], code := bd Tryz.f69, strict := true, callee := fun r i => find 0 [(1002, 68)] (r * 1000 + i), pins := [0] }
/- spec.l02Drawn -/
noncomputable def I23 : Inst := { f := 23, nt := 84, params := [((.box (.ro (.pair (.slc (.int .u8)) (.pair (.int .i64) (.pair (.int .u64) .unit))))), true)], res := [(.pr (.ro (.int .i16)) (.pr (.row false (.pair (.int .i8) (.pair (.int .i16) (.pair (.int .i16) .unit)))) (.ro .unit)))], slots := [.cell 2 58], code := bd Tryz.f23, strict := true, callee := fun r i => find 0 [(1001, 68), (3001, 68), (6001, 68), (6004, 68), (6008, 68), (7001, 69)] (r * 1000 + i), loops := fun b => find [] [(0, [.own 0 (.box (.ro (.pair (.slc (.int .u8)) (.pair (.int .i64) (.pair (.int .u64) .unit))))), .own 2 (.box (.ro (.pair (.int .i16) (.pair (.slc (.pair (.int .i8) (.pair (.int .i16) (.pair (.int .i16) .unit)))) .unit)))), .own 3 (.box (.pr (.ro (.int .i16)) (.pr (.row false (.pair (.int .i8) (.pair (.int .i16) (.pair (.int .i16) .unit)))) (.ro .unit)))), .own 4 (.ro (.int .i64)), .own 5 (.ro (.int .i64))])] b, pins := [0], deep := fun r i => find false [(10003, true), (10004, true)] (r * 1000 + i) }
/- spec.l02Shape -/
noncomputable def I100 : Inst := { f := 100, nt := 90, params := [((.ro (.int .i64)), false), ((.ro (.int .i64)), false), ((.ro (.int .i64)), false)], res := [(.ro (.int .i64)), (.ro (.int .i64))], slots := [.tmp 6, .tmp 7], code := bd Tryz.f100 }
/- spec.l01Near -/
noncomputable def I101 : Inst := { f := 101, nt := 23, params := [((.ro (.int .i64)), false), ((.ro (.int .i64)), false)], res := [(.ro (.int .i64))], slots := [.tmp 4], code := bd Tryz.f101 }
/- spec.l02Lift -/
noncomputable def I70 : Inst := { f := 70, nt := 31, params := [((.ro (.int .i64)), false), ((.ro (.int .i64)), false), ((.ro (.int .i64)), false), ((.ro (.int .i64)), false), ((.ro (.int .i64)), false)], res := [(.ro (.int .i64))], slots := [.tmp 10], code := bd Tryz.f70, callee := fun r i => find 0 [(1003, 100), (2010, 101)] (r * 1000 + i) }
/- spec.l02Make -/
noncomputable def I25 : Inst := { f := 25, nt := 66, params := [((.ro (.ptr (.pair (.int .i16) (.pair (.slc (.pair (.int .i8) (.pair (.int .i16) (.pair (.int .i16) .unit)))) .unit)))), false)], res := [(.row false (.int .i16))], slots := [.tmp 2], code := bd Tryz.f25, callee := fun r i => find 0 [(10018, 70)] (r * 1000 + i), loops := fun b => find [] [(2, [.own 0 (.ro (.ptr (.pair (.int .i16) (.pair (.slc (.pair (.int .i8) (.pair (.int .i16) (.pair (.int .i16) .unit)))) .unit)))), .own 3 (.row false (.int .i16)), .own 4 (.ro (.int .i64)), .own 5 (.ro (.int .i64)), .own 6 (.ro (.ptr (.pair (.int .i8) (.pair (.int .i16) (.pair (.int .i16) .unit))))), .own 7 (.ro (.int .i64))]), (0, [.own 0 (.ro (.ptr (.pair (.int .i16) (.pair (.slc (.pair (.int .i8) (.pair (.int .i16) (.pair (.int .i16) .unit)))) .unit)))), .own 3 (.row false (.int .i16)), .own 4 (.ro (.int .i64)), .own 5 (.ro (.int .i64))])] b, deep := fun r i => find false [(1000, true), (10020, true), (10021, true)] (r * 1000 + i) }
/- spec.A2Cam -/
noncomputable def I5 : Inst := { f := 5, nt := 8, params := [((.ro (.slc (.int .u8))), false)], res := [(.row false (.int .i16))], slots := [.tmp 2], code := bd Tryz.f5, callee := fun r i => find 0 [(1001, 24), (1002, 23), (2000, 25)] (r * 1000 + i) }
/- spec.l00In -/
noncomputable def I42 : Inst := { f := 42, nt := 15, params := [((.ro (.int .i64)), false), ((.ro (.int .i64)), false), ((.ro (.int .i64)), false)], res := [(.ro .bool)], slots := [.tmp 6], code := bd Tryz.f42 }
/- spec.FlatCutter -/
noncomputable def I71 : Inst := { f := 71, nt := 15, params := [((.ro (.int .i64)), false)], res := [(.row false (.int .i16)), (.ro (.int .i64))], slots := [.tmp 2, .tmp 3], code := bd Tryz.f71, callee := fun r i => find 0 [(1001, 42)] (r * 1000 + i), deep := fun r i => find false [(2000, true), (3001, true)] (r * 1000 + i) }
/- spec.l06Drawn -/
noncomputable def I26 : Inst := { f := 26, nt := 49, params := [((.box (.ro (.pair (.slc (.int .u8)) (.pair (.int .i64) (.pair (.int .u64) .unit))))), true)], res := [(.row false (.int .i16))], slots := [.tmp 2], code := bd Tryz.f26, strict := true, callee := fun r i => find 0 [(1001, 69), (2001, 68), (2004, 71), (4001, 68), (10002, 68)] (r * 1000 + i), loops := fun b => find [] [(0, [.own 0 (.box (.ro (.pair (.slc (.int .u8)) (.pair (.int .i64) (.pair (.int .u64) .unit))))), .own 5 (.ro (.int .i64)), .own 6 (.row false (.int .i16)), .own 7 (.ro (.int .i16)), .own 8 (.ro (.int .i64))])] b, pins := [0], deep := fun r i => find false [(5003, true)] (r * 1000 + i) }
/- spec.A2Cutter -/
noncomputable def I6 : Inst := { f := 6, nt := 6, params := [((.ro (.slc (.int .u8))), false)], res := [(.ro (.slc (.int .i16)))], slots := [.tmp 2], code := bd Tryz.f6, strict := true, callee := fun r i => find 0 [(1001, 24), (1002, 26)] (r * 1000 + i) }
/- spec.l01Steps -/
noncomputable def I54 : Inst := { f := 54, nt := 5, params := [((.ro (.int .i64)), false)], res := [(.ro .bool)], slots := [.tmp 2], code := bd Tryz.f54, callee := fun r i => find 0 [(1001, 42)] (r * 1000 + i) }
/- spec.l01Lift -/
noncomputable def I41 : Inst := { f := 41, nt := 5, params := [((.ro (.int .i64)), false)], res := [(.ro .bool)], slots := [.tmp 2], code := bd Tryz.f41, callee := fun r i => find 0 [(1001, 42)] (r * 1000 + i) }
/- spec.l01Ok -/
noncomputable def I27 : Inst := { f := 27, nt := 21, params := [((.ro (.slc (.int .i16))), false)], res := [(.ro .bool)], slots := [.tmp 2], code := bd Tryz.f27, callee := fun r i => find 0 [(1002, 54), (6005, 41)] (r * 1000 + i), loops := fun b => find [] [(0, [.own 0 (.ro (.slc (.int .i16))), .own 3 (.ro (.int .i64))])] b }
/- spec.l00Min -/
noncomputable def I45 : Inst := { f := 45, nt := 10, params := [((.ro (.int .i64)), false), ((.ro (.int .i64)), false)], res := [(.ro (.int .i64))], slots := [.tmp 4], code := bd Tryz.f45 }
/- spec.l00Max -/
noncomputable def I46 : Inst := { f := 46, nt := 10, params := [((.ro (.int .i64)), false), ((.ro (.int .i64)), false)], res := [(.ro (.int .i64))], slots := [.tmp 4], code := bd Tryz.f46 }
/- spec.l01Range -/
noncomputable def I28 : Inst := { f := 28, nt := 34, params := [((.ro (.slc (.int .i16))), false)], res := [(.ro (.int .i64)), (.ro (.int .i64))], slots := [.tmp 2, .tmp 3], code := bd Tryz.f28, callee := fun r i => find 0 [(6006, 45), (7006, 46)] (r * 1000 + i), loops := fun b => find [] [(0, [.own 0 (.ro (.slc (.int .i16))), .own 4 (.ro (.int .i64)), .own 5 (.ro (.int .i64)), .own 6 (.ro (.int .i64))])] b }
/- spec.RangeOf -/
noncomputable def I7 : Inst := { f := 7, nt := 17, params := [((.ro (.slc (.int .i16))), false)], res := [(.ro (.int .i64)), (.ro (.int .i64)), (.ro (.int .i64))], slots := [.tmp 2, .tmp 3, .tmp 4], code := bd Tryz.f7, callee := fun r i => find 0 [(1001, 27), (3001, 28)] (r * 1000 + i) }
/- laws.a2At -/
noncomputable def I8 : Inst := { f := 8, nt := 22, params := [((.ro (.slc (.int .u8))), false), ((.ro (.int .i64)), false), ((.ro (.int .i64)), false)], res := [(.ro (.int .i64))], slots := [.tmp 6], code := bd Tryz.f8 }
/- impl.Cam).steps -/
noncomputable def I50 : Inst := { f := 50, nt := 5, params := [((.ro (.slc (.int .i16))), false)], res := [(.ro (.int .i64))], slots := [.tmp 2], code := bd Tryz.f50 }
/- impl.inRange -/
noncomputable def I36 : Inst := { f := 36, nt := 15, params := [((.ro (.int .i64)), false), ((.ro (.int .i64)), false), ((.ro (.int .i64)), false)], res := [(.ro .bool)], slots := [.tmp 6], code := bd Tryz.f36 }
/- impl.isSteps -/
noncomputable def I60 : Inst := { f := 60, nt := 5, params := [((.ro (.int .i64)), false)], res := [(.ro .bool)], slots := [.tmp 2], code := bd Tryz.f60, callee := fun r i => find 0 [(1001, 36)] (r * 1000 + i) }
/- impl.isLift -/
noncomputable def I34 : Inst := { f := 34, nt := 5, params := [((.ro (.int .i64)), false)], res := [(.ro .bool)], slots := [.tmp 2], code := bd Tryz.f34, callee := fun r i => find 0 [(1001, 36)] (r * 1000 + i) }
/- impl.ValidCam$1 -/
noncomputable def I73 : Inst := { f := 73, nt := 7, params := [((.ro (.int .i16)), false)], res := [(.ro .bool)], slots := [.tmp 2], code := bd Tryz.f73, callee := fun r i => find 0 [(1002, 34)] (r * 1000 + i) }
/- impl.Cam,int16] -/
noncomputable def I102 : Inst := { f := 102, nt := 19, params := [((.ro (.slc (.int .i16))), false), ((.clo 73 (.ro .unit) (.ro .unit)), false)], res := [(.ro (.int .i64))], slots := [.tmp 4], code := bd Tryz.f102, callee := fun r i => find 0 [(4005, 73)] (r * 1000 + i), loops := fun b => find [] [(0, [.own 0 (.ro (.slc (.int .i16))), .own 1 (.clo 73 (.ro .unit) (.ro .unit)), .own 7 (.ro (.int .i64)), .own 8 (.ro (.int .i64))])] b }
/- impl.Cam,int16] -/
noncomputable def I72 : Inst := { f := 72, nt := 9, params := [((.ro (.slc (.int .i16))), false), ((.clo 73 (.ro .unit) (.ro .unit)), false)], res := [(.ro .bool)], slots := [.tmp 4], code := bd Tryz.f72, callee := fun r i => find 0 [(1002, 102)] (r * 1000 + i) }
/- impl.ValidCam -/
noncomputable def I31 : Inst := { f := 31, nt := 11, params := [((.ro (.slc (.int .i16))), false)], res := [(.ro .bool)], slots := [.tmp 2], code := bd Tryz.f31, callee := fun r i => find 0 [(1001, 50), (1002, 60), (1005, 72)] (r * 1000 + i) }
/- impl.isCount -/
noncomputable def I32 : Inst := { f := 32, nt := 6, params := [((.ro (.slc (.slc (.int .i16)))), false)], res := [(.ro .bool)], slots := [.tmp 2], code := bd Tryz.f32, callee := fun r i => find 0 [(1002, 36)] (r * 1000 + i) }
/- impl.ValidCutter -/
noncomputable def I76 : Inst := { f := 76, nt := 61, params := [((.ro (.slc (.int .i16))), false)], res := [(.ro .bool)], slots := [.tmp 2], code := bd Tryz.f76, callee := fun r i => find 0 [(7002, 34)] (r * 1000 + i), loops := fun b => find [] [(0, [.own 0 (.ro (.slc (.int .i16))), .own 3 (.ro (.int .i64)), .own 23 (.ro (.slc (.int .i16))), .own 24 (.ro (.int .i64)), .own 25 (.ro (.int .i64))])] b }
/- impl.areCutters$1 -/
noncomputable def I75 : Inst := { f := 75, nt := 6, params := [((.ro (.slc (.int .i16))), false)], res := [(.ro .bool)], slots := [.tmp 2], code := bd Tryz.f75, callee := fun r i => find 0 [(1001, 76)] (r * 1000 + i) }
/- impl.Cutter] -/
noncomputable def I103 : Inst := { f := 103, nt := 19, params := [((.ro (.slc (.slc (.int .i16)))), false), ((.clo 75 (.ro .unit) (.ro .unit)), false)], res := [(.ro (.int .i64))], slots := [.tmp 4], code := bd Tryz.f103, callee := fun r i => find 0 [(4005, 75)] (r * 1000 + i), loops := fun b => find [] [(0, [.own 0 (.ro (.slc (.slc (.int .i16)))), .own 1 (.clo 75 (.ro .unit) (.ro .unit)), .own 7 (.ro (.int .i64)), .own 8 (.ro (.int .i64))])] b }
/- impl.Cutter] -/
noncomputable def I74 : Inst := { f := 74, nt := 9, params := [((.ro (.slc (.slc (.int .i16)))), false), ((.clo 75 (.ro .unit) (.ro .unit)), false)], res := [(.ro .bool)], slots := [.tmp 4], code := bd Tryz.f74, callee := fun r i => find 0 [(1002, 103)] (r * 1000 + i) }
/- impl.areCutters -/
noncomputable def I33 : Inst := { f := 33, nt := 6, params := [((.ro (.slc (.slc (.int .i16)))), false)], res := [(.ro .bool)], slots := [.tmp 2], code := bd Tryz.f33, callee := fun r i => find 0 [(1001, 74)] (r * 1000 + i) }
/- impl.codeIf -/
noncomputable def I30 : Inst := { f := 30, nt := 7, params := [((.ro .bool), false), ((.ro (.int .i64)), false)], res := [(.ro (.int .i64))], slots := [.tmp 4], code := bd Tryz.f30 }
/- impl.isPlace -/
noncomputable def I35 : Inst := { f := 35, nt := 9, params := [((.ro (.int .i64)), false), ((.ro (.int .i64)), false)], res := [(.ro .bool)], slots := [.tmp 4], code := bd Tryz.f35, callee := fun r i => find 0 [(1003, 36)] (r * 1000 + i) }
/- impl.firstCode -/
noncomputable def I29 : Inst := { f := 29, nt := 15, params := [((.ro (.slc (.int .i64))), false)], res := [(.ro (.int .i64))], slots := [.tmp 2], code := bd Tryz.f29, loops := fun b => find [] [(0, [.own 5 (.ro (.slc (.int .i64))), .own 6 (.ro (.int .i64)), .own 7 (.ro (.int .i64))])] b }
/- impl.Cam,int16] -/
noncomputable def I37 : Inst := { f := 37, nt := 25, params := [((.ro (.slc (.int .i16))), false)], res := [(.ro (.int .i16))], slots := [.tmp 2], code := bd Tryz.f37, loops := fun b => find [] [(0, [.own 0 (.ro (.slc (.int .i16))), .own 3 (.ro (.int .i16)), .own 4 (.ro (.int .i64))])] b }
/- impl.floorDiv -/
noncomputable def I106 : Inst := { f := 106, nt := 16, params := [((.ro (.int .i64)), false), ((.ro (.int .i64)), false)], res := [(.ro (.int .i64))], slots := [.tmp 4], code := bd Tryz.f106 }
/- impl.mod -/
noncomputable def I91 : Inst := { f := 91, nt := 12, params := [((.ro (.int .i64)), false), ((.ro (.int .i64)), false)], res := [(.ro (.int .i64))], slots := [.tmp 4], code := bd Tryz.f91, callee := fun r i => find 0 [(1004, 106)] (r * 1000 + i) }
/- impl.Cam).at -/
noncomputable def I81 : Inst := { f := 81, nt := 13, params := [((.ro (.slc (.int .i16))), false), ((.ro (.int .i64)), false)], res := [(.ro (.int .i64))], slots := [.tmp 4], code := bd Tryz.f81, callee := fun r i => find 0 [(1003, 50), (1004, 91)] (r * 1000 + i) }
/- impl.Cam).tips$1$1 -/
noncomputable def I80 : Inst := { f := 80, nt := 13, params := [((.ro (.int .i64)), false), ((.ro (.int .i64)), false), ((.box (.ro (.int .i64))), true), ((.box (.ro (.slc (.int .i16)))), true)], res := [], slots := [], code := bd Tryz.f80, strict := true, callee := fun r i => find 0 [(3, 81)] (r * 1000 + i), pins := [2, 3] }
/- impl.Cutter).each -/
noncomputable def I79 : Inst := { f := 79, nt := 29, params := [((.ro (.slc (.int .i16))), false), ((.ro (.int .i64)), false), ((.clo 80 (.ro .unit) (.pr (.box (.ro (.int .i64))) (.pr (.box (.ro (.slc (.int .i16)))) (.ro .unit)))), true)], res := [], slots := [], code := bd Tryz.f79, strict := true, callee := fun r i => find 0 [(4008, 80)] (r * 1000 + i), loops := fun b => find [] [(0, [.own 1 (.ro (.int .i64)), .own 2 (.clo 80 (.ro .unit) (.pr (.box (.ro (.int .i64))) (.pr (.box (.ro (.slc (.int .i16)))) (.ro .unit)))), .own 6 (.ro (.int .i64)), .own 12 (.ro (.slc (.int .i16))), .own 13 (.ro (.int .i64)), .own 14 (.ro (.int .i64))])] b, pins := [2] }
/- impl.Cam).tips$1 -/
noncomputable def I78 : Inst := { f := 78, nt := 11, params := [((.ro (.int .i64)), false), ((.box (.ro (.slc (.int .i16)))), true), ((.box (.ro (.slc (.int .i16)))), true)], res := [(.ro (.int .i64))], slots := [.tmp 4], code := bd Tryz.f78, strict := true, callee := fun r i => find 0 [(2003, 79)] (r * 1000 + i), pins := [1, 2] }
/- impl.Cam).numbers -/
noncomputable def I77 : Inst := { f := 77, nt := 21, params := [((.ro (.slc (.int .i16))), false), ((.clo 78 (.ro .unit) (.pr (.box (.ro (.slc (.int .i16)))) (.pr (.box (.ro (.slc (.int .i16)))) (.ro .unit)))), true)], res := [(.row false (.int .i64))], slots := [.tmp 4], code := bd Tryz.f77, strict := true, callee := fun r i => find 0 [(2001, 50), (5003, 78)] (r * 1000 + i), loops := fun b => find [] [(0, [.own 1 (.clo 78 (.ro .unit) (.pr (.box (.ro (.slc (.int .i16)))) (.pr (.box (.ro (.slc (.int .i16)))) (.ro .unit)))), .own 5 (.row false (.int .i64)), .own 9 (.ro (.int .i64)), .own 10 (.ro (.int .i64))])] b, pins := [1], deep := fun r i => find false [(1000, true), (5004, true), (5005, true)] (r * 1000 + i) }
/- impl.Cam).tips -/
noncomputable def I38 : Inst := { f := 38, nt := 8, params := [((.ro (.slc (.int .i16))), false), ((.ro (.slc (.int .i16))), false)], res := [(.ro (.slc (.int .i64)))], slots := [.tmp 4], code := bd Tryz.f38, strict := true, callee := fun r i => find 0 [(1002, 77)] (r * 1000 + i) }
/- slices.Min[[]int64,int64] -/
noncomputable def I39 : Inst := { f := 39, nt := 25, params := [((.ro (.slc (.int .i64))), false)], res := [(.ro (.int .i64))], slots := [.tmp 2], code := bd Tryz.f39, loops := fun b => find [] [(0, [.own 0 (.ro (.slc (.int .i64))), .own 3 (.ro (.int .i64)), .own 4 (.ro (.int .i64))])] b }
/- impl.PlanCuts -/
noncomputable def I9 : Inst := { f := 9, nt := 103, params := [((.ro (.slc (.int .i16))), false), ((.ro (.int .i64)), false), ((.ro (.slc (.slc (.int .i16)))), false), ((.ro (.int .i64)), false), ((.ro (.int .i64)), false)], res := [(.row false (.pair (.int .i16) (.pair (.int .i16) (.pair (.int .i8) .unit)))), (.ro (.int .i64))], slots := [.tmp 10, .tmp 11], code := bd Tryz.f9, callee := fun r i => find 0 [(1001, 31), (1005, 32), (1010, 33), (1013, 30), (1015, 34), (1021, 35), (1026, 36), (1029, 30), (1031, 29), (4001, 37), (6005, 38), (17002, 39)] (r * 1000 + i), loops := fun b => find [] [(2, [.own 3 (.ro (.int .i64)), .own 4 (.ro (.int .i64)), .own 13 (.ro (.slc (.int .i64))), .own 14 (.row false (.pair (.int .i16) (.pair (.int .i16) (.pair (.int .i8) .unit)))), .own 15 (.ro (.int .i64)), .own 16 (.ro (.int .i64)), .own 71 (.ro (.slc (.int .i64))), .own 72 (.ro (.int .i64)), .own 73 (.ro (.int .i64))]), (0, [.own 3 (.ro (.int .i64)), .own 4 (.ro (.int .i64)), .own 13 (.ro (.slc (.int .i64))), .own 14 (.row false (.pair (.int .i16) (.pair (.int .i16) (.pair (.int .i8) .unit)))), .own 15 (.ro (.int .i64))])] b, deep := fun r i => find false [(1030, true), (6006, true), (14010, true), (14011, true)] (r * 1000 + i), frz := fun r i => find false [(1030, true)] (r * 1000 + i) }
/- spec.l06Some -/
noncomputable def I96 : Inst := { f := 96, nt := 6, params := [((.ro (.slc (.slc (.int .i16)))), false)], res := [(.ro .bool)], slots := [.tmp 2], code := bd Tryz.f96, callee := fun r i => find 0 [(1002, 42)] (r * 1000 + i) }
/- spec.l06Ok -/
noncomputable def I92 : Inst := { f := 92, nt := 66, params := [((.ro (.slc (.int .i16))), false)], res := [(.ro .bool)], slots := [.tmp 2], code := bd Tryz.f92, callee := fun r i => find 0 [(2001, 42), (7005, 41)] (r * 1000 + i), loops := fun b => find [] [(0, [.own 0 (.ro (.slc (.int .i16))), .own 3 (.ro (.int .i64)), .own 4 (.ro (.int .i64))])] b }
/- spec.l06Cutters -/
noncomputable def I97 : Inst := { f := 97, nt := 16, params := [((.ro (.slc (.slc (.int .i16)))), false)], res := [(.ro .bool)], slots := [.tmp 2], code := bd Tryz.f97, callee := fun r i => find 0 [(4004, 92)] (r * 1000 + i), loops := fun b => find [] [(0, [.own 0 (.ro (.slc (.slc (.int .i16)))), .own 3 (.ro (.int .i64))])] b }
/- spec.l06Plain -/
noncomputable def I98 : Inst := { f := 98, nt := 46, params := [((.ro (.slc (.pair (.int .i16) (.pair (.int .i16) (.pair (.int .i8) .unit))))), false), ((.ro (.int .i64)), false)], res := [(.ro .bool)], slots := [.tmp 4], code := bd Tryz.f98, callee := fun r i => find 0 [(7005, 42), (7013, 41), (7024, 42)] (r * 1000 + i), loops := fun b => find [] [(0, [.own 0 (.ro (.slc (.pair (.int .i16) (.pair (.int .i16) (.pair (.int .i8) .unit))))), .own 1 (.ro (.int .i64)), .own 5 (.ro (.int .i64))])] b }
/- spec.l06Cuts -/
noncomputable def I62 : Inst := { f := 62, nt := 17, params := [((.ro (.slc (.pair (.int .i16) (.pair (.int .i16) (.pair (.int .i8) .unit))))), false), ((.ro (.slc (.slc (.int .i16)))), false)], res := [(.ro .bool)], slots := [.tmp 4], code := bd Tryz.f62, callee := fun r i => find 0 [(1001, 96), (1004, 97), (1010, 98)] (r * 1000 + i) }
/- spec.l06On -/
noncomputable def I63 : Inst := { f := 63, nt := 20, params := [((.ro (.slc (.pair (.int .i16) (.pair (.int .i16) (.pair (.int .i8) .unit))))), false), ((.ro (.int .i64)), false)], res := [(.ro .bool)], slots := [.tmp 4], code := bd Tryz.f63, loops := fun b => find [] [(0, [.own 0 (.ro (.slc (.pair (.int .i16) (.pair (.int .i16) (.pair (.int .i8) .unit))))), .own 1 (.ro (.int .i64)), .own 5 (.ro (.int .i64))])] b }
/- spec.l06Given -/
noncomputable def I40 : Inst := { f := 40, nt := 21, params := [((.ro (.slc (.int .i16))), false), ((.ro (.slc (.slc (.int .i16)))), false), ((.ro (.slc (.pair (.int .i16) (.pair (.int .i16) (.pair (.int .i8) .unit))))), false)], res := [(.ro (.int .i64))], slots := [.tmp 6], code := bd Tryz.f40, callee := fun r i => find 0 [(1001, 27), (1006, 62), (3003, 63)] (r * 1000 + i) }
/- spec.l06Over -/
noncomputable def I43 : Inst := { f := 43, nt := 15, params := [((.ro (.slc (.int .i16))), false), ((.ro (.int .i64)), false)], res := [(.ro .bool)], slots := [.tmp 4], code := bd Tryz.f43, callee := fun r i => find 0 [(1001, 28)] (r * 1000 + i) }
/- spec.l01At -/
noncomputable def I104 : Inst := { f := 104, nt := 19, params := [((.ro (.slc (.int .i16))), false), ((.ro (.int .i64)), false)], res := [(.ro (.int .i64))], slots := [.tmp 4], code := bd Tryz.f104 }
/- spec.l06Tip -/
noncomputable def I82 : Inst := { f := 82, nt := 36, params := [((.ro (.slc (.int .i16))), false), ((.ro (.slc (.int .i16))), false), ((.ro (.int .i64)), false)], res := [(.ro (.int .i64))], slots := [.tmp 6], code := bd Tryz.f82, callee := fun r i => find 0 [(6005, 104), (6014, 46)] (r * 1000 + i), loops := fun b => find [] [(0, [.own 0 (.ro (.slc (.int .i16))), .own 1 (.ro (.slc (.int .i16))), .own 2 (.ro (.int .i64)), .own 7 (.ro (.int .i64)), .own 8 (.ro (.int .i64)), .own 9 (.ro (.int .i64))])] b }
/- spec.l06Tips -/
noncomputable def I44 : Inst := { f := 44, nt := 22, params := [((.ro (.slc (.int .i16))), false), ((.ro (.slc (.int .i16))), false)], res := [(.row false (.int .i64))], slots := [.tmp 4], code := bd Tryz.f44, callee := fun r i => find 0 [(5004, 82)] (r * 1000 + i), loops := fun b => find [] [(0, [.own 0 (.ro (.slc (.int .i16))), .own 1 (.ro (.slc (.int .i16))), .own 5 (.row false (.int .i64)), .own 6 (.ro (.int .i64))])] b, deep := fun r i => find false [(1000, true), (5005, true), (5006, true)] (r * 1000 + i) }
/- spec.PlanCuts -/
noncomputable def I10 : Inst := { f := 10, nt := 118, params := [((.ro (.slc (.int .i16))), false), ((.ro (.int .i64)), false), ((.ro (.slc (.slc (.int .i16)))), false), ((.ro (.int .i64)), false), ((.ro (.int .i64)), false)], res := [(.row false (.pair (.int .i16) (.pair (.int .i16) (.pair (.int .i8) .unit)))), (.ro (.int .i64))], slots := [.tmp 10, .tmp 11], code := bd Tryz.f10, callee := fun r i => find 0 [(1003, 40), (2004, 41), (2011, 42), (2016, 42), (4005, 43), (8005, 44), (13005, 45), (16003, 46), (23008, 46)] (r * 1000 + i), loops := fun b => find [] [(4, [.own 3 (.ro (.int .i64)), .own 4 (.ro (.int .i64)), .own 13 (.ro (.slc (.int .i64))), .own 14 (.ro (.int .i64)), .own 16 (.row false (.pair (.int .i16) (.pair (.int .i16) (.pair (.int .i8) .unit)))), .own 17 (.ro (.int .i64)), .own 18 (.ro (.int .i64)), .own 19 (.ro (.int .i64))]), (2, [.own 3 (.ro (.int .i64)), .own 4 (.ro (.int .i64)), .own 13 (.ro (.slc (.int .i64))), .own 14 (.ro (.int .i64)), .own 16 (.row false (.pair (.int .i16) (.pair (.int .i16) (.pair (.int .i8) .unit)))), .own 17 (.ro (.int .i64))]), (0, [.own 1 (.ro (.int .i64)), .own 3 (.ro (.int .i64)), .own 4 (.ro (.int .i64)), .own 13 (.ro (.slc (.int .i64))), .own 14 (.ro (.int .i64)), .own 15 (.ro (.int .i64))])] b, deep := fun r i => find false [(1002, true), (7000, true), (14000, true), (22000, true), (23013, true), (23014, true)] (r * 1000 + i), frz := fun r i => find false [(1002, true)] (r * 1000 + i) }
/- spec.A2SameCuts -/
noncomputable def I11 : Inst := { f := 11, nt := 26, params := [((.ro (.slc (.pair (.int .i16) (.pair (.int .i16) (.pair (.int .i8) .unit))))), false), ((.ro (.slc (.pair (.int .i16) (.pair (.int .i16) (.pair (.int .i8) .unit))))), false)], res := [(.ro .bool)], slots := [.tmp 4], code := bd Tryz.f11, loops := fun b => find [] [(0, [.own 0 (.ro (.slc (.pair (.int .i16) (.pair (.int .i16) (.pair (.int .i8) .unit))))), .own 1 (.ro (.slc (.pair (.int .i16) (.pair (.int .i16) (.pair (.int .i8) .unit))))), .own 5 (.ro (.int .i64))])] b }
/- impl.areCuts$1 -/
noncomputable def I107 : Inst := { f := 107, nt := 24, params := [((.ro (.pair (.int .i16) (.pair (.int .i16) (.pair (.int .i8) .unit)))), false), ((.box (.ro (.int .i64))), true)], res := [(.ro .bool)], slots := [.tmp 3], code := bd Tryz.f107, callee := fun r i => find 0 [(1003, 36), (1009, 34), (1017, 35)] (r * 1000 + i), pins := [1] }
/- impl.Cut] -/
noncomputable def I83 : Inst := { f := 83, nt := 19, params := [((.ro (.slc (.pair (.int .i16) (.pair (.int .i16) (.pair (.int .i8) .unit))))), false), ((.clo 107 (.ro .unit) (.pr (.box (.ro (.int .i64))) (.ro .unit))), true)], res := [(.ro (.int .i64))], slots := [.tmp 4], code := bd Tryz.f83, strict := true, callee := fun r i => find 0 [(4005, 107)] (r * 1000 + i), loops := fun b => find [] [(0, [.own 0 (.ro (.slc (.pair (.int .i16) (.pair (.int .i16) (.pair (.int .i8) .unit))))), .own 1 (.clo 107 (.ro .unit) (.pr (.box (.ro (.int .i64))) (.ro .unit))), .own 7 (.ro (.int .i64)), .own 8 (.ro (.int .i64))])] b, pins := [1] }
/- impl.Cut] -/
noncomputable def I94 : Inst := { f := 94, nt := 9, params := [((.ro (.slc (.pair (.int .i16) (.pair (.int .i16) (.pair (.int .i8) .unit))))), false), ((.clo 107 (.ro .unit) (.pr (.box (.ro (.int .i64))) (.ro .unit))), true)], res := [(.ro .bool)], slots := [.tmp 4], code := bd Tryz.f94, strict := true, callee := fun r i => find 0 [(1002, 83)] (r * 1000 + i), pins := [1] }
/- impl.areCuts -/
noncomputable def I93 : Inst := { f := 93, nt := 14, params := [((.ro (.slc (.pair (.int .i16) (.pair (.int .i16) (.pair (.int .i8) .unit))))), false), ((.ro (.int .i64)), false)], res := [(.ro .bool)], slots := [.tmp 4], code := bd Tryz.f93, callee := fun r i => find 0 [(1006, 94)] (r * 1000 + i) }
/- impl.ValidCuts -/
noncomputable def I59 : Inst := { f := 59, nt := 17, params := [((.ro (.slc (.pair (.int .i16) (.pair (.int .i16) (.pair (.int .i8) .unit))))), false), ((.ro (.slc (.slc (.int .i16)))), false)], res := [(.ro .bool)], slots := [.tmp 4], code := bd Tryz.f59, callee := fun r i => find 0 [(1001, 32), (1004, 33), (1010, 93)] (r * 1000 + i) }
/- impl.areOn$1 -/
noncomputable def I95 : Inst := { f := 95, nt := 9, params := [((.ro (.pair (.int .i16) (.pair (.int .i16) (.pair (.int .i8) .unit)))), false), ((.box (.ro (.int .i64))), true)], res := [(.ro .bool)], slots := [.tmp 3], code := bd Tryz.f95, pins := [1] }
/- impl.Cut] -/
noncomputable def I1083 : Inst := { f := 83, nt := 19, params := [((.ro (.slc (.pair (.int .i16) (.pair (.int .i16) (.pair (.int .i8) .unit))))), false), ((.clo 95 (.ro .unit) (.pr (.box (.ro (.int .i64))) (.ro .unit))), true)], res := [(.ro (.int .i64))], slots := [.tmp 4], code := bd Tryz.f83, strict := true, callee := fun r i => find 0 [(4005, 95)] (r * 1000 + i), loops := fun b => find [] [(0, [.own 0 (.ro (.slc (.pair (.int .i16) (.pair (.int .i16) (.pair (.int .i8) .unit))))), .own 1 (.clo 95 (.ro .unit) (.pr (.box (.ro (.int .i64))) (.ro .unit))), .own 7 (.ro (.int .i64)), .own 8 (.ro (.int .i64))])] b, pins := [1] }
/- impl.Cut] -/
noncomputable def I1094 : Inst := { f := 94, nt := 9, params := [((.ro (.slc (.pair (.int .i16) (.pair (.int .i16) (.pair (.int .i8) .unit))))), false), ((.clo 95 (.ro .unit) (.pr (.box (.ro (.int .i64))) (.ro .unit))), true)], res := [(.ro .bool)], slots := [.tmp 4], code := bd Tryz.f94, strict := true, callee := fun r i => find 0 [(1002, 1083)] (r * 1000 + i), pins := [1] }
/- impl.areOn -/
noncomputable def I61 : Inst := { f := 61, nt := 9, params := [((.ro (.slc (.pair (.int .i16) (.pair (.int .i16) (.pair (.int .i8) .unit))))), false), ((.ro (.int .i64)), false)], res := [(.ro .bool)], slots := [.tmp 4], code := bd Tryz.f61, callee := fun r i => find 0 [(1002, 1094)] (r * 1000 + i) }
/- impl.cutsCode -/
noncomputable def I47 : Inst := { f := 47, nt := 25, params := [((.ro (.slc (.int .i16))), false), ((.ro (.slc (.slc (.int .i16)))), false), ((.ro (.slc (.pair (.int .i16) (.pair (.int .i16) (.pair (.int .i8) .unit))))), false)], res := [(.ro (.int .i64))], slots := [.tmp 6], code := bd Tryz.f47, callee := fun r i => find 0 [(1001, 31), (1006, 59), (1009, 30), (1012, 50), (1013, 61), (1015, 30), (1017, 29)] (r * 1000 + i), deep := fun r i => find false [(1016, true)] (r * 1000 + i), frz := fun r i => find false [(1016, true)] (r * 1000 + i) }
/- impl.Cam).tooDeep$1 -/
noncomputable def I84 : Inst := { f := 84, nt := 17, params := [((.ro (.pair (.int .i16) (.pair (.int .i16) (.pair (.int .i8) .unit)))), false), ((.box (.row false (.slc (.int .i64)))), true)], res := [(.ro .bool)], slots := [.tmp 3], code := bd Tryz.f84, strict := true, pins := [1] }
/- impl.Cut] -/
noncomputable def I2083 : Inst := { f := 83, nt := 19, params := [((.ro (.slc (.pair (.int .i16) (.pair (.int .i16) (.pair (.int .i8) .unit))))), false), ((.clo 84 (.ro .unit) (.pr (.box (.row false (.slc (.int .i64)))) (.ro .unit))), true)], res := [(.ro (.int .i64))], slots := [.tmp 4], code := bd Tryz.f83, strict := true, callee := fun r i => find 0 [(4005, 84)] (r * 1000 + i), loops := fun b => find [] [(0, [.own 0 (.ro (.slc (.pair (.int .i16) (.pair (.int .i16) (.pair (.int .i8) .unit))))), .own 1 (.clo 84 (.ro .unit) (.pr (.box (.row false (.slc (.int .i64)))) (.ro .unit))), .own 7 (.ro (.int .i64)), .own 8 (.ro (.int .i64))])] b, pins := [1] }
/- impl.Cam).tooDeep -/
noncomputable def I48 : Inst := { f := 48, nt := 27, params := [((.ro (.slc (.int .i16))), false), ((.ro (.slc (.slc (.int .i16)))), false), ((.ro (.slc (.pair (.int .i16) (.pair (.int .i16) (.pair (.int .i8) .unit))))), false)], res := [(.ro (.int .i64))], slots := [.tmp 6], code := bd Tryz.f48, callee := fun r i => find 0 [(5003, 38), (7002, 2083)] (r * 1000 + i), loops := fun b => find [] [(0, [.own 0 (.ro (.slc (.int .i16))), .own 2 (.ro (.slc (.pair (.int .i16) (.pair (.int .i16) (.pair (.int .i8) .unit))))), .own 7 (.box (.row false (.slc (.int .i64)))), .own 11 (.ro (.slc (.slc (.int .i16)))), .own 12 (.ro (.int .i64)), .own 13 (.ro (.int .i64))])] b }
/- impl.FlatCam$1 -/
noncomputable def I86 : Inst := { f := 86, nt := 5, params := [((.ro (.int .i64)), false), ((.box (.ro (.int .i64))), true)], res := [(.ro (.int .i64))], slots := [.tmp 3], code := bd Tryz.f86, pins := [1] }
/- impl.camOf -/
noncomputable def I85 : Inst := { f := 85, nt := 27, params := [((.ro (.int .i64)), false), ((.clo 86 (.ro .unit) (.pr (.box (.ro (.int .i64))) (.ro .unit))), true)], res := [(.row false (.int .i16)), (.ro (.int .i64))], slots := [.tmp 4, .tmp 5], code := bd Tryz.f85, strict := true, callee := fun r i => find 0 [(5002, 86), (6001, 34)] (r * 1000 + i), loops := fun b => find [] [(0, [.own 1 (.clo 86 (.ro .unit) (.pr (.box (.ro (.int .i64))) (.ro .unit))), .own 6 (.row false (.int .i16)), .own 10 (.ro (.int .i64)), .own 11 (.ro (.int .i64))])] b, pins := [1], deep := fun r i => find false [(1000, true), (8003, true), (8004, true)] (r * 1000 + i) }
/- impl.FlatCam -/
noncomputable def I49 : Inst := { f := 49, nt := 19, params := [((.ro (.int .i64)), false), ((.ro (.int .i64)), false)], res := [(.row false (.int .i16)), (.ro (.int .i64))], slots := [.tmp 4, .tmp 5], code := bd Tryz.f49, callee := fun r i => find 0 [(1001, 60), (1005, 34), (3002, 85)] (r * 1000 + i) }
/- impl.Cam).cut$1 -/
noncomputable def I105 : Inst := { f := 105, nt := 37, params := [((.ro (.int .i64)), false), ((.ro (.int .i64)), false), ((.pin false (.int .i16)), true), ((.box (.ro (.int .i64))), true), ((.box (.ro (.int .i64))), true)], res := [], slots := [], code := bd Tryz.f105, strict := true, callee := fun r i => find 0 [(2, 50), (3, 91)] (r * 1000 + i), pins := [2, 3, 4] }
/- impl.Cutter).each -/
noncomputable def I1079 : Inst := { f := 79, nt := 29, params := [((.ro (.slc (.int .i16))), false), ((.ro (.int .i64)), false), ((.clo 105 (.ro .unit) (.pr (.pin false (.int .i16)) (.pr (.box (.ro (.int .i64))) (.pr (.box (.ro (.int .i64))) (.ro .unit))))), true)], res := [], slots := [], code := bd Tryz.f79, strict := true, callee := fun r i => find 0 [(4008, 105)] (r * 1000 + i), loops := fun b => find [] [(0, [.own 1 (.ro (.int .i64)), .own 2 (.clo 105 (.ro .unit) (.pr (.pin false (.int .i16)) (.pr (.box (.ro (.int .i64))) (.pr (.box (.ro (.int .i64))) (.ro .unit))))), .own 6 (.ro (.int .i64)), .own 12 (.ro (.slc (.int .i16))), .own 13 (.ro (.int .i64)), .own 14 (.ro (.int .i64))])] b, pins := [2] }
/- impl.Cam).cut -/
noncomputable def I87 : Inst := { f := 87, nt := 15, params := [((.row false (.int .i16)), true), ((.ro (.slc (.int .i16))), false), ((.ro (.int .i64)), false), ((.ro (.int .i64)), false)], res := [(.ro (.int .i64))], slots := [.tmp 8], code := bd Tryz.f87, callee := fun r i => find 0 [(2003, 1079)] (r * 1000 + i), pins := [0], frz := fun r i => find false [(0, true)] (r * 1000 + i) }
/- impl.Cam).do -/
noncomputable def I51 : Inst := { f := 51, nt := 20, params := [((.row false (.int .i16)), true), ((.ro (.slc (.slc (.int .i16)))), false), ((.ro (.pair (.int .i16) (.pair (.int .i16) (.pair (.int .i8) .unit)))), false)], res := [(.ro (.int .i64))], slots := [.tmp 6], code := bd Tryz.f51, callee := fun r i => find 0 [(1012, 87)] (r * 1000 + i), pins := [0] }
/- impl.Cam).left$1$1 -/
noncomputable def I90 : Inst := { f := 90, nt := 18, params := [((.ro (.int .i64)), false), ((.ro (.int .i64)), false), ((.box (.ro (.int .i64))), true), ((.box (.ro (.slc (.int .i64)))), true), ((.box (.ro (.slc (.int .i16)))), true)], res := [], slots := [], code := bd Tryz.f90, strict := true, callee := fun r i => find 0 [(4, 50), (5, 91)] (r * 1000 + i), pins := [2, 3, 4] }
/- impl.Cutter).each -/
noncomputable def I2079 : Inst := { f := 79, nt := 29, params := [((.ro (.slc (.int .i16))), false), ((.ro (.int .i64)), false), ((.clo 90 (.ro .unit) (.pr (.box (.ro (.int .i64))) (.pr (.box (.ro (.slc (.int .i64)))) (.pr (.box (.ro (.slc (.int .i16)))) (.ro .unit))))), true)], res := [], slots := [], code := bd Tryz.f79, strict := true, callee := fun r i => find 0 [(4008, 90)] (r * 1000 + i), loops := fun b => find [] [(0, [.own 1 (.ro (.int .i64)), .own 2 (.clo 90 (.ro .unit) (.pr (.box (.ro (.int .i64))) (.pr (.box (.ro (.slc (.int .i64)))) (.pr (.box (.ro (.slc (.int .i16)))) (.ro .unit))))), .own 6 (.ro (.int .i64)), .own 12 (.ro (.slc (.int .i16))), .own 13 (.ro (.int .i64)), .own 14 (.ro (.int .i64))])] b, pins := [2] }
/- impl.Cam).left$1 -/
noncomputable def I89 : Inst := { f := 89, nt := 16, params := [((.ro (.int .i64)), false), ((.box (.ro (.slc (.int .i64)))), true), ((.box (.ro (.slc (.int .i16)))), true), ((.box (.ro (.slc (.int .i16)))), true)], res := [(.ro (.int .i64))], slots := [.tmp 5], code := bd Tryz.f89, strict := true, callee := fun r i => find 0 [(2003, 2079)] (r * 1000 + i), pins := [1, 2, 3] }
/- impl.camOf -/
noncomputable def I1085 : Inst := { f := 85, nt := 27, params := [((.ro (.int .i64)), false), ((.clo 89 (.ro .unit) (.pr (.box (.ro (.slc (.int .i64)))) (.pr (.box (.ro (.slc (.int .i16)))) (.pr (.box (.ro (.slc (.int .i16)))) (.ro .unit))))), true)], res := [(.row false (.int .i16)), (.ro (.int .i64))], slots := [.tmp 4, .tmp 5], code := bd Tryz.f85, strict := true, callee := fun r i => find 0 [(5002, 89), (6001, 34)] (r * 1000 + i), loops := fun b => find [] [(0, [.own 1 (.clo 89 (.ro .unit) (.pr (.box (.ro (.slc (.int .i64)))) (.pr (.box (.ro (.slc (.int .i16)))) (.pr (.box (.ro (.slc (.int .i16)))) (.ro .unit))))), .own 6 (.row false (.int .i16)), .own 10 (.ro (.int .i64)), .own 11 (.ro (.int .i64))])] b, pins := [1], deep := fun r i => find false [(1000, true), (8003, true), (8004, true)] (r * 1000 + i) }
/- impl.Cam).left -/
noncomputable def I53 : Inst := { f := 53, nt := 19, params := [((.ro (.slc (.int .i16))), false), ((.ro (.slc (.int .i16))), false)], res := [(.row false (.int .i16))], slots := [.tmp 4], code := bd Tryz.f53, callee := fun r i => find 0 [(1002, 38), (2001, 50), (2003, 1085)] (r * 1000 + i) }
/- impl.Cam).waste -/
noncomputable def I88 : Inst := { f := 88, nt := 28, params := [((.ro (.slc (.int .i16))), false), ((.ro (.slc (.int .i16))), false)], res := [(.ro (.int .i64))], slots := [.tmp 4], code := bd Tryz.f88, callee := fun r i => find 0 [(2002, 53)] (r * 1000 + i), loops := fun b => find [] [(0, [.own 0 (.ro (.slc (.int .i16))), .own 5 (.ro (.int .i64)), .own 10 (.ro (.slc (.int .i16))), .own 11 (.ro (.int .i64)), .own 12 (.ro (.int .i64))])] b }
/- impl.Cam).best -/
noncomputable def I52 : Inst := { f := 52, nt := 33, params := [((.ro (.slc (.int .i16))), false), ((.ro (.slc (.slc (.int .i16)))), false)], res := [(.ro (.int .i64)), (.ro (.int .i64))], slots := [.tmp 4, .tmp 5], code := bd Tryz.f52, callee := fun r i => find 0 [(5002, 88)] (r * 1000 + i), loops := fun b => find [] [(0, [.own 0 (.ro (.slc (.int .i16))), .own 6 (.ro (.int .i64)), .own 7 (.ro (.int .i64)), .own 11 (.ro (.slc (.slc (.int .i16)))), .own 12 (.ro (.int .i64)), .own 13 (.ro (.int .i64))])] b }
/- impl.CheckPlan -/
noncomputable def I12 : Inst := { f := 12, nt := 89, params := [((.ro (.slc (.int .i16))), false), ((.ro (.int .i64)), false), ((.ro (.slc (.slc (.int .i16)))), false), ((.ro (.slc (.pair (.int .i16) (.pair (.int .i16) (.pair (.int .i8) .unit))))), false)], res := [(.ro .bool), (.ro (.int .i64))], slots := [.tmp 8, .tmp 9], code := bd Tryz.f12, callee := fun r i => find 0 [(1003, 47), (1005, 34), (1007, 30), (1009, 29), (4001, 37), (6003, 48), (8001, 50), (8003, 49), (12003, 51), (14002, 52), (15005, 53)] (r * 1000 + i), loops := fun b => find [] [(2, [.own 1 (.ro (.int .i64)), .own 11 (.row false (.int .i16)), .own 71 (.ro (.slc (.int .i16))), .own 72 (.ro (.int .i64)), .own 73 (.ro (.int .i64))]), (0, [.own 0 (.ro (.slc (.int .i16))), .own 1 (.ro (.int .i64)), .own 2 (.ro (.slc (.slc (.int .i16)))), .own 11 (.row false (.int .i16)), .own 49 (.ro (.slc (.pair (.int .i16) (.pair (.int .i16) (.pair (.int .i8) .unit))))), .own 50 (.ro (.int .i64)), .own 51 (.ro (.int .i64))])] b, deep := fun r i => find false [(1008, true)] (r * 1000 + i), frz := fun r i => find false [(1008, true)] (r * 1000 + i) }
/- impl.FirstTooDeep -/
noncomputable def I13 : Inst := { f := 13, nt := 24, params := [((.ro (.slc (.int .i16))), false), ((.ro (.slc (.slc (.int .i16)))), false), ((.ro (.slc (.pair (.int .i16) (.pair (.int .i16) (.pair (.int .i8) .unit))))), false)], res := [(.ro (.int .i64)), (.ro (.int .i64))], slots := [.tmp 6, .tmp 7], code := bd Tryz.f13, callee := fun r i => find 0 [(1003, 47), (4003, 48)] (r * 1000 + i) }
/- spec.FlatCam -/
noncomputable def I14 : Inst := { f := 14, nt := 29, params := [((.ro (.int .i64)), false), ((.ro (.int .i64)), false)], res := [(.row false (.int .i16)), (.ro (.int .i64))], slots := [.tmp 4, .tmp 5], code := bd Tryz.f14, callee := fun r i => find 0 [(1001, 54), (1005, 41)] (r * 1000 + i), loops := fun b => find [] [(0, [.own 0 (.ro (.int .i64)), .own 1 (.ro (.int .i64)), .own 6 (.row false (.int .i16)), .own 7 (.ro (.int .i64))])] b, deep := fun r i => find false [(2000, true), (3000, true), (7003, true), (7004, true)] (r * 1000 + i) }
/- impl.Cam,int16] -/
noncomputable def I55 : Inst := { f := 55, nt := 8, params := [((.ro (.slc (.int .i16))), false)], res := [(.row false (.int .i16))], slots := [.tmp 2], code := bd Tryz.f55 }
/- impl.DoCuts -/
noncomputable def I15 : Inst := { f := 15, nt := 38, params := [((.ro (.slc (.int .i16))), false), ((.ro (.slc (.slc (.int .i16)))), false), ((.ro (.slc (.pair (.int .i16) (.pair (.int .i16) (.pair (.int .i8) .unit))))), false)], res := [(.row false (.int .i16)), (.ro (.int .i64)), (.ro (.int .i64))], slots := [.tmp 6, .tmp 7, .tmp 8], code := bd Tryz.f15, callee := fun r i => find 0 [(1003, 47), (4001, 55), (8004, 51)] (r * 1000 + i), loops := fun b => find [] [(0, [.own 1 (.ro (.slc (.slc (.int .i16)))), .own 10 (.row false (.int .i16)), .own 11 (.ro (.int .i64)), .own 23 (.ro (.slc (.pair (.int .i16) (.pair (.int .i16) (.pair (.int .i8) .unit))))), .own 24 (.ro (.int .i64)), .own 25 (.ro (.int .i64))])] b }
/- spec.l06Asked -/
noncomputable def I56 : Inst := { f := 56, nt := 13, params := [((.ro (.slc (.int .i16))), false), ((.ro (.slc (.int .i16))), false)], res := [(.ro (.int .i64))], slots := [.tmp 4], code := bd Tryz.f56, callee := fun r i => find 0 [(1001, 27), (1005, 92)] (r * 1000 + i) }
/- spec.l06Cut -/
noncomputable def I65 : Inst := { f := 65, nt := 73, params := [((.ro (.slc (.int .i16))), false), ((.ro (.slc (.int .i16))), false), ((.ro (.int .i64)), false), ((.ro (.int .i64)), false)], res := [(.row false (.int .i16)), (.ro (.int .i64))], slots := [.tmp 8, .tmp 9], code := bd Tryz.f65, loops := fun b => find [] [(0, [.own 1 (.ro (.slc (.int .i16))), .own 2 (.ro (.int .i64)), .own 3 (.ro (.int .i64)), .own 10 (.row false (.int .i16)), .own 11 (.ro (.int .i64)), .own 12 (.ro (.int .i64)), .own 13 (.ro (.int .i64)), .own 14 (.ro (.int .i64))])] b, deep := fun r i => find false [(1000, true), (1002, true)] (r * 1000 + i) }
/- spec.l06Left -/
noncomputable def I57 : Inst := { f := 57, nt := 38, params := [((.ro (.slc (.int .i16))), false), ((.ro (.slc (.int .i16))), false)], res := [(.row false (.int .i16))], slots := [.tmp 4], code := bd Tryz.f57, callee := fun r i => find 0 [(6002, 44), (10007, 65)] (r * 1000 + i), loops := fun b => find [] [(2, [.own 1 (.ro (.slc (.int .i16))), .own 5 (.row false (.int .i16)), .own 6 (.ro (.slc (.int .i64))), .own 7 (.ro (.int .i64))]), (0, [.own 0 (.ro (.slc (.int .i16))), .own 1 (.ro (.slc (.int .i16))), .own 5 (.row false (.int .i16)), .own 10 (.ro (.int .i64)), .own 11 (.ro (.int .i64))])] b, deep := fun r i => find false [(1000, true), (4001, true), (4002, true)] (r * 1000 + i) }
/- spec.LeftBy -/
noncomputable def I16 : Inst := { f := 16, nt := 17, params := [((.ro (.slc (.int .i16))), false), ((.ro (.slc (.int .i16))), false)], res := [(.row false (.int .i16)), (.ro (.int .i64))], slots := [.tmp 4, .tmp 5], code := bd Tryz.f16, callee := fun r i => find 0 [(1002, 56), (4002, 57)] (r * 1000 + i), deep := fun r i => find false [(3000, true)] (r * 1000 + i) }
/- spec.l01Same -/
noncomputable def I58 : Inst := { f := 58, nt := 26, params := [((.ro (.slc (.int .i16))), false), ((.ro (.slc (.int .i16))), false)], res := [(.ro .bool)], slots := [.tmp 4], code := bd Tryz.f58, loops := fun b => find [] [(0, [.own 0 (.ro (.slc (.int .i16))), .own 1 (.ro (.slc (.int .i16))), .own 5 (.ro (.int .i64))])] b }
/- spec.SameCam -/
noncomputable def I17 : Inst := { f := 17, nt := 8, params := [((.ro (.slc (.int .i16))), false), ((.ro (.slc (.int .i16))), false)], res := [(.ro .bool)], slots := [.tmp 4], code := bd Tryz.f17, callee := fun r i => find 0 [(1002, 58)] (r * 1000 + i) }
/- impl.IdleCuts -/
noncomputable def I18 : Inst := { f := 18, nt := 66, params := [((.ro (.int .i64)), false), ((.ro (.int .i64)), false), ((.ro (.slc (.slc (.int .i16)))), false), ((.ro (.slc (.pair (.int .i16) (.pair (.int .i16) (.pair (.int .i8) .unit))))), false)], res := [(.row false (.int .i64)), (.ro (.int .i64))], slots := [.tmp 8, .tmp 9], code := bd Tryz.f18, callee := fun r i => find 0 [(1002, 59), (1004, 30), (1006, 34), (1010, 60), (1016, 61), (1019, 30), (1021, 29), (4002, 49), (9003, 51)] (r * 1000 + i), loops := fun b => find [] [(0, [.own 2 (.ro (.slc (.slc (.int .i16)))), .own 11 (.row false (.int .i16)), .own 13 (.row false (.int .i64)), .own 48 (.ro (.slc (.pair (.int .i16) (.pair (.int .i16) (.pair (.int .i8) .unit))))), .own 49 (.ro (.int .i64)), .own 50 (.ro (.int .i64))])] b, deep := fun r i => find false [(1020, true), (5000, true), (10002, true), (10003, true)] (r * 1000 + i), frz := fun r i => find false [(1020, true)] (r * 1000 + i) }
/- spec.l06Blank -/
noncomputable def I64 : Inst := { f := 64, nt := 19, params := [((.ro (.int .i64)), false), ((.ro (.int .i64)), false)], res := [(.row false (.int .i16))], slots := [.tmp 4], code := bd Tryz.f64, loops := fun b => find [] [(0, [.own 0 (.ro (.int .i64)), .own 1 (.ro (.int .i64)), .own 5 (.row false (.int .i16)), .own 6 (.ro (.int .i64))])] b, deep := fun r i => find false [(1000, true), (5003, true), (5004, true)] (r * 1000 + i) }
/- spec.IdleCuts -/
noncomputable def I19 : Inst := { f := 19, nt := 78, params := [((.ro (.int .i64)), false), ((.ro (.int .i64)), false), ((.ro (.slc (.slc (.int .i16)))), false), ((.ro (.slc (.pair (.int .i16) (.pair (.int .i16) (.pair (.int .i8) .unit))))), false)], res := [(.row false (.int .i64)), (.ro (.int .i64))], slots := [.tmp 8, .tmp 9], code := bd Tryz.f19, callee := fun r i => find 0 [(1002, 62), (3001, 54), (3005, 41), (3011, 63), (5002, 64), (10021, 65)] (r * 1000 + i), loops := fun b => find [] [(0, [.own 2 (.ro (.slc (.slc (.int .i16)))), .own 3 (.ro (.slc (.pair (.int .i16) (.pair (.int .i16) (.pair (.int .i8) .unit))))), .own 10 (.ro (.slc (.int .i16))), .own 11 (.row false (.int .i64)), .own 12 (.ro (.int .i64))])] b, deep := fun r i => find false [(2000, true), (4000, true), (6000, true), (13002, true), (13003, true)] (r * 1000 + i) }
/- spec.l00Same -/
noncomputable def I66 : Inst := { f := 66, nt := 26, params := [((.ro (.slc (.int .i64))), false), ((.ro (.slc (.int .i64))), false)], res := [(.ro .bool)], slots := [.tmp 4], code := bd Tryz.f66, loops := fun b => find [] [(0, [.own 0 (.ro (.slc (.int .i64))), .own 1 (.ro (.slc (.int .i64))), .own 5 (.ro (.int .i64))])] b }
/- spec.A2Same -/
noncomputable def I20 : Inst := { f := 20, nt := 8, params := [((.ro (.slc (.int .i64))), false), ((.ro (.slc (.int .i64))), false)], res := [(.ro .bool)], slots := [.tmp 4], code := bd Tryz.f20, callee := fun r i => find 0 [(1002, 66)] (r * 1000 + i) }
/- spec.A2Has -/
noncomputable def I21 : Inst := { f := 21, nt := 18, params := [((.ro (.slc (.int .i64))), false), ((.ro (.int .i64)), false)], res := [(.ro .bool)], slots := [.tmp 4], code := bd Tryz.f21, loops := fun b => find [] [(0, [.own 0 (.ro (.slc (.int .i64))), .own 1 (.ro (.int .i64)), .own 5 (.ro (.int .i64))])] b }
/- spec.l06Deep -/
noncomputable def I67 : Inst := { f := 67, nt := 38, params := [((.ro (.slc (.int .i16))), false), ((.ro (.slc (.slc (.int .i16)))), false), ((.ro (.slc (.pair (.int .i16) (.pair (.int .i16) (.pair (.int .i8) .unit))))), false)], res := [(.ro (.int .i64))], slots := [.tmp 6], code := bd Tryz.f67, callee := fun r i => find 0 [(4021, 82)] (r * 1000 + i), loops := fun b => find [] [(0, [.own 0 (.ro (.slc (.int .i16))), .own 1 (.ro (.slc (.slc (.int .i16)))), .own 2 (.ro (.slc (.pair (.int .i16) (.pair (.int .i16) (.pair (.int .i8) .unit))))), .own 7 (.ro (.int .i64))])] b }
/- spec.FirstTooDeep -/
noncomputable def I22 : Inst := { f := 22, nt := 24, params := [((.ro (.slc (.int .i16))), false), ((.ro (.slc (.slc (.int .i16)))), false), ((.ro (.slc (.pair (.int .i16) (.pair (.int .i16) (.pair (.int .i8) .unit))))), false)], res := [(.ro (.int .i64)), (.ro (.int .i64))], slots := [.tmp 6, .tmp 7], code := bd Tryz.f22, callee := fun r i => find 0 [(1003, 40), (4003, 67)] (r * 1000 + i) }
/- laws.FnMilled -/
noncomputable def I3 : Inst := { f := 3, nt := 290, params := [((.ro (.slc (.int .u8))), false), ((.ro (.slc (.int .u8))), false)], res := [(.ro .bool)], slots := [.tmp 4], code := bd Tryz.f3, callee := fun r i => find 0 [(1002, 4), (3001, 5), (4001, 6), (6001, 7), (7003, 8), (8001, 8), (9004, 9), (10004, 10), (11010, 11), (15004, 12), (16003, 13), (18002, 14), (19003, 15), (20002, 16), (21025, 17), (23004, 18), (24004, 19), (25010, 20), (31002, 21), (33003, 15), (34004, 12), (35005, 17), (44003, 13), (45003, 22)] (r * 1000 + i), loops := fun b => find [] [(0, [.own 5 (.ro (.slc (.int .i16))), .own 7 (.ro (.slc (.slc (.int .i16)))), .own 11 (.ro (.int .i64)), .own 15 (.ro (.slc (.pair (.int .i16) (.pair (.int .i16) (.pair (.int .i8) .unit))))), .own 22 (.ro (.slc (.int .i16))), .own 27 (.ro (.slc (.int .i16))), .own 31 (.ro (.slc (.int .i64))), .own 33 (.row false (.pair (.int .i16) (.pair (.int .i16) (.pair (.int .i8) .unit)))), .own 34 (.ro (.int .i64))])] b, frz := fun r i => find false [(34003, true)] (r * 1000 + i) }
noncomputable def CL : List (Nat × Inst) := [(4, I4), (24, I24), (99, I99), (68, I68), (69, I69), (23, I23), (100, I100), (101, I101), (70, I70), (25, I25), (5, I5), (42, I42), (71, I71), (26, I26), (6, I6), (54, I54), (41, I41), (27, I27), (45, I45), (46, I46), (28, I28), (7, I7), (8, I8), (50, I50), (36, I36), (60, I60), (34, I34), (73, I73), (102, I102), (72, I72), (31, I31), (32, I32), (76, I76), (75, I75), (103, I103), (74, I74), (33, I33), (30, I30), (35, I35), (29, I29), (37, I37), (106, I106), (91, I91), (81, I81), (80, I80), (79, I79), (78, I78), (77, I77), (38, I38), (39, I39), (9, I9), (96, I96), (92, I92), (97, I97), (98, I98), (62, I62), (63, I63), (40, I40), (43, I43), (104, I104), (82, I82), (44, I44), (10, I10), (11, I11), (107, I107), (83, I83), (94, I94), (93, I93), (59, I59), (95, I95), (1083, I1083), (1094, I1094), (61, I61), (47, I47), (84, I84), (2083, I2083), (48, I48), (86, I86), (85, I85), (49, I49), (105, I105), (1079, I1079), (87, I87), (51, I51), (90, I90), (2079, I2079), (89, I89), (1085, I1085), (53, I53), (88, I88), (52, I52), (12, I12), (13, I13), (14, I14), (55, I55), (15, I15), (56, I56), (65, I65), (57, I57), (16, I16), (58, I58), (17, I17), (18, I18), (64, I64), (19, I19), (66, I66), (20, I20), (21, I21), (67, I67), (22, I22), (3, I3)]
noncomputable def C : Nat → Inst := find I4 CL
theorem tsOk : TsOk Tryz.prog T := tsOkB_sound (by kernel_rfl)
theorem ok4 : InstOk Tryz.prog I4 := instOk_of Tryz.func4 (by kernel_rfl) (by kernel_rfl) (by kernel_rfl) (by kernel_rfl)
theorem ok24 : InstOk Tryz.prog I24 := instOk_of Tryz.func24 (by kernel_rfl) (by kernel_rfl) (by kernel_rfl) (by kernel_rfl)
theorem ok99 : InstOk Tryz.prog I99 := instOk_of Tryz.func99 (by kernel_rfl) (by kernel_rfl) (by kernel_rfl) (by kernel_rfl)
theorem ok68 : InstOk Tryz.prog I68 := instOk_of Tryz.func68 (by kernel_rfl) (by kernel_rfl) (by kernel_rfl) (by kernel_rfl)
theorem ok69 : InstOk Tryz.prog I69 := instOk_of Tryz.func69 (by kernel_rfl) (by kernel_rfl) (by kernel_rfl) (by kernel_rfl)
theorem ok23 : InstOk Tryz.prog I23 := instOk_of Tryz.func23 (by kernel_rfl) (by kernel_rfl) (by kernel_rfl) (by kernel_rfl)
theorem ok100 : InstOk Tryz.prog I100 := instOk_of Tryz.func100 (by kernel_rfl) (by kernel_rfl) (by kernel_rfl) (by kernel_rfl)
theorem ok101 : InstOk Tryz.prog I101 := instOk_of Tryz.func101 (by kernel_rfl) (by kernel_rfl) (by kernel_rfl) (by kernel_rfl)
theorem ok70 : InstOk Tryz.prog I70 := instOk_of Tryz.func70 (by kernel_rfl) (by kernel_rfl) (by kernel_rfl) (by kernel_rfl)
theorem ok25 : InstOk Tryz.prog I25 := instOk_of Tryz.func25 (by kernel_rfl) (by kernel_rfl) (by kernel_rfl) (by kernel_rfl)
theorem ok5 : InstOk Tryz.prog I5 := instOk_of Tryz.func5 (by kernel_rfl) (by kernel_rfl) (by kernel_rfl) (by kernel_rfl)
theorem ok42 : InstOk Tryz.prog I42 := instOk_of Tryz.func42 (by kernel_rfl) (by kernel_rfl) (by kernel_rfl) (by kernel_rfl)
theorem ok71 : InstOk Tryz.prog I71 := instOk_of Tryz.func71 (by kernel_rfl) (by kernel_rfl) (by kernel_rfl) (by kernel_rfl)
theorem ok26 : InstOk Tryz.prog I26 := instOk_of Tryz.func26 (by kernel_rfl) (by kernel_rfl) (by kernel_rfl) (by kernel_rfl)
theorem ok6 : InstOk Tryz.prog I6 := instOk_of Tryz.func6 (by kernel_rfl) (by kernel_rfl) (by kernel_rfl) (by kernel_rfl)
theorem ok54 : InstOk Tryz.prog I54 := instOk_of Tryz.func54 (by kernel_rfl) (by kernel_rfl) (by kernel_rfl) (by kernel_rfl)
theorem ok41 : InstOk Tryz.prog I41 := instOk_of Tryz.func41 (by kernel_rfl) (by kernel_rfl) (by kernel_rfl) (by kernel_rfl)
theorem ok27 : InstOk Tryz.prog I27 := instOk_of Tryz.func27 (by kernel_rfl) (by kernel_rfl) (by kernel_rfl) (by kernel_rfl)
theorem ok45 : InstOk Tryz.prog I45 := instOk_of Tryz.func45 (by kernel_rfl) (by kernel_rfl) (by kernel_rfl) (by kernel_rfl)
theorem ok46 : InstOk Tryz.prog I46 := instOk_of Tryz.func46 (by kernel_rfl) (by kernel_rfl) (by kernel_rfl) (by kernel_rfl)
theorem ok28 : InstOk Tryz.prog I28 := instOk_of Tryz.func28 (by kernel_rfl) (by kernel_rfl) (by kernel_rfl) (by kernel_rfl)
theorem ok7 : InstOk Tryz.prog I7 := instOk_of Tryz.func7 (by kernel_rfl) (by kernel_rfl) (by kernel_rfl) (by kernel_rfl)
theorem ok8 : InstOk Tryz.prog I8 := instOk_of Tryz.func8 (by kernel_rfl) (by kernel_rfl) (by kernel_rfl) (by kernel_rfl)
theorem ok50 : InstOk Tryz.prog I50 := instOk_of Tryz.func50 (by kernel_rfl) (by kernel_rfl) (by kernel_rfl) (by kernel_rfl)
theorem ok36 : InstOk Tryz.prog I36 := instOk_of Tryz.func36 (by kernel_rfl) (by kernel_rfl) (by kernel_rfl) (by kernel_rfl)
theorem ok60 : InstOk Tryz.prog I60 := instOk_of Tryz.func60 (by kernel_rfl) (by kernel_rfl) (by kernel_rfl) (by kernel_rfl)
theorem ok34 : InstOk Tryz.prog I34 := instOk_of Tryz.func34 (by kernel_rfl) (by kernel_rfl) (by kernel_rfl) (by kernel_rfl)
theorem ok73 : InstOk Tryz.prog I73 := instOk_of Tryz.func73 (by kernel_rfl) (by kernel_rfl) (by kernel_rfl) (by kernel_rfl)
theorem ok102 : InstOk Tryz.prog I102 := instOk_of Tryz.func102 (by kernel_rfl) (by kernel_rfl) (by kernel_rfl) (by kernel_rfl)
theorem ok72 : InstOk Tryz.prog I72 := instOk_of Tryz.func72 (by kernel_rfl) (by kernel_rfl) (by kernel_rfl) (by kernel_rfl)
theorem ok31 : InstOk Tryz.prog I31 := instOk_of Tryz.func31 (by kernel_rfl) (by kernel_rfl) (by kernel_rfl) (by kernel_rfl)
theorem ok32 : InstOk Tryz.prog I32 := instOk_of Tryz.func32 (by kernel_rfl) (by kernel_rfl) (by kernel_rfl) (by kernel_rfl)
theorem ok76 : InstOk Tryz.prog I76 := instOk_of Tryz.func76 (by kernel_rfl) (by kernel_rfl) (by kernel_rfl) (by kernel_rfl)
theorem ok75 : InstOk Tryz.prog I75 := instOk_of Tryz.func75 (by kernel_rfl) (by kernel_rfl) (by kernel_rfl) (by kernel_rfl)
theorem ok103 : InstOk Tryz.prog I103 := instOk_of Tryz.func103 (by kernel_rfl) (by kernel_rfl) (by kernel_rfl) (by kernel_rfl)
theorem ok74 : InstOk Tryz.prog I74 := instOk_of Tryz.func74 (by kernel_rfl) (by kernel_rfl) (by kernel_rfl) (by kernel_rfl)
theorem ok33 : InstOk Tryz.prog I33 := instOk_of Tryz.func33 (by kernel_rfl) (by kernel_rfl) (by kernel_rfl) (by kernel_rfl)
theorem ok30 : InstOk Tryz.prog I30 := instOk_of Tryz.func30 (by kernel_rfl) (by kernel_rfl) (by kernel_rfl) (by kernel_rfl)
theorem ok35 : InstOk Tryz.prog I35 := instOk_of Tryz.func35 (by kernel_rfl) (by kernel_rfl) (by kernel_rfl) (by kernel_rfl)
theorem ok29 : InstOk Tryz.prog I29 := instOk_of Tryz.func29 (by kernel_rfl) (by kernel_rfl) (by kernel_rfl) (by kernel_rfl)
theorem ok37 : InstOk Tryz.prog I37 := instOk_of Tryz.func37 (by kernel_rfl) (by kernel_rfl) (by kernel_rfl) (by kernel_rfl)
theorem ok106 : InstOk Tryz.prog I106 := instOk_of Tryz.func106 (by kernel_rfl) (by kernel_rfl) (by kernel_rfl) (by kernel_rfl)
theorem ok91 : InstOk Tryz.prog I91 := instOk_of Tryz.func91 (by kernel_rfl) (by kernel_rfl) (by kernel_rfl) (by kernel_rfl)
theorem ok81 : InstOk Tryz.prog I81 := instOk_of Tryz.func81 (by kernel_rfl) (by kernel_rfl) (by kernel_rfl) (by kernel_rfl)
theorem ok80 : InstOk Tryz.prog I80 := instOk_of Tryz.func80 (by kernel_rfl) (by kernel_rfl) (by kernel_rfl) (by kernel_rfl)
theorem ok79 : InstOk Tryz.prog I79 := instOk_of Tryz.func79 (by kernel_rfl) (by kernel_rfl) (by kernel_rfl) (by kernel_rfl)
theorem ok78 : InstOk Tryz.prog I78 := instOk_of Tryz.func78 (by kernel_rfl) (by kernel_rfl) (by kernel_rfl) (by kernel_rfl)
theorem ok77 : InstOk Tryz.prog I77 := instOk_of Tryz.func77 (by kernel_rfl) (by kernel_rfl) (by kernel_rfl) (by kernel_rfl)
theorem ok38 : InstOk Tryz.prog I38 := instOk_of Tryz.func38 (by kernel_rfl) (by kernel_rfl) (by kernel_rfl) (by kernel_rfl)
theorem ok39 : InstOk Tryz.prog I39 := instOk_of Tryz.func39 (by kernel_rfl) (by kernel_rfl) (by kernel_rfl) (by kernel_rfl)
theorem ok9 : InstOk Tryz.prog I9 := instOk_of Tryz.func9 (by kernel_rfl) (by kernel_rfl) (by kernel_rfl) (by kernel_rfl)
theorem ok96 : InstOk Tryz.prog I96 := instOk_of Tryz.func96 (by kernel_rfl) (by kernel_rfl) (by kernel_rfl) (by kernel_rfl)
theorem ok92 : InstOk Tryz.prog I92 := instOk_of Tryz.func92 (by kernel_rfl) (by kernel_rfl) (by kernel_rfl) (by kernel_rfl)
theorem ok97 : InstOk Tryz.prog I97 := instOk_of Tryz.func97 (by kernel_rfl) (by kernel_rfl) (by kernel_rfl) (by kernel_rfl)
theorem ok98 : InstOk Tryz.prog I98 := instOk_of Tryz.func98 (by kernel_rfl) (by kernel_rfl) (by kernel_rfl) (by kernel_rfl)
theorem ok62 : InstOk Tryz.prog I62 := instOk_of Tryz.func62 (by kernel_rfl) (by kernel_rfl) (by kernel_rfl) (by kernel_rfl)
theorem ok63 : InstOk Tryz.prog I63 := instOk_of Tryz.func63 (by kernel_rfl) (by kernel_rfl) (by kernel_rfl) (by kernel_rfl)
theorem ok40 : InstOk Tryz.prog I40 := instOk_of Tryz.func40 (by kernel_rfl) (by kernel_rfl) (by kernel_rfl) (by kernel_rfl)
theorem ok43 : InstOk Tryz.prog I43 := instOk_of Tryz.func43 (by kernel_rfl) (by kernel_rfl) (by kernel_rfl) (by kernel_rfl)
theorem ok104 : InstOk Tryz.prog I104 := instOk_of Tryz.func104 (by kernel_rfl) (by kernel_rfl) (by kernel_rfl) (by kernel_rfl)
theorem ok82 : InstOk Tryz.prog I82 := instOk_of Tryz.func82 (by kernel_rfl) (by kernel_rfl) (by kernel_rfl) (by kernel_rfl)
theorem ok44 : InstOk Tryz.prog I44 := instOk_of Tryz.func44 (by kernel_rfl) (by kernel_rfl) (by kernel_rfl) (by kernel_rfl)
theorem ok10 : InstOk Tryz.prog I10 := instOk_of Tryz.func10 (by kernel_rfl) (by kernel_rfl) (by kernel_rfl) (by kernel_rfl)
theorem ok11 : InstOk Tryz.prog I11 := instOk_of Tryz.func11 (by kernel_rfl) (by kernel_rfl) (by kernel_rfl) (by kernel_rfl)
theorem ok107 : InstOk Tryz.prog I107 := instOk_of Tryz.func107 (by kernel_rfl) (by kernel_rfl) (by kernel_rfl) (by kernel_rfl)
theorem ok83 : InstOk Tryz.prog I83 := instOk_of Tryz.func83 (by kernel_rfl) (by kernel_rfl) (by kernel_rfl) (by kernel_rfl)
theorem ok94 : InstOk Tryz.prog I94 := instOk_of Tryz.func94 (by kernel_rfl) (by kernel_rfl) (by kernel_rfl) (by kernel_rfl)
theorem ok93 : InstOk Tryz.prog I93 := instOk_of Tryz.func93 (by kernel_rfl) (by kernel_rfl) (by kernel_rfl) (by kernel_rfl)
theorem ok59 : InstOk Tryz.prog I59 := instOk_of Tryz.func59 (by kernel_rfl) (by kernel_rfl) (by kernel_rfl) (by kernel_rfl)
theorem ok95 : InstOk Tryz.prog I95 := instOk_of Tryz.func95 (by kernel_rfl) (by kernel_rfl) (by kernel_rfl) (by kernel_rfl)
theorem ok1083 : InstOk Tryz.prog I1083 := instOk_of Tryz.func83 (by kernel_rfl) (by kernel_rfl) (by kernel_rfl) (by kernel_rfl)
theorem ok1094 : InstOk Tryz.prog I1094 := instOk_of Tryz.func94 (by kernel_rfl) (by kernel_rfl) (by kernel_rfl) (by kernel_rfl)
theorem ok61 : InstOk Tryz.prog I61 := instOk_of Tryz.func61 (by kernel_rfl) (by kernel_rfl) (by kernel_rfl) (by kernel_rfl)
theorem ok47 : InstOk Tryz.prog I47 := instOk_of Tryz.func47 (by kernel_rfl) (by kernel_rfl) (by kernel_rfl) (by kernel_rfl)
theorem ok84 : InstOk Tryz.prog I84 := instOk_of Tryz.func84 (by kernel_rfl) (by kernel_rfl) (by kernel_rfl) (by kernel_rfl)
theorem ok2083 : InstOk Tryz.prog I2083 := instOk_of Tryz.func83 (by kernel_rfl) (by kernel_rfl) (by kernel_rfl) (by kernel_rfl)
theorem ok48 : InstOk Tryz.prog I48 := instOk_of Tryz.func48 (by kernel_rfl) (by kernel_rfl) (by kernel_rfl) (by kernel_rfl)
theorem ok86 : InstOk Tryz.prog I86 := instOk_of Tryz.func86 (by kernel_rfl) (by kernel_rfl) (by kernel_rfl) (by kernel_rfl)
theorem ok85 : InstOk Tryz.prog I85 := instOk_of Tryz.func85 (by kernel_rfl) (by kernel_rfl) (by kernel_rfl) (by kernel_rfl)
theorem ok49 : InstOk Tryz.prog I49 := instOk_of Tryz.func49 (by kernel_rfl) (by kernel_rfl) (by kernel_rfl) (by kernel_rfl)
theorem ok105 : InstOk Tryz.prog I105 := instOk_of Tryz.func105 (by kernel_rfl) (by kernel_rfl) (by kernel_rfl) (by kernel_rfl)
theorem ok1079 : InstOk Tryz.prog I1079 := instOk_of Tryz.func79 (by kernel_rfl) (by kernel_rfl) (by kernel_rfl) (by kernel_rfl)
theorem ok87 : InstOk Tryz.prog I87 := instOk_of Tryz.func87 (by kernel_rfl) (by kernel_rfl) (by kernel_rfl) (by kernel_rfl)
theorem ok51 : InstOk Tryz.prog I51 := instOk_of Tryz.func51 (by kernel_rfl) (by kernel_rfl) (by kernel_rfl) (by kernel_rfl)
theorem ok90 : InstOk Tryz.prog I90 := instOk_of Tryz.func90 (by kernel_rfl) (by kernel_rfl) (by kernel_rfl) (by kernel_rfl)
theorem ok2079 : InstOk Tryz.prog I2079 := instOk_of Tryz.func79 (by kernel_rfl) (by kernel_rfl) (by kernel_rfl) (by kernel_rfl)
theorem ok89 : InstOk Tryz.prog I89 := instOk_of Tryz.func89 (by kernel_rfl) (by kernel_rfl) (by kernel_rfl) (by kernel_rfl)
theorem ok1085 : InstOk Tryz.prog I1085 := instOk_of Tryz.func85 (by kernel_rfl) (by kernel_rfl) (by kernel_rfl) (by kernel_rfl)
theorem ok53 : InstOk Tryz.prog I53 := instOk_of Tryz.func53 (by kernel_rfl) (by kernel_rfl) (by kernel_rfl) (by kernel_rfl)
theorem ok88 : InstOk Tryz.prog I88 := instOk_of Tryz.func88 (by kernel_rfl) (by kernel_rfl) (by kernel_rfl) (by kernel_rfl)
theorem ok52 : InstOk Tryz.prog I52 := instOk_of Tryz.func52 (by kernel_rfl) (by kernel_rfl) (by kernel_rfl) (by kernel_rfl)
theorem ok12 : InstOk Tryz.prog I12 := instOk_of Tryz.func12 (by kernel_rfl) (by kernel_rfl) (by kernel_rfl) (by kernel_rfl)
theorem ok13 : InstOk Tryz.prog I13 := instOk_of Tryz.func13 (by kernel_rfl) (by kernel_rfl) (by kernel_rfl) (by kernel_rfl)
theorem ok14 : InstOk Tryz.prog I14 := instOk_of Tryz.func14 (by kernel_rfl) (by kernel_rfl) (by kernel_rfl) (by kernel_rfl)
theorem ok55 : InstOk Tryz.prog I55 := instOk_of Tryz.func55 (by kernel_rfl) (by kernel_rfl) (by kernel_rfl) (by kernel_rfl)
theorem ok15 : InstOk Tryz.prog I15 := instOk_of Tryz.func15 (by kernel_rfl) (by kernel_rfl) (by kernel_rfl) (by kernel_rfl)
theorem ok56 : InstOk Tryz.prog I56 := instOk_of Tryz.func56 (by kernel_rfl) (by kernel_rfl) (by kernel_rfl) (by kernel_rfl)
theorem ok65 : InstOk Tryz.prog I65 := instOk_of Tryz.func65 (by kernel_rfl) (by kernel_rfl) (by kernel_rfl) (by kernel_rfl)
theorem ok57 : InstOk Tryz.prog I57 := instOk_of Tryz.func57 (by kernel_rfl) (by kernel_rfl) (by kernel_rfl) (by kernel_rfl)
theorem ok16 : InstOk Tryz.prog I16 := instOk_of Tryz.func16 (by kernel_rfl) (by kernel_rfl) (by kernel_rfl) (by kernel_rfl)
theorem ok58 : InstOk Tryz.prog I58 := instOk_of Tryz.func58 (by kernel_rfl) (by kernel_rfl) (by kernel_rfl) (by kernel_rfl)
theorem ok17 : InstOk Tryz.prog I17 := instOk_of Tryz.func17 (by kernel_rfl) (by kernel_rfl) (by kernel_rfl) (by kernel_rfl)
theorem ok18 : InstOk Tryz.prog I18 := instOk_of Tryz.func18 (by kernel_rfl) (by kernel_rfl) (by kernel_rfl) (by kernel_rfl)
theorem ok64 : InstOk Tryz.prog I64 := instOk_of Tryz.func64 (by kernel_rfl) (by kernel_rfl) (by kernel_rfl) (by kernel_rfl)
theorem ok19 : InstOk Tryz.prog I19 := instOk_of Tryz.func19 (by kernel_rfl) (by kernel_rfl) (by kernel_rfl) (by kernel_rfl)
theorem ok66 : InstOk Tryz.prog I66 := instOk_of Tryz.func66 (by kernel_rfl) (by kernel_rfl) (by kernel_rfl) (by kernel_rfl)
theorem ok20 : InstOk Tryz.prog I20 := instOk_of Tryz.func20 (by kernel_rfl) (by kernel_rfl) (by kernel_rfl) (by kernel_rfl)
theorem ok21 : InstOk Tryz.prog I21 := instOk_of Tryz.func21 (by kernel_rfl) (by kernel_rfl) (by kernel_rfl) (by kernel_rfl)
theorem ok67 : InstOk Tryz.prog I67 := instOk_of Tryz.func67 (by kernel_rfl) (by kernel_rfl) (by kernel_rfl) (by kernel_rfl)
theorem ok22 : InstOk Tryz.prog I22 := instOk_of Tryz.func22 (by kernel_rfl) (by kernel_rfl) (by kernel_rfl) (by kernel_rfl)
theorem ok3 : InstOk Tryz.prog I3 := instOk_of Tryz.func3 (by kernel_rfl) (by kernel_rfl) (by kernel_rfl) (by kernel_rfl)
theorem insts : ∀ j, InstOk Tryz.prog (C j) := find_all ok4 (List.forall_mem_cons.2 ⟨ok4, List.forall_mem_cons.2 ⟨ok24, List.forall_mem_cons.2 ⟨ok99, List.forall_mem_cons.2 ⟨ok68, List.forall_mem_cons.2 ⟨ok69, List.forall_mem_cons.2 ⟨ok23, List.forall_mem_cons.2 ⟨ok100, List.forall_mem_cons.2 ⟨ok101, List.forall_mem_cons.2 ⟨ok70, List.forall_mem_cons.2 ⟨ok25, List.forall_mem_cons.2 ⟨ok5, List.forall_mem_cons.2 ⟨ok42, List.forall_mem_cons.2 ⟨ok71, List.forall_mem_cons.2 ⟨ok26, List.forall_mem_cons.2 ⟨ok6, List.forall_mem_cons.2 ⟨ok54, List.forall_mem_cons.2 ⟨ok41, List.forall_mem_cons.2 ⟨ok27, List.forall_mem_cons.2 ⟨ok45, List.forall_mem_cons.2 ⟨ok46, List.forall_mem_cons.2 ⟨ok28, List.forall_mem_cons.2 ⟨ok7, List.forall_mem_cons.2 ⟨ok8, List.forall_mem_cons.2 ⟨ok50, List.forall_mem_cons.2 ⟨ok36, List.forall_mem_cons.2 ⟨ok60, List.forall_mem_cons.2 ⟨ok34, List.forall_mem_cons.2 ⟨ok73, List.forall_mem_cons.2 ⟨ok102, List.forall_mem_cons.2 ⟨ok72, List.forall_mem_cons.2 ⟨ok31, List.forall_mem_cons.2 ⟨ok32, List.forall_mem_cons.2 ⟨ok76, List.forall_mem_cons.2 ⟨ok75, List.forall_mem_cons.2 ⟨ok103, List.forall_mem_cons.2 ⟨ok74, List.forall_mem_cons.2 ⟨ok33, List.forall_mem_cons.2 ⟨ok30, List.forall_mem_cons.2 ⟨ok35, List.forall_mem_cons.2 ⟨ok29, List.forall_mem_cons.2 ⟨ok37, List.forall_mem_cons.2 ⟨ok106, List.forall_mem_cons.2 ⟨ok91, List.forall_mem_cons.2 ⟨ok81, List.forall_mem_cons.2 ⟨ok80, List.forall_mem_cons.2 ⟨ok79, List.forall_mem_cons.2 ⟨ok78, List.forall_mem_cons.2 ⟨ok77, List.forall_mem_cons.2 ⟨ok38, List.forall_mem_cons.2 ⟨ok39, List.forall_mem_cons.2 ⟨ok9, List.forall_mem_cons.2 ⟨ok96, List.forall_mem_cons.2 ⟨ok92, List.forall_mem_cons.2 ⟨ok97, List.forall_mem_cons.2 ⟨ok98, List.forall_mem_cons.2 ⟨ok62, List.forall_mem_cons.2 ⟨ok63, List.forall_mem_cons.2 ⟨ok40, List.forall_mem_cons.2 ⟨ok43, List.forall_mem_cons.2 ⟨ok104, List.forall_mem_cons.2 ⟨ok82, List.forall_mem_cons.2 ⟨ok44, List.forall_mem_cons.2 ⟨ok10, List.forall_mem_cons.2 ⟨ok11, List.forall_mem_cons.2 ⟨ok107, List.forall_mem_cons.2 ⟨ok83, List.forall_mem_cons.2 ⟨ok94, List.forall_mem_cons.2 ⟨ok93, List.forall_mem_cons.2 ⟨ok59, List.forall_mem_cons.2 ⟨ok95, List.forall_mem_cons.2 ⟨ok1083, List.forall_mem_cons.2 ⟨ok1094, List.forall_mem_cons.2 ⟨ok61, List.forall_mem_cons.2 ⟨ok47, List.forall_mem_cons.2 ⟨ok84, List.forall_mem_cons.2 ⟨ok2083, List.forall_mem_cons.2 ⟨ok48, List.forall_mem_cons.2 ⟨ok86, List.forall_mem_cons.2 ⟨ok85, List.forall_mem_cons.2 ⟨ok49, List.forall_mem_cons.2 ⟨ok105, List.forall_mem_cons.2 ⟨ok1079, List.forall_mem_cons.2 ⟨ok87, List.forall_mem_cons.2 ⟨ok51, List.forall_mem_cons.2 ⟨ok90, List.forall_mem_cons.2 ⟨ok2079, List.forall_mem_cons.2 ⟨ok89, List.forall_mem_cons.2 ⟨ok1085, List.forall_mem_cons.2 ⟨ok53, List.forall_mem_cons.2 ⟨ok88, List.forall_mem_cons.2 ⟨ok52, List.forall_mem_cons.2 ⟨ok12, List.forall_mem_cons.2 ⟨ok13, List.forall_mem_cons.2 ⟨ok14, List.forall_mem_cons.2 ⟨ok55, List.forall_mem_cons.2 ⟨ok15, List.forall_mem_cons.2 ⟨ok56, List.forall_mem_cons.2 ⟨ok65, List.forall_mem_cons.2 ⟨ok57, List.forall_mem_cons.2 ⟨ok16, List.forall_mem_cons.2 ⟨ok58, List.forall_mem_cons.2 ⟨ok17, List.forall_mem_cons.2 ⟨ok18, List.forall_mem_cons.2 ⟨ok64, List.forall_mem_cons.2 ⟨ok19, List.forall_mem_cons.2 ⟨ok66, List.forall_mem_cons.2 ⟨ok20, List.forall_mem_cons.2 ⟨ok21, List.forall_mem_cons.2 ⟨ok67, List.forall_mem_cons.2 ⟨ok22, List.forall_mem_cons.2 ⟨ok3, fun _ h => absurd h List.not_mem_nil⟩⟩⟩⟩⟩⟩⟩⟩⟩⟩⟩⟩⟩⟩⟩⟩⟩⟩⟩⟩⟩⟩⟩⟩⟩⟩⟩⟩⟩⟩⟩⟩⟩⟩⟩⟩⟩⟩⟩⟩⟩⟩⟩⟩⟩⟩⟩⟩⟩⟩⟩⟩⟩⟩⟩⟩⟩⟩⟩⟩⟩⟩⟩⟩⟩⟩⟩⟩⟩⟩⟩⟩⟩⟩⟩⟩⟩⟩⟩⟩⟩⟩⟩⟩⟩⟩⟩⟩⟩⟩⟩⟩⟩⟩⟩⟩⟩⟩⟩⟩⟩⟩⟩⟩⟩⟩⟩⟩⟩⟩⟩)
theorem noExt : ∀ j, (C j).ext = none := by
  have hC : C = find I4 CL := by delta C; with_reducible rfl
  exact fun j => noExt_of (C := C) _ _ hC (by kernel_rfl) (by kernel_rfl) j
end Go.Proofs.YtoafnbpahdnchaaGreat.LMi
