/- The types and the functions that a law reaches, told for the reading (Fw). Written by a program (gen.py). -/
import Derived.Test.YtjeakogmccogmaaGreatDoorFwC
import Derived.Test.YtjeakogmccogmaaGreatDoorProg
import Derived.Lib.TrailingZeros
import Derived.Lib.ItoaNum
import Derived.Lib.Join
import Derived.Lib.Split
import Derived.Lib.ParseIntB
import Derived.Lib.IndexMore
namespace Go.Proofs.YtjeakogmccogmaaGreatDoor.LCt
open Go Go.Fw
open Go.Proofs
noncomputable def tyL : List (Nat × TI) := [(2, ⟨(.int .i64), 0, 8⟩),
  (3, ⟨(.int .i64), 0, 8⟩),
  (4, ⟨.bool, 0, 1⟩),
  (5, ⟨(.int .u8), 0, 1⟩),
  (9, ⟨.str, 0, 16⟩),
  (23, ⟨(.slc (.int .i16)), 52, 24⟩),
  (36, ⟨(.slc (.int .u8)), 5, 24⟩),
  (39, ⟨(.slc (.int .i16)), 52, 24⟩),
  (41, ⟨(.slc (.pair (.int .i16) (.pair (.int .i16) (.pair (.int .i8) .unit)))), 56, 24⟩),
  (43, ⟨(.slc (.slc (.int .i16))), 39, 24⟩),
  (52, ⟨(.int .i16), 0, 2⟩),
  (54, ⟨(.int .i8), 0, 1⟩),
  (56, ⟨(.pair (.int .i16) (.pair (.int .i16) (.pair (.int .i8) .unit))), 0, 6⟩),
  (57, ⟨(.slc .str), 9, 24⟩),
  (82, ⟨(.slc (.pair (.int .i8) (.pair (.int .i16) (.pair (.int .i16) .unit)))), 130, 24⟩),
  (84, ⟨(.pair (.int .i16) (.pair (.slc (.pair (.int .i8) (.pair (.int .i16) (.pair (.int .i16) .unit)))) .unit)), 0, 32⟩),
  (86, ⟨(.ptr (.pair (.slc (.int .u8)) (.pair (.int .i64) (.pair (.int .u64) .unit)))), 0, 8⟩),
  (89, ⟨(.ptr (.pair (.int .i16) (.pair (.slc (.pair (.int .i8) (.pair (.int .i16) (.pair (.int .i16) .unit)))) .unit))), 0, 8⟩),
  (97, ⟨.err, 0, 16⟩),
  (101, ⟨(.ptr (.pair (.ptr .unit) (.pair (.slc (.int .u8)) .unit))), 0, 8⟩),
  (103, ⟨(.pair (.ptr .unit) (.pair (.slc (.int .u8)) .unit)), 5, 32⟩),
  (130, ⟨(.pair (.int .i8) (.pair (.int .i16) (.pair (.int .i16) .unit))), 0, 6⟩),
  (132, ⟨(.int .u64), 0, 8⟩),
  (134, ⟨(.pair (.slc (.int .u8)) (.pair (.int .i64) (.pair (.int .u64) .unit))), 0, 40⟩),
  (142, ⟨.fn, 0, 8⟩),
  (146, ⟨.fn, 0, 8⟩),
  (147, ⟨(.slc (.int .i64)), 2, 24⟩),
  (150, ⟨.fn, 0, 8⟩),
  (160, ⟨.fn, 0, 8⟩)]
noncomputable def T : Nat → Option TI := findT tyL
/- laws.a2Long -/
noncomputable def I16 : Inst := { f := 16, nt := 13, params := [((.ro (.slc (.int .u8))), false), ((.ro (.slc (.int .u8))), false)], res := [(.ro .bool)], slots := [.tmp 4], code := bd Tryz.f16 }
/- spec.l00From -/
noncomputable def I48 : Inst := { f := 48, nt := 6, params := [((.ro (.slc (.int .u8))), false)], res := [(.box (.ro (.pair (.slc (.int .u8)) (.pair (.int .i64) (.pair (.int .u64) .unit)))))], slots := [.tmp 2], code := bd Tryz.f48, strict := true }
/- spec.l00Src).next -/
noncomputable def I91 : Inst := { f := 91, nt := 62, params := [((.box (.ro (.pair (.slc (.int .u8)) (.pair (.int .i64) (.pair (.int .u64) .unit))))), true)], res := [(.ro (.int .i64))], slots := [.tmp 2], code := bd Tryz.f91, strict := true, pins := [0] }
/- spec.l00Src).pick -/
noncomputable def I51 : Inst := { f := 51, nt := 20, params := [((.box (.ro (.pair (.slc (.int .u8)) (.pair (.int .i64) (.pair (.int .u64) .unit))))), true), ((.ro (.int .i64)), false)], res := [(.ro (.int .i64))], slots := [.tmp 4], code := bd Tryz.f51, strict := true, callee := fun r i => find 0 [(3001, 91), (5003, 91)] (r * 1000 + i), pins := [0] }
/- spec.l00Src).one -/
noncomputable def I88 : Inst := { f := 88, nt := 9, params := [((.box (.ro (.pair (.slc (.int .u8)) (.pair (.int .i64) (.pair (.int .u64) .unit))))), true), ((.ro (.int .i64)), false)], res := [(.ro .bool)], slots := [.tmp 4], code := bd Tryz.f88, strict := true, callee := fun r i => find 0 [(1002, 51)] (r * 1000 + i), pins := [0] }
/- spec.l02Drawn -/
noncomputable def I47 : Inst := { f := 47, nt := 84, params := [((.box (.ro (.pair (.slc (.int .u8)) (.pair (.int .i64) (.pair (.int .u64) .unit))))), true)], res := [(.pr (.ro (.int .i16)) (.pr (.row false (.pair (.int .i8) (.pair (.int .i16) (.pair (.int .i16) .unit)))) (.ro .unit)))], slots := [.cell 2 84], code := bd Tryz.f47, strict := true, callee := fun r i => find 0 [(1001, 51), (3001, 51), (6001, 51), (6004, 51), (6008, 51), (7001, 88)] (r * 1000 + i), loops := fun b => find [] [(0, [.own 0 (.box (.ro (.pair (.slc (.int .u8)) (.pair (.int .i64) (.pair (.int .u64) .unit))))), .own 2 (.box (.ro (.pair (.int .i16) (.pair (.slc (.pair (.int .i8) (.pair (.int .i16) (.pair (.int .i16) .unit)))) .unit)))), .own 3 (.box (.pr (.ro (.int .i16)) (.pr (.row false (.pair (.int .i8) (.pair (.int .i16) (.pair (.int .i16) .unit)))) (.ro .unit)))), .own 4 (.ro (.int .i64)), .own 5 (.ro (.int .i64))])] b, pins := [0], deep := fun r i => find false [(10003, true), (10004, true)] (r * 1000 + i) }
/- spec.l02Shape -/
noncomputable def I122 : Inst := { f := 122, nt := 90, params := [((.ro (.int .i64)), false), ((.ro (.int .i64)), false), ((.ro (.int .i64)), false)], res := [(.ro (.int .i64)), (.ro (.int .i64))], slots := [.tmp 6, .tmp 7], code := bd Tryz.f122 }
/- spec.l01Near -/
noncomputable def I123 : Inst := { f := 123, nt := 23, params := [((.ro (.int .i64)), false), ((.ro (.int .i64)), false)], res := [(.ro (.int .i64))], slots := [.tmp 4], code := bd Tryz.f123 }
/- spec.l02Lift -/
noncomputable def I89 : Inst := { f := 89, nt := 31, params := [((.ro (.int .i64)), false), ((.ro (.int .i64)), false), ((.ro (.int .i64)), false), ((.ro (.int .i64)), false), ((.ro (.int .i64)), false)], res := [(.ro (.int .i64))], slots := [.tmp 10], code := bd Tryz.f89, callee := fun r i => find 0 [(1003, 122), (2010, 123)] (r * 1000 + i) }
/- spec.l02Make -/
noncomputable def I49 : Inst := { f := 49, nt := 66, params := [((.ro (.ptr (.pair (.int .i16) (.pair (.slc (.pair (.int .i8) (.pair (.int .i16) (.pair (.int .i16) .unit)))) .unit)))), false)], res := [(.row false (.int .i16))], slots := [.tmp 2], code := bd Tryz.f49, callee := fun r i => find 0 [(10018, 89)] (r * 1000 + i), loops := fun b => find [] [(2, [.own 0 (.ro (.ptr (.pair (.int .i16) (.pair (.slc (.pair (.int .i8) (.pair (.int .i16) (.pair (.int .i16) .unit)))) .unit)))), .own 3 (.row false (.int .i16)), .own 4 (.ro (.int .i64)), .own 5 (.ro (.int .i64)), .own 6 (.ro (.ptr (.pair (.int .i8) (.pair (.int .i16) (.pair (.int .i16) .unit))))), .own 7 (.ro (.int .i64))]), (0, [.own 0 (.ro (.ptr (.pair (.int .i16) (.pair (.slc (.pair (.int .i8) (.pair (.int .i16) (.pair (.int .i16) .unit)))) .unit)))), .own 3 (.row false (.int .i16)), .own 4 (.ro (.int .i64)), .own 5 (.ro (.int .i64))])] b, deep := fun r i => find false [(1000, true), (10020, true), (10021, true)] (r * 1000 + i) }
/- spec.A2Cam -/
noncomputable def I17 : Inst := { f := 17, nt := 8, params := [((.ro (.slc (.int .u8))), false)], res := [(.ro (.slc (.int .i16)))], slots := [.tmp 2], code := bd Tryz.f17, strict := true, callee := fun r i => find 0 [(1001, 48), (1002, 47), (2000, 49)] (r * 1000 + i) }
/- spec.l00In -/
noncomputable def I85 : Inst := { f := 85, nt := 15, params := [((.ro (.int .i64)), false), ((.ro (.int .i64)), false), ((.ro (.int .i64)), false)], res := [(.ro .bool)], slots := [.tmp 6], code := bd Tryz.f85 }
/- spec.FlatCutter -/
noncomputable def I90 : Inst := { f := 90, nt := 15, params := [((.ro (.int .i64)), false)], res := [(.row false (.int .i16)), (.ro (.int .i64))], slots := [.tmp 2, .tmp 3], code := bd Tryz.f90, callee := fun r i => find 0 [(1001, 85)] (r * 1000 + i), deep := fun r i => find false [(2000, true), (3001, true)] (r * 1000 + i) }
/- spec.l06Drawn -/
noncomputable def I50 : Inst := { f := 50, nt := 49, params := [((.box (.ro (.pair (.slc (.int .u8)) (.pair (.int .i64) (.pair (.int .u64) .unit))))), true)], res := [(.row false (.int .i16))], slots := [.tmp 2], code := bd Tryz.f50, strict := true, callee := fun r i => find 0 [(1001, 88), (2001, 51), (2004, 90), (4001, 51), (10002, 51)] (r * 1000 + i), loops := fun b => find [] [(0, [.own 0 (.box (.ro (.pair (.slc (.int .u8)) (.pair (.int .i64) (.pair (.int .u64) .unit))))), .own 5 (.ro (.int .i64)), .own 6 (.row false (.int .i16)), .own 7 (.ro (.int .i16)), .own 8 (.ro (.int .i64))])] b, pins := [0], deep := fun r i => find false [(5003, true)] (r * 1000 + i) }
/- spec.A2Cutter -/
noncomputable def I18 : Inst := { f := 18, nt := 6, params := [((.ro (.slc (.int .u8))), false)], res := [(.ro (.slc (.int .i16)))], slots := [.tmp 2], code := bd Tryz.f18, strict := true, callee := fun r i => find 0 [(1001, 48), (1002, 50)] (r * 1000 + i) }
/- spec.A2Cuts -/
noncomputable def I19 : Inst := { f := 19, nt := 32, params := [((.ro (.slc (.int .u8))), false), ((.ro (.int .i64)), false)], res := [(.row false (.pair (.int .i16) (.pair (.int .i16) (.pair (.int .i8) .unit))))], slots := [.tmp 4], code := bd Tryz.f19, callee := fun r i => find 0 [(1001, 48), (3001, 51), (6002, 51), (7001, 51)] (r * 1000 + i), loops := fun b => find [] [(0, [.own 1 (.ro (.int .i64)), .own 5 (.box (.ro (.pair (.slc (.int .u8)) (.pair (.int .i64) (.pair (.int .u64) .unit))))), .own 6 (.row false (.pair (.int .i16) (.pair (.int .i16) (.pair (.int .i8) .unit)))), .own 7 (.ro (.int .i64))])] b, deep := fun r i => find false [(2000, true), (8002, true), (8003, true)] (r * 1000 + i) }
/- impl.Cam).steps -/
noncomputable def I79 : Inst := { f := 79, nt := 5, params := [((.ro (.slc (.int .i16))), false)], res := [(.ro (.int .i64))], slots := [.tmp 2], code := bd Tryz.f79 }
/- impl.inRange -/
noncomputable def I78 : Inst := { f := 78, nt := 15, params := [((.ro (.int .i64)), false), ((.ro (.int .i64)), false), ((.ro (.int .i64)), false)], res := [(.ro .bool)], slots := [.tmp 6], code := bd Tryz.f78 }
/- impl.isSteps -/
noncomputable def I117 : Inst := { f := 117, nt := 5, params := [((.ro (.int .i64)), false)], res := [(.ro .bool)], slots := [.tmp 2], code := bd Tryz.f117, callee := fun r i => find 0 [(1001, 78)] (r * 1000 + i) }
/- impl.isLift -/
noncomputable def I69 : Inst := { f := 69, nt := 5, params := [((.ro (.int .i64)), false)], res := [(.ro .bool)], slots := [.tmp 2], code := bd Tryz.f69, callee := fun r i => find 0 [(1001, 78)] (r * 1000 + i) }
/- impl.ValidCam$1 -/
noncomputable def I119 : Inst := { f := 119, nt := 7, params := [((.ro (.int .i16)), false)], res := [(.ro .bool)], slots := [.tmp 2], code := bd Tryz.f119, callee := fun r i => find 0 [(1002, 69)] (r * 1000 + i) }
/- impl.Cam,int16] -/
noncomputable def I149 : Inst := { f := 149, nt := 19, params := [((.ro (.slc (.int .i16))), false), ((.clo 119 (.ro .unit) (.ro .unit)), false)], res := [(.ro (.int .i64))], slots := [.tmp 4], code := bd Tryz.f149, callee := fun r i => find 0 [(4005, 119)] (r * 1000 + i), loops := fun b => find [] [(0, [.own 0 (.ro (.slc (.int .i16))), .own 1 (.clo 119 (.ro .unit) (.ro .unit)), .own 7 (.ro (.int .i64)), .own 8 (.ro (.int .i64))])] b }
/- impl.Cam,int16] -/
noncomputable def I118 : Inst := { f := 118, nt := 9, params := [((.ro (.slc (.int .i16))), false), ((.clo 119 (.ro .unit) (.ro .unit)), false)], res := [(.ro .bool)], slots := [.tmp 4], code := bd Tryz.f118, callee := fun r i => find 0 [(1002, 149)] (r * 1000 + i) }
/- impl.ValidCam -/
noncomputable def I81 : Inst := { f := 81, nt := 11, params := [((.ro (.slc (.int .i16))), false)], res := [(.ro .bool)], slots := [.tmp 2], code := bd Tryz.f81, callee := fun r i => find 0 [(1001, 79), (1002, 117), (1005, 118)] (r * 1000 + i) }
/- impl.isCount -/
noncomputable def I63 : Inst := { f := 63, nt := 6, params := [((.ro (.slc (.slc (.int .i16)))), false)], res := [(.ro .bool)], slots := [.tmp 2], code := bd Tryz.f63, callee := fun r i => find 0 [(1002, 78)] (r * 1000 + i) }
/- impl.ValidCutter -/
noncomputable def I104 : Inst := { f := 104, nt := 61, params := [((.ro (.slc (.int .i16))), false)], res := [(.ro .bool)], slots := [.tmp 2], code := bd Tryz.f104, callee := fun r i => find 0 [(7002, 69)] (r * 1000 + i), loops := fun b => find [] [(0, [.own 0 (.ro (.slc (.int .i16))), .own 3 (.ro (.int .i64)), .own 23 (.ro (.slc (.int .i16))), .own 24 (.ro (.int .i64)), .own 25 (.ro (.int .i64))])] b }
/- impl.areCutters$1 -/
noncomputable def I103 : Inst := { f := 103, nt := 6, params := [((.ro (.slc (.int .i16))), false)], res := [(.ro .bool)], slots := [.tmp 2], code := bd Tryz.f103, callee := fun r i => find 0 [(1001, 104)] (r * 1000 + i) }
/- impl.Cutter] -/
noncomputable def I136 : Inst := { f := 136, nt := 19, params := [((.ro (.slc (.slc (.int .i16)))), false), ((.clo 103 (.ro .unit) (.ro .unit)), false)], res := [(.ro (.int .i64))], slots := [.tmp 4], code := bd Tryz.f136, callee := fun r i => find 0 [(4005, 103)] (r * 1000 + i), loops := fun b => find [] [(0, [.own 0 (.ro (.slc (.slc (.int .i16)))), .own 1 (.clo 103 (.ro .unit) (.ro .unit)), .own 7 (.ro (.int .i64)), .own 8 (.ro (.int .i64))])] b }
/- impl.Cutter] -/
noncomputable def I102 : Inst := { f := 102, nt := 9, params := [((.ro (.slc (.slc (.int .i16)))), false), ((.clo 103 (.ro .unit) (.ro .unit)), false)], res := [(.ro .bool)], slots := [.tmp 4], code := bd Tryz.f102, callee := fun r i => find 0 [(1002, 136)] (r * 1000 + i) }
/- impl.areCutters -/
noncomputable def I64 : Inst := { f := 64, nt := 6, params := [((.ro (.slc (.slc (.int .i16)))), false)], res := [(.ro .bool)], slots := [.tmp 2], code := bd Tryz.f64, callee := fun r i => find 0 [(1001, 102)] (r * 1000 + i) }
/- impl.isPlace -/
noncomputable def I68 : Inst := { f := 68, nt := 9, params := [((.ro (.int .i64)), false), ((.ro (.int .i64)), false)], res := [(.ro .bool)], slots := [.tmp 4], code := bd Tryz.f68, callee := fun r i => find 0 [(1003, 78)] (r * 1000 + i) }
/- impl.areCuts$1 -/
noncomputable def I99 : Inst := { f := 99, nt := 24, params := [((.ro (.pair (.int .i16) (.pair (.int .i16) (.pair (.int .i8) .unit)))), false), ((.box (.ro (.int .i64))), true)], res := [(.ro .bool)], slots := [.tmp 3], code := bd Tryz.f99, callee := fun r i => find 0 [(1003, 78), (1009, 69), (1017, 68)] (r * 1000 + i), pins := [1] }
/- impl.Cut] -/
noncomputable def I133 : Inst := { f := 133, nt := 19, params := [((.ro (.slc (.pair (.int .i16) (.pair (.int .i16) (.pair (.int .i8) .unit))))), false), ((.clo 99 (.ro .unit) (.pr (.box (.ro (.int .i64))) (.ro .unit))), true)], res := [(.ro (.int .i64))], slots := [.tmp 4], code := bd Tryz.f133, strict := true, callee := fun r i => find 0 [(4005, 99)] (r * 1000 + i), loops := fun b => find [] [(0, [.own 0 (.ro (.slc (.pair (.int .i16) (.pair (.int .i16) (.pair (.int .i8) .unit))))), .own 1 (.clo 99 (.ro .unit) (.pr (.box (.ro (.int .i64))) (.ro .unit))), .own 7 (.ro (.int .i64)), .own 8 (.ro (.int .i64))])] b, pins := [1] }
/- impl.Cut] -/
noncomputable def I98 : Inst := { f := 98, nt := 9, params := [((.ro (.slc (.pair (.int .i16) (.pair (.int .i16) (.pair (.int .i8) .unit))))), false), ((.clo 99 (.ro .unit) (.pr (.box (.ro (.int .i64))) (.ro .unit))), true)], res := [(.ro .bool)], slots := [.tmp 4], code := bd Tryz.f98, strict := true, callee := fun r i => find 0 [(1002, 133)] (r * 1000 + i), pins := [1] }
/- impl.areCuts -/
noncomputable def I58 : Inst := { f := 58, nt := 14, params := [((.ro (.slc (.pair (.int .i16) (.pair (.int .i16) (.pair (.int .i8) .unit))))), false), ((.ro (.int .i64)), false)], res := [(.ro .bool)], slots := [.tmp 4], code := bd Tryz.f58, callee := fun r i => find 0 [(1006, 98)] (r * 1000 + i) }
/- impl.ValidCuts -/
noncomputable def I26 : Inst := { f := 26, nt := 17, params := [((.ro (.slc (.pair (.int .i16) (.pair (.int .i16) (.pair (.int .i8) .unit))))), false), ((.ro (.slc (.slc (.int .i16)))), false)], res := [(.ro .bool)], slots := [.tmp 4], code := bd Tryz.f26, callee := fun r i => find 0 [(1001, 63), (1004, 64), (1010, 58)] (r * 1000 + i) }
/- impl.codeIf -/
noncomputable def I67 : Inst := { f := 67, nt := 7, params := [((.ro .bool), false), ((.ro (.int .i64)), false)], res := [(.ro (.int .i64))], slots := [.tmp 4], code := bd Tryz.f67 }
/- impl.areOn$1 -/
noncomputable def I124 : Inst := { f := 124, nt := 9, params := [((.ro (.pair (.int .i16) (.pair (.int .i16) (.pair (.int .i8) .unit)))), false), ((.box (.ro (.int .i64))), true)], res := [(.ro .bool)], slots := [.tmp 3], code := bd Tryz.f124, pins := [1] }
/- impl.Cut] -/
noncomputable def I1133 : Inst := { f := 133, nt := 19, params := [((.ro (.slc (.pair (.int .i16) (.pair (.int .i16) (.pair (.int .i8) .unit))))), false), ((.clo 124 (.ro .unit) (.pr (.box (.ro (.int .i64))) (.ro .unit))), true)], res := [(.ro (.int .i64))], slots := [.tmp 4], code := bd Tryz.f133, strict := true, callee := fun r i => find 0 [(4005, 124)] (r * 1000 + i), loops := fun b => find [] [(0, [.own 0 (.ro (.slc (.pair (.int .i16) (.pair (.int .i16) (.pair (.int .i8) .unit))))), .own 1 (.clo 124 (.ro .unit) (.pr (.box (.ro (.int .i64))) (.ro .unit))), .own 7 (.ro (.int .i64)), .own 8 (.ro (.int .i64))])] b, pins := [1] }
/- impl.Cut] -/
noncomputable def I1098 : Inst := { f := 98, nt := 9, params := [((.ro (.slc (.pair (.int .i16) (.pair (.int .i16) (.pair (.int .i8) .unit))))), false), ((.clo 124 (.ro .unit) (.pr (.box (.ro (.int .i64))) (.ro .unit))), true)], res := [(.ro .bool)], slots := [.tmp 4], code := bd Tryz.f98, strict := true, callee := fun r i => find 0 [(1002, 1133)] (r * 1000 + i), pins := [1] }
/- impl.areOn -/
noncomputable def I92 : Inst := { f := 92, nt := 9, params := [((.ro (.slc (.pair (.int .i16) (.pair (.int .i16) (.pair (.int .i8) .unit))))), false), ((.ro (.int .i64)), false)], res := [(.ro .bool)], slots := [.tmp 4], code := bd Tryz.f92, callee := fun r i => find 0 [(1002, 1098)] (r * 1000 + i) }
/- impl.firstCode -/
noncomputable def I65 : Inst := { f := 65, nt := 15, params := [((.ro (.slc (.int .i64))), false)], res := [(.ro (.int .i64))], slots := [.tmp 2], code := bd Tryz.f65, loops := fun b => find [] [(0, [.own 5 (.ro (.slc (.int .i64))), .own 6 (.ro (.int .i64)), .own 7 (.ro (.int .i64))])] b }
/- impl.cutsCode -/
noncomputable def I52 : Inst := { f := 52, nt := 25, params := [((.ro (.slc (.int .i16))), false), ((.ro (.slc (.slc (.int .i16)))), false), ((.ro (.slc (.pair (.int .i16) (.pair (.int .i16) (.pair (.int .i8) .unit))))), false)], res := [(.ro (.int .i64))], slots := [.tmp 6], code := bd Tryz.f52, callee := fun r i => find 0 [(1001, 81), (1006, 26), (1009, 67), (1012, 79), (1013, 92), (1015, 67), (1017, 65)] (r * 1000 + i), deep := fun r i => find false [(1016, true)] (r * 1000 + i), frz := fun r i => find false [(1016, true)] (r * 1000 + i) }
/- impl.Cam,int16] -/
noncomputable def I53 : Inst := { f := 53, nt := 8, params := [((.ro (.slc (.int .i16))), false)], res := [(.row false (.int .i16))], slots := [.tmp 2], code := bd Tryz.f53 }
/- impl.floorDiv -/
noncomputable def I137 : Inst := { f := 137, nt := 16, params := [((.ro (.int .i64)), false), ((.ro (.int .i64)), false)], res := [(.ro (.int .i64))], slots := [.tmp 4], code := bd Tryz.f137 }
/- impl.mod -/
noncomputable def I107 : Inst := { f := 107, nt := 12, params := [((.ro (.int .i64)), false), ((.ro (.int .i64)), false)], res := [(.ro (.int .i64))], slots := [.tmp 4], code := bd Tryz.f107, callee := fun r i => find 0 [(1004, 137)] (r * 1000 + i) }
/- impl.Cam).cut$1 -/
noncomputable def I106 : Inst := { f := 106, nt := 37, params := [((.ro (.int .i64)), false), ((.ro (.int .i64)), false), ((.pin false (.int .i16)), true), ((.box (.ro (.int .i64))), true), ((.box (.ro (.int .i64))), true)], res := [], slots := [], code := bd Tryz.f106, strict := true, callee := fun r i => find 0 [(2, 79), (3, 107)] (r * 1000 + i), pins := [2, 3, 4] }
/- impl.Cutter).each -/
noncomputable def I105 : Inst := { f := 105, nt := 29, params := [((.ro (.slc (.int .i16))), false), ((.ro (.int .i64)), false), ((.clo 106 (.ro .unit) (.pr (.pin false (.int .i16)) (.pr (.box (.ro (.int .i64))) (.pr (.box (.ro (.int .i64))) (.ro .unit))))), true)], res := [], slots := [], code := bd Tryz.f105, strict := true, callee := fun r i => find 0 [(4008, 106)] (r * 1000 + i), loops := fun b => find [] [(0, [.own 1 (.ro (.int .i64)), .own 2 (.clo 106 (.ro .unit) (.pr (.pin false (.int .i16)) (.pr (.box (.ro (.int .i64))) (.pr (.box (.ro (.int .i64))) (.ro .unit))))), .own 6 (.ro (.int .i64)), .own 12 (.ro (.slc (.int .i16))), .own 13 (.ro (.int .i64)), .own 14 (.ro (.int .i64))])] b, pins := [2] }
/- impl.Cam).cut -/
noncomputable def I70 : Inst := { f := 70, nt := 15, params := [((.row false (.int .i16)), true), ((.ro (.slc (.int .i16))), false), ((.ro (.int .i64)), false), ((.ro (.int .i64)), false)], res := [(.ro (.int .i64))], slots := [.tmp 8], code := bd Tryz.f70, callee := fun r i => find 0 [(2003, 105)] (r * 1000 + i), pins := [0], frz := fun r i => find false [(0, true)] (r * 1000 + i) }
/- impl.Cam).do -/
noncomputable def I54 : Inst := { f := 54, nt := 20, params := [((.row false (.int .i16)), true), ((.ro (.slc (.slc (.int .i16)))), false), ((.ro (.pair (.int .i16) (.pair (.int .i16) (.pair (.int .i8) .unit)))), false)], res := [(.ro (.int .i64))], slots := [.tmp 6], code := bd Tryz.f54, callee := fun r i => find 0 [(1012, 70)] (r * 1000 + i), pins := [0] }
/- impl.DoCuts -/
noncomputable def I20 : Inst := { f := 20, nt := 38, params := [((.ro (.slc (.int .i16))), false), ((.ro (.slc (.slc (.int .i16)))), false), ((.ro (.slc (.pair (.int .i16) (.pair (.int .i16) (.pair (.int .i8) .unit))))), false)], res := [(.row false (.int .i16)), (.ro (.int .i64)), (.ro (.int .i64))], slots := [.tmp 6, .tmp 7, .tmp 8], code := bd Tryz.f20, callee := fun r i => find 0 [(1003, 52), (4001, 53), (8004, 54)] (r * 1000 + i), loops := fun b => find [] [(0, [.own 1 (.ro (.slc (.slc (.int .i16)))), .own 10 (.row false (.int .i16)), .own 11 (.ro (.int .i64)), .own 23 (.ro (.slc (.pair (.int .i16) (.pair (.int .i16) (.pair (.int .i8) .unit))))), .own 24 (.ro (.int .i64)), .own 25 (.ro (.int .i64))])] b }
/- spec.l01Steps -/
noncomputable def I110 : Inst := { f := 110, nt := 5, params := [((.ro (.int .i64)), false)], res := [(.ro .bool)], slots := [.tmp 2], code := bd Tryz.f110, callee := fun r i => find 0 [(1001, 85)] (r * 1000 + i) }
/- spec.l01Lift -/
noncomputable def I108 : Inst := { f := 108, nt := 5, params := [((.ro (.int .i64)), false)], res := [(.ro .bool)], slots := [.tmp 2], code := bd Tryz.f108, callee := fun r i => find 0 [(1001, 85)] (r * 1000 + i) }
/- spec.l01Ok -/
noncomputable def I73 : Inst := { f := 73, nt := 21, params := [((.ro (.slc (.int .i16))), false)], res := [(.ro .bool)], slots := [.tmp 2], code := bd Tryz.f73, callee := fun r i => find 0 [(1002, 110), (6005, 108)] (r * 1000 + i), loops := fun b => find [] [(0, [.own 0 (.ro (.slc (.int .i16))), .own 3 (.ro (.int .i64))])] b }
/- spec.l06Some -/
noncomputable def I125 : Inst := { f := 125, nt := 6, params := [((.ro (.slc (.slc (.int .i16)))), false)], res := [(.ro .bool)], slots := [.tmp 2], code := bd Tryz.f125, callee := fun r i => find 0 [(1002, 85)] (r * 1000 + i) }
/- spec.l06Ok -/
noncomputable def I151 : Inst := { f := 151, nt := 66, params := [((.ro (.slc (.int .i16))), false)], res := [(.ro .bool)], slots := [.tmp 2], code := bd Tryz.f151, callee := fun r i => find 0 [(2001, 85), (7005, 108)] (r * 1000 + i), loops := fun b => find [] [(0, [.own 0 (.ro (.slc (.int .i16))), .own 3 (.ro (.int .i64)), .own 4 (.ro (.int .i64))])] b }
/- spec.l06Cutters -/
noncomputable def I126 : Inst := { f := 126, nt := 16, params := [((.ro (.slc (.slc (.int .i16)))), false)], res := [(.ro .bool)], slots := [.tmp 2], code := bd Tryz.f126, callee := fun r i => find 0 [(4004, 151)] (r * 1000 + i), loops := fun b => find [] [(0, [.own 0 (.ro (.slc (.slc (.int .i16)))), .own 3 (.ro (.int .i64))])] b }
/- spec.l06Plain -/
noncomputable def I127 : Inst := { f := 127, nt := 46, params := [((.ro (.slc (.pair (.int .i16) (.pair (.int .i16) (.pair (.int .i8) .unit))))), false), ((.ro (.int .i64)), false)], res := [(.ro .bool)], slots := [.tmp 4], code := bd Tryz.f127, callee := fun r i => find 0 [(7005, 85), (7013, 108), (7024, 85)] (r * 1000 + i), loops := fun b => find [] [(0, [.own 0 (.ro (.slc (.pair (.int .i16) (.pair (.int .i16) (.pair (.int .i8) .unit))))), .own 1 (.ro (.int .i64)), .own 5 (.ro (.int .i64))])] b }
/- spec.l06Cuts -/
noncomputable def I93 : Inst := { f := 93, nt := 17, params := [((.ro (.slc (.pair (.int .i16) (.pair (.int .i16) (.pair (.int .i8) .unit))))), false), ((.ro (.slc (.slc (.int .i16)))), false)], res := [(.ro .bool)], slots := [.tmp 4], code := bd Tryz.f93, callee := fun r i => find 0 [(1001, 125), (1004, 126), (1010, 127)] (r * 1000 + i) }
/- spec.l06On -/
noncomputable def I94 : Inst := { f := 94, nt := 20, params := [((.ro (.slc (.pair (.int .i16) (.pair (.int .i16) (.pair (.int .i8) .unit))))), false), ((.ro (.int .i64)), false)], res := [(.ro .bool)], slots := [.tmp 4], code := bd Tryz.f94, loops := fun b => find [] [(0, [.own 0 (.ro (.slc (.pair (.int .i16) (.pair (.int .i16) (.pair (.int .i8) .unit))))), .own 1 (.ro (.int .i64)), .own 5 (.ro (.int .i64))])] b }
/- spec.l06Given -/
noncomputable def I55 : Inst := { f := 55, nt := 21, params := [((.ro (.slc (.int .i16))), false), ((.ro (.slc (.slc (.int .i16)))), false), ((.ro (.slc (.pair (.int .i16) (.pair (.int .i16) (.pair (.int .i8) .unit))))), false)], res := [(.ro (.int .i64))], slots := [.tmp 6], code := bd Tryz.f55, callee := fun r i => find 0 [(1001, 73), (1006, 93), (3003, 94)] (r * 1000 + i) }
/- spec.l06Cut -/
noncomputable def I95 : Inst := { f := 95, nt := 73, params := [((.ro (.slc (.int .i16))), false), ((.ro (.slc (.int .i16))), false), ((.ro (.int .i64)), false), ((.ro (.int .i64)), false)], res := [(.row false (.int .i16)), (.ro (.int .i64))], slots := [.tmp 8, .tmp 9], code := bd Tryz.f95, loops := fun b => find [] [(0, [.own 1 (.ro (.slc (.int .i16))), .own 2 (.ro (.int .i64)), .own 3 (.ro (.int .i64)), .own 10 (.row false (.int .i16)), .own 11 (.ro (.int .i64)), .own 12 (.ro (.int .i64)), .own 13 (.ro (.int .i64)), .own 14 (.ro (.int .i64))])] b, deep := fun r i => find false [(1000, true), (1002, true)] (r * 1000 + i) }
/- spec.l06Do -/
noncomputable def I56 : Inst := { f := 56, nt := 53, params := [((.ro (.slc (.int .i16))), false), ((.ro (.slc (.slc (.int .i16)))), false), ((.ro (.slc (.pair (.int .i16) (.pair (.int .i16) (.pair (.int .i8) .unit))))), false)], res := [(.row false (.int .i16)), (.ro (.int .i64))], slots := [.tmp 6, .tmp 7], code := bd Tryz.f56, callee := fun r i => find 0 [(6021, 95)] (r * 1000 + i), loops := fun b => find [] [(0, [.own 1 (.ro (.slc (.slc (.int .i16)))), .own 2 (.ro (.slc (.pair (.int .i16) (.pair (.int .i16) (.pair (.int .i8) .unit))))), .own 8 (.row false (.int .i16)), .own 9 (.ro (.int .i64)), .own 10 (.ro (.int .i64))])] b }
/- spec.DoCuts -/
noncomputable def I21 : Inst := { f := 21, nt := 29, params := [((.ro (.slc (.int .i16))), false), ((.ro (.slc (.slc (.int .i16)))), false), ((.ro (.slc (.pair (.int .i16) (.pair (.int .i16) (.pair (.int .i8) .unit))))), false)], res := [(.row false (.int .i16)), (.ro (.int .i64)), (.ro (.int .i64))], slots := [.tmp 6, .tmp 7, .tmp 8], code := bd Tryz.f21, callee := fun r i => find 0 [(1003, 55), (4003, 56)] (r * 1000 + i), deep := fun r i => find false [(3000, true)] (r * 1000 + i) }
/- strconv.FormatInt: told by its contract -/
noncomputable def I101 : Inst := { f := 101, nt := 0, params := [((.ro (.int .i64)), false), ((.ro (.int .i64)), false)], res := [(.ro .str)], slots := [], code := .skip, ext := some (fun x => if x.2.1 = 10 ∧ -9223372036854775808 ≤ x.1 ∧ x.1 ≤ 9223372036854775807 then some (((⟨(Lib.itoa x.1).toArray⟩ : ByteArray), ()), ()) else none) }
/- impl.decimal -/
noncomputable def I60 : Inst := { f := 60, nt := 5, params := [((.ro (.int .i64)), false)], res := [(.ro .str)], slots := [.tmp 2], code := bd Tryz.f60, callee := fun r i => find 0 [(1001, 101)] (r * 1000 + i) }
/- (*strings.Builder).WriteString: told by its contract -/
noncomputable def I59 : Inst := { f := 59, nt := 0, params := [((.bld 103 5), true), ((.ro .str), false)], res := [(.ro (.int .i64)), (.ro .err)], slots := [], code := .skip, ext := some (fun x => if x.1.size + x.2.1.size ≤ 140737488355328 then some ((((x.2.1.size : Nat) : Int), false, ()), (x.1 ++ x.2.1, ())) else none) }
/- (*strings.Builder).String: told by its contract -/
noncomputable def I61 : Inst := { f := 61, nt := 0, params := [((.bld 103 5), false)], res := [(.ro .str)], slots := [], code := .skip, ext := some (fun x => some ((x.1, ()), ())) }
/- impl.CutsText -/
noncomputable def I23 : Inst := { f := 23, nt := 35, params := [((.ro (.slc (.pair (.int .i16) (.pair (.int .i16) (.pair (.int .i8) .unit))))), false)], res := [(.ro .str)], slots := [.tmp 2], code := bd Tryz.f23, callee := fun r i => find 0 [(1001, 58), (7003, 60), (7008, 60), (7014, 60), (7017, 59), (9000, 61)] (r * 1000 + i), loops := fun b => find [] [(0, [.own 3 (.bld 103 5), .own 9 (.ro (.slc (.pair (.int .i16) (.pair (.int .i16) (.pair (.int .i8) .unit))))), .own 10 (.ro (.int .i64)), .own 11 (.ro (.int .i64))])] b, frz := fun r i => find false [(3000, true)] (r * 1000 + i) }
/- strings.TrimSuffix: told by its contract -/
noncomputable def I33 : Inst := { f := 33, nt := 0, params := [((.ro .str), false), ((.ro .str), false)], res := [(.ro .str)], slots := [], code := .skip, ext := some (fun x => if x.1.size ≤ 4294967281 then some (((⟨(Lib.trimSuffix x.1.data.toList x.2.1.data.toList).toArray⟩ : ByteArray), ()), ()) else none) }
/- strings.Split: told by its contract -/
noncomputable def I42 : Inst := { f := 42, nt := 0, params := [((.ro .str), false), ((.ro .str), false)], res := [(.row false .str)], slots := [], code := .skip, ext := some (fun x => if x.1.size < 4294967281 ∧ 1 ≤ x.2.1.size then some ((Lib.splitB x.2.1 0 (Lib.countB x.1 x.2.1) x.1, ()), ()) else none) }
/- strconv.ParseInt: told by its contract -/
noncomputable def I57 : Inst := { f := 57, nt := 0, params := [((.ro .str), false), ((.ro (.int .i64)), false), ((.ro (.int .i64)), false)], res := [(.ro (.int .i64)), (.ro .err)], slots := [], code := .skip, ext := some (fun x => if x.1.size ≤ 281474976710656 ∧ x.2.1 = 10 ∧ x.2.2.1 = 64 then (match Lib.parseIntB 64 x.1.data.toList with | .ok v => some ((v, false, ()), ()) | .range => some ((Lib.intSat 64 x.1.data.toList, true, ()), ()) | _ => some (((0 : Int), true, ()), ())) else if x.1.size ≤ 281474976710656 ∧ x.2.1 = 10 ∧ x.2.2.1 = 8 then (match Lib.parseIntB 8 x.1.data.toList with | .ok v => some ((v, false, ()), ()) | .range => some ((Lib.intSat 8 x.1.data.toList, true, ()), ()) | _ => some (((0 : Int), true, ()), ())) else none) }
/- impl.number -/
noncomputable def I77 : Inst := { f := 77, nt := 20, params := [((.ro .str), false)], res := [(.ro (.int .i64)), (.ro .bool)], slots := [.tmp 2, .tmp 3], code := bd Tryz.f77, callee := fun r i => find 0 [(1001, 57), (2005, 60)] (r * 1000 + i) }
/- impl.short -/
noncomputable def I43 : Inst := { f := 43, nt := 17, params := [((.ro .str), false)], res := [(.ro (.int .i16))], slots := [.tmp 2], code := bd Tryz.f43, callee := fun r i => find 0 [(1001, 77)] (r * 1000 + i) }
/- impl.ReadCuts -/
noncomputable def I22 : Inst := { f := 22, nt := 65, params := [((.ro .str), false)], res := [(.row false (.pair (.int .i16) (.pair (.int .i16) (.pair (.int .i8) .unit)))), (.ro (.int .i64))], slots := [.tmp 2, .tmp 3], code := bd Tryz.f22, callee := fun r i => find 0 [(2001, 33), (2002, 42), (5001, 42), (9003, 57), (12004, 43), (12008, 43), (14001, 58), (14005, 23)] (r * 1000 + i), loops := fun b => find [] [(0, [.own 0 (.ro .str), .own 4 (.row false (.pair (.int .i16) (.pair (.int .i16) (.pair (.int .i8) .unit)))), .own 13 (.ro (.slc .str)), .own 14 (.ro (.int .i64)), .own 15 (.ro (.int .i64))])] b, deep := fun r i => find false [(1000, true), (12012, true), (12013, true)] (r * 1000 + i) }
/- spec.l01Same -/
noncomputable def I62 : Inst := { f := 62, nt := 26, params := [((.ro (.slc (.int .i16))), false), ((.ro (.slc (.int .i16))), false)], res := [(.ro .bool)], slots := [.tmp 4], code := bd Tryz.f62, loops := fun b => find [] [(0, [.own 0 (.ro (.slc (.int .i16))), .own 1 (.ro (.slc (.int .i16))), .own 5 (.ro (.int .i64))])] b }
/- spec.SameCam -/
noncomputable def I24 : Inst := { f := 24, nt := 8, params := [((.ro (.slc (.int .i16))), false), ((.ro (.slc (.int .i16))), false)], res := [(.ro .bool)], slots := [.tmp 4], code := bd Tryz.f24, callee := fun r i => find 0 [(1002, 62)] (r * 1000 + i) }
/- spec.A2SameCuts -/
noncomputable def I25 : Inst := { f := 25, nt := 26, params := [((.ro (.slc (.pair (.int .i16) (.pair (.int .i16) (.pair (.int .i8) .unit))))), false), ((.ro (.slc (.pair (.int .i16) (.pair (.int .i16) (.pair (.int .i8) .unit))))), false)], res := [(.ro .bool)], slots := [.tmp 4], code := bd Tryz.f25, loops := fun b => find [] [(0, [.own 0 (.ro (.slc (.pair (.int .i16) (.pair (.int .i16) (.pair (.int .i8) .unit))))), .own 1 (.ro (.slc (.pair (.int .i16) (.pair (.int .i16) (.pair (.int .i8) .unit))))), .own 5 (.ro (.int .i64))])] b }
/- impl.cutterCode -/
noncomputable def I66 : Inst := { f := 66, nt := 14, params := [((.ro (.slc (.int .i16))), false), ((.ro (.slc (.int .i16))), false)], res := [(.ro (.int .i64))], slots := [.tmp 4], code := bd Tryz.f66, callee := fun r i => find 0 [(1001, 81), (1005, 104), (1008, 67)] (r * 1000 + i) }
/- impl.CutAt -/
noncomputable def I27 : Inst := { f := 27, nt := 42, params := [((.ro (.slc (.int .i16))), false), ((.ro (.slc (.int .i16))), false), ((.ro (.int .i64)), false), ((.ro (.int .i64)), false)], res := [(.row false (.int .i16)), (.ro (.int .i64)), (.ro (.int .i64))], slots := [.tmp 8, .tmp 9, .tmp 10], code := bd Tryz.f27, callee := fun r i => find 0 [(1002, 66), (1006, 68), (1010, 69), (1013, 67), (1015, 65), (4001, 53), (5004, 70)] (r * 1000 + i), deep := fun r i => find false [(1014, true)] (r * 1000 + i), frz := fun r i => find false [(1014, true)] (r * 1000 + i) }
/- laws.FnCuts -/
noncomputable def I5 : Inst := { f := 5, nt := 221, params := [((.ro (.slc (.int .u8))), false), ((.ro (.slc (.int .u8))), false)], res := [(.ro .bool)], slots := [.tmp 4], code := bd Tryz.f5, callee := fun r i => find 0 [(1002, 16), (3001, 17), (4001, 18), (6002, 19), (8003, 20), (9003, 21), (10001, 23), (10002, 22), (11010, 24), (11025, 25), (11031, 26), (25014, 27), (30003, 20), (31003, 20), (32006, 24), (32015, 24), (32028, 24)] (r * 1000 + i), loops := fun b => find [] [(2, [.own 5 (.ro (.slc (.int .i16))), .own 6 (.ro (.slc (.int .i16))), .own 8 (.ro (.slc (.pair (.int .i16) (.pair (.int .i16) (.pair (.int .i8) .unit))))), .own 9 (.ro (.slc (.slc (.int .i16)))), .own 13 (.ro (.slc (.int .i16))), .own 14 (.ro (.int .i64)), .own 18 (.ro (.int .i64)), .own 20 (.ro (.slc (.int .i16))), .own 21 (.row false (.pair (.int .i16) (.pair (.int .i16) (.pair (.int .i8) .unit)))), .own 22 (.ro (.int .i64))]), (0, [.own 5 (.ro (.slc (.int .i16))), .own 6 (.ro (.slc (.int .i16))), .own 8 (.ro (.slc (.pair (.int .i16) (.pair (.int .i16) (.pair (.int .i8) .unit))))), .own 9 (.ro (.slc (.slc (.int .i16)))), .own 13 (.ro (.slc (.int .i16))), .own 14 (.ro (.int .i64)), .own 18 (.ro (.int .i64)), .own 19 (.ro (.int .i64))])] b }
noncomputable def CL : List (Nat × Inst) := [(16, I16), (48, I48), (91, I91), (51, I51), (88, I88), (47, I47), (122, I122), (123, I123), (89, I89), (49, I49), (17, I17), (85, I85), (90, I90), (50, I50), (18, I18), (19, I19), (79, I79), (78, I78), (117, I117), (69, I69), (119, I119), (149, I149), (118, I118), (81, I81), (63, I63), (104, I104), (103, I103), (136, I136), (102, I102), (64, I64), (68, I68), (99, I99), (133, I133), (98, I98), (58, I58), (26, I26), (67, I67), (124, I124), (1133, I1133), (1098, I1098), (92, I92), (65, I65), (52, I52), (53, I53), (137, I137), (107, I107), (106, I106), (105, I105), (70, I70), (54, I54), (20, I20), (110, I110), (108, I108), (73, I73), (125, I125), (151, I151), (126, I126), (127, I127), (93, I93), (94, I94), (55, I55), (95, I95), (56, I56), (21, I21), (101, I101), (60, I60), (59, I59), (61, I61), (23, I23), (33, I33), (42, I42), (57, I57), (77, I77), (43, I43), (22, I22), (62, I62), (24, I24), (25, I25), (66, I66), (27, I27), (5, I5)]
noncomputable def C : Nat → Inst := find I16 CL
theorem tsOk : TsOk Tryz.prog T := tsOkB_sound (by kernel_rfl)
theorem ok16 : InstOk Tryz.prog I16 := instOk_of Tryz.func16 (by kernel_rfl) (by kernel_rfl) (by kernel_rfl) (by kernel_rfl)
theorem ok48 : InstOk Tryz.prog I48 := instOk_of Tryz.func48 (by kernel_rfl) (by kernel_rfl) (by kernel_rfl) (by kernel_rfl)
theorem ok91 : InstOk Tryz.prog I91 := instOk_of Tryz.func91 (by kernel_rfl) (by kernel_rfl) (by kernel_rfl) (by kernel_rfl)
theorem ok51 : InstOk Tryz.prog I51 := instOk_of Tryz.func51 (by kernel_rfl) (by kernel_rfl) (by kernel_rfl) (by kernel_rfl)
theorem ok88 : InstOk Tryz.prog I88 := instOk_of Tryz.func88 (by kernel_rfl) (by kernel_rfl) (by kernel_rfl) (by kernel_rfl)
theorem ok47 : InstOk Tryz.prog I47 := instOk_of Tryz.func47 (by kernel_rfl) (by kernel_rfl) (by kernel_rfl) (by kernel_rfl)
theorem ok122 : InstOk Tryz.prog I122 := instOk_of Tryz.func122 (by kernel_rfl) (by kernel_rfl) (by kernel_rfl) (by kernel_rfl)
theorem ok123 : InstOk Tryz.prog I123 := instOk_of Tryz.func123 (by kernel_rfl) (by kernel_rfl) (by kernel_rfl) (by kernel_rfl)
theorem ok89 : InstOk Tryz.prog I89 := instOk_of Tryz.func89 (by kernel_rfl) (by kernel_rfl) (by kernel_rfl) (by kernel_rfl)
theorem ok49 : InstOk Tryz.prog I49 := instOk_of Tryz.func49 (by kernel_rfl) (by kernel_rfl) (by kernel_rfl) (by kernel_rfl)
theorem ok17 : InstOk Tryz.prog I17 := instOk_of Tryz.func17 (by kernel_rfl) (by kernel_rfl) (by kernel_rfl) (by kernel_rfl)
theorem ok85 : InstOk Tryz.prog I85 := instOk_of Tryz.func85 (by kernel_rfl) (by kernel_rfl) (by kernel_rfl) (by kernel_rfl)
theorem ok90 : InstOk Tryz.prog I90 := instOk_of Tryz.func90 (by kernel_rfl) (by kernel_rfl) (by kernel_rfl) (by kernel_rfl)
theorem ok50 : InstOk Tryz.prog I50 := instOk_of Tryz.func50 (by kernel_rfl) (by kernel_rfl) (by kernel_rfl) (by kernel_rfl)
theorem ok18 : InstOk Tryz.prog I18 := instOk_of Tryz.func18 (by kernel_rfl) (by kernel_rfl) (by kernel_rfl) (by kernel_rfl)
theorem ok19 : InstOk Tryz.prog I19 := instOk_of Tryz.func19 (by kernel_rfl) (by kernel_rfl) (by kernel_rfl) (by kernel_rfl)
theorem ok79 : InstOk Tryz.prog I79 := instOk_of Tryz.func79 (by kernel_rfl) (by kernel_rfl) (by kernel_rfl) (by kernel_rfl)
theorem ok78 : InstOk Tryz.prog I78 := instOk_of Tryz.func78 (by kernel_rfl) (by kernel_rfl) (by kernel_rfl) (by kernel_rfl)
theorem ok117 : InstOk Tryz.prog I117 := instOk_of Tryz.func117 (by kernel_rfl) (by kernel_rfl) (by kernel_rfl) (by kernel_rfl)
theorem ok69 : InstOk Tryz.prog I69 := instOk_of Tryz.func69 (by kernel_rfl) (by kernel_rfl) (by kernel_rfl) (by kernel_rfl)
theorem ok119 : InstOk Tryz.prog I119 := instOk_of Tryz.func119 (by kernel_rfl) (by kernel_rfl) (by kernel_rfl) (by kernel_rfl)
theorem ok149 : InstOk Tryz.prog I149 := instOk_of Tryz.func149 (by kernel_rfl) (by kernel_rfl) (by kernel_rfl) (by kernel_rfl)
theorem ok118 : InstOk Tryz.prog I118 := instOk_of Tryz.func118 (by kernel_rfl) (by kernel_rfl) (by kernel_rfl) (by kernel_rfl)
theorem ok81 : InstOk Tryz.prog I81 := instOk_of Tryz.func81 (by kernel_rfl) (by kernel_rfl) (by kernel_rfl) (by kernel_rfl)
theorem ok63 : InstOk Tryz.prog I63 := instOk_of Tryz.func63 (by kernel_rfl) (by kernel_rfl) (by kernel_rfl) (by kernel_rfl)
theorem ok104 : InstOk Tryz.prog I104 := instOk_of Tryz.func104 (by kernel_rfl) (by kernel_rfl) (by kernel_rfl) (by kernel_rfl)
theorem ok103 : InstOk Tryz.prog I103 := instOk_of Tryz.func103 (by kernel_rfl) (by kernel_rfl) (by kernel_rfl) (by kernel_rfl)
theorem ok136 : InstOk Tryz.prog I136 := instOk_of Tryz.func136 (by kernel_rfl) (by kernel_rfl) (by kernel_rfl) (by kernel_rfl)
theorem ok102 : InstOk Tryz.prog I102 := instOk_of Tryz.func102 (by kernel_rfl) (by kernel_rfl) (by kernel_rfl) (by kernel_rfl)
theorem ok64 : InstOk Tryz.prog I64 := instOk_of Tryz.func64 (by kernel_rfl) (by kernel_rfl) (by kernel_rfl) (by kernel_rfl)
theorem ok68 : InstOk Tryz.prog I68 := instOk_of Tryz.func68 (by kernel_rfl) (by kernel_rfl) (by kernel_rfl) (by kernel_rfl)
theorem ok99 : InstOk Tryz.prog I99 := instOk_of Tryz.func99 (by kernel_rfl) (by kernel_rfl) (by kernel_rfl) (by kernel_rfl)
theorem ok133 : InstOk Tryz.prog I133 := instOk_of Tryz.func133 (by kernel_rfl) (by kernel_rfl) (by kernel_rfl) (by kernel_rfl)
theorem ok98 : InstOk Tryz.prog I98 := instOk_of Tryz.func98 (by kernel_rfl) (by kernel_rfl) (by kernel_rfl) (by kernel_rfl)
theorem ok58 : InstOk Tryz.prog I58 := instOk_of Tryz.func58 (by kernel_rfl) (by kernel_rfl) (by kernel_rfl) (by kernel_rfl)
theorem ok26 : InstOk Tryz.prog I26 := instOk_of Tryz.func26 (by kernel_rfl) (by kernel_rfl) (by kernel_rfl) (by kernel_rfl)
theorem ok67 : InstOk Tryz.prog I67 := instOk_of Tryz.func67 (by kernel_rfl) (by kernel_rfl) (by kernel_rfl) (by kernel_rfl)
theorem ok124 : InstOk Tryz.prog I124 := instOk_of Tryz.func124 (by kernel_rfl) (by kernel_rfl) (by kernel_rfl) (by kernel_rfl)
theorem ok1133 : InstOk Tryz.prog I1133 := instOk_of Tryz.func133 (by kernel_rfl) (by kernel_rfl) (by kernel_rfl) (by kernel_rfl)
theorem ok1098 : InstOk Tryz.prog I1098 := instOk_of Tryz.func98 (by kernel_rfl) (by kernel_rfl) (by kernel_rfl) (by kernel_rfl)
theorem ok92 : InstOk Tryz.prog I92 := instOk_of Tryz.func92 (by kernel_rfl) (by kernel_rfl) (by kernel_rfl) (by kernel_rfl)
theorem ok65 : InstOk Tryz.prog I65 := instOk_of Tryz.func65 (by kernel_rfl) (by kernel_rfl) (by kernel_rfl) (by kernel_rfl)
theorem ok52 : InstOk Tryz.prog I52 := instOk_of Tryz.func52 (by kernel_rfl) (by kernel_rfl) (by kernel_rfl) (by kernel_rfl)
theorem ok53 : InstOk Tryz.prog I53 := instOk_of Tryz.func53 (by kernel_rfl) (by kernel_rfl) (by kernel_rfl) (by kernel_rfl)
theorem ok137 : InstOk Tryz.prog I137 := instOk_of Tryz.func137 (by kernel_rfl) (by kernel_rfl) (by kernel_rfl) (by kernel_rfl)
theorem ok107 : InstOk Tryz.prog I107 := instOk_of Tryz.func107 (by kernel_rfl) (by kernel_rfl) (by kernel_rfl) (by kernel_rfl)
theorem ok106 : InstOk Tryz.prog I106 := instOk_of Tryz.func106 (by kernel_rfl) (by kernel_rfl) (by kernel_rfl) (by kernel_rfl)
theorem ok105 : InstOk Tryz.prog I105 := instOk_of Tryz.func105 (by kernel_rfl) (by kernel_rfl) (by kernel_rfl) (by kernel_rfl)
theorem ok70 : InstOk Tryz.prog I70 := instOk_of Tryz.func70 (by kernel_rfl) (by kernel_rfl) (by kernel_rfl) (by kernel_rfl)
theorem ok54 : InstOk Tryz.prog I54 := instOk_of Tryz.func54 (by kernel_rfl) (by kernel_rfl) (by kernel_rfl) (by kernel_rfl)
theorem ok20 : InstOk Tryz.prog I20 := instOk_of Tryz.func20 (by kernel_rfl) (by kernel_rfl) (by kernel_rfl) (by kernel_rfl)
theorem ok110 : InstOk Tryz.prog I110 := instOk_of Tryz.func110 (by kernel_rfl) (by kernel_rfl) (by kernel_rfl) (by kernel_rfl)
theorem ok108 : InstOk Tryz.prog I108 := instOk_of Tryz.func108 (by kernel_rfl) (by kernel_rfl) (by kernel_rfl) (by kernel_rfl)
theorem ok73 : InstOk Tryz.prog I73 := instOk_of Tryz.func73 (by kernel_rfl) (by kernel_rfl) (by kernel_rfl) (by kernel_rfl)
theorem ok125 : InstOk Tryz.prog I125 := instOk_of Tryz.func125 (by kernel_rfl) (by kernel_rfl) (by kernel_rfl) (by kernel_rfl)
theorem ok151 : InstOk Tryz.prog I151 := instOk_of Tryz.func151 (by kernel_rfl) (by kernel_rfl) (by kernel_rfl) (by kernel_rfl)
theorem ok126 : InstOk Tryz.prog I126 := instOk_of Tryz.func126 (by kernel_rfl) (by kernel_rfl) (by kernel_rfl) (by kernel_rfl)
theorem ok127 : InstOk Tryz.prog I127 := instOk_of Tryz.func127 (by kernel_rfl) (by kernel_rfl) (by kernel_rfl) (by kernel_rfl)
theorem ok93 : InstOk Tryz.prog I93 := instOk_of Tryz.func93 (by kernel_rfl) (by kernel_rfl) (by kernel_rfl) (by kernel_rfl)
theorem ok94 : InstOk Tryz.prog I94 := instOk_of Tryz.func94 (by kernel_rfl) (by kernel_rfl) (by kernel_rfl) (by kernel_rfl)
theorem ok55 : InstOk Tryz.prog I55 := instOk_of Tryz.func55 (by kernel_rfl) (by kernel_rfl) (by kernel_rfl) (by kernel_rfl)
theorem ok95 : InstOk Tryz.prog I95 := instOk_of Tryz.func95 (by kernel_rfl) (by kernel_rfl) (by kernel_rfl) (by kernel_rfl)
theorem ok56 : InstOk Tryz.prog I56 := instOk_of Tryz.func56 (by kernel_rfl) (by kernel_rfl) (by kernel_rfl) (by kernel_rfl)
theorem ok21 : InstOk Tryz.prog I21 := instOk_of Tryz.func21 (by kernel_rfl) (by kernel_rfl) (by kernel_rfl) (by kernel_rfl)
theorem ok101 : InstOk Tryz.prog I101 := instOk_ext rfl
theorem ok60 : InstOk Tryz.prog I60 := instOk_of Tryz.func60 (by kernel_rfl) (by kernel_rfl) (by kernel_rfl) (by kernel_rfl)
theorem ok59 : InstOk Tryz.prog I59 := instOk_ext rfl
theorem ok61 : InstOk Tryz.prog I61 := instOk_ext rfl
theorem ok23 : InstOk Tryz.prog I23 := instOk_of Tryz.func23 (by kernel_rfl) (by kernel_rfl) (by kernel_rfl) (by kernel_rfl)
theorem ok33 : InstOk Tryz.prog I33 := instOk_ext rfl
theorem ok42 : InstOk Tryz.prog I42 := instOk_ext rfl
theorem ok57 : InstOk Tryz.prog I57 := instOk_ext rfl
theorem ok77 : InstOk Tryz.prog I77 := instOk_of Tryz.func77 (by kernel_rfl) (by kernel_rfl) (by kernel_rfl) (by kernel_rfl)
theorem ok43 : InstOk Tryz.prog I43 := instOk_of Tryz.func43 (by kernel_rfl) (by kernel_rfl) (by kernel_rfl) (by kernel_rfl)
theorem ok22 : InstOk Tryz.prog I22 := instOk_of Tryz.func22 (by kernel_rfl) (by kernel_rfl) (by kernel_rfl) (by kernel_rfl)
theorem ok62 : InstOk Tryz.prog I62 := instOk_of Tryz.func62 (by kernel_rfl) (by kernel_rfl) (by kernel_rfl) (by kernel_rfl)
theorem ok24 : InstOk Tryz.prog I24 := instOk_of Tryz.func24 (by kernel_rfl) (by kernel_rfl) (by kernel_rfl) (by kernel_rfl)
theorem ok25 : InstOk Tryz.prog I25 := instOk_of Tryz.func25 (by kernel_rfl) (by kernel_rfl) (by kernel_rfl) (by kernel_rfl)
theorem ok66 : InstOk Tryz.prog I66 := instOk_of Tryz.func66 (by kernel_rfl) (by kernel_rfl) (by kernel_rfl) (by kernel_rfl)
theorem ok27 : InstOk Tryz.prog I27 := instOk_of Tryz.func27 (by kernel_rfl) (by kernel_rfl) (by kernel_rfl) (by kernel_rfl)
theorem ok5 : InstOk Tryz.prog I5 := instOk_of Tryz.func5 (by kernel_rfl) (by kernel_rfl) (by kernel_rfl) (by kernel_rfl)
theorem insts : ∀ j, InstOk Tryz.prog (C j) := find_all ok16 (List.forall_mem_cons.2 ⟨ok16, List.forall_mem_cons.2 ⟨ok48, List.forall_mem_cons.2 ⟨ok91, List.forall_mem_cons.2 ⟨ok51, List.forall_mem_cons.2 ⟨ok88, List.forall_mem_cons.2 ⟨ok47, List.forall_mem_cons.2 ⟨ok122, List.forall_mem_cons.2 ⟨ok123, List.forall_mem_cons.2 ⟨ok89, List.forall_mem_cons.2 ⟨ok49, List.forall_mem_cons.2 ⟨ok17, List.forall_mem_cons.2 ⟨ok85, List.forall_mem_cons.2 ⟨ok90, List.forall_mem_cons.2 ⟨ok50, List.forall_mem_cons.2 ⟨ok18, List.forall_mem_cons.2 ⟨ok19, List.forall_mem_cons.2 ⟨ok79, List.forall_mem_cons.2 ⟨ok78, List.forall_mem_cons.2 ⟨ok117, List.forall_mem_cons.2 ⟨ok69, List.forall_mem_cons.2 ⟨ok119, List.forall_mem_cons.2 ⟨ok149, List.forall_mem_cons.2 ⟨ok118, List.forall_mem_cons.2 ⟨ok81, List.forall_mem_cons.2 ⟨ok63, List.forall_mem_cons.2 ⟨ok104, List.forall_mem_cons.2 ⟨ok103, List.forall_mem_cons.2 ⟨ok136, List.forall_mem_cons.2 ⟨ok102, List.forall_mem_cons.2 ⟨ok64, List.forall_mem_cons.2 ⟨ok68, List.forall_mem_cons.2 ⟨ok99, List.forall_mem_cons.2 ⟨ok133, List.forall_mem_cons.2 ⟨ok98, List.forall_mem_cons.2 ⟨ok58, List.forall_mem_cons.2 ⟨ok26, List.forall_mem_cons.2 ⟨ok67, List.forall_mem_cons.2 ⟨ok124, List.forall_mem_cons.2 ⟨ok1133, List.forall_mem_cons.2 ⟨ok1098, List.forall_mem_cons.2 ⟨ok92, List.forall_mem_cons.2 ⟨ok65, List.forall_mem_cons.2 ⟨ok52, List.forall_mem_cons.2 ⟨ok53, List.forall_mem_cons.2 ⟨ok137, List.forall_mem_cons.2 ⟨ok107, List.forall_mem_cons.2 ⟨ok106, List.forall_mem_cons.2 ⟨ok105, List.forall_mem_cons.2 ⟨ok70, List.forall_mem_cons.2 ⟨ok54, List.forall_mem_cons.2 ⟨ok20, List.forall_mem_cons.2 ⟨ok110, List.forall_mem_cons.2 ⟨ok108, List.forall_mem_cons.2 ⟨ok73, List.forall_mem_cons.2 ⟨ok125, List.forall_mem_cons.2 ⟨ok151, List.forall_mem_cons.2 ⟨ok126, List.forall_mem_cons.2 ⟨ok127, List.forall_mem_cons.2 ⟨ok93, List.forall_mem_cons.2 ⟨ok94, List.forall_mem_cons.2 ⟨ok55, List.forall_mem_cons.2 ⟨ok95, List.forall_mem_cons.2 ⟨ok56, List.forall_mem_cons.2 ⟨ok21, List.forall_mem_cons.2 ⟨ok101, List.forall_mem_cons.2 ⟨ok60, List.forall_mem_cons.2 ⟨ok59, List.forall_mem_cons.2 ⟨ok61, List.forall_mem_cons.2 ⟨ok23, List.forall_mem_cons.2 ⟨ok33, List.forall_mem_cons.2 ⟨ok42, List.forall_mem_cons.2 ⟨ok57, List.forall_mem_cons.2 ⟨ok77, List.forall_mem_cons.2 ⟨ok43, List.forall_mem_cons.2 ⟨ok22, List.forall_mem_cons.2 ⟨ok62, List.forall_mem_cons.2 ⟨ok24, List.forall_mem_cons.2 ⟨ok25, List.forall_mem_cons.2 ⟨ok66, List.forall_mem_cons.2 ⟨ok27, List.forall_mem_cons.2 ⟨ok5, fun _ h => absurd h List.not_mem_nil⟩⟩⟩⟩⟩⟩⟩⟩⟩⟩⟩⟩⟩⟩⟩⟩⟩⟩⟩⟩⟩⟩⟩⟩⟩⟩⟩⟩⟩⟩⟩⟩⟩⟩⟩⟩⟩⟩⟩⟩⟩⟩⟩⟩⟩⟩⟩⟩⟩⟩⟩⟩⟩⟩⟩⟩⟩⟩⟩⟩⟩⟩⟩⟩⟩⟩⟩⟩⟩⟩⟩⟩⟩⟩⟩⟩⟩⟩⟩⟩⟩)
theorem c101 : C 101 = I101 := by kernel_rfl
theorem c59 : C 59 = I59 := by kernel_rfl
theorem c61 : C 61 = I61 := by kernel_rfl
theorem c33 : C 33 = I33 := by kernel_rfl
theorem c42 : C 42 = I42 := by kernel_rfl
theorem c57 : C 57 = I57 := by kernel_rfl
theorem exts {L : Laid} (h101 : ExtOk Tryz.prog L I101) (h59 : ExtOk Tryz.prog L I59) (h61 : ExtOk Tryz.prog L I61) (h33 : ExtOk Tryz.prog L I33) (h42 : ExtOk Tryz.prog L I42) (h57 : ExtOk Tryz.prog L I57) : ∀ j, ExtOk Tryz.prog L (C j) := by
  have hC : C = find I16 CL := by delta C; with_reducible rfl
  refine fun j => exts_of (C := C) _ _ [101, 59, 61, 33, 42, 57] hC (by kernel_rfl) (by kernel_rfl) ?_ j
  intro e he
  change ExtOk _ _ (C e)
  simp only [List.mem_cons, List.not_mem_nil, or_false] at he
  rcases he with rfl | rfl | rfl | rfl | rfl | rfl
  · rw [c101]; exact h101
  · rw [c59]; exact h59
  · rw [c61]; exact h61
  · rw [c33]; exact h33
  · rw [c42]; exact h42
  · rw [c57]; exact h57
end Go.Proofs.YtjeakogmccogmaaGreatDoor.LCt
