/- The types and the functions that a law reaches, told for the reading (Fw). Written by a program (gen.py). -/
import Derived.Test.YtipjblnjaicbfaaGreatDoorFwC
import Derived.Test.YtipjblnjaicbfaaGreatDoorProg
import Derived.Lib.TrailingZeros
import Derived.Lib.ItoaNum
import Derived.Lib.Join
import Derived.Lib.Split
import Derived.Lib.ParseIntB
import Derived.Lib.IndexMore
import Derived.Lib.Bytealg
namespace Go.Proofs.YtipjblnjaicbfaaGreatDoor.LMq
open Go Go.Fw
open Go.Proofs
noncomputable def tyL : List (Nat × TI) := [(2, ⟨(.int .i64), 0, 8⟩),
  (3, ⟨(.int .i64), 0, 8⟩),
  (4, ⟨.bool, 0, 1⟩),
  (5, ⟨(.int .u8), 0, 1⟩),
  (9, ⟨.str, 0, 16⟩),
  (22, ⟨(.slc (.int .u8)), 5, 24⟩),
  (25, ⟨(.slc (.int .i16)), 40, 24⟩),
  (27, ⟨(.pair (.slc (.int .i16)) (.pair (.slc (.int .i16)) (.pair (.slc (.int .i16)) .unit))), 0, 72⟩),
  (29, ⟨(.int .u64), 0, 8⟩),
  (31, ⟨(.arr 64 (.int .u64)), 29, 512⟩),
  (40, ⟨(.int .i16), 0, 2⟩),
  (43, ⟨(.arr 2 (.int .i16)), 40, 4⟩),
  (45, ⟨(.slc (.pair (.arr 2 (.int .i16)) (.pair .bool .unit))), 50, 24⟩),
  (50, ⟨(.pair (.arr 2 (.int .i16)) (.pair .bool .unit)), 0, 6⟩),
  (86, ⟨(.slc (.int .i64)), 2, 24⟩),
  (100, ⟨(.ptr (.pair (.slc (.int .u8)) (.pair (.int .i64) (.pair (.int .u64) .unit)))), 0, 8⟩),
  (105, ⟨(.ptr (.pair (.slc (.int .i16)) (.pair (.slc (.int .i16)) (.pair (.slc (.int .i16)) .unit)))), 0, 8⟩),
  (111, ⟨.fn, 0, 8⟩),
  (122, ⟨(.arr 3 (.slc (.int .i16))), 25, 72⟩),
  (123, ⟨(.slc .str), 9, 24⟩),
  (132, ⟨(.ptr (.pair (.ptr .unit) (.pair (.slc (.int .u8)) .unit))), 0, 8⟩),
  (134, ⟨(.pair (.ptr .unit) (.pair (.slc (.int .u8)) .unit)), 5, 32⟩),
  (136, ⟨.err, 0, 16⟩),
  (157, ⟨.fn, 0, 8⟩),
  (187, ⟨(.pair (.slc (.int .u8)) (.pair (.int .i64) (.pair (.int .u64) .unit))), 0, 40⟩),
  (188, ⟨(.arr 2 (.slc (.int .i16))), 25, 48⟩),
  (193, ⟨(.ptr (.arr 64 (.int .u64))), 0, 8⟩),
  (195, ⟨(.int .u64), 0, 8⟩),
  (197, ⟨(.slc (.slc (.int .i16))), 25, 24⟩),
  (224, ⟨(.slc (.arr 2 (.int .i16))), 43, 24⟩)]
noncomputable def T : Nat → Option TI := findT tyL
/- laws.f6big -/
noncomputable def I6 : Inst := { f := 6, nt := 6, params := [((.ro (.slc (.int .u8))), false)], res := [(.ro .bool)], slots := [.tmp 2], code := bd Tryz.f6 }
/- spec.l00From -/
noncomputable def I63 : Inst := { f := 63, nt := 6, params := [((.ro (.slc (.int .u8))), false)], res := [(.box (.ro (.pair (.slc (.int .u8)) (.pair (.int .i64) (.pair (.int .u64) .unit)))))], slots := [.tmp 2], code := bd Tryz.f63, strict := true }
/- spec.l00Src).next -/
noncomputable def I157 : Inst := { f := 157, nt := 62, params := [((.box (.ro (.pair (.slc (.int .u8)) (.pair (.int .i64) (.pair (.int .u64) .unit))))), true)], res := [(.ro (.int .i64))], slots := [.tmp 2], code := bd Tryz.f157, strict := true, pins := [0] }
/- spec.l00Src).pick -/
noncomputable def I72 : Inst := { f := 72, nt := 20, params := [((.box (.ro (.pair (.slc (.int .u8)) (.pair (.int .i64) (.pair (.int .u64) .unit))))), true), ((.ro (.int .i64)), false)], res := [(.ro (.int .i64))], slots := [.tmp 4], code := bd Tryz.f72, strict := true, callee := fun r i => find 0 [(3001, 157), (5003, 157)] (r * 1000 + i), pins := [0] }
/- spec.l00Min -/
noncomputable def I150 : Inst := { f := 150, nt := 10, params := [((.ro (.int .i64)), false), ((.ro (.int .i64)), false)], res := [(.ro (.int .i64))], slots := [.tmp 4], code := bd Tryz.f150 }
/- spec.l00Max -/
noncomputable def I149 : Inst := { f := 149, nt := 10, params := [((.ro (.int .i64)), false), ((.ro (.int .i64)), false)], res := [(.ro (.int .i64))], slots := [.tmp 4], code := bd Tryz.f149 }
/- spec.l00Src).one -/
noncomputable def I151 : Inst := { f := 151, nt := 9, params := [((.box (.ro (.pair (.slc (.int .u8)) (.pair (.int .i64) (.pair (.int .u64) .unit))))), true), ((.ro (.int .i64)), false)], res := [(.ro .bool)], slots := [.tmp 4], code := bd Tryz.f151, strict := true, callee := fun r i => find 0 [(1002, 72)] (r * 1000 + i), pins := [0] }
/- spec.l07Drawn -/
noncomputable def I62 : Inst := { f := 62, nt := 70, params := [((.box (.ro (.pair (.slc (.int .u8)) (.pair (.int .i64) (.pair (.int .u64) .unit))))), true)], res := [(.pr (.row false (.int .i16)) (.pr (.row false (.int .i16)) (.pr (.row false (.int .i16)) (.ro .unit))))], slots := [.cell 2 27], code := bd Tryz.f62, strict := true, callee := fun r i => find 0 [(1001, 72), (3001, 72), (3004, 72), (4001, 72), (14006, 72), (14009, 150), (14010, 149), (15001, 151)] (r * 1000 + i), loops := fun b => find [] [(2, [.own 0 (.box (.ro (.pair (.slc (.int .u8)) (.pair (.int .i64) (.pair (.int .u64) .unit))))), .own 2 (.box (.ro (.pair (.slc (.int .i16)) (.pair (.slc (.int .i16)) (.pair (.slc (.int .i16)) .unit))))), .own 3 (.ro (.int .i64)), .own 4 (.box (.pr (.row false (.int .i16)) (.pr (.row false (.int .i16)) (.pr (.row false (.int .i16)) (.ro .unit))))), .own 5 (.box (.ro (.arr 2 (.int .i16)))), .own 6 (.ro (.int .i16)), .own 7 (.ro (.int .i64)), .own 8 (.ro (.int .i64))]), (0, [.own 0 (.box (.ro (.pair (.slc (.int .u8)) (.pair (.int .i64) (.pair (.int .u64) .unit))))), .own 2 (.box (.ro (.pair (.slc (.int .i16)) (.pair (.slc (.int .i16)) (.pair (.slc (.int .i16)) .unit))))), .own 3 (.ro (.int .i64)), .own 4 (.box (.pr (.row false (.int .i16)) (.pr (.row false (.int .i16)) (.pr (.row false (.int .i16)) (.ro .unit))))), .own 5 (.box (.ro (.arr 2 (.int .i16)))), .own 6 (.ro (.int .i16)), .own 7 (.ro (.int .i64))])] b, pins := [0], deep := fun r i => find false [(8004, true), (8005, true), (9004, true), (9005, true), (10003, true), (10004, true)] (r * 1000 + i) }
/- spec.P6Machine -/
noncomputable def I7 : Inst := { f := 7, nt := 6, params := [((.ro (.slc (.int .u8))), false)], res := [(.ro (.pair (.slc (.int .i16)) (.pair (.slc (.int .i16)) (.pair (.slc (.int .i16)) .unit))))], slots := [.cell 2 27], code := bd Tryz.f7, strict := true, callee := fun r i => find 0 [(1001, 63), (1002, 62)] (r * 1000 + i) }
/- impl.Cam).steps -/
noncomputable def I113 : Inst := { f := 113, nt := 5, params := [((.ro (.slc (.int .i16))), false)], res := [(.ro (.int .i64))], slots := [.tmp 2], code := bd Tryz.f113 }
/- impl.inRange -/
noncomputable def I103 : Inst := { f := 103, nt := 15, params := [((.ro (.int .i64)), false), ((.ro (.int .i64)), false), ((.ro (.int .i64)), false)], res := [(.ro .bool)], slots := [.tmp 6], code := bd Tryz.f103 }
/- impl.isSteps -/
noncomputable def I112 : Inst := { f := 112, nt := 5, params := [((.ro (.int .i64)), false)], res := [(.ro .bool)], slots := [.tmp 2], code := bd Tryz.f112, callee := fun r i => find 0 [(1001, 103)] (r * 1000 + i) }
/- impl.isLift -/
noncomputable def I102 : Inst := { f := 102, nt := 5, params := [((.ro (.int .i64)), false)], res := [(.ro .bool)], slots := [.tmp 2], code := bd Tryz.f102, callee := fun r i => find 0 [(1001, 103)] (r * 1000 + i) }
/- impl.ValidCam$1 -/
noncomputable def I115 : Inst := { f := 115, nt := 7, params := [((.ro (.int .i16)), false)], res := [(.ro .bool)], slots := [.tmp 2], code := bd Tryz.f115, callee := fun r i => find 0 [(1002, 102)] (r * 1000 + i) }
/- impl.Cam,int16] -/
noncomputable def I181 : Inst := { f := 181, nt := 19, params := [((.ro (.slc (.int .i16))), false), ((.clo 115 (.ro .unit) (.ro .unit)), false)], res := [(.ro (.int .i64))], slots := [.tmp 4], code := bd Tryz.f181, callee := fun r i => find 0 [(4005, 115)] (r * 1000 + i), loops := fun b => find [] [(0, [.own 0 (.ro (.slc (.int .i16))), .own 1 (.clo 115 (.ro .unit) (.ro .unit)), .own 7 (.ro (.int .i64)), .own 8 (.ro (.int .i64))])] b }
/- impl.Cam,int16] -/
noncomputable def I114 : Inst := { f := 114, nt := 9, params := [((.ro (.slc (.int .i16))), false), ((.clo 115 (.ro .unit) (.ro .unit)), false)], res := [(.ro .bool)], slots := [.tmp 4], code := bd Tryz.f114, callee := fun r i => find 0 [(1002, 181)] (r * 1000 + i) }
/- impl.ValidCam -/
noncomputable def I39 : Inst := { f := 39, nt := 11, params := [((.ro (.slc (.int .i16))), false)], res := [(.ro .bool)], slots := [.tmp 2], code := bd Tryz.f39, callee := fun r i => find 0 [(1001, 113), (1002, 112), (1005, 114)] (r * 1000 + i) }
/- impl.Cam,int16] -/
noncomputable def I152 : Inst := { f := 152, nt := 25, params := [((.ro (.slc (.int .i16))), false)], res := [(.ro (.int .i16))], slots := [.tmp 2], code := bd Tryz.f152, loops := fun b => find [] [(0, [.own 0 (.ro (.slc (.int .i16))), .own 3 (.ro (.int .i16)), .own 4 (.ro (.int .i64))])] b }
/- impl.ValidMachine -/
noncomputable def I64 : Inst := { f := 64, nt := 33, params := [((.ro (.pair (.slc (.int .i16)) (.pair (.slc (.int .i16)) (.pair (.slc (.int .i16)) .unit)))), false)], res := [(.ro .bool)], slots := [.tmp 2], code := bd Tryz.f64, callee := fun r i => find 0 [(4001, 39), (4013, 152), (7002, 39)] (r * 1000 + i), loops := fun b => find [] [(0, [.own 1 (.box (.ro (.pair (.slc (.int .i16)) (.pair (.slc (.int .i16)) (.pair (.slc (.int .i16)) .unit))))), .own 9 (.ro (.arr 2 (.slc (.int .i16)))), .own 10 (.ro (.int .i64))])] b }
/- impl.Machine).steps -/
noncomputable def I83 : Inst := { f := 83, nt := 6, params := [((.ro (.pair (.slc (.int .i16)) (.pair (.slc (.int .i16)) (.pair (.slc (.int .i16)) .unit)))), false)], res := [(.ro (.int .i64))], slots := [.tmp 2], code := bd Tryz.f83, callee := fun r i => find 0 [(1002, 113)] (r * 1000 + i) }
/- impl.floorDiv -/
noncomputable def I187 : Inst := { f := 187, nt := 16, params := [((.ro (.int .i64)), false), ((.ro (.int .i64)), false)], res := [(.ro (.int .i64))], slots := [.tmp 4], code := bd Tryz.f187 }
/- impl.mod -/
noncomputable def I136 : Inst := { f := 136, nt := 12, params := [((.ro (.int .i64)), false), ((.ro (.int .i64)), false)], res := [(.ro (.int .i64))], slots := [.tmp 4], code := bd Tryz.f136, callee := fun r i => find 0 [(1004, 187)] (r * 1000 + i) }
/- impl.Cam).at -/
noncomputable def I160 : Inst := { f := 160, nt := 13, params := [((.ro (.slc (.int .i16))), false), ((.ro (.int .i64)), false)], res := [(.ro (.int .i64))], slots := [.tmp 4], code := bd Tryz.f160, callee := fun r i => find 0 [(1003, 113), (1004, 136)] (r * 1000 + i) }
/- impl.Machine).stop -/
noncomputable def I84 : Inst := { f := 84, nt := 22, params := [((.ro (.pair (.slc (.int .i16)) (.pair (.slc (.int .i16)) (.pair (.slc (.int .i16)) .unit)))), false), ((.ro (.int .i64)), false)], res := [(.ro (.pair (.arr 2 (.int .i16)) (.pair .bool .unit)))], slots := [.cell 4 50], code := bd Tryz.f84, callee := fun r i => find 0 [(1003, 160), (1008, 160), (1014, 160)] (r * 1000 + i) }
/- impl.Machine).stops -/
noncomputable def I82 : Inst := { f := 82, nt := 19, params := [((.ro (.pair (.slc (.int .i16)) (.pair (.slc (.int .i16)) (.pair (.slc (.int .i16)) .unit)))), false)], res := [(.ro (.slc (.pair (.arr 2 (.int .i16)) (.pair .bool .unit))))], slots := [.tmp 2], code := bd Tryz.f82, strict := true, callee := fun r i => find 0 [(2001, 83), (5003, 84)] (r * 1000 + i), loops := fun b => find [] [(0, [.own 1 (.box (.ro (.pair (.slc (.int .i16)) (.pair (.slc (.int .i16)) (.pair (.slc (.int .i16)) .unit))))), .own 3 (.row false (.pair (.arr 2 (.int .i16)) (.pair .bool .unit))), .own 7 (.ro (.int .i64)), .own 8 (.ro (.int .i64))])] b }
/- impl.Plate).ink -/
noncomputable def I153 : Inst := { f := 153, nt := 16, params := [((.box (.ro (.arr 64 (.int .u64)))), true), ((.ro (.arr 2 (.int .i16))), false)], res := [], slots := [], code := bd Tryz.f153, pins := [0] }
/- impl.abs -/
noncomputable def I134 : Inst := { f := 134, nt := 7, params := [((.ro (.int .i64)), false)], res := [(.ro (.int .i64))], slots := [.tmp 2], code := bd Tryz.f134 }
/- impl.between -/
noncomputable def I220 : Inst := { f := 220, nt := 22, params := [((.ro (.arr 2 (.int .i16))), false), ((.ro (.arr 2 (.int .i16))), false)], res := [(.ro (.int .i64))], slots := [.tmp 4], code := bd Tryz.f220, callee := fun r i => find 0 [(1007, 134), (1015, 134)] (r * 1000 + i) }
/- impl.nearest -/
noncomputable def I183 : Inst := { f := 183, nt := 12, params := [((.ro (.int .i64)), false), ((.ro (.int .i64)), false)], res := [(.ro (.int .i64))], slots := [.tmp 4], code := bd Tryz.f183, callee := fun r i => find 0 [(1006, 187)] (r * 1000 + i) }
/- impl.lineOf -/
noncomputable def I196 : Inst := { f := 196, nt := 57, params := [((.ro (.arr 2 (.int .i16))), false), ((.ro (.arr 2 (.int .i16))), false)], res := [(.row false (.arr 2 (.int .i16)))], slots := [.tmp 4], code := bd Tryz.f196, callee := fun r i => find 0 [(1004, 220), (10009, 183)] (r * 1000 + i), loops := fun b => find [] [(2, [.own 2 (.box (.ro (.arr 2 (.int .i16)))), .own 3 (.box (.ro (.arr 2 (.int .i16)))), .own 5 (.row false (.arr 2 (.int .i16))), .own 6 (.ro (.int .i64)), .own 7 (.ro (.int .i64)), .own 8 (.box (.ro (.arr 2 (.int .i16)))), .own 23 (.ro (.int .i64))]), (0, [.own 2 (.box (.ro (.arr 2 (.int .i16)))), .own 3 (.box (.ro (.arr 2 (.int .i16)))), .own 5 (.row false (.arr 2 (.int .i16))), .own 6 (.ro (.int .i64)), .own 7 (.ro (.int .i64))])] b, deep := fun r i => find false [(1001, true), (12002, true), (12003, true)] (r * 1000 + i) }
/- impl.Plate).line -/
noncomputable def I154 : Inst := { f := 154, nt := 20, params := [((.box (.ro (.arr 64 (.int .u64)))), true), ((.ro (.arr 2 (.int .i16))), false), ((.ro (.arr 2 (.int .i16))), false)], res := [], slots := [], code := bd Tryz.f154, callee := fun r i => find 0 [(1002, 196), (4002, 153)] (r * 1000 + i), loops := fun b => find [] [(0, [.own 0 (.box (.ro (.arr 64 (.int .u64)))), .own 10 (.ro (.slc (.arr 2 (.int .i16)))), .own 11 (.ro (.int .i64)), .own 12 (.ro (.int .i64))])] b, pins := [0] }
/- impl.Machine).draw -/
noncomputable def I65 : Inst := { f := 65, nt := 41, params := [((.ro (.pair (.slc (.int .i16)) (.pair (.slc (.int .i16)) (.pair (.slc (.int .i16)) .unit)))), false)], res := [(.ro (.arr 64 (.int .u64)))], slots := [.cell 2 31], code := bd Tryz.f65, callee := fun r i => find 0 [(1002, 82), (6002, 153), (9004, 154)] (r * 1000 + i), loops := fun b => find [] [(0, [.own 2 (.box (.ro (.arr 64 (.int .u64)))), .own 3 (.box (.ro (.arr 64 (.int .u64)))), .own 4 (.ro (.slc (.pair (.arr 2 (.int .i16)) (.pair .bool .unit)))), .own 11 (.ro (.slc (.pair (.arr 2 (.int .i16)) (.pair .bool .unit)))), .own 12 (.ro (.int .i64)), .own 13 (.ro (.int .i64))])] b }
/- impl.DrawMachine -/
noncomputable def I8 : Inst := { f := 8, nt := 10, params := [((.ro (.pair (.slc (.int .i16)) (.pair (.slc (.int .i16)) (.pair (.slc (.int .i16)) .unit)))), false)], res := [(.ro (.arr 64 (.int .u64))), (.ro (.int .i64))], slots := [.cell 2 31, .tmp 3], code := bd Tryz.f8, callee := fun r i => find 0 [(1001, 64), (3001, 65)] (r * 1000 + i) }
/- spec.l00In -/
noncomputable def I116 : Inst := { f := 116, nt := 15, params := [((.ro (.int .i64)), false), ((.ro (.int .i64)), false), ((.ro (.int .i64)), false)], res := [(.ro .bool)], slots := [.tmp 6], code := bd Tryz.f116 }
/- spec.l01Steps -/
noncomputable def I174 : Inst := { f := 174, nt := 5, params := [((.ro (.int .i64)), false)], res := [(.ro .bool)], slots := [.tmp 2], code := bd Tryz.f174, callee := fun r i => find 0 [(1001, 116)] (r * 1000 + i) }
/- spec.l01Lift -/
noncomputable def I172 : Inst := { f := 172, nt := 5, params := [((.ro (.int .i64)), false)], res := [(.ro .bool)], slots := [.tmp 2], code := bd Tryz.f172, callee := fun r i => find 0 [(1001, 116)] (r * 1000 + i) }
/- spec.l01Ok -/
noncomputable def I121 : Inst := { f := 121, nt := 21, params := [((.ro (.slc (.int .i16))), false)], res := [(.ro .bool)], slots := [.tmp 2], code := bd Tryz.f121, callee := fun r i => find 0 [(1002, 174), (6005, 172)] (r * 1000 + i), loops := fun b => find [] [(0, [.own 0 (.ro (.slc (.int .i16))), .own 3 (.ro (.int .i64))])] b }
/- spec.l01Range -/
noncomputable def I197 : Inst := { f := 197, nt := 34, params := [((.ro (.slc (.int .i16))), false)], res := [(.ro (.int .i64)), (.ro (.int .i64))], slots := [.tmp 2, .tmp 3], code := bd Tryz.f197, callee := fun r i => find 0 [(6006, 150), (7006, 149)] (r * 1000 + i), loops := fun b => find [] [(0, [.own 0 (.ro (.slc (.int .i16))), .own 4 (.ro (.int .i64)), .own 5 (.ro (.int .i64)), .own 6 (.ro (.int .i64))])] b }
/- spec.l07Moves -/
noncomputable def I155 : Inst := { f := 155, nt := 15, params := [((.ro (.slc (.int .i16))), false)], res := [(.ro .bool)], slots := [.tmp 2], code := bd Tryz.f155, callee := fun r i => find 0 [(1001, 121), (3001, 197)] (r * 1000 + i) }
/- spec.l07Ok -/
noncomputable def I66 : Inst := { f := 66, nt := 48, params := [((.ro (.ptr (.pair (.slc (.int .i16)) (.pair (.slc (.int .i16)) (.pair (.slc (.int .i16)) .unit))))), false)], res := [(.ro .bool)], slots := [.tmp 2], code := bd Tryz.f66, callee := fun r i => find 0 [(1004, 155), (1010, 155), (1017, 121)] (r * 1000 + i) }
/- spec.l07Stops -/
noncomputable def I81 : Inst := { f := 81, nt := 43, params := [((.ro (.ptr (.pair (.slc (.int .i16)) (.pair (.slc (.int .i16)) (.pair (.slc (.int .i16)) .unit))))), false)], res := [(.row false (.pair (.arr 2 (.int .i16)) (.pair .bool .unit)))], slots := [.tmp 2], code := bd Tryz.f81, loops := fun b => find [] [(0, [.own 0 (.ro (.ptr (.pair (.slc (.int .i16)) (.pair (.slc (.int .i16)) (.pair (.slc (.int .i16)) .unit))))), .own 3 (.row false (.pair (.arr 2 (.int .i16)) (.pair .bool .unit))), .own 4 (.ro (.int .i64))])] b, deep := fun r i => find false [(1000, true), (5025, true), (5026, true)] (r * 1000 + i) }
/- spec.l01Size -/
noncomputable def I142 : Inst := { f := 142, nt := 8, params := [((.ro (.int .i64)), false)], res := [(.ro (.int .i64))], slots := [.tmp 2], code := bd Tryz.f142 }
/- spec.l07Far -/
noncomputable def I221 : Inst := { f := 221, nt := 22, params := [((.ro (.arr 2 (.int .i16))), false), ((.ro (.arr 2 (.int .i16))), false)], res := [(.ro (.int .i64))], slots := [.tmp 4], code := bd Tryz.f221, callee := fun r i => find 0 [(1007, 142), (1015, 142), (1016, 149)] (r * 1000 + i) }
/- spec.l01Near -/
noncomputable def I212 : Inst := { f := 212, nt := 23, params := [((.ro (.int .i64)), false), ((.ro (.int .i64)), false)], res := [(.ro (.int .i64))], slots := [.tmp 4], code := bd Tryz.f212 }
/- spec.l07Line -/
noncomputable def I198 : Inst := { f := 198, nt := 54, params := [((.ro (.arr 2 (.int .i16))), false), ((.ro (.arr 2 (.int .i16))), false)], res := [(.row false (.arr 2 (.int .i16)))], slots := [.tmp 4], code := bd Tryz.f198, callee := fun r i => find 0 [(1002, 221), (12017, 212)] (r * 1000 + i), loops := fun b => find [] [(2, [.own 2 (.box (.ro (.arr 2 (.int .i16)))), .own 3 (.box (.ro (.arr 2 (.int .i16)))), .own 5 (.ro (.int .i64)), .own 6 (.row false (.arr 2 (.int .i16))), .own 7 (.ro (.int .i64)), .own 8 (.box (.ro (.arr 2 (.int .i16)))), .own 9 (.ro (.int .i64))]), (0, [.own 2 (.box (.ro (.arr 2 (.int .i16)))), .own 3 (.box (.ro (.arr 2 (.int .i16)))), .own 5 (.ro (.int .i64)), .own 6 (.row false (.arr 2 (.int .i16))), .own 7 (.ro (.int .i64))])] b, deep := fun r i => find false [(3001, true), (4000, true), (13002, true), (13003, true)] (r * 1000 + i) }
/- spec.l07Ink -/
noncomputable def I156 : Inst := { f := 156, nt := 36, params := [((.box (.ro (.arr 64 (.int .u64)))), true), ((.ro (.arr 2 (.int .i16))), false), ((.ro (.arr 2 (.int .i16))), false)], res := [], slots := [], code := bd Tryz.f156, callee := fun r i => find 0 [(1002, 198)] (r * 1000 + i), loops := fun b => find [] [(0, [.own 0 (.box (.ro (.arr 64 (.int .u64)))), .own 6 (.ro (.slc (.arr 2 (.int .i16)))), .own 7 (.ro (.int .i64))])] b, pins := [0] }
/- spec.l07Draw -/
noncomputable def I67 : Inst := { f := 67, nt := 52, params := [((.ro (.ptr (.pair (.slc (.int .i16)) (.pair (.slc (.int .i16)) (.pair (.slc (.int .i16)) .unit))))), false)], res := [(.ro (.arr 64 (.int .u64)))], slots := [.cell 2 31], code := bd Tryz.f67, callee := fun r i => find 0 [(1001, 81), (8010, 156), (10007, 156)] (r * 1000 + i), loops := fun b => find [] [(0, [.own 2 (.box (.ro (.arr 64 (.int .u64)))), .own 3 (.ro (.slc (.pair (.arr 2 (.int .i16)) (.pair .bool .unit)))), .own 4 (.box (.ro (.arr 64 (.int .u64)))), .own 5 (.ro (.int .i64))])] b }
/- spec.DrawMachine -/
noncomputable def I9 : Inst := { f := 9, nt := 8, params := [((.ro (.pair (.slc (.int .i16)) (.pair (.slc (.int .i16)) (.pair (.slc (.int .i16)) .unit)))), false)], res := [(.ro (.arr 64 (.int .u64))), (.ro (.int .i64))], slots := [.cell 2 31, .tmp 3], code := bd Tryz.f9, callee := fun r i => find 0 [(1000, 66), (3000, 67)] (r * 1000 + i) }
/- spec.P6Pick -/
noncomputable def I11 : Inst := { f := 11, nt := 9, params := [((.ro (.slc (.int .u8))), false), ((.ro (.int .i64)), false)], res := [(.ro (.int .i64))], slots := [.tmp 4], code := bd Tryz.f11, callee := fun r i => find 0 [(1001, 63), (1003, 72)] (r * 1000 + i) }
/- impl.codeIf -/
noncomputable def I69 : Inst := { f := 69, nt := 7, params := [((.ro .bool), false), ((.ro (.int .i64)), false)], res := [(.ro (.int .i64))], slots := [.tmp 4], code := bd Tryz.f69 }
/- impl.isShift -/
noncomputable def I70 : Inst := { f := 70, nt := 5, params := [((.ro (.int .i64)), false)], res := [(.ro .bool)], slots := [.tmp 2], code := bd Tryz.f70, callee := fun r i => find 0 [(1001, 103)] (r * 1000 + i) }
/- impl.firstCode -/
noncomputable def I68 : Inst := { f := 68, nt := 15, params := [((.ro (.slc (.int .i64))), false)], res := [(.ro (.int .i64))], slots := [.tmp 2], code := bd Tryz.f68, loops := fun b => find [] [(0, [.own 5 (.ro (.slc (.int .i64))), .own 6 (.ro (.int .i64)), .own 7 (.ro (.int .i64))])] b }
/- impl.Cam,int16] -/
noncomputable def I162 : Inst := { f := 162, nt := 27, params := [((.nl), false), ((.ro (.int .i64)), false)], res := [(.row false (.int .i16))], slots := [.tmp 4], code := bd Tryz.f162, deep := fun r i => find false [(5003, true), (5008, true)] (r * 1000 + i) }
/- impl.Cam,int16] -/
noncomputable def I79 : Inst := { f := 79, nt := 36, params := [((.ro (.slc (.slc (.int .i16)))), false)], res := [(.row false (.int .i16))], slots := [.tmp 2], code := bd Tryz.f79, callee := fun r i => find 0 [(9001, 162)] (r * 1000 + i), loops := fun b => find [] [(2, [.own 6 (.row false (.int .i16)), .own 25 (.ro (.slc (.slc (.int .i16)))), .own 26 (.ro (.int .i64)), .own 27 (.ro (.int .i64))]), (0, [.own 0 (.ro (.slc (.slc (.int .i16)))), .own 3 (.ro (.int .i64)), .own 9 (.ro (.slc (.slc (.int .i16)))), .own 10 (.ro (.int .i64)), .own 11 (.ro (.int .i64))])] b }
/- impl.Cam).turned -/
noncomputable def I71 : Inst := { f := 71, nt := 18, params := [((.ro (.slc (.int .i16))), false), ((.ro (.int .i64)), false)], res := [(.row false (.int .i16))], slots := [.tmp 4], code := bd Tryz.f71, callee := fun r i => find 0 [(1002, 113), (1003, 136), (2007, 79)] (r * 1000 + i), frz := fun r i => find false [(2006, true)] (r * 1000 + i) }
/- impl.TurnMachine -/
noncomputable def I10 : Inst := { f := 10, nt := 34, params := [((.ro (.pair (.slc (.int .i16)) (.pair (.slc (.int .i16)) (.pair (.slc (.int .i16)) .unit)))), false), ((.ro (.int .i64)), false)], res := [(.ro (.pair (.slc (.int .i16)) (.pair (.slc (.int .i16)) (.pair (.slc (.int .i16)) .unit)))), (.ro (.int .i64))], slots := [.cell 4 27, .tmp 5], code := bd Tryz.f10, strict := true, callee := fun r i => find 0 [(1001, 64), (1003, 69), (1005, 70), (1007, 69), (1009, 68), (4003, 71), (4007, 71), (4011, 71)] (r * 1000 + i), frz := fun r i => find false [(1008, true)] (r * 1000 + i) }
/- impl.MirrorCam$1 -/
noncomputable def I159 : Inst := { f := 159, nt := 8, params := [((.ro (.int .i64)), false), ((.box (.ro (.slc (.int .i16)))), true)], res := [(.ro (.int .i64))], slots := [.tmp 3], code := bd Tryz.f159, strict := true, callee := fun r i => find 0 [(1003, 160)] (r * 1000 + i), pins := [1] }
/- impl.camOf -/
noncomputable def I158 : Inst := { f := 158, nt := 27, params := [((.ro (.int .i64)), false), ((.clo 159 (.ro .unit) (.pr (.box (.ro (.slc (.int .i16)))) (.ro .unit))), true)], res := [(.row false (.int .i16)), (.ro (.int .i64))], slots := [.tmp 4, .tmp 5], code := bd Tryz.f158, strict := true, callee := fun r i => find 0 [(5002, 159), (6001, 102)] (r * 1000 + i), loops := fun b => find [] [(0, [.own 1 (.clo 159 (.ro .unit) (.pr (.box (.ro (.slc (.int .i16)))) (.ro .unit))), .own 6 (.row false (.int .i16)), .own 10 (.ro (.int .i64)), .own 11 (.ro (.int .i64))])] b, pins := [1], deep := fun r i => find false [(1000, true), (8003, true), (8004, true)] (r * 1000 + i) }
/- impl.MirrorCam -/
noncomputable def I73 : Inst := { f := 73, nt := 13, params := [((.ro (.slc (.int .i16))), false)], res := [(.row false (.int .i16)), (.ro (.int .i64))], slots := [.tmp 2, .tmp 3], code := bd Tryz.f73, callee := fun r i => find 0 [(1001, 39), (3001, 113), (3003, 158)] (r * 1000 + i) }
/- impl.BackwardMachine -/
noncomputable def I12 : Inst := { f := 12, nt := 32, params := [((.ro (.pair (.slc (.int .i16)) (.pair (.slc (.int .i16)) (.pair (.slc (.int .i16)) .unit)))), false)], res := [(.ro (.pair (.slc (.int .i16)) (.pair (.slc (.int .i16)) (.pair (.slc (.int .i16)) .unit)))), (.ro (.int .i64))], slots := [.cell 2 27, .tmp 3], code := bd Tryz.f12, strict := true, callee := fun r i => find 0 [(1001, 64), (4002, 73), (5002, 73), (6002, 73)] (r * 1000 + i) }
/- impl.Cam,int16] -/
noncomputable def I74 : Inst := { f := 74, nt := 8, params := [((.ro (.slc (.int .i16))), false)], res := [(.row false (.int .i16))], slots := [.tmp 2], code := bd Tryz.f74 }
/- impl.FlipMachine -/
noncomputable def I13 : Inst := { f := 13, nt := 18, params := [((.ro (.pair (.slc (.int .i16)) (.pair (.slc (.int .i16)) (.pair (.slc (.int .i16)) .unit)))), false)], res := [(.ro (.pair (.slc (.int .i16)) (.pair (.slc (.int .i16)) (.pair (.slc (.int .i16)) .unit)))), (.ro (.int .i64))], slots := [.cell 2 27, .tmp 3], code := bd Tryz.f13, strict := true, callee := fun r i => find 0 [(1001, 64), (3002, 74), (3005, 74), (3008, 74)] (r * 1000 + i) }
/- spec.l01Same -/
noncomputable def I75 : Inst := { f := 75, nt := 26, params := [((.ro (.slc (.int .i16))), false), ((.ro (.slc (.int .i16))), false)], res := [(.ro .bool)], slots := [.tmp 4], code := bd Tryz.f75, loops := fun b => find [] [(0, [.own 0 (.ro (.slc (.int .i16))), .own 1 (.ro (.slc (.int .i16))), .own 5 (.ro (.int .i64))])] b }
/- spec.SameMachine -/
noncomputable def I14 : Inst := { f := 14, nt := 24, params := [((.ro (.pair (.slc (.int .i16)) (.pair (.slc (.int .i16)) (.pair (.slc (.int .i16)) .unit)))), false), ((.ro (.pair (.slc (.int .i16)) (.pair (.slc (.int .i16)) (.pair (.slc (.int .i16)) .unit)))), false)], res := [(.ro .bool)], slots := [.tmp 4], code := bd Tryz.f14, callee := fun r i => find 0 [(1004, 75), (1010, 75), (1017, 75)] (r * 1000 + i) }
/- bits.OnesCount64 -/
noncomputable def I76 : Inst := { f := 76, nt := 35, params := [((.ro (.int .u64)), false)], res := [(.ro (.int .i64))], slots := [.tmp 2], code := bd Tryz.f76 }
/- impl.CountInk -/
noncomputable def I15 : Inst := { f := 15, nt := 16, params := [((.ro (.arr 64 (.int .u64))), false)], res := [(.ro (.int .i64))], slots := [.tmp 2], code := bd Tryz.f15, callee := fun r i => find 0 [(5002, 76)] (r * 1000 + i), loops := fun b => find [] [(0, [.own 3 (.ro (.int .i64)), .own 6 (.ro (.arr 64 (.int .u64))), .own 7 (.ro (.int .i64))])] b }
/- impl.ValidMark -/
noncomputable def I77 : Inst := { f := 77, nt := 13, params := [((.ro (.arr 2 (.int .i16))), false)], res := [(.ro .bool)], slots := [.tmp 2], code := bd Tryz.f77, callee := fun r i => find 0 [(1003, 103), (1008, 103)] (r * 1000 + i) }
/- impl.HasInk -/
noncomputable def I16 : Inst := { f := 16, nt := 18, params := [((.ro (.arr 64 (.int .u64))), false), ((.ro (.arr 2 (.int .i16))), false)], res := [(.ro .bool)], slots := [.tmp 4], code := bd Tryz.f16, callee := fun r i => find 0 [(1001, 77)] (r * 1000 + i) }
/- impl.withLast -/
noncomputable def I161 : Inst := { f := 161, nt := 10, params := [((.ro (.slc (.int .i16))), false), ((.ro (.int .i16)), false)], res := [(.row false (.int .i16))], slots := [.tmp 4], code := bd Tryz.f161, callee := fun r i => find 0 [(1001, 74)] (r * 1000 + i), deep := fun r i => find false [(1003, true), (1004, true)] (r * 1000 + i) }
/- impl.Machine).still -/
noncomputable def I78 : Inst := { f := 78, nt := 28, params := [((.ro (.pair (.slc (.int .i16)) (.pair (.slc (.int .i16)) (.pair (.slc (.int .i16)) .unit)))), false)], res := [(.pr (.row false (.int .i16)) (.pr (.row false (.int .i16)) (.pr (.row false (.int .i16)) (.ro .unit))))], slots := [.cell 2 27], code := bd Tryz.f78, callee := fun r i => find 0 [(2007, 161), (2015, 161), (2018, 161)] (r * 1000 + i) }
/- impl.BothMachines -/
noncomputable def I17 : Inst := { f := 17, nt := 57, params := [((.ro (.pair (.slc (.int .i16)) (.pair (.slc (.int .i16)) (.pair (.slc (.int .i16)) .unit)))), false), ((.ro (.pair (.slc (.int .i16)) (.pair (.slc (.int .i16)) (.pair (.slc (.int .i16)) .unit)))), false)], res := [(.ro (.pair (.slc (.int .i16)) (.pair (.slc (.int .i16)) (.pair (.slc (.int .i16)) .unit)))), (.ro (.int .i64))], slots := [.cell 4 27, .tmp 5], code := bd Tryz.f17, strict := true, callee := fun r i => find 0 [(1001, 64), (1005, 64), (1008, 69), (1018, 69), (1020, 68), (4001, 78), (4003, 78), (5005, 79), (5011, 79), (5017, 79)] (r * 1000 + i), frz := fun r i => find false [(1019, true), (5004, true), (5010, true), (5016, true)] (r * 1000 + i) }
/- spec.l07Copy -/
noncomputable def I163 : Inst := { f := 163, nt := 6, params := [((.ro (.slc (.int .i16))), false)], res := [(.row false (.int .i16))], slots := [.tmp 2], code := bd Tryz.f163, deep := fun r i => find false [(1000, true), (1002, true)] (r * 1000 + i) }
/- spec.l07Then -/
noncomputable def I80 : Inst := { f := 80, nt := 35, params := [((.ro (.slc (.int .i16))), false), ((.ro (.slc (.int .i16))), false), ((.ro .bool), false)], res := [(.row false (.int .i16))], slots := [.tmp 6], code := bd Tryz.f80, callee := fun r i => find 0 [(6001, 163)] (r * 1000 + i), deep := fun r i => find false [(6003, true), (6004, true), (7002, true), (8002, true), (8003, true)] (r * 1000 + i) }
/- spec.BothMachines -/
noncomputable def I18 : Inst := { f := 18, nt := 39, params := [((.ro (.pair (.slc (.int .i16)) (.pair (.slc (.int .i16)) (.pair (.slc (.int .i16)) .unit)))), false), ((.ro (.pair (.slc (.int .i16)) (.pair (.slc (.int .i16)) (.pair (.slc (.int .i16)) .unit)))), false)], res := [(.ro (.pair (.slc (.int .i16)) (.pair (.slc (.int .i16)) (.pair (.slc (.int .i16)) .unit)))), (.ro (.int .i64))], slots := [.cell 4 27, .tmp 5], code := bd Tryz.f18, strict := true, callee := fun r i => find 0 [(1000, 66), (1003, 66), (5004, 80), (5009, 80), (5014, 80)] (r * 1000 + i) }
/- spec.StopsOf -/
noncomputable def I19 : Inst := { f := 19, nt := 8, params := [((.ro (.pair (.slc (.int .i16)) (.pair (.slc (.int .i16)) (.pair (.slc (.int .i16)) .unit)))), false)], res := [(.row false (.pair (.arr 2 (.int .i16)) (.pair .bool .unit))), (.ro (.int .i64))], slots := [.tmp 2, .tmp 3], code := bd Tryz.f19, callee := fun r i => find 0 [(1000, 66), (3000, 81)] (r * 1000 + i), deep := fun r i => find false [(2000, true)] (r * 1000 + i) }
/- impl.StopsOf -/
noncomputable def I20 : Inst := { f := 20, nt := 9, params := [((.ro (.pair (.slc (.int .i16)) (.pair (.slc (.int .i16)) (.pair (.slc (.int .i16)) .unit)))), false)], res := [(.ro (.slc (.pair (.arr 2 (.int .i16)) (.pair .bool .unit)))), (.ro (.int .i64))], slots := [.tmp 2, .tmp 3], code := bd Tryz.f20, strict := true, callee := fun r i => find 0 [(1001, 64), (3001, 82)] (r * 1000 + i) }
/- spec.SameStops -/
noncomputable def I21 : Inst := { f := 21, nt := 26, params := [((.ro (.slc (.pair (.arr 2 (.int .i16)) (.pair .bool .unit)))), false), ((.ro (.slc (.pair (.arr 2 (.int .i16)) (.pair .bool .unit)))), false)], res := [(.ro .bool)], slots := [.tmp 4], code := bd Tryz.f21, loops := fun b => find [] [(0, [.own 0 (.ro (.slc (.pair (.arr 2 (.int .i16)) (.pair .bool .unit)))), .own 1 (.ro (.slc (.pair (.arr 2 (.int .i16)) (.pair .bool .unit)))), .own 5 (.ro (.int .i64))])] b }
/- impl.PenTime -/
noncomputable def I22 : Inst := { f := 22, nt := 34, params := [((.ro (.pair (.slc (.int .i16)) (.pair (.slc (.int .i16)) (.pair (.slc (.int .i16)) .unit)))), false)], res := [(.ro (.int .i64)), (.ro (.int .i64)), (.ro (.int .i64))], slots := [.tmp 2, .tmp 3, .tmp 4], code := bd Tryz.f22, callee := fun r i => find 0 [(1001, 64), (4001, 83), (7002, 84), (9003, 84)] (r * 1000 + i), loops := fun b => find [] [(0, [.own 1 (.box (.ro (.pair (.slc (.int .i16)) (.pair (.slc (.int .i16)) (.pair (.slc (.int .i16)) .unit))))), .own 5 (.ro (.int .i64)), .own 6 (.ro (.int .i64)), .own 12 (.ro (.int .i64)), .own 13 (.ro (.int .i64))])] b }
/- strconv.FormatInt: told by its contract -/
noncomputable def I178 : Inst := { f := 178, nt := 0, params := [((.ro (.int .i64)), false), ((.ro (.int .i64)), false)], res := [(.ro .str)], slots := [], code := .skip, ext := some (fun x => if x.2.1 = 10 ∧ -9223372036854775808 ≤ x.1 ∧ x.1 ≤ 9223372036854775807 then some (((⟨(Lib.itoa x.1).toArray⟩ : ByteArray), ()), ()) else none) }
/- impl.decimal -/
noncomputable def I105 : Inst := { f := 105, nt := 5, params := [((.ro (.int .i64)), false)], res := [(.ro .str)], slots := [.tmp 2], code := bd Tryz.f105, callee := fun r i => find 0 [(1001, 178)] (r * 1000 + i) }
/- strings.Join: told by its contract -/
noncomputable def I106 : Inst := { f := 106, nt := 0, params := [((.row false .str), true), ((.ro .str), false)], res := [(.ro .str)], slots := [], code := .skip, ext := some (fun x => if x.1.length ≤ 140737488355328 ∧ (Lib.join (x.1.map fun s => s.data.toList) x.2.1.data.toList).length ≤ 140737488355328 then some (((⟨(Lib.join (x.1.map fun s => s.data.toList) x.2.1.data.toList).toArray⟩ : ByteArray), ()), (x.1, ())) else none) }
/- impl.CamText -/
noncomputable def I89 : Inst := { f := 89, nt := 57, params := [((.ro (.slc (.int .i16))), false)], res := [(.ro .str)], slots := [.tmp 2], code := bd Tryz.f89, callee := fun r i => find 0 [(1001, 39), (9005, 105), (11004, 105), (13001, 106)] (r * 1000 + i), loops := fun b => find [] [(2, [.own 0 (.ro (.slc (.int .i16))), .own 3 (.row false .str), .own 4 (.ro (.int .i64)), .own 5 (.ro (.int .i64))]), (0, [.own 0 (.ro (.slc (.int .i16))), .own 3 (.row false .str), .own 4 (.ro (.int .i64))])] b, deep := fun r i => find false [(3000, true), (12002, true), (12003, true)] (r * 1000 + i) }
/- impl.MachineText -/
noncomputable def I24 : Inst := { f := 24, nt := 21, params := [((.ro (.pair (.slc (.int .i16)) (.pair (.slc (.int .i16)) (.pair (.slc (.int .i16)) .unit)))), false)], res := [(.ro .str)], slots := [.tmp 2], code := bd Tryz.f24, callee := fun r i => find 0 [(1001, 64), (3002, 89), (3007, 89), (3012, 89)] (r * 1000 + i) }
/- strings.SplitN: told by its contract -/
noncomputable def I85 : Inst := { f := 85, nt := 0, params := [((.ro .str), false), ((.ro .str), false), ((.ro (.int .i64)), false)], res := [(.row false .str)], slots := [], code := .skip, ext := some (fun x => if x.1.size < 4294967281 ∧ 1 ≤ x.2.1.size ∧ 1 ≤ x.2.2.1 ∧ x.2.2.1 ≤ 1000 then some ((Lib.splitB x.2.1 0 (min x.2.2.1.toNat (x.1.size + 1) - 1) x.1, ()), ()) else none) }
/- strings.TrimSuffix: told by its contract -/
noncomputable def I87 : Inst := { f := 87, nt := 0, params := [((.ro .str), false), ((.ro .str), false)], res := [(.ro .str)], slots := [], code := .skip, ext := some (fun x => if x.1.size ≤ 4294967281 then some (((⟨(Lib.trimSuffix x.1.data.toList x.2.1.data.toList).toArray⟩ : ByteArray), ()), ()) else none) }
/- strings.Cut: told by its contract -/
noncomputable def I86 : Inst := { f := 86, nt := 0, params := [((.ro .str), false), ((.ro .str), false)], res := [(.ro .str), (.ro .str), (.ro .bool)], slots := [], code := .skip, ext := some (fun x => if x.1.size < 4294967281 then some (((⟨(Lib.cut x.1.data.toList x.2.1.data.toList).1.toArray⟩ : ByteArray), (⟨(Lib.cut x.1.data.toList x.2.1.data.toList).2.1.toArray⟩ : ByteArray), (Lib.cut x.1.data.toList x.2.1.data.toList).2.2, ()), ()) else none) }
/- strings.Split: told by its contract -/
noncomputable def I90 : Inst := { f := 90, nt := 0, params := [((.ro .str), false), ((.ro .str), false)], res := [(.row false .str)], slots := [], code := .skip, ext := some (fun x => if x.1.size < 4294967281 ∧ 1 ≤ x.2.1.size then some ((Lib.splitB x.2.1 0 (Lib.countB x.1 x.2.1) x.1, ()), ()) else none) }
/- strconv.ParseInt: told by its contract -/
noncomputable def I176 : Inst := { f := 176, nt := 0, params := [((.ro .str), false), ((.ro (.int .i64)), false), ((.ro (.int .i64)), false)], res := [(.ro (.int .i64)), (.ro .err)], slots := [], code := .skip, ext := some (fun x => if x.1.size ≤ 281474976710656 ∧ x.2.1 = 10 ∧ x.2.2.1 = 64 then (match Lib.parseIntB 64 x.1.data.toList with | .ok v => some ((v, false, ()), ()) | .range => some ((Lib.intSat 64 x.1.data.toList, true, ()), ()) | _ => some (((0 : Int), true, ()), ())) else if x.1.size ≤ 281474976710656 ∧ x.2.1 = 10 ∧ x.2.2.1 = 8 then (match Lib.parseIntB 8 x.1.data.toList with | .ok v => some ((v, false, ()), ()) | .range => some ((Lib.intSat 8 x.1.data.toList, true, ()), ()) | _ => some (((0 : Int), true, ()), ())) else none) }
/- impl.number -/
noncomputable def I101 : Inst := { f := 101, nt := 20, params := [((.ro .str), false)], res := [(.ro (.int .i64)), (.ro .bool)], slots := [.tmp 2, .tmp 3], code := bd Tryz.f101, callee := fun r i => find 0 [(1001, 176), (2005, 105)] (r * 1000 + i) }
/- impl.Cam,int16]: told by its contract -/
noncomputable def I167 : Inst := { f := 167, nt := 0, params := [((.ro (.slc (.int .i16))), false), ((.ro (.int .i64)), false)], res := [(.row false (.int .i16))], slots := [], code := .skip, ext := some (fun x => if x.1.length = 1 ∧ 1 ≤ x.2.1 ∧ x.2.1 ≤ 360 then some ((List.replicate x.2.1.toNat (x.1.headD 0), ()), ()) else none) }
/- impl.ReadCam -/
noncomputable def I88 : Inst := { f := 88, nt := 70, params := [((.ro .str), false)], res := [(.row false (.int .i16)), (.ro (.int .i64))], slots := [.tmp 2, .tmp 3], code := bd Tryz.f88, callee := fun r i => find 0 [(2001, 90), (5001, 86), (6001, 101), (7001, 101), (10001, 102), (10006, 113), (10008, 103), (12005, 167), (14001, 39), (14005, 89), (16001, 74)] (r * 1000 + i), loops := fun b => find [] [(0, [.own 0 (.ro .str), .own 4 (.row false (.int .i16)), .own 16 (.ro (.slc .str)), .own 17 (.ro (.int .i64)), .own 18 (.ro (.int .i64))])] b, deep := fun r i => find false [(1000, true), (12003, true), (12006, true)] (r * 1000 + i), frz := fun r i => find false [(12003, true)] (r * 1000 + i) }
/- impl.ReadMachine -/
noncomputable def I23 : Inst := { f := 23, nt := 53, params := [((.ro .str), false)], res := [(.ro (.pair (.slc (.int .i16)) (.pair (.slc (.int .i16)) (.pair (.slc (.int .i16)) .unit)))), (.ro (.int .i64))], slots := [.cell 2 27, .tmp 3], code := bd Tryz.f23, strict := true, callee := fun r i => find 0 [(2001, 85), (5001, 87), (5002, 86), (6002, 88), (9001, 64), (9005, 24)] (r * 1000 + i), loops := fun b => find [] [(0, [.own 0 (.ro .str), .own 2 (.box (.ro (.pair (.slc (.int .i16)) (.pair (.slc (.int .i16)) (.pair (.slc (.int .i16)) .unit))))), .own 4 (.box (.ro (.arr 3 (.slc (.int .i16))))), .own 13 (.ro (.slc .str)), .own 14 (.ro (.int .i64)), .own 15 (.ro (.int .i64))])] b, ice := fun r i => find [] [(6007, [31])] (r * 1000 + i) }
/- strconv.FormatUint: told by its contract -/
noncomputable def I170 : Inst := { f := 170, nt := 0, params := [((.ro (.int .u64)), false), ((.ro (.int .i64)), false)], res := [(.ro .str)], slots := [], code := .skip, ext := some (fun x => if 0 ≤ x.1 ∧ x.1 < 18446744073709551616 ∧ x.2.1 = 16 then some (((⟨(hexD x.1.toNat).toArray⟩ : ByteArray), ()), ()) else none) }
/- strings.Repeat: told by its contract -/
noncomputable def I171 : Inst := { f := 171, nt := 0, params := [((.ro .str), false), ((.ro (.int .i64)), false)], res := [(.ro .str)], slots := [], code := .skip, ext := some (fun x => if x.1.data = #[48] ∧ 0 ≤ x.2.1 ∧ x.2.1 ≤ 15 then some (((⟨(List.replicate x.2.1.toNat (48 : UInt8)).toArray⟩ : ByteArray), ()), ()) else none) }
/- impl.hex -/
noncomputable def I93 : Inst := { f := 93, nt := 12, params := [((.ro (.int .u64)), false)], res := [(.ro .str)], slots := [.tmp 2], code := bd Tryz.f93, callee := fun r i => find 0 [(1001, 170), (2003, 171)] (r * 1000 + i) }
/- (*strings.Builder).WriteString: told by its contract -/
noncomputable def I92 : Inst := { f := 92, nt := 0, params := [((.bld 134 5), true), ((.ro .str), false)], res := [(.ro (.int .i64)), (.ro .err)], slots := [], code := .skip, ext := some (fun x => if x.1.size + x.2.1.size ≤ 140737488355328 then some ((((x.2.1.size : Nat) : Int), false, ()), (x.1 ++ x.2.1, ())) else none) }
/- (*strings.Builder).String: told by its contract -/
noncomputable def I94 : Inst := { f := 94, nt := 0, params := [((.bld 134 5), false)], res := [(.ro .str)], slots := [], code := .skip, ext := some (fun x => some ((x.1, ()), ())) }
/- impl.PlateText -/
noncomputable def I26 : Inst := { f := 26, nt := 16, params := [((.ro (.arr 64 (.int .u64))), false)], res := [(.ro .str)], slots := [.tmp 2], code := bd Tryz.f26, callee := fun r i => find 0 [(5001, 93), (5003, 92), (7000, 94)] (r * 1000 + i), loops := fun b => find [] [(0, [.own 3 (.bld 134 5), .own 6 (.ro (.arr 64 (.int .u64))), .own 7 (.ro (.int .i64))])] b, frz := fun r i => find false [(1000, true)] (r * 1000 + i) }
/- strconv.ParseUint: told by its contract -/
noncomputable def I168 : Inst := { f := 168, nt := 0, params := [((.ro .str), false), ((.ro (.int .i64)), false), ((.ro (.int .i64)), false)], res := [(.ro (.int .u64)), (.ro .err)], slots := [], code := .skip, ext := some (fun x => if x.1.size ≤ 4294967281 ∧ x.2.1 = 16 ∧ x.2.2.1 = 64 then some ((((puT x.1.data.toList).1 : Int), decide ((puT x.1.data.toList).2 ≠ 0), ()), ()) else none) }
/- impl.unhex -/
noncomputable def I91 : Inst := { f := 91, nt := 13, params := [((.ro .str), false)], res := [(.ro (.int .u64))], slots := [.tmp 2], code := bd Tryz.f91, callee := fun r i => find 0 [(1001, 168)] (r * 1000 + i) }
/- impl.ReadPlate -/
noncomputable def I25 : Inst := { f := 25, nt := 29, params := [((.ro .str), false)], res := [(.ro (.arr 64 (.int .u64))), (.ro (.int .i64))], slots := [.cell 2 31, .tmp 3], code := bd Tryz.f25, callee := fun r i => find 0 [(2001, 90), (6002, 91), (8001, 26)] (r * 1000 + i), loops := fun b => find [] [(0, [.own 0 (.ro .str), .own 2 (.box (.ro (.arr 64 (.int .u64)))), .own 4 (.box (.ro (.arr 64 (.int .u64)))), .own 9 (.ro (.slc .str)), .own 10 (.ro (.int .i64)), .own 11 (.ro (.int .i64))])] b }
/- impl.Cam,int16] -/
noncomputable def I95 : Inst := { f := 95, nt := 26, params := [((.ro (.slc (.int .i16))), false), ((.ro (.slc (.int .i16))), false)], res := [(.ro .bool)], slots := [.tmp 4], code := bd Tryz.f95, loops := fun b => find [] [(0, [.own 0 (.ro (.slc (.int .i16))), .own 1 (.ro (.slc (.int .i16))), .own 12 (.ro (.int .i64)), .own 13 (.ro (.int .i64))])] b }
/- impl.SameMachine -/
noncomputable def I27 : Inst := { f := 27, nt := 24, params := [((.ro (.pair (.slc (.int .i16)) (.pair (.slc (.int .i16)) (.pair (.slc (.int .i16)) .unit)))), false), ((.ro (.pair (.slc (.int .i16)) (.pair (.slc (.int .i16)) (.pair (.slc (.int .i16)) .unit)))), false)], res := [(.ro .bool)], slots := [.tmp 4], code := bd Tryz.f27, callee := fun r i => find 0 [(1004, 95), (1010, 95), (1017, 95)] (r * 1000 + i) }
/- laws.FnMachines -/
noncomputable def I3 : Inst := { f := 3, nt := 374, params := [((.ro (.slc (.int .u8))), false), ((.ro (.slc (.int .u8))), false)], res := [(.ro .bool)], slots := [.tmp 4], code := bd Tryz.f3, callee := fun r i => find 0 [(1001, 6), (1004, 6), (3001, 7), (4001, 7), (5001, 8), (6001, 9), (7002, 11), (7004, 10), (8001, 8), (9001, 12), (10001, 12), (11001, 13), (12001, 13), (13001, 8), (14036, 14), (14050, 14), (14059, 15), (14061, 15), (22004, 16), (22009, 16), (24002, 17), (25002, 18), (26001, 19), (27001, 19), (28001, 20), (29010, 14), (29042, 21), (29058, 21), (31001, 22), (41001, 24), (41002, 23), (42001, 26), (42002, 25), (43019, 14), (43024, 27)] (r * 1000 + i), loops := fun b => find [] [(4, [.own 5 (.box (.ro (.pair (.slc (.int .i16)) (.pair (.slc (.int .i16)) (.pair (.slc (.int .i16)) .unit))))), .own 9 (.box (.ro (.arr 64 (.int .u64)))), .own 31 (.ro (.slc (.pair (.arr 2 (.int .i16)) (.pair .bool .unit)))), .own 37 (.ro (.int .i64)), .own 38 (.ro (.int .i64)), .own 39 (.ro (.int .i64)), .own 40 (.ro (.int .i64)), .own 41 (.ro (.int .i64)), .own 42 (.ro (.int .i64))]), (2, [.own 5 (.box (.ro (.pair (.slc (.int .i16)) (.pair (.slc (.int .i16)) (.pair (.slc (.int .i16)) .unit))))), .own 6 (.box (.ro (.pair (.slc (.int .i16)) (.pair (.slc (.int .i16)) (.pair (.slc (.int .i16)) .unit))))), .own 9 (.box (.ro (.arr 64 (.int .u64)))), .own 23 (.box (.ro (.arr 64 (.int .u64)))), .own 25 (.ro (.int .i16)), .own 26 (.ro (.int .i16))]), (0, [.own 5 (.box (.ro (.pair (.slc (.int .i16)) (.pair (.slc (.int .i16)) (.pair (.slc (.int .i16)) .unit))))), .own 6 (.box (.ro (.pair (.slc (.int .i16)) (.pair (.slc (.int .i16)) (.pair (.slc (.int .i16)) .unit))))), .own 9 (.box (.ro (.arr 64 (.int .u64)))), .own 23 (.box (.ro (.arr 64 (.int .u64)))), .own 25 (.ro (.int .i16))])] b }
noncomputable def CL : List (Nat × Inst) := [(6, I6), (63, I63), (157, I157), (72, I72), (150, I150), (149, I149), (151, I151), (62, I62), (7, I7), (113, I113), (103, I103), (112, I112), (102, I102), (115, I115), (181, I181), (114, I114), (39, I39), (152, I152), (64, I64), (83, I83), (187, I187), (136, I136), (160, I160), (84, I84), (82, I82), (153, I153), (134, I134), (220, I220), (183, I183), (196, I196), (154, I154), (65, I65), (8, I8), (116, I116), (174, I174), (172, I172), (121, I121), (197, I197), (155, I155), (66, I66), (81, I81), (142, I142), (221, I221), (212, I212), (198, I198), (156, I156), (67, I67), (9, I9), (11, I11), (69, I69), (70, I70), (68, I68), (162, I162), (79, I79), (71, I71), (10, I10), (159, I159), (158, I158), (73, I73), (12, I12), (74, I74), (13, I13), (75, I75), (14, I14), (76, I76), (15, I15), (77, I77), (16, I16), (161, I161), (78, I78), (17, I17), (163, I163), (80, I80), (18, I18), (19, I19), (20, I20), (21, I21), (22, I22), (178, I178), (105, I105), (106, I106), (89, I89), (24, I24), (85, I85), (87, I87), (86, I86), (90, I90), (176, I176), (101, I101), (167, I167), (88, I88), (23, I23), (170, I170), (171, I171), (93, I93), (92, I92), (94, I94), (26, I26), (168, I168), (91, I91), (25, I25), (95, I95), (27, I27), (3, I3)]
noncomputable def C : Nat → Inst := find I6 CL
theorem tsOk : TsOk Tryz.prog T := tsOkB_sound (by kernel_rfl)
theorem ok6 : InstOk Tryz.prog I6 := instOk_of Tryz.func6 (by kernel_rfl) (by kernel_rfl) (by kernel_rfl) (by kernel_rfl)
theorem ok63 : InstOk Tryz.prog I63 := instOk_of Tryz.func63 (by kernel_rfl) (by kernel_rfl) (by kernel_rfl) (by kernel_rfl)
theorem ok157 : InstOk Tryz.prog I157 := instOk_of Tryz.func157 (by kernel_rfl) (by kernel_rfl) (by kernel_rfl) (by kernel_rfl)
theorem ok72 : InstOk Tryz.prog I72 := instOk_of Tryz.func72 (by kernel_rfl) (by kernel_rfl) (by kernel_rfl) (by kernel_rfl)
theorem ok150 : InstOk Tryz.prog I150 := instOk_of Tryz.func150 (by kernel_rfl) (by kernel_rfl) (by kernel_rfl) (by kernel_rfl)
theorem ok149 : InstOk Tryz.prog I149 := instOk_of Tryz.func149 (by kernel_rfl) (by kernel_rfl) (by kernel_rfl) (by kernel_rfl)
theorem ok151 : InstOk Tryz.prog I151 := instOk_of Tryz.func151 (by kernel_rfl) (by kernel_rfl) (by kernel_rfl) (by kernel_rfl)
theorem ok62 : InstOk Tryz.prog I62 := instOk_of Tryz.func62 (by kernel_rfl) (by kernel_rfl) (by kernel_rfl) (by kernel_rfl)
theorem ok7 : InstOk Tryz.prog I7 := instOk_of Tryz.func7 (by kernel_rfl) (by kernel_rfl) (by kernel_rfl) (by kernel_rfl)
theorem ok113 : InstOk Tryz.prog I113 := instOk_of Tryz.func113 (by kernel_rfl) (by kernel_rfl) (by kernel_rfl) (by kernel_rfl)
theorem ok103 : InstOk Tryz.prog I103 := instOk_of Tryz.func103 (by kernel_rfl) (by kernel_rfl) (by kernel_rfl) (by kernel_rfl)
theorem ok112 : InstOk Tryz.prog I112 := instOk_of Tryz.func112 (by kernel_rfl) (by kernel_rfl) (by kernel_rfl) (by kernel_rfl)
theorem ok102 : InstOk Tryz.prog I102 := instOk_of Tryz.func102 (by kernel_rfl) (by kernel_rfl) (by kernel_rfl) (by kernel_rfl)
theorem ok115 : InstOk Tryz.prog I115 := instOk_of Tryz.func115 (by kernel_rfl) (by kernel_rfl) (by kernel_rfl) (by kernel_rfl)
theorem ok181 : InstOk Tryz.prog I181 := instOk_of Tryz.func181 (by kernel_rfl) (by kernel_rfl) (by kernel_rfl) (by kernel_rfl)
theorem ok114 : InstOk Tryz.prog I114 := instOk_of Tryz.func114 (by kernel_rfl) (by kernel_rfl) (by kernel_rfl) (by kernel_rfl)
theorem ok39 : InstOk Tryz.prog I39 := instOk_of Tryz.func39 (by kernel_rfl) (by kernel_rfl) (by kernel_rfl) (by kernel_rfl)
theorem ok152 : InstOk Tryz.prog I152 := instOk_of Tryz.func152 (by kernel_rfl) (by kernel_rfl) (by kernel_rfl) (by kernel_rfl)
theorem ok64 : InstOk Tryz.prog I64 := instOk_of Tryz.func64 (by kernel_rfl) (by kernel_rfl) (by kernel_rfl) (by kernel_rfl)
theorem ok83 : InstOk Tryz.prog I83 := instOk_of Tryz.func83 (by kernel_rfl) (by kernel_rfl) (by kernel_rfl) (by kernel_rfl)
theorem ok187 : InstOk Tryz.prog I187 := instOk_of Tryz.func187 (by kernel_rfl) (by kernel_rfl) (by kernel_rfl) (by kernel_rfl)
theorem ok136 : InstOk Tryz.prog I136 := instOk_of Tryz.func136 (by kernel_rfl) (by kernel_rfl) (by kernel_rfl) (by kernel_rfl)
theorem ok160 : InstOk Tryz.prog I160 := instOk_of Tryz.func160 (by kernel_rfl) (by kernel_rfl) (by kernel_rfl) (by kernel_rfl)
theorem ok84 : InstOk Tryz.prog I84 := instOk_of Tryz.func84 (by kernel_rfl) (by kernel_rfl) (by kernel_rfl) (by kernel_rfl)
theorem ok82 : InstOk Tryz.prog I82 := instOk_of Tryz.func82 (by kernel_rfl) (by kernel_rfl) (by kernel_rfl) (by kernel_rfl)
theorem ok153 : InstOk Tryz.prog I153 := instOk_of Tryz.func153 (by kernel_rfl) (by kernel_rfl) (by kernel_rfl) (by kernel_rfl)
theorem ok134 : InstOk Tryz.prog I134 := instOk_of Tryz.func134 (by kernel_rfl) (by kernel_rfl) (by kernel_rfl) (by kernel_rfl)
theorem ok220 : InstOk Tryz.prog I220 := instOk_of Tryz.func220 (by kernel_rfl) (by kernel_rfl) (by kernel_rfl) (by kernel_rfl)
theorem ok183 : InstOk Tryz.prog I183 := instOk_of Tryz.func183 (by kernel_rfl) (by kernel_rfl) (by kernel_rfl) (by kernel_rfl)
theorem ok196 : InstOk Tryz.prog I196 := instOk_of Tryz.func196 (by kernel_rfl) (by kernel_rfl) (by kernel_rfl) (by kernel_rfl)
theorem ok154 : InstOk Tryz.prog I154 := instOk_of Tryz.func154 (by kernel_rfl) (by kernel_rfl) (by kernel_rfl) (by kernel_rfl)
theorem ok65 : InstOk Tryz.prog I65 := instOk_of Tryz.func65 (by kernel_rfl) (by kernel_rfl) (by kernel_rfl) (by kernel_rfl)
theorem ok8 : InstOk Tryz.prog I8 := instOk_of Tryz.func8 (by kernel_rfl) (by kernel_rfl) (by kernel_rfl) (by kernel_rfl)
theorem ok116 : InstOk Tryz.prog I116 := instOk_of Tryz.func116 (by kernel_rfl) (by kernel_rfl) (by kernel_rfl) (by kernel_rfl)
theorem ok174 : InstOk Tryz.prog I174 := instOk_of Tryz.func174 (by kernel_rfl) (by kernel_rfl) (by kernel_rfl) (by kernel_rfl)
theorem ok172 : InstOk Tryz.prog I172 := instOk_of Tryz.func172 (by kernel_rfl) (by kernel_rfl) (by kernel_rfl) (by kernel_rfl)
theorem ok121 : InstOk Tryz.prog I121 := instOk_of Tryz.func121 (by kernel_rfl) (by kernel_rfl) (by kernel_rfl) (by kernel_rfl)
theorem ok197 : InstOk Tryz.prog I197 := instOk_of Tryz.func197 (by kernel_rfl) (by kernel_rfl) (by kernel_rfl) (by kernel_rfl)
theorem ok155 : InstOk Tryz.prog I155 := instOk_of Tryz.func155 (by kernel_rfl) (by kernel_rfl) (by kernel_rfl) (by kernel_rfl)
theorem ok66 : InstOk Tryz.prog I66 := instOk_of Tryz.func66 (by kernel_rfl) (by kernel_rfl) (by kernel_rfl) (by kernel_rfl)
theorem ok81 : InstOk Tryz.prog I81 := instOk_of Tryz.func81 (by kernel_rfl) (by kernel_rfl) (by kernel_rfl) (by kernel_rfl)
theorem ok142 : InstOk Tryz.prog I142 := instOk_of Tryz.func142 (by kernel_rfl) (by kernel_rfl) (by kernel_rfl) (by kernel_rfl)
theorem ok221 : InstOk Tryz.prog I221 := instOk_of Tryz.func221 (by kernel_rfl) (by kernel_rfl) (by kernel_rfl) (by kernel_rfl)
theorem ok212 : InstOk Tryz.prog I212 := instOk_of Tryz.func212 (by kernel_rfl) (by kernel_rfl) (by kernel_rfl) (by kernel_rfl)
theorem ok198 : InstOk Tryz.prog I198 := instOk_of Tryz.func198 (by kernel_rfl) (by kernel_rfl) (by kernel_rfl) (by kernel_rfl)
theorem ok156 : InstOk Tryz.prog I156 := instOk_of Tryz.func156 (by kernel_rfl) (by kernel_rfl) (by kernel_rfl) (by kernel_rfl)
theorem ok67 : InstOk Tryz.prog I67 := instOk_of Tryz.func67 (by kernel_rfl) (by kernel_rfl) (by kernel_rfl) (by kernel_rfl)
theorem ok9 : InstOk Tryz.prog I9 := instOk_of Tryz.func9 (by kernel_rfl) (by kernel_rfl) (by kernel_rfl) (by kernel_rfl)
theorem ok11 : InstOk Tryz.prog I11 := instOk_of Tryz.func11 (by kernel_rfl) (by kernel_rfl) (by kernel_rfl) (by kernel_rfl)
theorem ok69 : InstOk Tryz.prog I69 := instOk_of Tryz.func69 (by kernel_rfl) (by kernel_rfl) (by kernel_rfl) (by kernel_rfl)
theorem ok70 : InstOk Tryz.prog I70 := instOk_of Tryz.func70 (by kernel_rfl) (by kernel_rfl) (by kernel_rfl) (by kernel_rfl)
theorem ok68 : InstOk Tryz.prog I68 := instOk_of Tryz.func68 (by kernel_rfl) (by kernel_rfl) (by kernel_rfl) (by kernel_rfl)
theorem ok162 : InstOk Tryz.prog I162 := instOk_of Tryz.func162 (by kernel_rfl) (by kernel_rfl) (by kernel_rfl) (by kernel_rfl)
theorem ok79 : InstOk Tryz.prog I79 := instOk_of Tryz.func79 (by kernel_rfl) (by kernel_rfl) (by kernel_rfl) (by kernel_rfl)
theorem ok71 : InstOk Tryz.prog I71 := instOk_of Tryz.func71 (by kernel_rfl) (by kernel_rfl) (by kernel_rfl) (by kernel_rfl)
theorem ok10 : InstOk Tryz.prog I10 := instOk_of Tryz.func10 (by kernel_rfl) (by kernel_rfl) (by kernel_rfl) (by kernel_rfl)
theorem ok159 : InstOk Tryz.prog I159 := instOk_of Tryz.func159 (by kernel_rfl) (by kernel_rfl) (by kernel_rfl) (by kernel_rfl)
theorem ok158 : InstOk Tryz.prog I158 := instOk_of Tryz.func158 (by kernel_rfl) (by kernel_rfl) (by kernel_rfl) (by kernel_rfl)
theorem ok73 : InstOk Tryz.prog I73 := instOk_of Tryz.func73 (by kernel_rfl) (by kernel_rfl) (by kernel_rfl) (by kernel_rfl)
theorem ok12 : InstOk Tryz.prog I12 := instOk_of Tryz.func12 (by kernel_rfl) (by kernel_rfl) (by kernel_rfl) (by kernel_rfl)
theorem ok74 : InstOk Tryz.prog I74 := instOk_of Tryz.func74 (by kernel_rfl) (by kernel_rfl) (by kernel_rfl) (by kernel_rfl)
theorem ok13 : InstOk Tryz.prog I13 := instOk_of Tryz.func13 (by kernel_rfl) (by kernel_rfl) (by kernel_rfl) (by kernel_rfl)
theorem ok75 : InstOk Tryz.prog I75 := instOk_of Tryz.func75 (by kernel_rfl) (by kernel_rfl) (by kernel_rfl) (by kernel_rfl)
theorem ok14 : InstOk Tryz.prog I14 := instOk_of Tryz.func14 (by kernel_rfl) (by kernel_rfl) (by kernel_rfl) (by kernel_rfl)
theorem ok76 : InstOk Tryz.prog I76 := instOk_of Tryz.func76 (by kernel_rfl) (by kernel_rfl) (by kernel_rfl) (by kernel_rfl)
theorem ok15 : InstOk Tryz.prog I15 := instOk_of Tryz.func15 (by kernel_rfl) (by kernel_rfl) (by kernel_rfl) (by kernel_rfl)
theorem ok77 : InstOk Tryz.prog I77 := instOk_of Tryz.func77 (by kernel_rfl) (by kernel_rfl) (by kernel_rfl) (by kernel_rfl)
theorem ok16 : InstOk Tryz.prog I16 := instOk_of Tryz.func16 (by kernel_rfl) (by kernel_rfl) (by kernel_rfl) (by kernel_rfl)
theorem ok161 : InstOk Tryz.prog I161 := instOk_of Tryz.func161 (by kernel_rfl) (by kernel_rfl) (by kernel_rfl) (by kernel_rfl)
theorem ok78 : InstOk Tryz.prog I78 := instOk_of Tryz.func78 (by kernel_rfl) (by kernel_rfl) (by kernel_rfl) (by kernel_rfl)
theorem ok17 : InstOk Tryz.prog I17 := instOk_of Tryz.func17 (by kernel_rfl) (by kernel_rfl) (by kernel_rfl) (by kernel_rfl)
theorem ok163 : InstOk Tryz.prog I163 := instOk_of Tryz.func163 (by kernel_rfl) (by kernel_rfl) (by kernel_rfl) (by kernel_rfl)
theorem ok80 : InstOk Tryz.prog I80 := instOk_of Tryz.func80 (by kernel_rfl) (by kernel_rfl) (by kernel_rfl) (by kernel_rfl)
theorem ok18 : InstOk Tryz.prog I18 := instOk_of Tryz.func18 (by kernel_rfl) (by kernel_rfl) (by kernel_rfl) (by kernel_rfl)
theorem ok19 : InstOk Tryz.prog I19 := instOk_of Tryz.func19 (by kernel_rfl) (by kernel_rfl) (by kernel_rfl) (by kernel_rfl)
theorem ok20 : InstOk Tryz.prog I20 := instOk_of Tryz.func20 (by kernel_rfl) (by kernel_rfl) (by kernel_rfl) (by kernel_rfl)
theorem ok21 : InstOk Tryz.prog I21 := instOk_of Tryz.func21 (by kernel_rfl) (by kernel_rfl) (by kernel_rfl) (by kernel_rfl)
theorem ok22 : InstOk Tryz.prog I22 := instOk_of Tryz.func22 (by kernel_rfl) (by kernel_rfl) (by kernel_rfl) (by kernel_rfl)
theorem ok178 : InstOk Tryz.prog I178 := instOk_ext rfl
theorem ok105 : InstOk Tryz.prog I105 := instOk_of Tryz.func105 (by kernel_rfl) (by kernel_rfl) (by kernel_rfl) (by kernel_rfl)
theorem ok106 : InstOk Tryz.prog I106 := instOk_ext rfl
theorem ok89 : InstOk Tryz.prog I89 := instOk_of Tryz.func89 (by kernel_rfl) (by kernel_rfl) (by kernel_rfl) (by kernel_rfl)
theorem ok24 : InstOk Tryz.prog I24 := instOk_of Tryz.func24 (by kernel_rfl) (by kernel_rfl) (by kernel_rfl) (by kernel_rfl)
theorem ok85 : InstOk Tryz.prog I85 := instOk_ext rfl
theorem ok87 : InstOk Tryz.prog I87 := instOk_ext rfl
theorem ok86 : InstOk Tryz.prog I86 := instOk_ext rfl
theorem ok90 : InstOk Tryz.prog I90 := instOk_ext rfl
theorem ok176 : InstOk Tryz.prog I176 := instOk_ext rfl
theorem ok101 : InstOk Tryz.prog I101 := instOk_of Tryz.func101 (by kernel_rfl) (by kernel_rfl) (by kernel_rfl) (by kernel_rfl)
theorem ok167 : InstOk Tryz.prog I167 := instOk_ext rfl
theorem ok88 : InstOk Tryz.prog I88 := instOk_of Tryz.func88 (by kernel_rfl) (by kernel_rfl) (by kernel_rfl) (by kernel_rfl)
theorem ok23 : InstOk Tryz.prog I23 := instOk_of Tryz.func23 (by kernel_rfl) (by kernel_rfl) (by kernel_rfl) (by kernel_rfl)
theorem ok170 : InstOk Tryz.prog I170 := instOk_ext rfl
theorem ok171 : InstOk Tryz.prog I171 := instOk_ext rfl
theorem ok93 : InstOk Tryz.prog I93 := instOk_of Tryz.func93 (by kernel_rfl) (by kernel_rfl) (by kernel_rfl) (by kernel_rfl)
theorem ok92 : InstOk Tryz.prog I92 := instOk_ext rfl
theorem ok94 : InstOk Tryz.prog I94 := instOk_ext rfl
theorem ok26 : InstOk Tryz.prog I26 := instOk_of Tryz.func26 (by kernel_rfl) (by kernel_rfl) (by kernel_rfl) (by kernel_rfl)
theorem ok168 : InstOk Tryz.prog I168 := instOk_ext rfl
theorem ok91 : InstOk Tryz.prog I91 := instOk_of Tryz.func91 (by kernel_rfl) (by kernel_rfl) (by kernel_rfl) (by kernel_rfl)
theorem ok25 : InstOk Tryz.prog I25 := instOk_of Tryz.func25 (by kernel_rfl) (by kernel_rfl) (by kernel_rfl) (by kernel_rfl)
theorem ok95 : InstOk Tryz.prog I95 := instOk_of Tryz.func95 (by kernel_rfl) (by kernel_rfl) (by kernel_rfl) (by kernel_rfl)
theorem ok27 : InstOk Tryz.prog I27 := instOk_of Tryz.func27 (by kernel_rfl) (by kernel_rfl) (by kernel_rfl) (by kernel_rfl)
theorem ok3 : InstOk Tryz.prog I3 := instOk_of Tryz.func3 (by kernel_rfl) (by kernel_rfl) (by kernel_rfl) (by kernel_rfl)
theorem insts : ∀ j, InstOk Tryz.prog (C j) := find_all ok6 (List.forall_mem_cons.2 ⟨ok6, List.forall_mem_cons.2 ⟨ok63, List.forall_mem_cons.2 ⟨ok157, List.forall_mem_cons.2 ⟨ok72, List.forall_mem_cons.2 ⟨ok150, List.forall_mem_cons.2 ⟨ok149, List.forall_mem_cons.2 ⟨ok151, List.forall_mem_cons.2 ⟨ok62, List.forall_mem_cons.2 ⟨ok7, List.forall_mem_cons.2 ⟨ok113, List.forall_mem_cons.2 ⟨ok103, List.forall_mem_cons.2 ⟨ok112, List.forall_mem_cons.2 ⟨ok102, List.forall_mem_cons.2 ⟨ok115, List.forall_mem_cons.2 ⟨ok181, List.forall_mem_cons.2 ⟨ok114, List.forall_mem_cons.2 ⟨ok39, List.forall_mem_cons.2 ⟨ok152, List.forall_mem_cons.2 ⟨ok64, List.forall_mem_cons.2 ⟨ok83, List.forall_mem_cons.2 ⟨ok187, List.forall_mem_cons.2 ⟨ok136, List.forall_mem_cons.2 ⟨ok160, List.forall_mem_cons.2 ⟨ok84, List.forall_mem_cons.2 ⟨ok82, List.forall_mem_cons.2 ⟨ok153, List.forall_mem_cons.2 ⟨ok134, List.forall_mem_cons.2 ⟨ok220, List.forall_mem_cons.2 ⟨ok183, List.forall_mem_cons.2 ⟨ok196, List.forall_mem_cons.2 ⟨ok154, List.forall_mem_cons.2 ⟨ok65, List.forall_mem_cons.2 ⟨ok8, List.forall_mem_cons.2 ⟨ok116, List.forall_mem_cons.2 ⟨ok174, List.forall_mem_cons.2 ⟨ok172, List.forall_mem_cons.2 ⟨ok121, List.forall_mem_cons.2 ⟨ok197, List.forall_mem_cons.2 ⟨ok155, List.forall_mem_cons.2 ⟨ok66, List.forall_mem_cons.2 ⟨ok81, List.forall_mem_cons.2 ⟨ok142, List.forall_mem_cons.2 ⟨ok221, List.forall_mem_cons.2 ⟨ok212, List.forall_mem_cons.2 ⟨ok198, List.forall_mem_cons.2 ⟨ok156, List.forall_mem_cons.2 ⟨ok67, List.forall_mem_cons.2 ⟨ok9, List.forall_mem_cons.2 ⟨ok11, List.forall_mem_cons.2 ⟨ok69, List.forall_mem_cons.2 ⟨ok70, List.forall_mem_cons.2 ⟨ok68, List.forall_mem_cons.2 ⟨ok162, List.forall_mem_cons.2 ⟨ok79, List.forall_mem_cons.2 ⟨ok71, List.forall_mem_cons.2 ⟨ok10, List.forall_mem_cons.2 ⟨ok159, List.forall_mem_cons.2 ⟨ok158, List.forall_mem_cons.2 ⟨ok73, List.forall_mem_cons.2 ⟨ok12, List.forall_mem_cons.2 ⟨ok74, List.forall_mem_cons.2 ⟨ok13, List.forall_mem_cons.2 ⟨ok75, List.forall_mem_cons.2 ⟨ok14, List.forall_mem_cons.2 ⟨ok76, List.forall_mem_cons.2 ⟨ok15, List.forall_mem_cons.2 ⟨ok77, List.forall_mem_cons.2 ⟨ok16, List.forall_mem_cons.2 ⟨ok161, List.forall_mem_cons.2 ⟨ok78, List.forall_mem_cons.2 ⟨ok17, List.forall_mem_cons.2 ⟨ok163, List.forall_mem_cons.2 ⟨ok80, List.forall_mem_cons.2 ⟨ok18, List.forall_mem_cons.2 ⟨ok19, List.forall_mem_cons.2 ⟨ok20, List.forall_mem_cons.2 ⟨ok21, List.forall_mem_cons.2 ⟨ok22, List.forall_mem_cons.2 ⟨ok178, List.forall_mem_cons.2 ⟨ok105, List.forall_mem_cons.2 ⟨ok106, List.forall_mem_cons.2 ⟨ok89, List.forall_mem_cons.2 ⟨ok24, List.forall_mem_cons.2 ⟨ok85, List.forall_mem_cons.2 ⟨ok87, List.forall_mem_cons.2 ⟨ok86, List.forall_mem_cons.2 ⟨ok90, List.forall_mem_cons.2 ⟨ok176, List.forall_mem_cons.2 ⟨ok101, List.forall_mem_cons.2 ⟨ok167, List.forall_mem_cons.2 ⟨ok88, List.forall_mem_cons.2 ⟨ok23, List.forall_mem_cons.2 ⟨ok170, List.forall_mem_cons.2 ⟨ok171, List.forall_mem_cons.2 ⟨ok93, List.forall_mem_cons.2 ⟨ok92, List.forall_mem_cons.2 ⟨ok94, List.forall_mem_cons.2 ⟨ok26, List.forall_mem_cons.2 ⟨ok168, List.forall_mem_cons.2 ⟨ok91, List.forall_mem_cons.2 ⟨ok25, List.forall_mem_cons.2 ⟨ok95, List.forall_mem_cons.2 ⟨ok27, List.forall_mem_cons.2 ⟨ok3, fun _ h => absurd h List.not_mem_nil⟩⟩⟩⟩⟩⟩⟩⟩⟩⟩⟩⟩⟩⟩⟩⟩⟩⟩⟩⟩⟩⟩⟩⟩⟩⟩⟩⟩⟩⟩⟩⟩⟩⟩⟩⟩⟩⟩⟩⟩⟩⟩⟩⟩⟩⟩⟩⟩⟩⟩⟩⟩⟩⟩⟩⟩⟩⟩⟩⟩⟩⟩⟩⟩⟩⟩⟩⟩⟩⟩⟩⟩⟩⟩⟩⟩⟩⟩⟩⟩⟩⟩⟩⟩⟩⟩⟩⟩⟩⟩⟩⟩⟩⟩⟩⟩⟩⟩⟩⟩⟩⟩⟩⟩)
theorem c178 : C 178 = I178 := by kernel_rfl
theorem c106 : C 106 = I106 := by kernel_rfl
theorem c85 : C 85 = I85 := by kernel_rfl
theorem c87 : C 87 = I87 := by kernel_rfl
theorem c86 : C 86 = I86 := by kernel_rfl
theorem c90 : C 90 = I90 := by kernel_rfl
theorem c176 : C 176 = I176 := by kernel_rfl
theorem c167 : C 167 = I167 := by kernel_rfl
theorem c170 : C 170 = I170 := by kernel_rfl
theorem c171 : C 171 = I171 := by kernel_rfl
theorem c92 : C 92 = I92 := by kernel_rfl
theorem c94 : C 94 = I94 := by kernel_rfl
theorem c168 : C 168 = I168 := by kernel_rfl
theorem exts {L : Laid} (h178 : ExtOk Tryz.prog L I178) (h106 : ExtOk Tryz.prog L I106) (h85 : ExtOk Tryz.prog L I85) (h87 : ExtOk Tryz.prog L I87) (h86 : ExtOk Tryz.prog L I86) (h90 : ExtOk Tryz.prog L I90) (h176 : ExtOk Tryz.prog L I176) (h167 : ExtOk Tryz.prog L I167) (h170 : ExtOk Tryz.prog L I170) (h171 : ExtOk Tryz.prog L I171) (h92 : ExtOk Tryz.prog L I92) (h94 : ExtOk Tryz.prog L I94) (h168 : ExtOk Tryz.prog L I168) : ∀ j, ExtOk Tryz.prog L (C j) := by
  have hC : C = find I6 CL := by delta C; with_reducible rfl
  refine fun j => exts_of (C := C) _ _ [178, 106, 85, 87, 86, 90, 176, 167, 170, 171, 92, 94, 168] hC (by kernel_rfl) (by kernel_rfl) ?_ j
  intro e he
  change ExtOk _ _ (C e)
  simp only [List.mem_cons, List.not_mem_nil, or_false] at he
  rcases he with rfl | rfl | rfl | rfl | rfl | rfl | rfl | rfl | rfl | rfl | rfl | rfl | rfl
  · rw [c178]; exact h178
  · rw [c106]; exact h106
  · rw [c85]; exact h85
  · rw [c87]; exact h87
  · rw [c86]; exact h86
  · rw [c90]; exact h90
  · rw [c176]; exact h176
  · rw [c167]; exact h167
  · rw [c170]; exact h170
  · rw [c171]; exact h171
  · rw [c92]; exact h92
  · rw [c94]; exact h94
  · rw [c168]; exact h168
end Go.Proofs.YtipjblnjaicbfaaGreatDoor.LMq
