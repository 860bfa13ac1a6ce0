/- The types and the functions that a law reaches, told for the reading (Fw). Written by a program (gen.py). -/
import Derived.Test.YteeciijmkmdplaaDoorFwC
import Derived.Test.YteeciijmkmdplaaDoorProg
import Derived.Lib.TrailingZeros
namespace Go.Proofs.YteeciijmkmdplaaDoor.LCheckMachine
open Go Go.Fw
open Go.Proofs
noncomputable def tyL : List (Nat × TI) := [(2, ⟨(.int .i64), 0, 8⟩),
  (3, ⟨(.int .i64), 0, 8⟩),
  (4, ⟨.bool, 0, 1⟩),
  (22, ⟨(.slc (.int .i16)), 62, 24⟩),
  (25, ⟨(.slc (.int .i16)), 62, 24⟩),
  (58, ⟨(.pair (.slc (.int .i16)) (.pair (.slc (.int .i16)) (.pair (.slc (.int .i16)) .unit))), 0, 72⟩),
  (59, ⟨(.int .u64), 0, 8⟩),
  (60, ⟨(.arr 64 (.int .u64)), 59, 512⟩),
  (62, ⟨(.int .i16), 0, 2⟩),
  (64, ⟨(.arr 2 (.int .i16)), 62, 4⟩),
  (68, ⟨(.pair (.slc (.int .i16)) (.pair (.slc (.int .i16)) (.pair (.slc (.int .i16)) .unit))), 0, 72⟩),
  (70, ⟨(.arr 64 (.int .u64)), 59, 512⟩),
  (109, ⟨(.ptr (.pair (.slc (.int .i16)) (.pair (.slc (.int .i16)) (.pair (.slc (.int .i16)) .unit)))), 0, 8⟩),
  (111, ⟨(.int .u64), 0, 8⟩),
  (122, ⟨.fn, 0, 8⟩),
  (129, ⟨(.slc (.pair (.arr 2 (.int .i16)) (.pair .bool .unit))), 132, 24⟩),
  (132, ⟨(.pair (.arr 2 (.int .i16)) (.pair .bool .unit)), 0, 6⟩),
  (134, ⟨(.ptr (.arr 64 (.int .u64))), 0, 8⟩),
  (135, ⟨(.arr 2 (.slc (.int .i16))), 25, 48⟩),
  (145, ⟨(.slc (.arr 2 (.int .i16))), 64, 24⟩)]
noncomputable def T : Nat → Option TI := findT tyL
/- laws.szCam -/
noncomputable def I79 : Inst := { f := 79, nt := 12, params := [((.ro (.slc (.int .i16))), false), ((.ro (.int .i64)), false)], res := [(.ro (.int .i64))], slots := [.tmp 4], code := bd Tryd.f79 }
/- laws.szMachine -/
noncomputable def I37 : Inst := { f := 37, nt := 24, params := [((.ro (.pair (.slc (.int .i16)) (.pair (.slc (.int .i16)) (.pair (.slc (.int .i16)) .unit)))), false), ((.ro (.int .i64)), false)], res := [(.ro (.int .i64))], slots := [.tmp 4], code := bd Tryd.f37, callee := fun r i => find 0 [(1003, 79), (4003, 79), (7003, 79)] (r * 1000 + i) }
/- laws.toCam -/
noncomputable def I10 : Inst := { f := 10, nt := 22, params := [((.ro (.slc (.int .i16))), false)], res := [(.row false (.int .i16))], slots := [.tmp 2], code := bd Tryd.f10, loops := fun b => find [] [(0, [.own 0 (.ro (.slc (.int .i16))), .own 3 (.row false (.int .i16)), .own 4 (.ro (.int .i64))])] b, deep := fun r i => find false [(1002, true)] (r * 1000 + i) }
/- laws.toMachine -/
noncomputable def I39 : Inst := { f := 39, nt := 17, params := [((.ro (.pair (.slc (.int .i16)) (.pair (.slc (.int .i16)) (.pair (.slc (.int .i16)) .unit)))), false)], res := [(.pr (.row false (.int .i16)) (.pr (.row false (.int .i16)) (.pr (.row false (.int .i16)) (.ro .unit))))], slots := [.cell 2 68], code := bd Tryd.f39, callee := fun r i => find 0 [(2002, 10), (3002, 10), (4002, 10)] (r * 1000 + i) }
/- laws.toPlate -/
noncomputable def I40 : Inst := { f := 40, nt := 15, params := [((.ro (.arr 64 (.int .u64))), false)], res := [(.ro (.arr 64 (.int .u64)))], slots := [.cell 2 70], code := bd Tryd.f40, loops := fun b => find [] [(0, [.own 1 (.box (.ro (.arr 64 (.int .u64)))), .own 2 (.box (.ro (.arr 64 (.int .u64)))), .own 3 (.box (.ro (.arr 64 (.int .u64)))), .own 4 (.ro (.int .i64))])] b }
/- spec.l00In -/
noncomputable def I86 : Inst := { f := 86, nt := 15, params := [((.ro (.int .i64)), false), ((.ro (.int .i64)), false), ((.ro (.int .i64)), false)], res := [(.ro .bool)], slots := [.tmp 6], code := bd Tryd.f86 }
/- spec.l01Steps -/
noncomputable def I95 : Inst := { f := 95, nt := 5, params := [((.ro (.int .i64)), false)], res := [(.ro .bool)], slots := [.tmp 2], code := bd Tryd.f95, callee := fun r i => find 0 [(1001, 86)] (r * 1000 + i) }
/- spec.l01Lift -/
noncomputable def I96 : Inst := { f := 96, nt := 5, params := [((.ro (.int .i64)), false)], res := [(.ro .bool)], slots := [.tmp 2], code := bd Tryd.f96, callee := fun r i => find 0 [(1001, 86)] (r * 1000 + i) }
/- spec.l01Ok -/
noncomputable def I52 : Inst := { f := 52, nt := 21, params := [((.ro (.slc (.int .i16))), false)], res := [(.ro .bool)], slots := [.tmp 2], code := bd Tryd.f52, callee := fun r i => find 0 [(1002, 95), (6005, 96)] (r * 1000 + i), loops := fun b => find [] [(0, [.own 0 (.ro (.slc (.int .i16))), .own 3 (.ro (.int .i64))])] b }
/- spec.l00Min -/
noncomputable def I87 : Inst := { f := 87, nt := 10, params := [((.ro (.int .i64)), false), ((.ro (.int .i64)), false)], res := [(.ro (.int .i64))], slots := [.tmp 4], code := bd Tryd.f87 }
/- spec.l00Max -/
noncomputable def I104 : Inst := { f := 104, nt := 10, params := [((.ro (.int .i64)), false), ((.ro (.int .i64)), false)], res := [(.ro (.int .i64))], slots := [.tmp 4], code := bd Tryd.f104 }
/- spec.l01Range -/
noncomputable def I122 : Inst := { f := 122, nt := 34, params := [((.ro (.slc (.int .i16))), false)], res := [(.ro (.int .i64)), (.ro (.int .i64))], slots := [.tmp 2, .tmp 3], code := bd Tryd.f122, callee := fun r i => find 0 [(6006, 87), (7006, 104)] (r * 1000 + i), loops := fun b => find [] [(0, [.own 0 (.ro (.slc (.int .i16))), .own 4 (.ro (.int .i64)), .own 5 (.ro (.int .i64)), .own 6 (.ro (.int .i64))])] b }
/- spec.l07Moves -/
noncomputable def I110 : Inst := { f := 110, nt := 15, params := [((.ro (.slc (.int .i16))), false)], res := [(.ro .bool)], slots := [.tmp 2], code := bd Tryd.f110, callee := fun r i => find 0 [(1001, 52), (3001, 122)] (r * 1000 + i) }
/- spec.l07Ok -/
noncomputable def I80 : Inst := { f := 80, nt := 48, params := [((.ro (.ptr (.pair (.slc (.int .i16)) (.pair (.slc (.int .i16)) (.pair (.slc (.int .i16)) .unit))))), false)], res := [(.ro .bool)], slots := [.tmp 2], code := bd Tryd.f80, callee := fun r i => find 0 [(1004, 110), (1010, 110), (1017, 52)] (r * 1000 + i) }
/- spec.l07Stops -/
noncomputable def I111 : Inst := { f := 111, nt := 43, params := [((.ro (.ptr (.pair (.slc (.int .i16)) (.pair (.slc (.int .i16)) (.pair (.slc (.int .i16)) .unit))))), false)], res := [(.row false (.pair (.arr 2 (.int .i16)) (.pair .bool .unit)))], slots := [.tmp 2], code := bd Tryd.f111, loops := fun b => find [] [(0, [.own 0 (.ro (.ptr (.pair (.slc (.int .i16)) (.pair (.slc (.int .i16)) (.pair (.slc (.int .i16)) .unit))))), .own 3 (.row false (.pair (.arr 2 (.int .i16)) (.pair .bool .unit))), .own 4 (.ro (.int .i64))])] b, deep := fun r i => find false [(1000, true), (5025, true), (5026, true)] (r * 1000 + i) }
/- spec.l01Size -/
noncomputable def I55 : Inst := { f := 55, nt := 8, params := [((.ro (.int .i64)), false)], res := [(.ro (.int .i64))], slots := [.tmp 2], code := bd Tryd.f55 }
/- spec.l07Far -/
noncomputable def I127 : Inst := { f := 127, nt := 22, params := [((.ro (.arr 2 (.int .i16))), false), ((.ro (.arr 2 (.int .i16))), false)], res := [(.ro (.int .i64))], slots := [.tmp 4], code := bd Tryd.f127, callee := fun r i => find 0 [(1007, 55), (1015, 55), (1016, 104)] (r * 1000 + i) }
/- spec.l01Near -/
noncomputable def I128 : Inst := { f := 128, nt := 23, params := [((.ro (.int .i64)), false), ((.ro (.int .i64)), false)], res := [(.ro (.int .i64))], slots := [.tmp 4], code := bd Tryd.f128 }
/- spec.l07Line -/
noncomputable def I123 : Inst := { f := 123, nt := 54, params := [((.ro (.arr 2 (.int .i16))), false), ((.ro (.arr 2 (.int .i16))), false)], res := [(.row false (.arr 2 (.int .i16)))], slots := [.tmp 4], code := bd Tryd.f123, callee := fun r i => find 0 [(1002, 127), (12017, 128)] (r * 1000 + i), loops := fun b => find [] [(2, [.own 2 (.box (.ro (.arr 2 (.int .i16)))), .own 3 (.box (.ro (.arr 2 (.int .i16)))), .own 5 (.ro (.int .i64)), .own 6 (.row false (.arr 2 (.int .i16))), .own 7 (.ro (.int .i64)), .own 8 (.box (.ro (.arr 2 (.int .i16)))), .own 9 (.ro (.int .i64))]), (0, [.own 2 (.box (.ro (.arr 2 (.int .i16)))), .own 3 (.box (.ro (.arr 2 (.int .i16)))), .own 5 (.ro (.int .i64)), .own 6 (.row false (.arr 2 (.int .i16))), .own 7 (.ro (.int .i64))])] b, deep := fun r i => find false [(3001, true), (4000, true), (13002, true), (13003, true)] (r * 1000 + i) }
/- spec.l07Ink -/
noncomputable def I112 : Inst := { f := 112, nt := 36, params := [((.box (.ro (.arr 64 (.int .u64)))), true), ((.ro (.arr 2 (.int .i16))), false), ((.ro (.arr 2 (.int .i16))), false)], res := [], slots := [], code := bd Tryd.f112, callee := fun r i => find 0 [(1002, 123)] (r * 1000 + i), loops := fun b => find [] [(0, [.own 0 (.box (.ro (.arr 64 (.int .u64)))), .own 6 (.ro (.slc (.arr 2 (.int .i16)))), .own 7 (.ro (.int .i64))])] b, pins := [0] }
/- spec.l07Draw -/
noncomputable def I81 : Inst := { f := 81, nt := 52, params := [((.ro (.ptr (.pair (.slc (.int .i16)) (.pair (.slc (.int .i16)) (.pair (.slc (.int .i16)) .unit))))), false)], res := [(.ro (.arr 64 (.int .u64)))], slots := [.cell 2 70], code := bd Tryd.f81, callee := fun r i => find 0 [(1001, 111), (8010, 112), (10007, 112)] (r * 1000 + i), loops := fun b => find [] [(0, [.own 2 (.box (.ro (.arr 64 (.int .u64)))), .own 3 (.ro (.slc (.pair (.arr 2 (.int .i16)) (.pair .bool .unit)))), .own 4 (.box (.ro (.arr 64 (.int .u64)))), .own 5 (.ro (.int .i64))])] b }
/- spec.CheckMachine -/
noncomputable def I38 : Inst := { f := 38, nt := 49, params := [((.ro (.pair (.slc (.int .i16)) (.pair (.slc (.int .i16)) (.pair (.slc (.int .i16)) .unit)))), false), ((.ro (.arr 64 (.int .u64))), false)], res := [(.ro (.int .i64)), (.ro (.arr 2 (.int .i16))), (.ro (.int .i64))], slots := [.tmp 4, .cell 5 64, .tmp 6], code := bd Tryd.f38, callee := fun r i => find 0 [(1000, 80), (3000, 81)] (r * 1000 + i), loops := fun b => find [] [(2, [.own 3 (.box (.ro (.arr 64 (.int .u64)))), .own 5 (.box (.ro (.arr 2 (.int .i16)))), .own 7 (.box (.ro (.arr 64 (.int .u64)))), .own 8 (.ro (.int .i64)), .own 9 (.box (.ro (.arr 2 (.int .i16)))), .own 10 (.ro (.int .i16)), .own 11 (.ro (.int .i16))]), (0, [.own 3 (.box (.ro (.arr 64 (.int .u64)))), .own 5 (.box (.ro (.arr 2 (.int .i16)))), .own 7 (.box (.ro (.arr 64 (.int .u64)))), .own 8 (.ro (.int .i64)), .own 9 (.box (.ro (.arr 2 (.int .i16)))), .own 10 (.ro (.int .i16))])] b }
/- impl.Cam).steps -/
noncomputable def I62 : Inst := { f := 62, nt := 5, params := [((.ro (.slc (.int .i16))), false)], res := [(.ro (.int .i64))], slots := [.tmp 2], code := bd Tryd.f62 }
/- impl.inRange -/
noncomputable def I60 : Inst := { f := 60, nt := 15, params := [((.ro (.int .i64)), false), ((.ro (.int .i64)), false), ((.ro (.int .i64)), false)], res := [(.ro .bool)], slots := [.tmp 6], code := bd Tryd.f60 }
/- impl.isSteps -/
noncomputable def I97 : Inst := { f := 97, nt := 5, params := [((.ro (.int .i64)), false)], res := [(.ro .bool)], slots := [.tmp 2], code := bd Tryd.f97, callee := fun r i => find 0 [(1001, 60)] (r * 1000 + i) }
/- impl.isLift -/
noncomputable def I100 : Inst := { f := 100, nt := 5, params := [((.ro (.int .i64)), false)], res := [(.ro .bool)], slots := [.tmp 2], code := bd Tryd.f100, callee := fun r i => find 0 [(1001, 60)] (r * 1000 + i) }
/- impl.ValidCam$1 -/
noncomputable def I99 : Inst := { f := 99, nt := 7, params := [((.ro (.int .i16)), false)], res := [(.ro .bool)], slots := [.tmp 2], code := bd Tryd.f99, callee := fun r i => find 0 [(1002, 100)] (r * 1000 + i) }
/- impl.Cam,int16] -/
noncomputable def I120 : Inst := { f := 120, nt := 19, params := [((.ro (.slc (.int .i16))), false), ((.clo 99 (.ro .unit) (.ro .unit)), false)], res := [(.ro (.int .i64))], slots := [.tmp 4], code := bd Tryd.f120, callee := fun r i => find 0 [(4005, 99)] (r * 1000 + i), loops := fun b => find [] [(0, [.own 0 (.ro (.slc (.int .i16))), .own 1 (.clo 99 (.ro .unit) (.ro .unit)), .own 7 (.ro (.int .i64)), .own 8 (.ro (.int .i64))])] b }
/- impl.Cam,int16] -/
noncomputable def I98 : Inst := { f := 98, nt := 9, params := [((.ro (.slc (.int .i16))), false), ((.clo 99 (.ro .unit) (.ro .unit)), false)], res := [(.ro .bool)], slots := [.tmp 4], code := bd Tryd.f98, callee := fun r i => find 0 [(1002, 120)] (r * 1000 + i) }
/- impl.ValidCam -/
noncomputable def I59 : Inst := { f := 59, nt := 11, params := [((.ro (.slc (.int .i16))), false)], res := [(.ro .bool)], slots := [.tmp 2], code := bd Tryd.f59, callee := fun r i => find 0 [(1001, 62), (1002, 97), (1005, 98)] (r * 1000 + i) }
/- impl.Cam,int16] -/
noncomputable def I113 : Inst := { f := 113, nt := 25, params := [((.ro (.slc (.int .i16))), false)], res := [(.ro (.int .i16))], slots := [.tmp 2], code := bd Tryd.f113, loops := fun b => find [] [(0, [.own 0 (.ro (.slc (.int .i16))), .own 3 (.ro (.int .i16)), .own 4 (.ro (.int .i64))])] b }
/- impl.ValidMachine -/
noncomputable def I82 : Inst := { f := 82, nt := 33, params := [((.ro (.pair (.slc (.int .i16)) (.pair (.slc (.int .i16)) (.pair (.slc (.int .i16)) .unit)))), false)], res := [(.ro .bool)], slots := [.tmp 2], code := bd Tryd.f82, callee := fun r i => find 0 [(4001, 59), (4013, 113), (7002, 59)] (r * 1000 + i), loops := fun b => find [] [(0, [.own 1 (.box (.ro (.pair (.slc (.int .i16)) (.pair (.slc (.int .i16)) (.pair (.slc (.int .i16)) .unit))))), .own 9 (.ro (.arr 2 (.slc (.int .i16)))), .own 10 (.ro (.int .i64))])] b }
/- impl.Machine).steps -/
noncomputable def I124 : Inst := { f := 124, nt := 6, params := [((.ro (.pair (.slc (.int .i16)) (.pair (.slc (.int .i16)) (.pair (.slc (.int .i16)) .unit)))), false)], res := [(.ro (.int .i64))], slots := [.tmp 2], code := bd Tryd.f124, callee := fun r i => find 0 [(1002, 62)] (r * 1000 + i) }
/- impl.floorDiv -/
noncomputable def I102 : Inst := { f := 102, nt := 16, params := [((.ro (.int .i64)), false), ((.ro (.int .i64)), false)], res := [(.ro (.int .i64))], slots := [.tmp 4], code := bd Tryd.f102 }
/- impl.mod -/
noncomputable def I65 : Inst := { f := 65, nt := 12, params := [((.ro (.int .i64)), false), ((.ro (.int .i64)), false)], res := [(.ro (.int .i64))], slots := [.tmp 4], code := bd Tryd.f65, callee := fun r i => find 0 [(1004, 102)] (r * 1000 + i) }
/- impl.Cam).at -/
noncomputable def I118 : Inst := { f := 118, nt := 13, params := [((.ro (.slc (.int .i16))), false), ((.ro (.int .i64)), false)], res := [(.ro (.int .i64))], slots := [.tmp 4], code := bd Tryd.f118, callee := fun r i => find 0 [(1003, 62), (1004, 65)] (r * 1000 + i) }
/- impl.Machine).stop -/
noncomputable def I125 : Inst := { f := 125, nt := 22, params := [((.ro (.pair (.slc (.int .i16)) (.pair (.slc (.int .i16)) (.pair (.slc (.int .i16)) .unit)))), false), ((.ro (.int .i64)), false)], res := [(.ro (.pair (.arr 2 (.int .i16)) (.pair .bool .unit)))], slots := [.cell 4 132], code := bd Tryd.f125, callee := fun r i => find 0 [(1003, 118), (1008, 118), (1014, 118)] (r * 1000 + i) }
/- impl.Machine).stops -/
noncomputable def I114 : Inst := { f := 114, nt := 19, params := [((.ro (.pair (.slc (.int .i16)) (.pair (.slc (.int .i16)) (.pair (.slc (.int .i16)) .unit)))), false)], res := [(.ro (.slc (.pair (.arr 2 (.int .i16)) (.pair .bool .unit))))], slots := [.tmp 2], code := bd Tryd.f114, strict := true, callee := fun r i => find 0 [(2001, 124), (5003, 125)] (r * 1000 + i), loops := fun b => find [] [(0, [.own 1 (.box (.ro (.pair (.slc (.int .i16)) (.pair (.slc (.int .i16)) (.pair (.slc (.int .i16)) .unit))))), .own 3 (.row false (.pair (.arr 2 (.int .i16)) (.pair .bool .unit))), .own 7 (.ro (.int .i64)), .own 8 (.ro (.int .i64))])] b }
/- impl.Plate).ink -/
noncomputable def I115 : Inst := { f := 115, nt := 16, params := [((.box (.ro (.arr 64 (.int .u64)))), true), ((.ro (.arr 2 (.int .i16))), false)], res := [], slots := [], code := bd Tryd.f115, pins := [0] }
/- impl.abs -/
noncomputable def I63 : Inst := { f := 63, nt := 7, params := [((.ro (.int .i64)), false)], res := [(.ro (.int .i64))], slots := [.tmp 2], code := bd Tryd.f63 }
/- impl.between -/
noncomputable def I129 : Inst := { f := 129, nt := 22, params := [((.ro (.arr 2 (.int .i16))), false), ((.ro (.arr 2 (.int .i16))), false)], res := [(.ro (.int .i64))], slots := [.tmp 4], code := bd Tryd.f129, callee := fun r i => find 0 [(1007, 63), (1015, 63)] (r * 1000 + i) }
/- impl.nearest -/
noncomputable def I130 : Inst := { f := 130, nt := 12, params := [((.ro (.int .i64)), false), ((.ro (.int .i64)), false)], res := [(.ro (.int .i64))], slots := [.tmp 4], code := bd Tryd.f130, callee := fun r i => find 0 [(1006, 102)] (r * 1000 + i) }
/- impl.lineOf -/
noncomputable def I126 : Inst := { f := 126, nt := 57, params := [((.ro (.arr 2 (.int .i16))), false), ((.ro (.arr 2 (.int .i16))), false)], res := [(.row false (.arr 2 (.int .i16)))], slots := [.tmp 4], code := bd Tryd.f126, callee := fun r i => find 0 [(1004, 129), (10009, 130)] (r * 1000 + i), loops := fun b => find [] [(2, [.own 2 (.box (.ro (.arr 2 (.int .i16)))), .own 3 (.box (.ro (.arr 2 (.int .i16)))), .own 5 (.row false (.arr 2 (.int .i16))), .own 6 (.ro (.int .i64)), .own 7 (.ro (.int .i64)), .own 8 (.box (.ro (.arr 2 (.int .i16)))), .own 23 (.ro (.int .i64))]), (0, [.own 2 (.box (.ro (.arr 2 (.int .i16)))), .own 3 (.box (.ro (.arr 2 (.int .i16)))), .own 5 (.row false (.arr 2 (.int .i16))), .own 6 (.ro (.int .i64)), .own 7 (.ro (.int .i64))])] b, deep := fun r i => find false [(1001, true), (12002, true), (12003, true)] (r * 1000 + i) }
/- impl.Plate).line -/
noncomputable def I116 : Inst := { f := 116, nt := 20, params := [((.box (.ro (.arr 64 (.int .u64)))), true), ((.ro (.arr 2 (.int .i16))), false), ((.ro (.arr 2 (.int .i16))), false)], res := [], slots := [], code := bd Tryd.f116, callee := fun r i => find 0 [(1002, 126), (4002, 115)] (r * 1000 + i), loops := fun b => find [] [(0, [.own 0 (.box (.ro (.arr 64 (.int .u64)))), .own 10 (.ro (.slc (.arr 2 (.int .i16)))), .own 11 (.ro (.int .i64)), .own 12 (.ro (.int .i64))])] b, pins := [0] }
/- impl.Machine).draw -/
noncomputable def I83 : Inst := { f := 83, nt := 41, params := [((.ro (.pair (.slc (.int .i16)) (.pair (.slc (.int .i16)) (.pair (.slc (.int .i16)) .unit)))), false)], res := [(.ro (.arr 64 (.int .u64)))], slots := [.cell 2 70], code := bd Tryd.f83, callee := fun r i => find 0 [(1002, 114), (6002, 115), (9004, 116)] (r * 1000 + i), loops := fun b => find [] [(0, [.own 2 (.box (.ro (.arr 64 (.int .u64)))), .own 3 (.box (.ro (.arr 64 (.int .u64)))), .own 4 (.ro (.slc (.pair (.arr 2 (.int .i16)) (.pair .bool .unit)))), .own 11 (.ro (.slc (.pair (.arr 2 (.int .i16)) (.pair .bool .unit)))), .own 12 (.ro (.int .i64)), .own 13 (.ro (.int .i64))])] b }
/- bits.OnesCount64 -/
noncomputable def I117 : Inst := { f := 117, nt := 35, params := [((.ro (.int .u64)), false)], res := [(.ro (.int .i64))], slots := [.tmp 2], code := bd Tryd.f117 }
/- impl.CountInk -/
noncomputable def I84 : Inst := { f := 84, nt := 16, params := [((.ro (.arr 64 (.int .u64))), false)], res := [(.ro (.int .i64))], slots := [.tmp 2], code := bd Tryd.f84, callee := fun r i => find 0 [(5002, 117)] (r * 1000 + i), loops := fun b => find [] [(0, [.own 3 (.ro (.int .i64)), .own 6 (.ro (.arr 64 (.int .u64))), .own 7 (.ro (.int .i64))])] b }
/- bits.TrailingZeros64: told by its contract -/
noncomputable def I85 : Inst := { f := 85, nt := 0, params := [((.ro (.int .u64)), false)], res := [(.ro (.int .i64))], slots := [], code := .skip, ext := some (fun x => if 0 ≤ x.1 ∧ x.1 < 18446744073709551616 then some ((((Lib.ctz 64 x.1.toNat : Nat) : Int), ()), ()) else none) }
/- impl.CheckMachine -/
noncomputable def I41 : Inst := { f := 41, nt := 46, params := [((.ro (.pair (.slc (.int .i16)) (.pair (.slc (.int .i16)) (.pair (.slc (.int .i16)) .unit)))), false), ((.ro (.arr 64 (.int .u64))), false)], res := [(.ro (.int .i64)), (.ro (.arr 2 (.int .i16))), (.ro (.int .i64))], slots := [.tmp 4, .cell 5 64, .tmp 6], code := bd Tryd.f41, callee := fun r i => find 0 [(1001, 82), (3001, 83), (13001, 84), (13003, 85)] (r * 1000 + i), loops := fun b => find [] [(2, [.own 5 (.box (.ro (.arr 2 (.int .i16)))), .own 7 (.box (.ro (.arr 64 (.int .u64)))), .own 29 (.ro (.arr 64 (.int .u64))), .own 30 (.ro (.int .i64))]), (0, [.own 3 (.box (.ro (.arr 64 (.int .u64)))), .own 5 (.box (.ro (.arr 2 (.int .i16)))), .own 7 (.box (.ro (.arr 64 (.int .u64)))), .own 17 (.ro (.int .i64))])] b }
/- laws.eqMark -/
noncomputable def I42 : Inst := { f := 42, nt := 17, params := [((.ro (.arr 2 (.int .i16))), false), ((.ro (.arr 2 (.int .i16))), false)], res := [(.ro .bool)], slots := [.tmp 4], code := bd Tryd.f42, loops := fun b => find [] [(0, [.own 2 (.box (.ro (.arr 2 (.int .i16)))), .own 3 (.box (.ro (.arr 2 (.int .i16)))), .own 5 (.ro (.int .i64))])] b }
/- laws.eqCam -/
noncomputable def I12 : Inst := { f := 12, nt := 26, params := [((.ro (.slc (.int .i16))), false), ((.ro (.slc (.int .i16))), false)], res := [(.ro .bool)], slots := [.tmp 4], code := bd Tryd.f12, loops := fun b => find [] [(0, [.own 0 (.ro (.slc (.int .i16))), .own 1 (.ro (.slc (.int .i16))), .own 5 (.ro (.int .i64))])] b }
/- laws.eqMachine -/
noncomputable def I43 : Inst := { f := 43, nt := 23, params := [((.ro (.pair (.slc (.int .i16)) (.pair (.slc (.int .i16)) (.pair (.slc (.int .i16)) .unit)))), false), ((.ro (.pair (.slc (.int .i16)) (.pair (.slc (.int .i16)) (.pair (.slc (.int .i16)) .unit)))), false)], res := [(.ro .bool)], slots := [.tmp 4], code := bd Tryd.f43, callee := fun r i => find 0 [(1004, 12), (3004, 12), (5004, 12)] (r * 1000 + i) }
/- laws.FnExactCheckMachine -/
noncomputable def I8 : Inst := { f := 8, nt := 56, params := [((.ro (.pair (.slc (.int .i16)) (.pair (.slc (.int .i16)) (.pair (.slc (.int .i16)) .unit)))), false), ((.ro (.arr 64 (.int .u64))), false)], res := [(.ro .bool)], slots := [.tmp 4], code := bd Tryd.f8, callee := fun r i => find 0 [(2002, 37), (5001, 39), (5003, 40), (5004, 38), (6001, 39), (7002, 40), (7003, 41), (8006, 42), (10002, 39), (10003, 43)] (r * 1000 + i) }
noncomputable def CL : List (Nat × Inst) := [(79, I79), (37, I37), (10, I10), (39, I39), (40, I40), (86, I86), (95, I95), (96, I96), (52, I52), (87, I87), (104, I104), (122, I122), (110, I110), (80, I80), (111, I111), (55, I55), (127, I127), (128, I128), (123, I123), (112, I112), (81, I81), (38, I38), (62, I62), (60, I60), (97, I97), (100, I100), (99, I99), (120, I120), (98, I98), (59, I59), (113, I113), (82, I82), (124, I124), (102, I102), (65, I65), (118, I118), (125, I125), (114, I114), (115, I115), (63, I63), (129, I129), (130, I130), (126, I126), (116, I116), (83, I83), (117, I117), (84, I84), (85, I85), (41, I41), (42, I42), (12, I12), (43, I43), (8, I8)]
noncomputable def C : Nat → Inst := find I79 CL
theorem tsOk : TsOk Tryd.prog T := tsOkB_sound (by kernel_rfl)
theorem ok79 : InstOk Tryd.prog I79 := instOk_of Tryd.func79 (by kernel_rfl) (by kernel_rfl) (by kernel_rfl) (by kernel_rfl)
theorem ok37 : InstOk Tryd.prog I37 := instOk_of Tryd.func37 (by kernel_rfl) (by kernel_rfl) (by kernel_rfl) (by kernel_rfl)
theorem ok10 : InstOk Tryd.prog I10 := instOk_of Tryd.func10 (by kernel_rfl) (by kernel_rfl) (by kernel_rfl) (by kernel_rfl)
theorem ok39 : InstOk Tryd.prog I39 := instOk_of Tryd.func39 (by kernel_rfl) (by kernel_rfl) (by kernel_rfl) (by kernel_rfl)
theorem ok40 : InstOk Tryd.prog I40 := instOk_of Tryd.func40 (by kernel_rfl) (by kernel_rfl) (by kernel_rfl) (by kernel_rfl)
theorem ok86 : InstOk Tryd.prog I86 := instOk_of Tryd.func86 (by kernel_rfl) (by kernel_rfl) (by kernel_rfl) (by kernel_rfl)
theorem ok95 : InstOk Tryd.prog I95 := instOk_of Tryd.func95 (by kernel_rfl) (by kernel_rfl) (by kernel_rfl) (by kernel_rfl)
theorem ok96 : InstOk Tryd.prog I96 := instOk_of Tryd.func96 (by kernel_rfl) (by kernel_rfl) (by kernel_rfl) (by kernel_rfl)
theorem ok52 : InstOk Tryd.prog I52 := instOk_of Tryd.func52 (by kernel_rfl) (by kernel_rfl) (by kernel_rfl) (by kernel_rfl)
theorem ok87 : InstOk Tryd.prog I87 := instOk_of Tryd.func87 (by kernel_rfl) (by kernel_rfl) (by kernel_rfl) (by kernel_rfl)
theorem ok104 : InstOk Tryd.prog I104 := instOk_of Tryd.func104 (by kernel_rfl) (by kernel_rfl) (by kernel_rfl) (by kernel_rfl)
theorem ok122 : InstOk Tryd.prog I122 := instOk_of Tryd.func122 (by kernel_rfl) (by kernel_rfl) (by kernel_rfl) (by kernel_rfl)
theorem ok110 : InstOk Tryd.prog I110 := instOk_of Tryd.func110 (by kernel_rfl) (by kernel_rfl) (by kernel_rfl) (by kernel_rfl)
theorem ok80 : InstOk Tryd.prog I80 := instOk_of Tryd.func80 (by kernel_rfl) (by kernel_rfl) (by kernel_rfl) (by kernel_rfl)
theorem ok111 : InstOk Tryd.prog I111 := instOk_of Tryd.func111 (by kernel_rfl) (by kernel_rfl) (by kernel_rfl) (by kernel_rfl)
theorem ok55 : InstOk Tryd.prog I55 := instOk_of Tryd.func55 (by kernel_rfl) (by kernel_rfl) (by kernel_rfl) (by kernel_rfl)
theorem ok127 : InstOk Tryd.prog I127 := instOk_of Tryd.func127 (by kernel_rfl) (by kernel_rfl) (by kernel_rfl) (by kernel_rfl)
theorem ok128 : InstOk Tryd.prog I128 := instOk_of Tryd.func128 (by kernel_rfl) (by kernel_rfl) (by kernel_rfl) (by kernel_rfl)
theorem ok123 : InstOk Tryd.prog I123 := instOk_of Tryd.func123 (by kernel_rfl) (by kernel_rfl) (by kernel_rfl) (by kernel_rfl)
theorem ok112 : InstOk Tryd.prog I112 := instOk_of Tryd.func112 (by kernel_rfl) (by kernel_rfl) (by kernel_rfl) (by kernel_rfl)
theorem ok81 : InstOk Tryd.prog I81 := instOk_of Tryd.func81 (by kernel_rfl) (by kernel_rfl) (by kernel_rfl) (by kernel_rfl)
theorem ok38 : InstOk Tryd.prog I38 := instOk_of Tryd.func38 (by kernel_rfl) (by kernel_rfl) (by kernel_rfl) (by kernel_rfl)
theorem ok62 : InstOk Tryd.prog I62 := instOk_of Tryd.func62 (by kernel_rfl) (by kernel_rfl) (by kernel_rfl) (by kernel_rfl)
theorem ok60 : InstOk Tryd.prog I60 := instOk_of Tryd.func60 (by kernel_rfl) (by kernel_rfl) (by kernel_rfl) (by kernel_rfl)
theorem ok97 : InstOk Tryd.prog I97 := instOk_of Tryd.func97 (by kernel_rfl) (by kernel_rfl) (by kernel_rfl) (by kernel_rfl)
theorem ok100 : InstOk Tryd.prog I100 := instOk_of Tryd.func100 (by kernel_rfl) (by kernel_rfl) (by kernel_rfl) (by kernel_rfl)
theorem ok99 : InstOk Tryd.prog I99 := instOk_of Tryd.func99 (by kernel_rfl) (by kernel_rfl) (by kernel_rfl) (by kernel_rfl)
theorem ok120 : InstOk Tryd.prog I120 := instOk_of Tryd.func120 (by kernel_rfl) (by kernel_rfl) (by kernel_rfl) (by kernel_rfl)
theorem ok98 : InstOk Tryd.prog I98 := instOk_of Tryd.func98 (by kernel_rfl) (by kernel_rfl) (by kernel_rfl) (by kernel_rfl)
theorem ok59 : InstOk Tryd.prog I59 := instOk_of Tryd.func59 (by kernel_rfl) (by kernel_rfl) (by kernel_rfl) (by kernel_rfl)
theorem ok113 : InstOk Tryd.prog I113 := instOk_of Tryd.func113 (by kernel_rfl) (by kernel_rfl) (by kernel_rfl) (by kernel_rfl)
theorem ok82 : InstOk Tryd.prog I82 := instOk_of Tryd.func82 (by kernel_rfl) (by kernel_rfl) (by kernel_rfl) (by kernel_rfl)
theorem ok124 : InstOk Tryd.prog I124 := instOk_of Tryd.func124 (by kernel_rfl) (by kernel_rfl) (by kernel_rfl) (by kernel_rfl)
theorem ok102 : InstOk Tryd.prog I102 := instOk_of Tryd.func102 (by kernel_rfl) (by kernel_rfl) (by kernel_rfl) (by kernel_rfl)
theorem ok65 : InstOk Tryd.prog I65 := instOk_of Tryd.func65 (by kernel_rfl) (by kernel_rfl) (by kernel_rfl) (by kernel_rfl)
theorem ok118 : InstOk Tryd.prog I118 := instOk_of Tryd.func118 (by kernel_rfl) (by kernel_rfl) (by kernel_rfl) (by kernel_rfl)
theorem ok125 : InstOk Tryd.prog I125 := instOk_of Tryd.func125 (by kernel_rfl) (by kernel_rfl) (by kernel_rfl) (by kernel_rfl)
theorem ok114 : InstOk Tryd.prog I114 := instOk_of Tryd.func114 (by kernel_rfl) (by kernel_rfl) (by kernel_rfl) (by kernel_rfl)
theorem ok115 : InstOk Tryd.prog I115 := instOk_of Tryd.func115 (by kernel_rfl) (by kernel_rfl) (by kernel_rfl) (by kernel_rfl)
theorem ok63 : InstOk Tryd.prog I63 := instOk_of Tryd.func63 (by kernel_rfl) (by kernel_rfl) (by kernel_rfl) (by kernel_rfl)
theorem ok129 : InstOk Tryd.prog I129 := instOk_of Tryd.func129 (by kernel_rfl) (by kernel_rfl) (by kernel_rfl) (by kernel_rfl)
theorem ok130 : InstOk Tryd.prog I130 := instOk_of Tryd.func130 (by kernel_rfl) (by kernel_rfl) (by kernel_rfl) (by kernel_rfl)
theorem ok126 : InstOk Tryd.prog I126 := instOk_of Tryd.func126 (by kernel_rfl) (by kernel_rfl) (by kernel_rfl) (by kernel_rfl)
theorem ok116 : InstOk Tryd.prog I116 := instOk_of Tryd.func116 (by kernel_rfl) (by kernel_rfl) (by kernel_rfl) (by kernel_rfl)
theorem ok83 : InstOk Tryd.prog I83 := instOk_of Tryd.func83 (by kernel_rfl) (by kernel_rfl) (by kernel_rfl) (by kernel_rfl)
theorem ok117 : InstOk Tryd.prog I117 := instOk_of Tryd.func117 (by kernel_rfl) (by kernel_rfl) (by kernel_rfl) (by kernel_rfl)
theorem ok84 : InstOk Tryd.prog I84 := instOk_of Tryd.func84 (by kernel_rfl) (by kernel_rfl) (by kernel_rfl) (by kernel_rfl)
theorem ok85 : InstOk Tryd.prog I85 := instOk_ext rfl
theorem ok41 : InstOk Tryd.prog I41 := instOk_of Tryd.func41 (by kernel_rfl) (by kernel_rfl) (by kernel_rfl) (by kernel_rfl)
theorem ok42 : InstOk Tryd.prog I42 := instOk_of Tryd.func42 (by kernel_rfl) (by kernel_rfl) (by kernel_rfl) (by kernel_rfl)
theorem ok12 : InstOk Tryd.prog I12 := instOk_of Tryd.func12 (by kernel_rfl) (by kernel_rfl) (by kernel_rfl) (by kernel_rfl)
theorem ok43 : InstOk Tryd.prog I43 := instOk_of Tryd.func43 (by kernel_rfl) (by kernel_rfl) (by kernel_rfl) (by kernel_rfl)
theorem ok8 : InstOk Tryd.prog I8 := instOk_of Tryd.func8 (by kernel_rfl) (by kernel_rfl) (by kernel_rfl) (by kernel_rfl)
theorem insts : ∀ j, InstOk Tryd.prog (C j) := find_all ok79 (List.forall_mem_cons.2 ⟨ok79, List.forall_mem_cons.2 ⟨ok37, List.forall_mem_cons.2 ⟨ok10, List.forall_mem_cons.2 ⟨ok39, List.forall_mem_cons.2 ⟨ok40, List.forall_mem_cons.2 ⟨ok86, List.forall_mem_cons.2 ⟨ok95, List.forall_mem_cons.2 ⟨ok96, List.forall_mem_cons.2 ⟨ok52, List.forall_mem_cons.2 ⟨ok87, List.forall_mem_cons.2 ⟨ok104, List.forall_mem_cons.2 ⟨ok122, List.forall_mem_cons.2 ⟨ok110, List.forall_mem_cons.2 ⟨ok80, List.forall_mem_cons.2 ⟨ok111, List.forall_mem_cons.2 ⟨ok55, List.forall_mem_cons.2 ⟨ok127, List.forall_mem_cons.2 ⟨ok128, List.forall_mem_cons.2 ⟨ok123, List.forall_mem_cons.2 ⟨ok112, List.forall_mem_cons.2 ⟨ok81, List.forall_mem_cons.2 ⟨ok38, List.forall_mem_cons.2 ⟨ok62, List.forall_mem_cons.2 ⟨ok60, List.forall_mem_cons.2 ⟨ok97, List.forall_mem_cons.2 ⟨ok100, List.forall_mem_cons.2 ⟨ok99, List.forall_mem_cons.2 ⟨ok120, List.forall_mem_cons.2 ⟨ok98, List.forall_mem_cons.2 ⟨ok59, List.forall_mem_cons.2 ⟨ok113, List.forall_mem_cons.2 ⟨ok82, List.forall_mem_cons.2 ⟨ok124, List.forall_mem_cons.2 ⟨ok102, List.forall_mem_cons.2 ⟨ok65, List.forall_mem_cons.2 ⟨ok118, List.forall_mem_cons.2 ⟨ok125, List.forall_mem_cons.2 ⟨ok114, List.forall_mem_cons.2 ⟨ok115, List.forall_mem_cons.2 ⟨ok63, List.forall_mem_cons.2 ⟨ok129, List.forall_mem_cons.2 ⟨ok130, List.forall_mem_cons.2 ⟨ok126, List.forall_mem_cons.2 ⟨ok116, List.forall_mem_cons.2 ⟨ok83, List.forall_mem_cons.2 ⟨ok117, List.forall_mem_cons.2 ⟨ok84, List.forall_mem_cons.2 ⟨ok85, List.forall_mem_cons.2 ⟨ok41, List.forall_mem_cons.2 ⟨ok42, List.forall_mem_cons.2 ⟨ok12, List.forall_mem_cons.2 ⟨ok43, List.forall_mem_cons.2 ⟨ok8, fun _ h => absurd h List.not_mem_nil⟩⟩⟩⟩⟩⟩⟩⟩⟩⟩⟩⟩⟩⟩⟩⟩⟩⟩⟩⟩⟩⟩⟩⟩⟩⟩⟩⟩⟩⟩⟩⟩⟩⟩⟩⟩⟩⟩⟩⟩⟩⟩⟩⟩⟩⟩⟩⟩⟩⟩⟩⟩⟩)
theorem c85 : C 85 = I85 := by kernel_rfl
theorem exts {L : Laid} (h85 : ExtOk Tryd.prog L I85) : ∀ j, ExtOk Tryd.prog L (C j) := by
  have hC : C = find I79 CL := by delta C; with_reducible rfl
  refine fun j => exts_of (C := C) _ _ [85] hC (by kernel_rfl) (by kernel_rfl) ?_ j
  intro e he
  change ExtOk _ _ (C e)
  simp only [List.mem_cons, List.not_mem_nil, or_false] at he
  subst he; rw [c85]; exact h85
end Go.Proofs.YteeciijmkmdplaaDoor.LCheckMachine
