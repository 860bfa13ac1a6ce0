/- The types and the functions that a law reaches, told for the reading (Fw). Written by a program (gen.py). -/
import Derived.Test.YtoafnbpahdnchaaGreatDoorFwC
import Derived.Test.YtoafnbpahdnchaaGreatDoorProg
import Derived.Lib.TrailingZeros
import Derived.Lib.ItoaNum
import Derived.Lib.Split
import Derived.Lib.ParseIntB
namespace Go.Proofs.YtoafnbpahdnchaaGreatDoor.LFo
open Go Go.Fw
open Go.Proofs
noncomputable def tyL : List (Nat × TI) := [(2, ⟨(.int .i64), 0, 8⟩),
  (3, ⟨(.int .i64), 0, 8⟩),
  (4, ⟨.bool, 0, 1⟩),
  (5, ⟨(.int .u8), 0, 1⟩),
  (9, ⟨.str, 0, 16⟩),
  (22, ⟨(.slc (.int .u8)), 5, 24⟩),
  (25, ⟨(.slc (.int .i16)), 83, 24⟩),
  (28, ⟨(.pair (.int .i64) (.pair (.int .i64) .unit)), 0, 16⟩),
  (34, ⟨(.slc (.pair (.int .i64) (.pair (.int .i64) (.pair .bool .unit)))), 40, 24⟩),
  (40, ⟨(.pair (.int .i64) (.pair (.int .i64) (.pair .bool .unit))), 0, 24⟩),
  (51, ⟨(.ptr (.pair (.slc (.int .u8)) (.pair (.int .i64) (.pair (.int .u64) .unit)))), 0, 8⟩),
  (53, ⟨.fn, 0, 8⟩),
  (56, ⟨(.slc (.int .i64)), 2, 24⟩),
  (66, ⟨.fn, 0, 8⟩),
  (72, ⟨(.slc (.pair (.int .i64) (.pair (.int .i64) .unit))), 75, 24⟩),
  (75, ⟨(.pair (.int .i64) (.pair (.int .i64) .unit)), 0, 16⟩),
  (78, ⟨(.slc .str), 9, 24⟩),
  (83, ⟨(.int .i16), 0, 2⟩),
  (84, ⟨(.int .u64), 0, 8⟩),
  (86, ⟨(.pair (.slc (.int .u8)) (.pair (.int .i64) (.pair (.int .u64) .unit))), 0, 40⟩),
  (88, ⟨.fn, 0, 8⟩),
  (93, ⟨.err, 0, 16⟩)]
noncomputable def T : Nat → Option TI := findT tyL
/- laws.f6big -/
noncomputable def I4 : Inst := { f := 4, nt := 6, params := [((.ro (.slc (.int .u8))), false)], res := [(.ro .bool)], slots := [.tmp 2], code := bd Tryz.f4 }
/- spec.l00From -/
noncomputable def I22 : Inst := { f := 22, nt := 6, params := [((.ro (.slc (.int .u8))), false)], res := [(.box (.ro (.pair (.slc (.int .u8)) (.pair (.int .i64) (.pair (.int .u64) .unit)))))], slots := [.tmp 2], code := bd Tryz.f22, strict := true }
/- spec.l00Src).next -/
noncomputable def I55 : Inst := { f := 55, nt := 62, params := [((.box (.ro (.pair (.slc (.int .u8)) (.pair (.int .i64) (.pair (.int .u64) .unit))))), true)], res := [(.ro (.int .i64))], slots := [.tmp 2], code := bd Tryz.f55, strict := true, pins := [0] }
/- spec.l00Src).pick -/
noncomputable def I23 : Inst := { f := 23, nt := 20, params := [((.box (.ro (.pair (.slc (.int .u8)) (.pair (.int .i64) (.pair (.int .u64) .unit))))), true), ((.ro (.int .i64)), false)], res := [(.ro (.int .i64))], slots := [.tmp 4], code := bd Tryz.f23, strict := true, callee := fun r i => find 0 [(3001, 55), (5003, 55)] (r * 1000 + i), pins := [0] }
/- spec.l00Src).among -/
noncomputable def I52 : Inst := { f := 52, nt := 12, params := [((.box (.ro (.pair (.slc (.int .u8)) (.pair (.int .i64) (.pair (.int .u64) .unit))))), true), ((.ro (.slc (.int .i64))), false)], res := [(.ro (.int .i64))], slots := [.tmp 4], code := bd Tryz.f52, strict := true, callee := fun r i => find 0 [(1004, 23)] (r * 1000 + i), pins := [0] }
/- spec.l00Min -/
noncomputable def I53 : Inst := { f := 53, nt := 10, params := [((.ro (.int .i64)), false), ((.ro (.int .i64)), false)], res := [(.ro (.int .i64))], slots := [.tmp 4], code := bd Tryz.f53 }
/- spec.l00Max -/
noncomputable def I30 : Inst := { f := 30, nt := 10, params := [((.ro (.int .i64)), false), ((.ro (.int .i64)), false)], res := [(.ro (.int .i64))], slots := [.tmp 4], code := bd Tryz.f30 }
/- spec.l00Src).one -/
noncomputable def I54 : Inst := { f := 54, nt := 9, params := [((.box (.ro (.pair (.slc (.int .u8)) (.pair (.int .i64) (.pair (.int .u64) .unit))))), true), ((.ro (.int .i64)), false)], res := [(.ro .bool)], slots := [.tmp 4], code := bd Tryz.f54, strict := true, callee := fun r i => find 0 [(1002, 23)] (r * 1000 + i), pins := [0] }
/- spec.l01Drawn -/
noncomputable def I21 : Inst := { f := 21, nt := 60, params := [((.box (.ro (.pair (.slc (.int .u8)) (.pair (.int .i64) (.pair (.int .u64) .unit))))), true)], res := [(.ro (.slc (.int .i16)))], slots := [.tmp 2], code := bd Tryz.f21, strict := true, callee := fun r i => find 0 [(1002, 52), (3001, 23), (5001, 23), (6001, 23), (9003, 53), (9004, 30), (11001, 54)] (r * 1000 + i), loops := fun b => find [] [(2, [.own 0 (.box (.ro (.pair (.slc (.int .u8)) (.pair (.int .i64) (.pair (.int .u64) .unit))))), .own 3 (.ro (.int .i64)), .own 4 (.row false (.int .i16)), .own 5 (.ro (.int .i64)), .own 6 (.ro (.int .i64)), .own 7 (.ro (.int .i64))]), (0, [.own 0 (.box (.ro (.pair (.slc (.int .u8)) (.pair (.int .i64) (.pair (.int .u64) .unit))))), .own 3 (.ro (.int .i64)), .own 4 (.row false (.int .i16)), .own 5 (.ro (.int .i64))])] b, pins := [0], deep := fun r i => find false [(1001, true), (2000, true), (10003, true), (10004, true), (14000, true), (14002, true), (14004, true)] (r * 1000 + i), frz := fun r i => find false [(1001, true)] (r * 1000 + i), ice := fun r i => find [] [(12003, [47, 4, 15])] (r * 1000 + i) }
/- spec.P6Cam -/
noncomputable def I5 : Inst := { f := 5, nt := 6, params := [((.ro (.slc (.int .u8))), false)], res := [(.ro (.slc (.int .i16)))], slots := [.tmp 2], code := bd Tryz.f5, strict := true, callee := fun r i => find 0 [(1001, 22), (1002, 21)] (r * 1000 + i) }
/- spec.P6Follower -/
noncomputable def I6 : Inst := { f := 6, nt := 13, params := [((.ro (.slc (.int .u8))), false)], res := [(.ro (.pair (.int .i64) (.pair (.int .i64) .unit)))], slots := [.cell 2 28], code := bd Tryz.f6, callee := fun r i => find 0 [(1001, 22), (2001, 23), (2004, 23)] (r * 1000 + i) }
/- impl.Cam).steps -/
noncomputable def I36 : Inst := { f := 36, nt := 5, params := [((.ro (.slc (.int .i16))), false)], res := [(.ro (.int .i64))], slots := [.tmp 2], code := bd Tryz.f36 }
/- impl.inRange -/
noncomputable def I31 : Inst := { f := 31, nt := 15, params := [((.ro (.int .i64)), false), ((.ro (.int .i64)), false), ((.ro (.int .i64)), false)], res := [(.ro .bool)], slots := [.tmp 6], code := bd Tryz.f31 }
/- impl.isSteps -/
noncomputable def I56 : Inst := { f := 56, nt := 5, params := [((.ro (.int .i64)), false)], res := [(.ro .bool)], slots := [.tmp 2], code := bd Tryz.f56, callee := fun r i => find 0 [(1001, 31)] (r * 1000 + i) }
/- impl.isLift -/
noncomputable def I44 : Inst := { f := 44, nt := 5, params := [((.ro (.int .i64)), false)], res := [(.ro .bool)], slots := [.tmp 2], code := bd Tryz.f44, callee := fun r i => find 0 [(1001, 31)] (r * 1000 + i) }
/- impl.ValidCam$1 -/
noncomputable def I58 : Inst := { f := 58, nt := 7, params := [((.ro (.int .i16)), false)], res := [(.ro .bool)], slots := [.tmp 2], code := bd Tryz.f58, callee := fun r i => find 0 [(1002, 44)] (r * 1000 + i) }
/- impl.Cam,int16] -/
noncomputable def I70 : Inst := { f := 70, nt := 19, params := [((.ro (.slc (.int .i16))), false), ((.clo 58 (.ro .unit) (.ro .unit)), false)], res := [(.ro (.int .i64))], slots := [.tmp 4], code := bd Tryz.f70, callee := fun r i => find 0 [(4005, 58)] (r * 1000 + i), loops := fun b => find [] [(0, [.own 0 (.ro (.slc (.int .i16))), .own 1 (.clo 58 (.ro .unit) (.ro .unit)), .own 7 (.ro (.int .i64)), .own 8 (.ro (.int .i64))])] b }
/- impl.Cam,int16] -/
noncomputable def I57 : Inst := { f := 57, nt := 9, params := [((.ro (.slc (.int .i16))), false), ((.clo 58 (.ro .unit) (.ro .unit)), false)], res := [(.ro .bool)], slots := [.tmp 4], code := bd Tryz.f57, callee := fun r i => find 0 [(1002, 70)] (r * 1000 + i) }
/- impl.ValidCam -/
noncomputable def I24 : Inst := { f := 24, nt := 11, params := [((.ro (.slc (.int .i16))), false)], res := [(.ro .bool)], slots := [.tmp 2], code := bd Tryz.f24, callee := fun r i => find 0 [(1001, 36), (1002, 56), (1005, 57)] (r * 1000 + i) }
/- impl.floorDiv -/
noncomputable def I79 : Inst := { f := 79, nt := 16, params := [((.ro (.int .i64)), false), ((.ro (.int .i64)), false)], res := [(.ro (.int .i64))], slots := [.tmp 4], code := bd Tryz.f79 }
/- impl.mod -/
noncomputable def I71 : Inst := { f := 71, nt := 12, params := [((.ro (.int .i64)), false), ((.ro (.int .i64)), false)], res := [(.ro (.int .i64))], slots := [.tmp 4], code := bd Tryz.f71, callee := fun r i => find 0 [(1004, 79)] (r * 1000 + i) }
/- impl.Cam).at -/
noncomputable def I62 : Inst := { f := 62, nt := 13, params := [((.ro (.slc (.int .i16))), false), ((.ro (.int .i64)), false)], res := [(.ro (.int .i64))], slots := [.tmp 4], code := bd Tryz.f62, callee := fun r i => find 0 [(1003, 36), (1004, 71)] (r * 1000 + i) }
/- impl.Cam).change -/
noncomputable def I59 : Inst := { f := 59, nt := 13, params := [((.ro (.slc (.int .i16))), false), ((.ro (.int .i64)), false)], res := [(.ro (.int .i64))], slots := [.tmp 4], code := bd Tryz.f59, callee := fun r i => find 0 [(1003, 62), (1006, 62)] (r * 1000 + i) }
/- impl.Cam).bend -/
noncomputable def I27 : Inst := { f := 27, nt := 13, params := [((.ro (.slc (.int .i16))), false), ((.ro (.int .i64)), false)], res := [(.ro (.int .i64))], slots := [.tmp 4], code := bd Tryz.f27, callee := fun r i => find 0 [(1002, 59), (1006, 59)] (r * 1000 + i) }
/- impl.Cam).numbers -/
noncomputable def I26 : Inst := { f := 26, nt := 21, params := [((.ro (.slc (.int .i16))), false), ((.clo 27 (.pr (.ro (.slc (.int .i16))) (.ro .unit)) (.ro .unit)), true)], res := [(.row false (.int .i64))], slots := [.tmp 4], code := bd Tryz.f26, strict := true, callee := fun r i => find 0 [(2001, 36), (5003, 27)] (r * 1000 + i), loops := fun b => find [] [(0, [.own 1 (.clo 27 (.pr (.ro (.slc (.int .i16))) (.ro .unit)) (.ro .unit)), .own 5 (.row false (.int .i64)), .own 9 (.ro (.int .i64)), .own 10 (.ro (.int .i64))])] b, pins := [1], deep := fun r i => find false [(1000, true), (5004, true), (5005, true)] (r * 1000 + i) }
/- slices.Min[[]int64,int64] -/
noncomputable def I25 : Inst := { f := 25, nt := 25, params := [((.ro (.slc (.int .i64))), false)], res := [(.ro (.int .i64))], slots := [.tmp 2], code := bd Tryz.f25, loops := fun b => find [] [(0, [.own 0 (.ro (.slc (.int .i64))), .own 3 (.ro (.int .i64)), .own 4 (.ro (.int .i64))])] b }
/- impl.LeastSpring -/
noncomputable def I7 : Inst := { f := 7, nt := 14, params := [((.ro (.slc (.int .i16))), false)], res := [(.ro (.int .i64)), (.ro (.int .i64))], slots := [.tmp 2, .tmp 3], code := bd Tryz.f7, callee := fun r i => find 0 [(1001, 24), (3003, 26), (3004, 25)] (r * 1000 + i) }
/- spec.l00In -/
noncomputable def I64 : Inst := { f := 64, nt := 15, params := [((.ro (.int .i64)), false), ((.ro (.int .i64)), false), ((.ro (.int .i64)), false)], res := [(.ro .bool)], slots := [.tmp 6], code := bd Tryz.f64 }
/- spec.l01Steps -/
noncomputable def I60 : Inst := { f := 60, nt := 5, params := [((.ro (.int .i64)), false)], res := [(.ro .bool)], slots := [.tmp 2], code := bd Tryz.f60, callee := fun r i => find 0 [(1001, 64)] (r * 1000 + i) }
/- spec.l01Lift -/
noncomputable def I61 : Inst := { f := 61, nt := 5, params := [((.ro (.int .i64)), false)], res := [(.ro .bool)], slots := [.tmp 2], code := bd Tryz.f61, callee := fun r i => find 0 [(1001, 64)] (r * 1000 + i) }
/- spec.l01Ok -/
noncomputable def I28 : Inst := { f := 28, nt := 21, params := [((.ro (.slc (.int .i16))), false)], res := [(.ro .bool)], slots := [.tmp 2], code := bd Tryz.f28, callee := fun r i => find 0 [(1002, 60), (6005, 61)] (r * 1000 + i), loops := fun b => find [] [(0, [.own 0 (.ro (.slc (.int .i16))), .own 3 (.ro (.int .i64))])] b }
/- spec.l01At -/
noncomputable def I43 : Inst := { f := 43, nt := 19, params := [((.ro (.slc (.int .i16))), false), ((.ro (.int .i64)), false)], res := [(.ro (.int .i64))], slots := [.tmp 4], code := bd Tryz.f43 }
/- spec.l01Bends -/
noncomputable def I29 : Inst := { f := 29, nt := 30, params := [((.ro (.slc (.int .i16))), false)], res := [(.row false (.int .i64))], slots := [.tmp 2], code := bd Tryz.f29, callee := fun r i => find 0 [(5004, 43), (5007, 43), (5013, 43)] (r * 1000 + i), loops := fun b => find [] [(0, [.own 0 (.ro (.slc (.int .i16))), .own 3 (.row false (.int .i64)), .own 4 (.ro (.int .i64))])] b, deep := fun r i => find false [(1000, true), (5015, true), (5016, true)] (r * 1000 + i) }
/- spec.LeastSpring -/
noncomputable def I8 : Inst := { f := 8, nt := 26, params := [((.ro (.slc (.int .i16))), false)], res := [(.ro (.int .i64)), (.ro (.int .i64))], slots := [.tmp 2, .tmp 3], code := bd Tryz.f8, callee := fun r i => find 0 [(1001, 28), (3001, 29), (8006, 30)] (r * 1000 + i), loops := fun b => find [] [(0, [.own 4 (.ro (.slc (.int .i64))), .own 5 (.ro (.int .i64)), .own 6 (.ro (.int .i64))])] b }
/- impl.isSpring -/
noncomputable def I32 : Inst := { f := 32, nt := 5, params := [((.ro (.int .i64)), false)], res := [(.ro .bool)], slots := [.tmp 2], code := bd Tryz.f32, callee := fun r i => find 0 [(1001, 31)] (r * 1000 + i) }
/- impl.ValidFollower -/
noncomputable def I9 : Inst := { f := 9, nt := 11, params := [((.ro (.pair (.int .i64) (.pair (.int .i64) .unit))), false)], res := [(.ro .bool)], slots := [.tmp 2], code := bd Tryz.f9, callee := fun r i => find 0 [(1002, 31), (1006, 32)] (r * 1000 + i) }
/- impl.camCode -/
noncomputable def I33 : Inst := { f := 33, nt := 13, params := [((.ro (.slc (.int .i16))), false), ((.ro (.pair (.int .i64) (.pair (.int .i64) .unit))), false)], res := [(.ro (.int .i64))], slots := [.tmp 4], code := bd Tryz.f33, callee := fun r i => find 0 [(1001, 24), (1005, 9)] (r * 1000 + i) }
/- impl.Track).next -/
noncomputable def I45 : Inst := { f := 45, nt := 29, params := [((.ro (.pair (.int .i64) (.pair (.int .i64) (.pair .bool .unit)))), false), ((.ro (.int .i64)), false), ((.ro (.int .i64)), false)], res := [(.ro (.pair (.int .i64) (.pair (.int .i64) (.pair .bool .unit))))], slots := [.cell 6 40], code := bd Tryz.f45 }
/- impl.Cam).follow -/
noncomputable def I35 : Inst := { f := 35, nt := 33, params := [((.ro (.slc (.int .i16))), false), ((.ro (.int .i64)), false), ((.ro (.int .i64)), false)], res := [(.row false (.pair (.int .i64) (.pair (.int .i64) (.pair .bool .unit))))], slots := [.tmp 6], code := bd Tryz.f35, callee := fun r i => find 0 [(1001, 62), (1003, 59), (6003, 62), (6005, 45)] (r * 1000 + i), loops := fun b => find [] [(0, [.own 0 (.ro (.slc (.int .i16))), .own 1 (.ro (.int .i64)), .own 2 (.ro (.int .i64)), .own 7 (.box (.ro (.pair (.int .i64) (.pair (.int .i64) (.pair .bool .unit))))), .own 8 (.row false (.pair (.int .i64) (.pair (.int .i64) (.pair .bool .unit)))), .own 9 (.ro (.int .i64))])] b, deep := fun r i => find false [(2001, true), (7002, true), (7003, true)] (r * 1000 + i) }
/- impl.LetsGoAt$1 -/
noncomputable def I37 : Inst := { f := 37, nt := 6, params := [((.ro (.pair (.int .i64) (.pair (.int .i64) (.pair .bool .unit)))), false)], res := [(.ro .bool)], slots := [.tmp 2], code := bd Tryz.f37 }
/- impl.Track] -/
noncomputable def I34 : Inst := { f := 34, nt := 19, params := [((.ro (.slc (.pair (.int .i64) (.pair (.int .i64) (.pair .bool .unit))))), false), ((.clo 37 (.ro .unit) (.ro .unit)), false)], res := [(.ro (.int .i64))], slots := [.tmp 4], code := bd Tryz.f34, callee := fun r i => find 0 [(4005, 37)] (r * 1000 + i), loops := fun b => find [] [(0, [.own 0 (.ro (.slc (.pair (.int .i64) (.pair (.int .i64) (.pair .bool .unit))))), .own 1 (.clo 37 (.ro .unit) (.ro .unit)), .own 7 (.ro (.int .i64)), .own 8 (.ro (.int .i64))])] b }
/- impl.LetsGoAt -/
noncomputable def I10 : Inst := { f := 10, nt := 21, params := [((.ro (.slc (.int .i16))), false), ((.ro (.pair (.int .i64) (.pair (.int .i64) .unit))), false)], res := [(.ro (.int .i64)), (.ro (.int .i64))], slots := [.tmp 4, .tmp 5], code := bd Tryz.f10, callee := fun r i => find 0 [(1002, 33), (3004, 36), (3005, 35), (3006, 34)] (r * 1000 + i) }
/- impl.followCode -/
noncomputable def I38 : Inst := { f := 38, nt := 16, params := [((.ro (.slc (.int .i16))), false), ((.ro (.pair (.int .i64) (.pair (.int .i64) .unit))), false), ((.ro (.int .i64)), false)], res := [(.ro (.int .i64))], slots := [.tmp 6], code := bd Tryz.f38, callee := fun r i => find 0 [(1002, 33), (3001, 31)] (r * 1000 + i) }
/- impl.Track] -/
noncomputable def I39 : Inst := { f := 39, nt := 8, params := [((.ro (.slc (.pair (.int .i64) (.pair (.int .i64) (.pair .bool .unit))))), false)], res := [(.row false (.pair (.int .i64) (.pair (.int .i64) (.pair .bool .unit))))], slots := [.tmp 2], code := bd Tryz.f39 }
/- impl.FollowCam -/
noncomputable def I11 : Inst := { f := 11, nt := 23, params := [((.ro (.slc (.int .i16))), false), ((.ro (.pair (.int .i64) (.pair (.int .i64) .unit))), false), ((.ro (.int .i64)), false)], res := [(.row false (.pair (.int .i64) (.pair (.int .i64) (.pair .bool .unit)))), (.ro (.int .i64))], slots := [.tmp 6, .tmp 7], code := bd Tryz.f11, callee := fun r i => find 0 [(1003, 38), (4004, 35), (4006, 39)] (r * 1000 + i), ice := fun r i => find [] [(4005, [20])] (r * 1000 + i) }
/- spec.l03Ok -/
noncomputable def I72 : Inst := { f := 72, nt := 11, params := [((.ro (.pair (.int .i64) (.pair (.int .i64) .unit))), false)], res := [(.ro .bool)], slots := [.tmp 2], code := bd Tryz.f72, callee := fun r i => find 0 [(1002, 64), (1006, 64)] (r * 1000 + i) }
/- spec.l03Asked -/
noncomputable def I63 : Inst := { f := 63, nt := 13, params := [((.ro (.slc (.int .i16))), false), ((.ro (.pair (.int .i64) (.pair (.int .i64) .unit))), false)], res := [(.ro (.int .i64))], slots := [.tmp 4], code := bd Tryz.f63, callee := fun r i => find 0 [(1001, 28), (1005, 72)] (r * 1000 + i) }
/- spec.l03Many -/
noncomputable def I40 : Inst := { f := 40, nt := 19, params := [((.ro (.slc (.int .i16))), false), ((.ro (.pair (.int .i64) (.pair (.int .i64) .unit))), false), ((.ro (.int .i64)), false)], res := [(.ro (.int .i64))], slots := [.tmp 6], code := bd Tryz.f40, callee := fun r i => find 0 [(1002, 63), (2004, 64)] (r * 1000 + i) }
/- spec.l03Begin -/
noncomputable def I65 : Inst := { f := 65, nt := 11, params := [((.ro (.slc (.int .i16))), false)], res := [(.ro (.pair (.int .i64) (.pair (.int .i64) (.pair .bool .unit))))], slots := [.cell 2 40], code := bd Tryz.f65, callee := fun r i => find 0 [(1001, 43), (1003, 43), (1005, 43)] (r * 1000 + i) }
/- spec.l03Next -/
noncomputable def I66 : Inst := { f := 66, nt := 29, params := [((.ro (.pair (.int .i64) (.pair (.int .i64) (.pair .bool .unit)))), false), ((.ro (.int .i64)), false), ((.ro (.int .i64)), false)], res := [(.ro (.pair (.int .i64) (.pair (.int .i64) (.pair .bool .unit))))], slots := [.cell 6 40], code := bd Tryz.f66 }
/- spec.l03Follow -/
noncomputable def I41 : Inst := { f := 41, nt := 31, params := [((.ro (.slc (.int .i16))), false), ((.ro (.int .i64)), false), ((.ro (.int .i64)), false)], res := [(.row false (.pair (.int .i64) (.pair (.int .i64) (.pair .bool .unit))))], slots := [.tmp 6], code := bd Tryz.f41, callee := fun r i => find 0 [(1001, 65), (5008, 43), (5010, 66)] (r * 1000 + i), loops := fun b => find [] [(0, [.own 0 (.ro (.slc (.int .i16))), .own 1 (.ro (.int .i64)), .own 2 (.ro (.int .i64)), .own 7 (.row false (.pair (.int .i64) (.pair (.int .i64) (.pair .bool .unit)))), .own 8 (.ro (.int .i64))])] b, deep := fun r i => find false [(1002, true), (5011, true), (5012, true)] (r * 1000 + i) }
/- spec.FollowCam -/
noncomputable def I12 : Inst := { f := 12, nt := 25, params := [((.ro (.slc (.int .i16))), false), ((.ro (.pair (.int .i64) (.pair (.int .i64) .unit))), false), ((.ro (.int .i64)), false)], res := [(.row false (.pair (.int .i64) (.pair (.int .i64) (.pair .bool .unit)))), (.ro (.int .i64))], slots := [.tmp 6, .tmp 7], code := bd Tryz.f12, callee := fun r i => find 0 [(1003, 40), (4005, 41)] (r * 1000 + i), deep := fun r i => find false [(3000, true), (4000, true), (4007, true)] (r * 1000 + i), ice := fun r i => find [] [(4006, [22])] (r * 1000 + i) }
/- spec.SameTracks -/
noncomputable def I13 : Inst := { f := 13, nt := 26, params := [((.ro (.slc (.pair (.int .i64) (.pair (.int .i64) (.pair .bool .unit))))), false), ((.ro (.slc (.pair (.int .i64) (.pair (.int .i64) (.pair .bool .unit))))), false)], res := [(.ro .bool)], slots := [.tmp 4], code := bd Tryz.f13, loops := fun b => find [] [(0, [.own 0 (.ro (.slc (.pair (.int .i64) (.pair (.int .i64) (.pair .bool .unit))))), .own 1 (.ro (.slc (.pair (.int .i64) (.pair (.int .i64) (.pair .bool .unit))))), .own 5 (.ro (.int .i64))])] b }
/- spec.l01Far -/
noncomputable def I42 : Inst := { f := 42, nt := 5, params := [((.ro (.int .i64)), false)], res := [(.ro .bool)], slots := [.tmp 2], code := bd Tryz.f42, callee := fun r i => find 0 [(1001, 64)] (r * 1000 + i) }
/- spec.LiftAt -/
noncomputable def I14 : Inst := { f := 14, nt := 15, params := [((.ro (.slc (.int .i16))), false), ((.ro (.int .i64)), false)], res := [(.ro (.int .i64)), (.ro (.int .i64))], slots := [.tmp 4, .tmp 5], code := bd Tryz.f14, callee := fun r i => find 0 [(1001, 28), (3001, 42), (5002, 43)] (r * 1000 + i) }
/- impl.NextTrack -/
noncomputable def I15 : Inst := { f := 15, nt := 33, params := [((.ro (.pair (.int .i64) (.pair (.int .i64) (.pair .bool .unit)))), false), ((.ro (.int .i64)), false), ((.ro (.int .i64)), false)], res := [(.ro (.pair (.int .i64) (.pair (.int .i64) (.pair .bool .unit)))), (.ro (.int .i64))], slots := [.cell 6 40, .tmp 7], code := bd Tryz.f15, callee := fun r i => find 0 [(1002, 31), (1007, 31), (1012, 44), (1017, 32), (3003, 45)] (r * 1000 + i) }
/- impl.FlownSteps -/
noncomputable def I16 : Inst := { f := 16, nt := 36, params := [((.ro (.slc (.int .i16))), false), ((.ro (.pair (.int .i64) (.pair (.int .i64) .unit))), false), ((.ro (.int .i64)), false)], res := [(.ro (.int .i64)), (.ro (.int .i64))], slots := [.tmp 6, .tmp 7], code := bd Tryz.f16, callee := fun r i => find 0 [(1003, 38), (5004, 35)] (r * 1000 + i), loops := fun b => find [] [(0, [.own 9 (.ro (.int .i64)), .own 23 (.ro (.slc (.pair (.int .i64) (.pair (.int .i64) (.pair .bool .unit))))), .own 24 (.ro (.int .i64)), .own 25 (.ro (.int .i64))])] b }
/- impl.landings -/
noncomputable def I46 : Inst := { f := 46, nt := 45, params := [((.ro (.slc (.pair (.int .i64) (.pair (.int .i64) (.pair .bool .unit))))), false), ((.ro (.int .i64)), false)], res := [(.row false (.pair (.int .i64) (.pair (.int .i64) .unit)))], slots := [.tmp 4], code := bd Tryz.f46, loops := fun b => find [] [(0, [.own 0 (.ro (.slc (.pair (.int .i64) (.pair (.int .i64) (.pair .bool .unit))))), .own 1 (.ro (.int .i64)), .own 5 (.row false (.pair (.int .i64) (.pair (.int .i64) .unit))), .own 6 (.ro (.int .i64))])] b, deep := fun r i => find false [(1000, true), (7010, true), (7011, true)] (r * 1000 + i) }
/- impl.HardestLanding -/
noncomputable def I17 : Inst := { f := 17, nt := 52, params := [((.ro (.slc (.int .i16))), false), ((.ro (.pair (.int .i64) (.pair (.int .i64) .unit))), false), ((.ro (.int .i64)), false)], res := [(.ro (.int .i64)), (.ro (.int .i64)), (.ro (.int .i64))], slots := [.tmp 6, .tmp 7, .tmp 8], code := bd Tryz.f17, callee := fun r i => find 0 [(1003, 38), (4004, 35), (4007, 46)] (r * 1000 + i), loops := fun b => find [] [(0, [.own 11 (.box (.ro (.pair (.int .i64) (.pair (.int .i64) .unit)))), .own 35 (.ro (.slc (.pair (.int .i64) (.pair (.int .i64) .unit)))), .own 36 (.ro (.int .i64)), .own 37 (.ro (.int .i64))])] b }
/- spec.l03Lands -/
noncomputable def I47 : Inst := { f := 47, nt := 19, params := [((.ro (.slc (.pair (.int .i64) (.pair (.int .i64) (.pair .bool .unit))))), false), ((.ro (.int .i64)), false)], res := [(.ro .bool)], slots := [.tmp 4], code := bd Tryz.f47 }
/- spec.l03Blow -/
noncomputable def I48 : Inst := { f := 48, nt := 35, params := [((.ro (.slc (.pair (.int .i64) (.pair (.int .i64) (.pair .bool .unit))))), false), ((.ro (.int .i64)), false), ((.ro (.int .i64)), false)], res := [(.ro (.int .i64))], slots := [.tmp 6], code := bd Tryz.f48 }
/- spec.HardestLanding -/
noncomputable def I18 : Inst := { f := 18, nt := 54, params := [((.ro (.slc (.int .i16))), false), ((.ro (.pair (.int .i64) (.pair (.int .i64) .unit))), false), ((.ro (.int .i64)), false)], res := [(.ro (.int .i64)), (.ro (.int .i64)), (.ro (.int .i64))], slots := [.tmp 6, .tmp 7, .tmp 8], code := bd Tryz.f18, callee := fun r i => find 0 [(1003, 40), (4004, 41), (10002, 47), (11004, 48)] (r * 1000 + i), loops := fun b => find [] [(0, [.own 2 (.ro (.int .i64)), .own 4 (.box (.ro (.pair (.int .i64) (.pair (.int .i64) .unit)))), .own 10 (.ro (.slc (.pair (.int .i64) (.pair (.int .i64) (.pair .bool .unit))))), .own 11 (.ro (.int .i64)), .own 12 (.ro (.int .i64)), .own 13 (.ro (.int .i64))])] b }
/- strconv.FormatInt: told by its contract -/
noncomputable def I69 : Inst := { f := 69, nt := 0, params := [((.ro (.int .i64)), false), ((.ro (.int .i64)), false)], res := [(.ro .str)], slots := [], code := .skip, ext := some (fun x => if x.2.1 = 10 ∧ -9223372036854775808 ≤ x.1 ∧ x.1 ≤ 9223372036854775807 then some (((⟨(Lib.itoa x.1).toArray⟩ : ByteArray), ()), ()) else none) }
/- impl.decimal -/
noncomputable def I51 : Inst := { f := 51, nt := 5, params := [((.ro (.int .i64)), false)], res := [(.ro .str)], slots := [.tmp 2], code := bd Tryz.f51, callee := fun r i => find 0 [(1001, 69)] (r * 1000 + i) }
/- impl.FollowerText -/
noncomputable def I20 : Inst := { f := 20, nt := 15, params := [((.ro (.pair (.int .i64) (.pair (.int .i64) .unit))), false)], res := [(.ro .str)], slots := [.tmp 2], code := bd Tryz.f20, callee := fun r i => find 0 [(1001, 9), (3002, 51), (3007, 51)] (r * 1000 + i) }
/- strings.Split: told by its contract -/
noncomputable def I49 : Inst := { f := 49, nt := 0, params := [((.ro .str), false), ((.ro .str), false)], res := [(.row false .str)], slots := [], code := .skip, ext := some (fun x => if x.1.size < 4294967281 ∧ 1 ≤ x.2.1.size then some ((Lib.splitB x.2.1 0 (Lib.countB x.1 x.2.1) x.1, ()), ()) else none) }
/- strconv.ParseInt: told by its contract -/
noncomputable def I68 : Inst := { f := 68, nt := 0, params := [((.ro .str), false), ((.ro (.int .i64)), false), ((.ro (.int .i64)), false)], res := [(.ro (.int .i64)), (.ro .err)], slots := [], code := .skip, ext := some (fun x => if x.1.size ≤ 281474976710656 ∧ x.2.1 = 10 ∧ x.2.2.1 = 64 then (match Lib.parseIntB 64 x.1.data.toList with | .ok v => some ((v, false, ()), ()) | _ => none) else none) }
/- impl.number -/
noncomputable def I50 : Inst := { f := 50, nt := 20, params := [((.ro .str), false)], res := [(.ro (.int .i64)), (.ro .bool)], slots := [.tmp 2, .tmp 3], code := bd Tryz.f50, callee := fun r i => find 0 [(1001, 68), (2005, 51)] (r * 1000 + i) }
/- impl.ReadFollower -/
noncomputable def I19 : Inst := { f := 19, nt := 40, params := [((.ro .str), false)], res := [(.ro (.pair (.int .i64) (.pair (.int .i64) .unit))), (.ro (.int .i64))], slots := [.cell 2 28, .tmp 3], code := bd Tryz.f19, callee := fun r i => find 0 [(1001, 49), (5003, 50), (6003, 50), (7001, 9), (7005, 20)] (r * 1000 + i) }
/- laws.FnFollowers -/
noncomputable def I3 : Inst := { f := 3, nt := 326, params := [((.ro (.slc (.int .u8))), false), ((.ro (.slc (.int .u8))), false)], res := [(.ro .bool)], slots := [.tmp 4], code := bd Tryz.f3, callee := fun r i => find 0 [(1001, 4), (1004, 4), (3001, 5), (5001, 6), (6001, 7), (7001, 8), (8014, 9), (10005, 10), (14006, 10), (17004, 11), (18004, 12), (19010, 13), (25003, 14), (31008, 15), (34004, 16), (35004, 17), (36004, 18), (37001, 20), (37002, 19)] (r * 1000 + i), loops := fun b => find [] [(0, [.own 5 (.ro (.slc (.int .i16))), .own 6 (.ro (.int .i64)), .own 7 (.box (.ro (.pair (.int .i64) (.pair (.int .i64) .unit)))), .own 18 (.ro (.slc (.pair (.int .i64) (.pair (.int .i64) (.pair .bool .unit))))), .own 20 (.ro (.int .i64)), .own 21 (.ro (.int .i64))])] b }
noncomputable def CL : List (Nat × Inst) := [(4, I4), (22, I22), (55, I55), (23, I23), (52, I52), (53, I53), (30, I30), (54, I54), (21, I21), (5, I5), (6, I6), (36, I36), (31, I31), (56, I56), (44, I44), (58, I58), (70, I70), (57, I57), (24, I24), (79, I79), (71, I71), (62, I62), (59, I59), (27, I27), (26, I26), (25, I25), (7, I7), (64, I64), (60, I60), (61, I61), (28, I28), (43, I43), (29, I29), (8, I8), (32, I32), (9, I9), (33, I33), (45, I45), (35, I35), (37, I37), (34, I34), (10, I10), (38, I38), (39, I39), (11, I11), (72, I72), (63, I63), (40, I40), (65, I65), (66, I66), (41, I41), (12, I12), (13, I13), (42, I42), (14, I14), (15, I15), (16, I16), (46, I46), (17, I17), (47, I47), (48, I48), (18, I18), (69, I69), (51, I51), (20, I20), (49, I49), (68, I68), (50, I50), (19, I19), (3, I3)]
noncomputable def C : Nat → Inst := find I4 CL
theorem tsOk : TsOk Tryz.prog T := tsOkB_sound (by kernel_rfl)
theorem ok4 : InstOk Tryz.prog I4 := instOk_of Tryz.func4 (by kernel_rfl) (by kernel_rfl) (by kernel_rfl) (by kernel_rfl)
theorem ok22 : InstOk Tryz.prog I22 := instOk_of Tryz.func22 (by kernel_rfl) (by kernel_rfl) (by kernel_rfl) (by kernel_rfl)
theorem ok55 : InstOk Tryz.prog I55 := instOk_of Tryz.func55 (by kernel_rfl) (by kernel_rfl) (by kernel_rfl) (by kernel_rfl)
theorem ok23 : InstOk Tryz.prog I23 := instOk_of Tryz.func23 (by kernel_rfl) (by kernel_rfl) (by kernel_rfl) (by kernel_rfl)
theorem ok52 : InstOk Tryz.prog I52 := instOk_of Tryz.func52 (by kernel_rfl) (by kernel_rfl) (by kernel_rfl) (by kernel_rfl)
theorem ok53 : InstOk Tryz.prog I53 := instOk_of Tryz.func53 (by kernel_rfl) (by kernel_rfl) (by kernel_rfl) (by kernel_rfl)
theorem ok30 : InstOk Tryz.prog I30 := instOk_of Tryz.func30 (by kernel_rfl) (by kernel_rfl) (by kernel_rfl) (by kernel_rfl)
theorem ok54 : InstOk Tryz.prog I54 := instOk_of Tryz.func54 (by kernel_rfl) (by kernel_rfl) (by kernel_rfl) (by kernel_rfl)
theorem ok21 : InstOk Tryz.prog I21 := instOk_of Tryz.func21 (by kernel_rfl) (by kernel_rfl) (by kernel_rfl) (by kernel_rfl)
theorem ok5 : InstOk Tryz.prog I5 := instOk_of Tryz.func5 (by kernel_rfl) (by kernel_rfl) (by kernel_rfl) (by kernel_rfl)
theorem ok6 : InstOk Tryz.prog I6 := instOk_of Tryz.func6 (by kernel_rfl) (by kernel_rfl) (by kernel_rfl) (by kernel_rfl)
theorem ok36 : InstOk Tryz.prog I36 := instOk_of Tryz.func36 (by kernel_rfl) (by kernel_rfl) (by kernel_rfl) (by kernel_rfl)
theorem ok31 : InstOk Tryz.prog I31 := instOk_of Tryz.func31 (by kernel_rfl) (by kernel_rfl) (by kernel_rfl) (by kernel_rfl)
theorem ok56 : InstOk Tryz.prog I56 := instOk_of Tryz.func56 (by kernel_rfl) (by kernel_rfl) (by kernel_rfl) (by kernel_rfl)
theorem ok44 : InstOk Tryz.prog I44 := instOk_of Tryz.func44 (by kernel_rfl) (by kernel_rfl) (by kernel_rfl) (by kernel_rfl)
theorem ok58 : InstOk Tryz.prog I58 := instOk_of Tryz.func58 (by kernel_rfl) (by kernel_rfl) (by kernel_rfl) (by kernel_rfl)
theorem ok70 : InstOk Tryz.prog I70 := instOk_of Tryz.func70 (by kernel_rfl) (by kernel_rfl) (by kernel_rfl) (by kernel_rfl)
theorem ok57 : InstOk Tryz.prog I57 := instOk_of Tryz.func57 (by kernel_rfl) (by kernel_rfl) (by kernel_rfl) (by kernel_rfl)
theorem ok24 : InstOk Tryz.prog I24 := instOk_of Tryz.func24 (by kernel_rfl) (by kernel_rfl) (by kernel_rfl) (by kernel_rfl)
theorem ok79 : InstOk Tryz.prog I79 := instOk_of Tryz.func79 (by kernel_rfl) (by kernel_rfl) (by kernel_rfl) (by kernel_rfl)
theorem ok71 : InstOk Tryz.prog I71 := instOk_of Tryz.func71 (by kernel_rfl) (by kernel_rfl) (by kernel_rfl) (by kernel_rfl)
theorem ok62 : InstOk Tryz.prog I62 := instOk_of Tryz.func62 (by kernel_rfl) (by kernel_rfl) (by kernel_rfl) (by kernel_rfl)
theorem ok59 : InstOk Tryz.prog I59 := instOk_of Tryz.func59 (by kernel_rfl) (by kernel_rfl) (by kernel_rfl) (by kernel_rfl)
theorem ok27 : InstOk Tryz.prog I27 := instOk_of Tryz.func27 (by kernel_rfl) (by kernel_rfl) (by kernel_rfl) (by kernel_rfl)
theorem ok26 : InstOk Tryz.prog I26 := instOk_of Tryz.func26 (by kernel_rfl) (by kernel_rfl) (by kernel_rfl) (by kernel_rfl)
theorem ok25 : InstOk Tryz.prog I25 := instOk_of Tryz.func25 (by kernel_rfl) (by kernel_rfl) (by kernel_rfl) (by kernel_rfl)
theorem ok7 : InstOk Tryz.prog I7 := instOk_of Tryz.func7 (by kernel_rfl) (by kernel_rfl) (by kernel_rfl) (by kernel_rfl)
theorem ok64 : InstOk Tryz.prog I64 := instOk_of Tryz.func64 (by kernel_rfl) (by kernel_rfl) (by kernel_rfl) (by kernel_rfl)
theorem ok60 : InstOk Tryz.prog I60 := instOk_of Tryz.func60 (by kernel_rfl) (by kernel_rfl) (by kernel_rfl) (by kernel_rfl)
theorem ok61 : InstOk Tryz.prog I61 := instOk_of Tryz.func61 (by kernel_rfl) (by kernel_rfl) (by kernel_rfl) (by kernel_rfl)
theorem ok28 : InstOk Tryz.prog I28 := instOk_of Tryz.func28 (by kernel_rfl) (by kernel_rfl) (by kernel_rfl) (by kernel_rfl)
theorem ok43 : InstOk Tryz.prog I43 := instOk_of Tryz.func43 (by kernel_rfl) (by kernel_rfl) (by kernel_rfl) (by kernel_rfl)
theorem ok29 : InstOk Tryz.prog I29 := instOk_of Tryz.func29 (by kernel_rfl) (by kernel_rfl) (by kernel_rfl) (by kernel_rfl)
theorem ok8 : InstOk Tryz.prog I8 := instOk_of Tryz.func8 (by kernel_rfl) (by kernel_rfl) (by kernel_rfl) (by kernel_rfl)
theorem ok32 : InstOk Tryz.prog I32 := instOk_of Tryz.func32 (by kernel_rfl) (by kernel_rfl) (by kernel_rfl) (by kernel_rfl)
theorem ok9 : InstOk Tryz.prog I9 := instOk_of Tryz.func9 (by kernel_rfl) (by kernel_rfl) (by kernel_rfl) (by kernel_rfl)
theorem ok33 : InstOk Tryz.prog I33 := instOk_of Tryz.func33 (by kernel_rfl) (by kernel_rfl) (by kernel_rfl) (by kernel_rfl)
theorem ok45 : InstOk Tryz.prog I45 := instOk_of Tryz.func45 (by kernel_rfl) (by kernel_rfl) (by kernel_rfl) (by kernel_rfl)
theorem ok35 : InstOk Tryz.prog I35 := instOk_of Tryz.func35 (by kernel_rfl) (by kernel_rfl) (by kernel_rfl) (by kernel_rfl)
theorem ok37 : InstOk Tryz.prog I37 := instOk_of Tryz.func37 (by kernel_rfl) (by kernel_rfl) (by kernel_rfl) (by kernel_rfl)
theorem ok34 : InstOk Tryz.prog I34 := instOk_of Tryz.func34 (by kernel_rfl) (by kernel_rfl) (by kernel_rfl) (by kernel_rfl)
theorem ok10 : InstOk Tryz.prog I10 := instOk_of Tryz.func10 (by kernel_rfl) (by kernel_rfl) (by kernel_rfl) (by kernel_rfl)
theorem ok38 : InstOk Tryz.prog I38 := instOk_of Tryz.func38 (by kernel_rfl) (by kernel_rfl) (by kernel_rfl) (by kernel_rfl)
theorem ok39 : InstOk Tryz.prog I39 := instOk_of Tryz.func39 (by kernel_rfl) (by kernel_rfl) (by kernel_rfl) (by kernel_rfl)
theorem ok11 : InstOk Tryz.prog I11 := instOk_of Tryz.func11 (by kernel_rfl) (by kernel_rfl) (by kernel_rfl) (by kernel_rfl)
theorem ok72 : InstOk Tryz.prog I72 := instOk_of Tryz.func72 (by kernel_rfl) (by kernel_rfl) (by kernel_rfl) (by kernel_rfl)
theorem ok63 : InstOk Tryz.prog I63 := instOk_of Tryz.func63 (by kernel_rfl) (by kernel_rfl) (by kernel_rfl) (by kernel_rfl)
theorem ok40 : InstOk Tryz.prog I40 := instOk_of Tryz.func40 (by kernel_rfl) (by kernel_rfl) (by kernel_rfl) (by kernel_rfl)
theorem ok65 : InstOk Tryz.prog I65 := instOk_of Tryz.func65 (by kernel_rfl) (by kernel_rfl) (by kernel_rfl) (by kernel_rfl)
theorem ok66 : InstOk Tryz.prog I66 := instOk_of Tryz.func66 (by kernel_rfl) (by kernel_rfl) (by kernel_rfl) (by kernel_rfl)
theorem ok41 : InstOk Tryz.prog I41 := instOk_of Tryz.func41 (by kernel_rfl) (by kernel_rfl) (by kernel_rfl) (by kernel_rfl)
theorem ok12 : InstOk Tryz.prog I12 := instOk_of Tryz.func12 (by kernel_rfl) (by kernel_rfl) (by kernel_rfl) (by kernel_rfl)
theorem ok13 : InstOk Tryz.prog I13 := instOk_of Tryz.func13 (by kernel_rfl) (by kernel_rfl) (by kernel_rfl) (by kernel_rfl)
theorem ok42 : InstOk Tryz.prog I42 := instOk_of Tryz.func42 (by kernel_rfl) (by kernel_rfl) (by kernel_rfl) (by kernel_rfl)
theorem ok14 : InstOk Tryz.prog I14 := instOk_of Tryz.func14 (by kernel_rfl) (by kernel_rfl) (by kernel_rfl) (by kernel_rfl)
theorem ok15 : InstOk Tryz.prog I15 := instOk_of Tryz.func15 (by kernel_rfl) (by kernel_rfl) (by kernel_rfl) (by kernel_rfl)
theorem ok16 : InstOk Tryz.prog I16 := instOk_of Tryz.func16 (by kernel_rfl) (by kernel_rfl) (by kernel_rfl) (by kernel_rfl)
theorem ok46 : InstOk Tryz.prog I46 := instOk_of Tryz.func46 (by kernel_rfl) (by kernel_rfl) (by kernel_rfl) (by kernel_rfl)
theorem ok17 : InstOk Tryz.prog I17 := instOk_of Tryz.func17 (by kernel_rfl) (by kernel_rfl) (by kernel_rfl) (by kernel_rfl)
theorem ok47 : InstOk Tryz.prog I47 := instOk_of Tryz.func47 (by kernel_rfl) (by kernel_rfl) (by kernel_rfl) (by kernel_rfl)
theorem ok48 : InstOk Tryz.prog I48 := instOk_of Tryz.func48 (by kernel_rfl) (by kernel_rfl) (by kernel_rfl) (by kernel_rfl)
theorem ok18 : InstOk Tryz.prog I18 := instOk_of Tryz.func18 (by kernel_rfl) (by kernel_rfl) (by kernel_rfl) (by kernel_rfl)
theorem ok69 : InstOk Tryz.prog I69 := instOk_ext rfl
theorem ok51 : InstOk Tryz.prog I51 := instOk_of Tryz.func51 (by kernel_rfl) (by kernel_rfl) (by kernel_rfl) (by kernel_rfl)
theorem ok20 : InstOk Tryz.prog I20 := instOk_of Tryz.func20 (by kernel_rfl) (by kernel_rfl) (by kernel_rfl) (by kernel_rfl)
theorem ok49 : InstOk Tryz.prog I49 := instOk_ext rfl
theorem ok68 : InstOk Tryz.prog I68 := instOk_ext rfl
theorem ok50 : InstOk Tryz.prog I50 := instOk_of Tryz.func50 (by kernel_rfl) (by kernel_rfl) (by kernel_rfl) (by kernel_rfl)
theorem ok19 : InstOk Tryz.prog I19 := instOk_of Tryz.func19 (by kernel_rfl) (by kernel_rfl) (by kernel_rfl) (by kernel_rfl)
theorem ok3 : InstOk Tryz.prog I3 := instOk_of Tryz.func3 (by kernel_rfl) (by kernel_rfl) (by kernel_rfl) (by kernel_rfl)
theorem insts : ∀ j, InstOk Tryz.prog (C j) := find_all ok4 (List.forall_mem_cons.2 ⟨ok4, List.forall_mem_cons.2 ⟨ok22, List.forall_mem_cons.2 ⟨ok55, List.forall_mem_cons.2 ⟨ok23, List.forall_mem_cons.2 ⟨ok52, List.forall_mem_cons.2 ⟨ok53, List.forall_mem_cons.2 ⟨ok30, List.forall_mem_cons.2 ⟨ok54, List.forall_mem_cons.2 ⟨ok21, List.forall_mem_cons.2 ⟨ok5, List.forall_mem_cons.2 ⟨ok6, List.forall_mem_cons.2 ⟨ok36, List.forall_mem_cons.2 ⟨ok31, List.forall_mem_cons.2 ⟨ok56, List.forall_mem_cons.2 ⟨ok44, List.forall_mem_cons.2 ⟨ok58, List.forall_mem_cons.2 ⟨ok70, List.forall_mem_cons.2 ⟨ok57, List.forall_mem_cons.2 ⟨ok24, List.forall_mem_cons.2 ⟨ok79, List.forall_mem_cons.2 ⟨ok71, List.forall_mem_cons.2 ⟨ok62, List.forall_mem_cons.2 ⟨ok59, List.forall_mem_cons.2 ⟨ok27, List.forall_mem_cons.2 ⟨ok26, List.forall_mem_cons.2 ⟨ok25, List.forall_mem_cons.2 ⟨ok7, List.forall_mem_cons.2 ⟨ok64, List.forall_mem_cons.2 ⟨ok60, List.forall_mem_cons.2 ⟨ok61, List.forall_mem_cons.2 ⟨ok28, List.forall_mem_cons.2 ⟨ok43, List.forall_mem_cons.2 ⟨ok29, List.forall_mem_cons.2 ⟨ok8, List.forall_mem_cons.2 ⟨ok32, List.forall_mem_cons.2 ⟨ok9, List.forall_mem_cons.2 ⟨ok33, List.forall_mem_cons.2 ⟨ok45, List.forall_mem_cons.2 ⟨ok35, List.forall_mem_cons.2 ⟨ok37, List.forall_mem_cons.2 ⟨ok34, List.forall_mem_cons.2 ⟨ok10, List.forall_mem_cons.2 ⟨ok38, List.forall_mem_cons.2 ⟨ok39, List.forall_mem_cons.2 ⟨ok11, List.forall_mem_cons.2 ⟨ok72, List.forall_mem_cons.2 ⟨ok63, List.forall_mem_cons.2 ⟨ok40, List.forall_mem_cons.2 ⟨ok65, List.forall_mem_cons.2 ⟨ok66, List.forall_mem_cons.2 ⟨ok41, List.forall_mem_cons.2 ⟨ok12, List.forall_mem_cons.2 ⟨ok13, List.forall_mem_cons.2 ⟨ok42, List.forall_mem_cons.2 ⟨ok14, List.forall_mem_cons.2 ⟨ok15, List.forall_mem_cons.2 ⟨ok16, List.forall_mem_cons.2 ⟨ok46, List.forall_mem_cons.2 ⟨ok17, List.forall_mem_cons.2 ⟨ok47, List.forall_mem_cons.2 ⟨ok48, List.forall_mem_cons.2 ⟨ok18, List.forall_mem_cons.2 ⟨ok69, List.forall_mem_cons.2 ⟨ok51, List.forall_mem_cons.2 ⟨ok20, List.forall_mem_cons.2 ⟨ok49, List.forall_mem_cons.2 ⟨ok68, List.forall_mem_cons.2 ⟨ok50, List.forall_mem_cons.2 ⟨ok19, List.forall_mem_cons.2 ⟨ok3, fun _ h => absurd h List.not_mem_nil⟩⟩⟩⟩⟩⟩⟩⟩⟩⟩⟩⟩⟩⟩⟩⟩⟩⟩⟩⟩⟩⟩⟩⟩⟩⟩⟩⟩⟩⟩⟩⟩⟩⟩⟩⟩⟩⟩⟩⟩⟩⟩⟩⟩⟩⟩⟩⟩⟩⟩⟩⟩⟩⟩⟩⟩⟩⟩⟩⟩⟩⟩⟩⟩⟩⟩⟩⟩⟩⟩)
theorem c69 : C 69 = I69 := by kernel_rfl
theorem c49 : C 49 = I49 := by kernel_rfl
theorem c68 : C 68 = I68 := by kernel_rfl
theorem exts {L : Laid} (h69 : ExtOk Tryz.prog L I69) (h49 : ExtOk Tryz.prog L I49) (h68 : ExtOk Tryz.prog L I68) : ∀ j, ExtOk Tryz.prog L (C j) := by
  have hC : C = find I4 CL := by delta C; with_reducible rfl
  refine fun j => exts_of (C := C) _ _ [69, 49, 68] hC (by kernel_rfl) (by kernel_rfl) ?_ j
  intro e he
  change ExtOk _ _ (C e)
  simp only [List.mem_cons, List.not_mem_nil, or_false] at he
  rcases he with rfl | rfl | rfl
  · rw [c69]; exact h69
  · rw [c49]; exact h49
  · rw [c68]; exact h68
end Go.Proofs.YtoafnbpahdnchaaGreatDoor.LFo
