/- The types and the functions that a law reaches, told for the reading (Fw). Written by a program (gen.py). -/
import Derived.Test.YtgcncghbeplgnaaFwC
import Derived.Test.YtgcncghbeplgnaaProg
namespace Go.Proofs.Ytgcncghbeplgnaa.LMa
open Go Go.Fw
open Go.Proofs
noncomputable def tyL : List (Nat × TI) := [(2, ⟨(.int .i64), 0, 8⟩),
  (3, ⟨(.int .i64), 0, 8⟩),
  (4, ⟨.bool, 0, 1⟩),
  (5, ⟨(.int .u8), 0, 1⟩),
  (22, ⟨(.slc (.int .u8)), 5, 24⟩),
  (25, ⟨(.slc (.int .i16)), 35, 24⟩),
  (35, ⟨(.int .i16), 0, 2⟩),
  (38, ⟨(.slc (.pair (.int .i8) (.pair (.int .i16) (.pair (.int .i16) .unit)))), 47, 24⟩),
  (41, ⟨(.slc (.int .i64)), 2, 24⟩),
  (45, ⟨(.int .i8), 0, 1⟩),
  (47, ⟨(.pair (.int .i8) (.pair (.int .i16) (.pair (.int .i16) .unit))), 0, 6⟩),
  (96, ⟨.fn, 0, 8⟩),
  (98, ⟨(.ptr (.pair (.slc (.int .u8)) (.pair (.int .i64) (.pair (.int .u64) .unit)))), 0, 8⟩),
  (158, ⟨(.int .u64), 0, 8⟩),
  (160, ⟨(.pair (.slc (.int .u8)) (.pair (.int .i64) (.pair (.int .u64) .unit))), 0, 40⟩),
  (162, ⟨.fn, 0, 8⟩)]
noncomputable def T : Nat → Option TI := findT tyL
/- laws.f6big -/
noncomputable def I8 : Inst := { f := 8, nt := 6, params := [((.ro (.slc (.int .u8))), false)], res := [(.ro .bool)], slots := [.tmp 2], code := bd Try.f8 }
/- spec.l00From -/
noncomputable def I75 : Inst := { f := 75, nt := 6, params := [((.ro (.slc (.int .u8))), false)], res := [(.box (.ro (.pair (.slc (.int .u8)) (.pair (.int .i64) (.pair (.int .u64) .unit)))))], slots := [.tmp 2], code := bd Try.f75, strict := true }
/- spec.l00Src).next -/
noncomputable def I165 : Inst := { f := 165, nt := 62, params := [((.box (.ro (.pair (.slc (.int .u8)) (.pair (.int .i64) (.pair (.int .u64) .unit))))), true)], res := [(.ro (.int .i64))], slots := [.tmp 2], code := bd Try.f165, strict := true, pins := [0] }
/- spec.l00Src).pick -/
noncomputable def I76 : Inst := { f := 76, nt := 20, params := [((.box (.ro (.pair (.slc (.int .u8)) (.pair (.int .i64) (.pair (.int .u64) .unit))))), true), ((.ro (.int .i64)), false)], res := [(.ro (.int .i64))], slots := [.tmp 4], code := bd Try.f76, strict := true, callee := fun r i => find 0 [(3001, 165), (5003, 165)] (r * 1000 + i), pins := [0] }
/- spec.l00Src).among -/
noncomputable def I162 : Inst := { f := 162, nt := 12, params := [((.box (.ro (.pair (.slc (.int .u8)) (.pair (.int .i64) (.pair (.int .u64) .unit))))), true), ((.ro (.slc (.int .i64))), false)], res := [(.ro (.int .i64))], slots := [.tmp 4], code := bd Try.f162, strict := true, callee := fun r i => find 0 [(1004, 76)] (r * 1000 + i), pins := [0] }
/- spec.l00Min -/
noncomputable def I164 : Inst := { f := 164, nt := 10, params := [((.ro (.int .i64)), false), ((.ro (.int .i64)), false)], res := [(.ro (.int .i64))], slots := [.tmp 4], code := bd Try.f164 }
/- spec.l00Max -/
noncomputable def I163 : Inst := { f := 163, nt := 10, params := [((.ro (.int .i64)), false), ((.ro (.int .i64)), false)], res := [(.ro (.int .i64))], slots := [.tmp 4], code := bd Try.f163 }
/- spec.l00Src).one -/
noncomputable def I146 : Inst := { f := 146, nt := 9, params := [((.box (.ro (.pair (.slc (.int .u8)) (.pair (.int .i64) (.pair (.int .u64) .unit))))), true), ((.ro (.int .i64)), false)], res := [(.ro .bool)], slots := [.tmp 4], code := bd Try.f146, strict := true, callee := fun r i => find 0 [(1002, 76)] (r * 1000 + i), pins := [0] }
/- spec.l01Drawn -/
noncomputable def I74 : Inst := { f := 74, nt := 60, params := [((.box (.ro (.pair (.slc (.int .u8)) (.pair (.int .i64) (.pair (.int .u64) .unit))))), true)], res := [(.ro (.slc (.int .i16)))], slots := [.tmp 2], code := bd Try.f74, strict := true, callee := fun r i => find 0 [(1002, 162), (3001, 76), (5001, 76), (6001, 76), (9003, 164), (9004, 163), (11001, 146)] (r * 1000 + i), loops := fun b => find [] [(2, [.own 0 (.box (.ro (.pair (.slc (.int .u8)) (.pair (.int .i64) (.pair (.int .u64) .unit))))), .own 3 (.ro (.int .i64)), .own 4 (.row false (.int .i16)), .own 5 (.ro (.int .i64)), .own 6 (.ro (.int .i64)), .own 7 (.ro (.int .i64))]), (0, [.own 0 (.box (.ro (.pair (.slc (.int .u8)) (.pair (.int .i64) (.pair (.int .u64) .unit))))), .own 3 (.ro (.int .i64)), .own 4 (.row false (.int .i16)), .own 5 (.ro (.int .i64))])] b, pins := [0], deep := fun r i => find false [(1001, true), (2000, true), (10003, true), (10004, true), (14000, true), (14002, true), (14004, true)] (r * 1000 + i), frz := fun r i => find false [(1001, true)] (r * 1000 + i), ice := fun r i => find [] [(12003, [47, 4, 15])] (r * 1000 + i) }
/- spec.P6Cam -/
noncomputable def I9 : Inst := { f := 9, nt := 6, params := [((.ro (.slc (.int .u8))), false)], res := [(.ro (.slc (.int .i16)))], slots := [.tmp 2], code := bd Try.f9, strict := true, callee := fun r i => find 0 [(1001, 75), (1002, 74)] (r * 1000 + i) }
/- spec.P6Like -/
noncomputable def I10 : Inst := { f := 10, nt := 24, params := [((.ro (.slc (.int .u8))), false), ((.ro (.slc (.int .i16))), false)], res := [(.row false (.int .i16))], slots := [.tmp 4], code := bd Try.f10, callee := fun r i => find 0 [(1001, 75), (6002, 76)] (r * 1000 + i), loops := fun b => find [] [(0, [.own 1 (.ro (.slc (.int .i16))), .own 5 (.box (.ro (.pair (.slc (.int .u8)) (.pair (.int .i64) (.pair (.int .u64) .unit))))), .own 6 (.row false (.int .i16)), .own 7 (.ro (.int .i64))])] b, deep := fun r i => find false [(2000, true), (6004, true), (6005, true)] (r * 1000 + i) }
/- impl.Cam).steps -/
noncomputable def I79 : Inst := { f := 79, nt := 5, params := [((.ro (.slc (.int .i16))), false)], res := [(.ro (.int .i64))], slots := [.tmp 2], code := bd Try.f79 }
/- impl.inRange -/
noncomputable def I84 : Inst := { f := 84, nt := 15, params := [((.ro (.int .i64)), false), ((.ro (.int .i64)), false), ((.ro (.int .i64)), false)], res := [(.ro .bool)], slots := [.tmp 6], code := bd Try.f84 }
/- impl.isSteps -/
noncomputable def I93 : Inst := { f := 93, nt := 5, params := [((.ro (.int .i64)), false)], res := [(.ro .bool)], slots := [.tmp 2], code := bd Try.f93, callee := fun r i => find 0 [(1001, 84)] (r * 1000 + i) }
/- impl.isLift -/
noncomputable def I114 : Inst := { f := 114, nt := 5, params := [((.ro (.int .i64)), false)], res := [(.ro .bool)], slots := [.tmp 2], code := bd Try.f114, callee := fun r i => find 0 [(1001, 84)] (r * 1000 + i) }
/- impl.ValidCam$1 -/
noncomputable def I169 : Inst := { f := 169, nt := 7, params := [((.ro (.int .i16)), false)], res := [(.ro .bool)], slots := [.tmp 2], code := bd Try.f169, callee := fun r i => find 0 [(1002, 114)] (r * 1000 + i) }
/- impl.Cam,int16] -/
noncomputable def I196 : Inst := { f := 196, nt := 19, params := [((.ro (.slc (.int .i16))), false), ((.clo 169 (.ro .unit) (.ro .unit)), false)], res := [(.ro (.int .i64))], slots := [.tmp 4], code := bd Try.f196, callee := fun r i => find 0 [(4005, 169)] (r * 1000 + i), loops := fun b => find [] [(0, [.own 0 (.ro (.slc (.int .i16))), .own 1 (.clo 169 (.ro .unit) (.ro .unit)), .own 7 (.ro (.int .i64)), .own 8 (.ro (.int .i64))])] b }
/- impl.Cam,int16] -/
noncomputable def I168 : Inst := { f := 168, nt := 9, params := [((.ro (.slc (.int .i16))), false), ((.clo 169 (.ro .unit) (.ro .unit)), false)], res := [(.ro .bool)], slots := [.tmp 4], code := bd Try.f168, callee := fun r i => find 0 [(1002, 196)] (r * 1000 + i) }
/- impl.ValidCam -/
noncomputable def I89 : Inst := { f := 89, nt := 11, params := [((.ro (.slc (.int .i16))), false)], res := [(.ro .bool)], slots := [.tmp 2], code := bd Try.f89, callee := fun r i => find 0 [(1001, 79), (1002, 93), (1005, 168)] (r * 1000 + i) }
/- impl.pairCode -/
noncomputable def I77 : Inst := { f := 77, nt := 20, params := [((.ro (.slc (.int .i16))), false), ((.ro (.slc (.int .i16))), false)], res := [(.ro (.int .i64))], slots := [.tmp 4], code := bd Try.f77, callee := fun r i => find 0 [(1001, 89), (1005, 89)] (r * 1000 + i) }
/- impl.floorDiv -/
noncomputable def I167 : Inst := { f := 167, nt := 16, params := [((.ro (.int .i64)), false), ((.ro (.int .i64)), false)], res := [(.ro (.int .i64))], slots := [.tmp 4], code := bd Try.f167 }
/- impl.mod -/
noncomputable def I154 : Inst := { f := 154, nt := 12, params := [((.ro (.int .i64)), false), ((.ro (.int .i64)), false)], res := [(.ro (.int .i64))], slots := [.tmp 4], code := bd Try.f154, callee := fun r i => find 0 [(1004, 167)] (r * 1000 + i) }
/- impl.Cam).at -/
noncomputable def I81 : Inst := { f := 81, nt := 13, params := [((.ro (.slc (.int .i16))), false), ((.ro (.int .i64)), false)], res := [(.ro (.int .i64))], slots := [.tmp 4], code := bd Try.f81, callee := fun r i => find 0 [(1003, 79), (1004, 154)] (r * 1000 + i) }
/- impl.AddCams$1 -/
noncomputable def I80 : Inst := { f := 80, nt := 12, params := [((.ro (.int .i64)), false), ((.box (.ro (.slc (.int .i16)))), true), ((.box (.ro (.slc (.int .i16)))), true)], res := [(.ro (.int .i64))], slots := [.tmp 4], code := bd Try.f80, strict := true, callee := fun r i => find 0 [(1002, 81), (1005, 81)] (r * 1000 + i), pins := [1, 2] }
/- impl.camOf -/
noncomputable def I78 : Inst := { f := 78, nt := 27, params := [((.ro (.int .i64)), false), ((.clo 80 (.ro .unit) (.pr (.box (.ro (.slc (.int .i16)))) (.pr (.box (.ro (.slc (.int .i16)))) (.ro .unit)))), true)], res := [(.row false (.int .i16)), (.ro (.int .i64))], slots := [.tmp 4, .tmp 5], code := bd Try.f78, strict := true, callee := fun r i => find 0 [(5002, 80), (6001, 114)] (r * 1000 + i), loops := fun b => find [] [(0, [.own 1 (.clo 80 (.ro .unit) (.pr (.box (.ro (.slc (.int .i16)))) (.pr (.box (.ro (.slc (.int .i16)))) (.ro .unit)))), .own 6 (.row false (.int .i16)), .own 10 (.ro (.int .i64)), .own 11 (.ro (.int .i64))])] b, pins := [1], deep := fun r i => find false [(1000, true), (8003, true), (8004, true)] (r * 1000 + i) }
/- impl.AddCams -/
noncomputable def I11 : Inst := { f := 11, nt := 19, params := [((.ro (.slc (.int .i16))), false), ((.ro (.slc (.int .i16))), false)], res := [(.row false (.int .i16)), (.ro (.int .i64))], slots := [.tmp 4, .tmp 5], code := bd Try.f11, callee := fun r i => find 0 [(1002, 77), (4001, 79), (4003, 78)] (r * 1000 + i) }
/- spec.l00In -/
noncomputable def I87 : Inst := { f := 87, nt := 15, params := [((.ro (.int .i64)), false), ((.ro (.int .i64)), false), ((.ro (.int .i64)), false)], res := [(.ro .bool)], slots := [.tmp 6], code := bd Try.f87 }
/- spec.l01Steps -/
noncomputable def I97 : Inst := { f := 97, nt := 5, params := [((.ro (.int .i64)), false)], res := [(.ro .bool)], slots := [.tmp 2], code := bd Try.f97, callee := fun r i => find 0 [(1001, 87)] (r * 1000 + i) }
/- spec.l01Lift -/
noncomputable def I166 : Inst := { f := 166, nt := 5, params := [((.ro (.int .i64)), false)], res := [(.ro .bool)], slots := [.tmp 2], code := bd Try.f166, callee := fun r i => find 0 [(1001, 87)] (r * 1000 + i) }
/- spec.l01Ok -/
noncomputable def I95 : Inst := { f := 95, nt := 21, params := [((.ro (.slc (.int .i16))), false)], res := [(.ro .bool)], slots := [.tmp 2], code := bd Try.f95, callee := fun r i => find 0 [(1002, 97), (6005, 166)] (r * 1000 + i), loops := fun b => find [] [(0, [.own 0 (.ro (.slc (.int .i16))), .own 3 (.ro (.int .i64))])] b }
/- spec.l01Two -/
noncomputable def I82 : Inst := { f := 82, nt := 18, params := [((.ro (.slc (.int .i16))), false), ((.ro (.slc (.int .i16))), false)], res := [(.ro (.int .i64))], slots := [.tmp 4], code := bd Try.f82, callee := fun r i => find 0 [(1001, 95), (1005, 95)] (r * 1000 + i) }
/- spec.l01Made -/
noncomputable def I83 : Inst := { f := 83, nt := 29, params := [((.ro (.slc (.int .i64))), false)], res := [(.row false (.int .i16)), (.ro (.int .i64))], slots := [.tmp 2, .tmp 3], code := bd Try.f83, callee := fun r i => find 0 [(5004, 166)] (r * 1000 + i), loops := fun b => find [] [(0, [.own 0 (.ro (.slc (.int .i64))), .own 4 (.row false (.int .i16)), .own 5 (.ro (.int .i64))])] b, deep := fun r i => find false [(1000, true), (6000, true), (7006, true), (7007, true)] (r * 1000 + i) }
/- spec.AddCams -/
noncomputable def I12 : Inst := { f := 12, nt := 41, params := [((.ro (.slc (.int .i16))), false), ((.ro (.slc (.int .i16))), false)], res := [(.row false (.int .i16)), (.ro (.int .i64))], slots := [.tmp 4, .tmp 5], code := bd Try.f12, callee := fun r i => find 0 [(1002, 82), (9001, 83)] (r * 1000 + i), loops := fun b => find [] [(0, [.own 0 (.ro (.slc (.int .i16))), .own 1 (.ro (.slc (.int .i16))), .own 7 (.row false (.int .i64)), .own 8 (.ro (.int .i64))])] b, deep := fun r i => find false [(3000, true), (4000, true), (8012, true), (8013, true)] (r * 1000 + i) }
/- spec.P6Pick -/
noncomputable def I13 : Inst := { f := 13, nt := 9, params := [((.ro (.slc (.int .u8))), false), ((.ro (.int .i64)), false)], res := [(.ro (.int .i64))], slots := [.tmp 4], code := bd Try.f13, callee := fun r i => find 0 [(1001, 75), (1003, 76)] (r * 1000 + i) }
/- impl.nearest -/
noncomputable def I86 : Inst := { f := 86, nt := 12, params := [((.ro (.int .i64)), false), ((.ro (.int .i64)), false)], res := [(.ro (.int .i64))], slots := [.tmp 4], code := bd Try.f86, callee := fun r i => find 0 [(1006, 167)] (r * 1000 + i) }
/- impl.BlendCams$1 -/
noncomputable def I85 : Inst := { f := 85, nt := 19, params := [((.ro (.int .i64)), false), ((.box (.ro (.slc (.int .i16)))), true), ((.box (.ro (.int .i64))), true), ((.box (.ro (.slc (.int .i16)))), true)], res := [(.ro (.int .i64))], slots := [.tmp 5], code := bd Try.f85, strict := true, callee := fun r i => find 0 [(1002, 81), (1008, 81), (1012, 86)] (r * 1000 + i), pins := [1, 2, 3] }
/- impl.camOf -/
noncomputable def I1078 : Inst := { f := 78, nt := 27, params := [((.ro (.int .i64)), false), ((.clo 85 (.ro .unit) (.pr (.box (.ro (.slc (.int .i16)))) (.pr (.box (.ro (.int .i64))) (.pr (.box (.ro (.slc (.int .i16)))) (.ro .unit))))), true)], res := [(.row false (.int .i16)), (.ro (.int .i64))], slots := [.tmp 4, .tmp 5], code := bd Try.f78, strict := true, callee := fun r i => find 0 [(5002, 85), (6001, 114)] (r * 1000 + i), loops := fun b => find [] [(0, [.own 1 (.clo 85 (.ro .unit) (.pr (.box (.ro (.slc (.int .i16)))) (.pr (.box (.ro (.int .i64))) (.pr (.box (.ro (.slc (.int .i16)))) (.ro .unit))))), .own 6 (.row false (.int .i16)), .own 10 (.ro (.int .i64)), .own 11 (.ro (.int .i64))])] b, pins := [1], deep := fun r i => find false [(1000, true), (8003, true), (8004, true)] (r * 1000 + i) }
/- impl.BlendCams -/
noncomputable def I14 : Inst := { f := 14, nt := 24, params := [((.ro (.slc (.int .i16))), false), ((.ro (.slc (.int .i16))), false), ((.ro (.int .i64)), false)], res := [(.row false (.int .i16)), (.ro (.int .i64))], slots := [.tmp 6, .tmp 7], code := bd Try.f14, callee := fun r i => find 0 [(1002, 77), (4001, 84), (6001, 79), (6003, 1078)] (r * 1000 + i) }
/- spec.l01Near -/
noncomputable def I88 : Inst := { f := 88, nt := 23, params := [((.ro (.int .i64)), false), ((.ro (.int .i64)), false)], res := [(.ro (.int .i64))], slots := [.tmp 4], code := bd Try.f88 }
/- spec.BlendCams -/
noncomputable def I15 : Inst := { f := 15, nt := 56, params := [((.ro (.slc (.int .i16))), false), ((.ro (.slc (.int .i16))), false), ((.ro (.int .i64)), false)], res := [(.row false (.int .i16)), (.ro (.int .i64))], slots := [.tmp 6, .tmp 7], code := bd Try.f15, callee := fun r i => find 0 [(1002, 82), (2004, 87), (10017, 88), (11001, 83)] (r * 1000 + i), loops := fun b => find [] [(0, [.own 0 (.ro (.slc (.int .i16))), .own 1 (.ro (.slc (.int .i16))), .own 2 (.ro (.int .i64)), .own 9 (.row false (.int .i64)), .own 10 (.ro (.int .i64))])] b, deep := fun r i => find false [(5000, true), (6000, true), (10018, true), (10019, true)] (r * 1000 + i) }
/- impl.RaiseCam$1 -/
noncomputable def I90 : Inst := { f := 90, nt := 10, params := [((.ro (.int .i64)), false), ((.box (.ro (.slc (.int .i16)))), true), ((.box (.ro (.int .i64))), true)], res := [(.ro (.int .i64))], slots := [.tmp 4], code := bd Try.f90, strict := true, callee := fun r i => find 0 [(1002, 81)] (r * 1000 + i), pins := [1, 2] }
/- impl.camOf -/
noncomputable def I2078 : Inst := { f := 78, nt := 27, params := [((.ro (.int .i64)), false), ((.clo 90 (.ro .unit) (.pr (.box (.ro (.slc (.int .i16)))) (.pr (.box (.ro (.int .i64))) (.ro .unit)))), true)], res := [(.row false (.int .i16)), (.ro (.int .i64))], slots := [.tmp 4, .tmp 5], code := bd Try.f78, strict := true, callee := fun r i => find 0 [(5002, 90), (6001, 114)] (r * 1000 + i), loops := fun b => find [] [(0, [.own 1 (.clo 90 (.ro .unit) (.pr (.box (.ro (.slc (.int .i16)))) (.pr (.box (.ro (.int .i64))) (.ro .unit)))), .own 6 (.row false (.int .i16)), .own 10 (.ro (.int .i64)), .own 11 (.ro (.int .i64))])] b, pins := [1], deep := fun r i => find false [(1000, true), (8003, true), (8004, true)] (r * 1000 + i) }
/- impl.RaiseCam -/
noncomputable def I16 : Inst := { f := 16, nt := 20, params := [((.ro (.slc (.int .i16))), false), ((.ro (.int .i64)), false)], res := [(.row false (.int .i16)), (.ro (.int .i64))], slots := [.tmp 4, .tmp 5], code := bd Try.f16, callee := fun r i => find 0 [(1001, 89), (3001, 84), (5001, 79), (5003, 2078)] (r * 1000 + i) }
/- impl.ScaleCam$1 -/
noncomputable def I91 : Inst := { f := 91, nt := 13, params := [((.ro (.int .i64)), false), ((.box (.ro (.slc (.int .i16)))), true), ((.box (.ro (.int .i64))), true), ((.box (.ro (.int .i64))), true)], res := [(.ro (.int .i64))], slots := [.tmp 5], code := bd Try.f91, strict := true, callee := fun r i => find 0 [(1002, 81), (1006, 86)] (r * 1000 + i), pins := [1, 2, 3] }
/- impl.camOf -/
noncomputable def I3078 : Inst := { f := 78, nt := 27, params := [((.ro (.int .i64)), false), ((.clo 91 (.ro .unit) (.pr (.box (.ro (.slc (.int .i16)))) (.pr (.box (.ro (.int .i64))) (.pr (.box (.ro (.int .i64))) (.ro .unit))))), true)], res := [(.row false (.int .i16)), (.ro (.int .i64))], slots := [.tmp 4, .tmp 5], code := bd Try.f78, strict := true, callee := fun r i => find 0 [(5002, 91), (6001, 114)] (r * 1000 + i), loops := fun b => find [] [(0, [.own 1 (.clo 91 (.ro .unit) (.pr (.box (.ro (.slc (.int .i16)))) (.pr (.box (.ro (.int .i64))) (.pr (.box (.ro (.int .i64))) (.ro .unit))))), .own 6 (.row false (.int .i16)), .own 10 (.ro (.int .i64)), .own 11 (.ro (.int .i64))])] b, pins := [1], deep := fun r i => find false [(1000, true), (8003, true), (8004, true)] (r * 1000 + i) }
/- impl.ScaleCam -/
noncomputable def I17 : Inst := { f := 17, nt := 27, params := [((.ro (.slc (.int .i16))), false), ((.ro (.int .i64)), false), ((.ro (.int .i64)), false)], res := [(.row false (.int .i16)), (.ro (.int .i64))], slots := [.tmp 6, .tmp 7], code := bd Try.f17, callee := fun r i => find 0 [(1001, 89), (3001, 84), (3005, 84), (5001, 79), (5003, 3078)] (r * 1000 + i) }
/- spec.l01Same -/
noncomputable def I92 : Inst := { f := 92, nt := 26, params := [((.ro (.slc (.int .i16))), false), ((.ro (.slc (.int .i16))), false)], res := [(.ro .bool)], slots := [.tmp 4], code := bd Try.f92, loops := fun b => find [] [(0, [.own 0 (.ro (.slc (.int .i16))), .own 1 (.ro (.slc (.int .i16))), .own 5 (.ro (.int .i64))])] b }
/- spec.SameCam -/
noncomputable def I18 : Inst := { f := 18, nt := 8, params := [((.ro (.slc (.int .i16))), false), ((.ro (.slc (.int .i16))), false)], res := [(.ro .bool)], slots := [.tmp 4], code := bd Try.f18, callee := fun r i => find 0 [(1002, 92)] (r * 1000 + i) }
/- impl.RefineCam$1 -/
noncomputable def I94 : Inst := { f := 94, nt := 31, params := [((.ro (.int .i64)), false), ((.box (.ro (.int .i64))), true), ((.box (.ro (.slc (.int .i16)))), true)], res := [(.ro (.int .i64))], slots := [.tmp 4], code := bd Try.f94, strict := true, callee := fun r i => find 0 [(1007, 81), (2008, 81), (2015, 86)] (r * 1000 + i), pins := [1, 2] }
/- impl.camOf -/
noncomputable def I4078 : Inst := { f := 78, nt := 27, params := [((.ro (.int .i64)), false), ((.clo 94 (.ro .unit) (.pr (.box (.ro (.int .i64))) (.pr (.box (.ro (.slc (.int .i16)))) (.ro .unit)))), true)], res := [(.row false (.int .i16)), (.ro (.int .i64))], slots := [.tmp 4, .tmp 5], code := bd Try.f78, strict := true, callee := fun r i => find 0 [(5002, 94), (6001, 114)] (r * 1000 + i), loops := fun b => find [] [(0, [.own 1 (.clo 94 (.ro .unit) (.pr (.box (.ro (.int .i64))) (.pr (.box (.ro (.slc (.int .i16)))) (.ro .unit)))), .own 6 (.row false (.int .i16)), .own 10 (.ro (.int .i64)), .own 11 (.ro (.int .i64))])] b, pins := [1], deep := fun r i => find false [(1000, true), (8003, true), (8004, true)] (r * 1000 + i) }
/- impl.RefineCam -/
noncomputable def I19 : Inst := { f := 19, nt := 29, params := [((.ro (.slc (.int .i16))), false), ((.ro (.int .i64)), false)], res := [(.row false (.int .i16)), (.ro (.int .i64))], slots := [.tmp 4, .tmp 5], code := bd Try.f19, callee := fun r i => find 0 [(1001, 89), (3001, 84), (5001, 79), (5004, 93), (7001, 79), (7005, 4078)] (r * 1000 + i) }
/- spec.l01Times -/
noncomputable def I96 : Inst := { f := 96, nt := 5, params := [((.ro (.int .i64)), false)], res := [(.ro .bool)], slots := [.tmp 2], code := bd Try.f96, callee := fun r i => find 0 [(1001, 87)] (r * 1000 + i) }
/- spec.l01At -/
noncomputable def I98 : Inst := { f := 98, nt := 19, params := [((.ro (.slc (.int .i16))), false), ((.ro (.int .i64)), false)], res := [(.ro (.int .i64))], slots := [.tmp 4], code := bd Try.f98 }
/- spec.RefineCam -/
noncomputable def I20 : Inst := { f := 20, nt := 59, params := [((.ro (.slc (.int .i16))), false), ((.ro (.int .i64)), false)], res := [(.row false (.int .i16)), (.ro (.int .i64))], slots := [.tmp 4, .tmp 5], code := bd Try.f20, callee := fun r i => find 0 [(1001, 95), (3001, 96), (5004, 97), (11002, 98), (12003, 98), (16008, 88)] (r * 1000 + i), loops := fun b => find [] [(2, [.own 0 (.ro (.slc (.int .i16))), .own 1 (.ro (.int .i64)), .own 6 (.row false (.int .i16)), .own 7 (.ro (.int .i64)), .own 8 (.ro (.int .i64)), .own 9 (.ro (.int .i64)), .own 10 (.ro (.int .i64))]), (0, [.own 0 (.ro (.slc (.int .i16))), .own 1 (.ro (.int .i64)), .own 6 (.row false (.int .i16)), .own 7 (.ro (.int .i64))])] b, deep := fun r i => find false [(2000, true), (4000, true), (6000, true), (7000, true), (16011, true), (16012, true)] (r * 1000 + i) }
/- impl.ThinCam$1 -/
noncomputable def I99 : Inst := { f := 99, nt := 10, params := [((.ro (.int .i64)), false), ((.box (.ro (.slc (.int .i16)))), true), ((.box (.ro (.int .i64))), true)], res := [(.ro (.int .i64))], slots := [.tmp 4], code := bd Try.f99, strict := true, callee := fun r i => find 0 [(1004, 81)] (r * 1000 + i), pins := [1, 2] }
/- impl.camOf -/
noncomputable def I5078 : Inst := { f := 78, nt := 27, params := [((.ro (.int .i64)), false), ((.clo 99 (.ro .unit) (.pr (.box (.ro (.slc (.int .i16)))) (.pr (.box (.ro (.int .i64))) (.ro .unit)))), true)], res := [(.row false (.int .i16)), (.ro (.int .i64))], slots := [.tmp 4, .tmp 5], code := bd Try.f78, strict := true, callee := fun r i => find 0 [(5002, 99), (6001, 114)] (r * 1000 + i), loops := fun b => find [] [(0, [.own 1 (.clo 99 (.ro .unit) (.pr (.box (.ro (.slc (.int .i16)))) (.pr (.box (.ro (.int .i64))) (.ro .unit)))), .own 6 (.row false (.int .i16)), .own 10 (.ro (.int .i64)), .own 11 (.ro (.int .i64))])] b, pins := [1], deep := fun r i => find false [(1000, true), (8003, true), (8004, true)] (r * 1000 + i) }
/- impl.ThinCam -/
noncomputable def I21 : Inst := { f := 21, nt := 35, params := [((.ro (.slc (.int .i16))), false), ((.ro (.int .i64)), false)], res := [(.row false (.int .i16)), (.ro (.int .i64))], slots := [.tmp 4, .tmp 5], code := bd Try.f21, callee := fun r i => find 0 [(1001, 89), (3001, 84), (5001, 79), (7001, 79), (7004, 93), (9001, 79), (9005, 5078)] (r * 1000 + i) }
/- impl.Cam).change -/
noncomputable def I102 : Inst := { f := 102, nt := 13, params := [((.ro (.slc (.int .i16))), false), ((.ro (.int .i64)), false)], res := [(.ro (.int .i64))], slots := [.tmp 4], code := bd Try.f102, callee := fun r i => find 0 [(1003, 81), (1006, 81)] (r * 1000 + i) }
/- impl.Cam).numbers -/
noncomputable def I101 : Inst := { f := 101, nt := 21, params := [((.ro (.slc (.int .i16))), false), ((.clo 102 (.pr (.ro (.slc (.int .i16))) (.ro .unit)) (.ro .unit)), true)], res := [(.row false (.int .i64))], slots := [.tmp 4], code := bd Try.f101, strict := true, callee := fun r i => find 0 [(2001, 79), (5003, 102)] (r * 1000 + i), loops := fun b => find [] [(0, [.own 1 (.clo 102 (.pr (.ro (.slc (.int .i16))) (.ro .unit)) (.ro .unit)), .own 5 (.row false (.int .i64)), .own 9 (.ro (.int .i64)), .own 10 (.ro (.int .i64))])] b, pins := [1], deep := fun r i => find false [(1000, true), (5004, true), (5005, true)] (r * 1000 + i) }
/- impl.abs -/
noncomputable def I161 : Inst := { f := 161, nt := 7, params := [((.ro (.int .i64)), false)], res := [(.ro (.int .i64))], slots := [.tmp 2], code := bd Try.f161 }
/- impl.greatest -/
noncomputable def I100 : Inst := { f := 100, nt := 25, params := [((.ro (.slc (.int .i64))), false)], res := [(.ro (.int .i64)), (.ro (.int .i64))], slots := [.tmp 2, .tmp 3], code := bd Try.f100, callee := fun r i => find 0 [(5001, 161), (6002, 161)] (r * 1000 + i), loops := fun b => find [] [(0, [.own 4 (.ro (.int .i64)), .own 5 (.ro (.int .i64)), .own 8 (.ro (.slc (.int .i64))), .own 9 (.ro (.int .i64)), .own 10 (.ro (.int .i64))])] b }
/- impl.SteepestOf -/
noncomputable def I22 : Inst := { f := 22, nt := 20, params := [((.ro (.slc (.int .i16))), false)], res := [(.ro (.int .i64)), (.ro (.int .i64)), (.ro (.int .i64))], slots := [.tmp 2, .tmp 3, .tmp 4], code := bd Try.f22, callee := fun r i => find 0 [(1001, 89), (3003, 101), (3004, 100)] (r * 1000 + i) }
/- impl.kindOf -/
noncomputable def I171 : Inst := { f := 171, nt := 9, params := [((.ro (.int .i64)), false)], res := [(.ro (.int .i8))], slots := [.tmp 2], code := bd Try.f171 }
/- impl.Cam).runs$1 -/
noncomputable def I170 : Inst := { f := 170, nt := 8, params := [((.ro (.int .i64)), false), ((.box (.ro (.slc (.int .i16)))), true)], res := [(.ro (.int .i8))], slots := [.tmp 3], code := bd Try.f170, strict := true, callee := fun r i => find 0 [(1002, 102), (1003, 171)] (r * 1000 + i), pins := [1] }
/- impl.Cam).runs -/
noncomputable def I103 : Inst := { f := 103, nt := 78, params := [((.ro (.slc (.int .i16))), false)], res := [(.row false (.pair (.int .i8) (.pair (.int .i16) (.pair (.int .i16) .unit))))], slots := [.tmp 2], code := bd Try.f103, callee := fun r i => find 0 [(1001, 79), (4008, 170), (4010, 170), (7001, 170), (12008, 170), (12011, 170), (14003, 170), (14006, 154)] (r * 1000 + i), loops := fun b => find [] [(4, [.own 3 (.ro (.int .i64)), .own 4 (.clo 170 (.ro .unit) (.pr (.box (.ro (.slc (.int .i16)))) (.ro .unit))), .own 5 (.ro (.int .i64)), .own 6 (.row false (.pair (.int .i8) (.pair (.int .i16) (.pair (.int .i16) .unit)))), .own 7 (.ro (.int .i64)), .own 8 (.ro (.int .i64))]), (2, [.own 3 (.ro (.int .i64)), .own 4 (.clo 170 (.ro .unit) (.pr (.box (.ro (.slc (.int .i16)))) (.ro .unit))), .own 5 (.ro (.int .i64)), .own 6 (.row false (.pair (.int .i8) (.pair (.int .i16) (.pair (.int .i16) .unit)))), .own 7 (.ro (.int .i64))]), (0, [.own 3 (.ro (.int .i64)), .own 4 (.clo 170 (.ro .unit) (.pr (.box (.ro (.slc (.int .i16)))) (.ro .unit))), .own 5 (.ro (.int .i64))])] b, deep := fun r i => find false [(7005, true), (8000, true), (14013, true), (14014, true)] (r * 1000 + i) }
/- impl.RunsOf -/
noncomputable def I23 : Inst := { f := 23, nt := 9, params := [((.ro (.slc (.int .i16))), false)], res := [(.row false (.pair (.int .i8) (.pair (.int .i16) (.pair (.int .i16) .unit)))), (.ro (.int .i64))], slots := [.tmp 2, .tmp 3], code := bd Try.f23, callee := fun r i => find 0 [(1001, 89), (3001, 103)] (r * 1000 + i) }
/- spec.l01Changes -/
noncomputable def I105 : Inst := { f := 105, nt := 24, params := [((.ro (.slc (.int .i16))), false)], res := [(.row false (.int .i64))], slots := [.tmp 2], code := bd Try.f105, callee := fun r i => find 0 [(5004, 98), (5007, 98)] (r * 1000 + i), loops := fun b => find [] [(0, [.own 0 (.ro (.slc (.int .i16))), .own 3 (.row false (.int .i64)), .own 4 (.ro (.int .i64))])] b, deep := fun r i => find false [(1000, true), (5009, true), (5010, true)] (r * 1000 + i) }
/- spec.l01Kind -/
noncomputable def I172 : Inst := { f := 172, nt := 9, params := [((.ro (.int .i64)), false)], res := [(.ro (.int .i8))], slots := [.tmp 2], code := bd Try.f172 }
/- spec.l01Runs -/
noncomputable def I104 : Inst := { f := 104, nt := 101, params := [((.ro (.slc (.int .i16))), false)], res := [(.row false (.pair (.int .i8) (.pair (.int .i16) (.pair (.int .i16) .unit))))], slots := [.tmp 2], code := bd Try.f104, callee := fun r i => find 0 [(1001, 105), (5014, 172), (5018, 172), (13012, 172), (13019, 172), (15007, 172)] (r * 1000 + i), loops := fun b => find [] [(4, [.own 3 (.ro (.slc (.int .i64))), .own 4 (.ro (.int .i64)), .own 7 (.row false (.pair (.int .i8) (.pair (.int .i16) (.pair (.int .i16) .unit)))), .own 8 (.ro (.int .i64)), .own 9 (.ro (.int .i64)), .own 10 (.ro (.int .i64))]), (2, [.own 3 (.ro (.slc (.int .i64))), .own 4 (.ro (.int .i64)), .own 7 (.row false (.pair (.int .i8) (.pair (.int .i16) (.pair (.int .i16) .unit)))), .own 8 (.ro (.int .i64)), .own 9 (.ro (.int .i64))]), (0, [.own 3 (.ro (.slc (.int .i64))), .own 4 (.ro (.int .i64)), .own 5 (.ro (.int .i64)), .own 6 (.ro (.int .i64))])] b, deep := fun r i => find false [(8000, true), (15015, true), (15016, true)] (r * 1000 + i) }
/- spec.RunsOf -/
noncomputable def I24 : Inst := { f := 24, nt := 10, params := [((.ro (.slc (.int .i16))), false)], res := [(.row false (.pair (.int .i8) (.pair (.int .i16) (.pair (.int .i16) .unit)))), (.ro (.int .i64))], slots := [.tmp 2, .tmp 3], code := bd Try.f24, callee := fun r i => find 0 [(1001, 95), (3001, 104)] (r * 1000 + i), deep := fun r i => find false [(2000, true)] (r * 1000 + i) }
/- spec.ChangesOf -/
noncomputable def I25 : Inst := { f := 25, nt := 10, params := [((.ro (.slc (.int .i16))), false)], res := [(.row false (.int .i64)), (.ro (.int .i64))], slots := [.tmp 2, .tmp 3], code := bd Try.f25, callee := fun r i => find 0 [(1001, 95), (3001, 105)] (r * 1000 + i), deep := fun r i => find false [(2000, true)] (r * 1000 + i) }
/- spec.SameRuns -/
noncomputable def I26 : Inst := { f := 26, nt := 26, params := [((.ro (.slc (.pair (.int .i8) (.pair (.int .i16) (.pair (.int .i16) .unit))))), false), ((.ro (.slc (.pair (.int .i8) (.pair (.int .i16) (.pair (.int .i16) .unit))))), false)], res := [(.ro .bool)], slots := [.tmp 4], code := bd Try.f26, loops := fun b => find [] [(0, [.own 0 (.ro (.slc (.pair (.int .i8) (.pair (.int .i16) (.pair (.int .i16) .unit))))), .own 1 (.ro (.slc (.pair (.int .i8) (.pair (.int .i16) (.pair (.int .i16) .unit))))), .own 5 (.ro (.int .i64))])] b }
/- laws.FnMade -/
noncomputable def I3 : Inst := { f := 3, nt := 423, params := [((.ro (.slc (.int .u8))), false), ((.ro (.slc (.int .u8))), false)], res := [(.ro .bool)], slots := [.tmp 4], code := bd Try.f3, callee := fun r i => find 0 [(1001, 8), (1004, 8), (3001, 9), (4002, 10), (6002, 11), (7002, 12), (8001, 13), (9003, 14), (10003, 15), (11001, 16), (12001, 16), (13001, 17), (14001, 17), (15010, 18), (15025, 18), (15039, 18), (15053, 18), (22001, 13), (23002, 19), (24002, 20), (25002, 21), (26001, 22), (27001, 22), (28010, 18), (28020, 18), (30001, 23), (31001, 24), (32001, 25), (33010, 26)] (r * 1000 + i), loops := fun b => find [] [(4, [.own 7 (.ro (.int .i64)), .own 41 (.ro (.slc (.pair (.int .i8) (.pair (.int .i16) (.pair (.int .i16) .unit))))), .own 43 (.ro (.slc (.int .i64))), .own 45 (.ro (.int .i64)), .own 46 (.ro (.int .i64)), .own 47 (.box (.ro (.pair (.int .i8) (.pair (.int .i16) (.pair (.int .i16) .unit))))), .own 48 (.ro (.int .i64))]), (2, [.own 7 (.ro (.int .i64)), .own 41 (.ro (.slc (.pair (.int .i8) (.pair (.int .i16) (.pair (.int .i16) .unit))))), .own 43 (.ro (.slc (.int .i64))), .own 45 (.ro (.int .i64)), .own 46 (.ro (.int .i64))]), (0, [.own 0 (.ro (.slc (.int .u8))), .own 5 (.ro (.slc (.int .i16))), .own 6 (.ro (.slc (.int .i16))), .own 7 (.ro (.int .i64)), .own 10 (.ro (.slc (.int .i16))), .own 15 (.ro (.slc (.int .i16))), .own 25 (.ro (.int .i64))])] b }
noncomputable def CL : List (Nat × Inst) := [(8, I8), (75, I75), (165, I165), (76, I76), (162, I162), (164, I164), (163, I163), (146, I146), (74, I74), (9, I9), (10, I10), (79, I79), (84, I84), (93, I93), (114, I114), (169, I169), (196, I196), (168, I168), (89, I89), (77, I77), (167, I167), (154, I154), (81, I81), (80, I80), (78, I78), (11, I11), (87, I87), (97, I97), (166, I166), (95, I95), (82, I82), (83, I83), (12, I12), (13, I13), (86, I86), (85, I85), (1078, I1078), (14, I14), (88, I88), (15, I15), (90, I90), (2078, I2078), (16, I16), (91, I91), (3078, I3078), (17, I17), (92, I92), (18, I18), (94, I94), (4078, I4078), (19, I19), (96, I96), (98, I98), (20, I20), (99, I99), (5078, I5078), (21, I21), (102, I102), (101, I101), (161, I161), (100, I100), (22, I22), (171, I171), (170, I170), (103, I103), (23, I23), (105, I105), (172, I172), (104, I104), (24, I24), (25, I25), (26, I26), (3, I3)]
noncomputable def C : Nat → Inst := find I8 CL
theorem tsOk : TsOk Try.prog T := tsOkB_sound (by kernel_rfl)
theorem ok8 : InstOk Try.prog I8 := instOk_of Try.func8 (by kernel_rfl) (by kernel_rfl) (by kernel_rfl) (by kernel_rfl)
theorem ok75 : InstOk Try.prog I75 := instOk_of Try.func75 (by kernel_rfl) (by kernel_rfl) (by kernel_rfl) (by kernel_rfl)
theorem ok165 : InstOk Try.prog I165 := instOk_of Try.func165 (by kernel_rfl) (by kernel_rfl) (by kernel_rfl) (by kernel_rfl)
theorem ok76 : InstOk Try.prog I76 := instOk_of Try.func76 (by kernel_rfl) (by kernel_rfl) (by kernel_rfl) (by kernel_rfl)
theorem ok162 : InstOk Try.prog I162 := instOk_of Try.func162 (by kernel_rfl) (by kernel_rfl) (by kernel_rfl) (by kernel_rfl)
theorem ok164 : InstOk Try.prog I164 := instOk_of Try.func164 (by kernel_rfl) (by kernel_rfl) (by kernel_rfl) (by kernel_rfl)
theorem ok163 : InstOk Try.prog I163 := instOk_of Try.func163 (by kernel_rfl) (by kernel_rfl) (by kernel_rfl) (by kernel_rfl)
theorem ok146 : InstOk Try.prog I146 := instOk_of Try.func146 (by kernel_rfl) (by kernel_rfl) (by kernel_rfl) (by kernel_rfl)
theorem ok74 : InstOk Try.prog I74 := instOk_of Try.func74 (by kernel_rfl) (by kernel_rfl) (by kernel_rfl) (by kernel_rfl)
theorem ok9 : InstOk Try.prog I9 := instOk_of Try.func9 (by kernel_rfl) (by kernel_rfl) (by kernel_rfl) (by kernel_rfl)
theorem ok10 : InstOk Try.prog I10 := instOk_of Try.func10 (by kernel_rfl) (by kernel_rfl) (by kernel_rfl) (by kernel_rfl)
theorem ok79 : InstOk Try.prog I79 := instOk_of Try.func79 (by kernel_rfl) (by kernel_rfl) (by kernel_rfl) (by kernel_rfl)
theorem ok84 : InstOk Try.prog I84 := instOk_of Try.func84 (by kernel_rfl) (by kernel_rfl) (by kernel_rfl) (by kernel_rfl)
theorem ok93 : InstOk Try.prog I93 := instOk_of Try.func93 (by kernel_rfl) (by kernel_rfl) (by kernel_rfl) (by kernel_rfl)
theorem ok114 : InstOk Try.prog I114 := instOk_of Try.func114 (by kernel_rfl) (by kernel_rfl) (by kernel_rfl) (by kernel_rfl)
theorem ok169 : InstOk Try.prog I169 := instOk_of Try.func169 (by kernel_rfl) (by kernel_rfl) (by kernel_rfl) (by kernel_rfl)
theorem ok196 : InstOk Try.prog I196 := instOk_of Try.func196 (by kernel_rfl) (by kernel_rfl) (by kernel_rfl) (by kernel_rfl)
theorem ok168 : InstOk Try.prog I168 := instOk_of Try.func168 (by kernel_rfl) (by kernel_rfl) (by kernel_rfl) (by kernel_rfl)
theorem ok89 : InstOk Try.prog I89 := instOk_of Try.func89 (by kernel_rfl) (by kernel_rfl) (by kernel_rfl) (by kernel_rfl)
theorem ok77 : InstOk Try.prog I77 := instOk_of Try.func77 (by kernel_rfl) (by kernel_rfl) (by kernel_rfl) (by kernel_rfl)
theorem ok167 : InstOk Try.prog I167 := instOk_of Try.func167 (by kernel_rfl) (by kernel_rfl) (by kernel_rfl) (by kernel_rfl)
theorem ok154 : InstOk Try.prog I154 := instOk_of Try.func154 (by kernel_rfl) (by kernel_rfl) (by kernel_rfl) (by kernel_rfl)
theorem ok81 : InstOk Try.prog I81 := instOk_of Try.func81 (by kernel_rfl) (by kernel_rfl) (by kernel_rfl) (by kernel_rfl)
theorem ok80 : InstOk Try.prog I80 := instOk_of Try.func80 (by kernel_rfl) (by kernel_rfl) (by kernel_rfl) (by kernel_rfl)
theorem ok78 : InstOk Try.prog I78 := instOk_of Try.func78 (by kernel_rfl) (by kernel_rfl) (by kernel_rfl) (by kernel_rfl)
theorem ok11 : InstOk Try.prog I11 := instOk_of Try.func11 (by kernel_rfl) (by kernel_rfl) (by kernel_rfl) (by kernel_rfl)
theorem ok87 : InstOk Try.prog I87 := instOk_of Try.func87 (by kernel_rfl) (by kernel_rfl) (by kernel_rfl) (by kernel_rfl)
theorem ok97 : InstOk Try.prog I97 := instOk_of Try.func97 (by kernel_rfl) (by kernel_rfl) (by kernel_rfl) (by kernel_rfl)
theorem ok166 : InstOk Try.prog I166 := instOk_of Try.func166 (by kernel_rfl) (by kernel_rfl) (by kernel_rfl) (by kernel_rfl)
theorem ok95 : InstOk Try.prog I95 := instOk_of Try.func95 (by kernel_rfl) (by kernel_rfl) (by kernel_rfl) (by kernel_rfl)
theorem ok82 : InstOk Try.prog I82 := instOk_of Try.func82 (by kernel_rfl) (by kernel_rfl) (by kernel_rfl) (by kernel_rfl)
theorem ok83 : InstOk Try.prog I83 := instOk_of Try.func83 (by kernel_rfl) (by kernel_rfl) (by kernel_rfl) (by kernel_rfl)
theorem ok12 : InstOk Try.prog I12 := instOk_of Try.func12 (by kernel_rfl) (by kernel_rfl) (by kernel_rfl) (by kernel_rfl)
theorem ok13 : InstOk Try.prog I13 := instOk_of Try.func13 (by kernel_rfl) (by kernel_rfl) (by kernel_rfl) (by kernel_rfl)
theorem ok86 : InstOk Try.prog I86 := instOk_of Try.func86 (by kernel_rfl) (by kernel_rfl) (by kernel_rfl) (by kernel_rfl)
theorem ok85 : InstOk Try.prog I85 := instOk_of Try.func85 (by kernel_rfl) (by kernel_rfl) (by kernel_rfl) (by kernel_rfl)
theorem ok1078 : InstOk Try.prog I1078 := instOk_of Try.func78 (by kernel_rfl) (by kernel_rfl) (by kernel_rfl) (by kernel_rfl)
theorem ok14 : InstOk Try.prog I14 := instOk_of Try.func14 (by kernel_rfl) (by kernel_rfl) (by kernel_rfl) (by kernel_rfl)
theorem ok88 : InstOk Try.prog I88 := instOk_of Try.func88 (by kernel_rfl) (by kernel_rfl) (by kernel_rfl) (by kernel_rfl)
theorem ok15 : InstOk Try.prog I15 := instOk_of Try.func15 (by kernel_rfl) (by kernel_rfl) (by kernel_rfl) (by kernel_rfl)
theorem ok90 : InstOk Try.prog I90 := instOk_of Try.func90 (by kernel_rfl) (by kernel_rfl) (by kernel_rfl) (by kernel_rfl)
theorem ok2078 : InstOk Try.prog I2078 := instOk_of Try.func78 (by kernel_rfl) (by kernel_rfl) (by kernel_rfl) (by kernel_rfl)
theorem ok16 : InstOk Try.prog I16 := instOk_of Try.func16 (by kernel_rfl) (by kernel_rfl) (by kernel_rfl) (by kernel_rfl)
theorem ok91 : InstOk Try.prog I91 := instOk_of Try.func91 (by kernel_rfl) (by kernel_rfl) (by kernel_rfl) (by kernel_rfl)
theorem ok3078 : InstOk Try.prog I3078 := instOk_of Try.func78 (by kernel_rfl) (by kernel_rfl) (by kernel_rfl) (by kernel_rfl)
theorem ok17 : InstOk Try.prog I17 := instOk_of Try.func17 (by kernel_rfl) (by kernel_rfl) (by kernel_rfl) (by kernel_rfl)
theorem ok92 : InstOk Try.prog I92 := instOk_of Try.func92 (by kernel_rfl) (by kernel_rfl) (by kernel_rfl) (by kernel_rfl)
theorem ok18 : InstOk Try.prog I18 := instOk_of Try.func18 (by kernel_rfl) (by kernel_rfl) (by kernel_rfl) (by kernel_rfl)
theorem ok94 : InstOk Try.prog I94 := instOk_of Try.func94 (by kernel_rfl) (by kernel_rfl) (by kernel_rfl) (by kernel_rfl)
theorem ok4078 : InstOk Try.prog I4078 := instOk_of Try.func78 (by kernel_rfl) (by kernel_rfl) (by kernel_rfl) (by kernel_rfl)
theorem ok19 : InstOk Try.prog I19 := instOk_of Try.func19 (by kernel_rfl) (by kernel_rfl) (by kernel_rfl) (by kernel_rfl)
theorem ok96 : InstOk Try.prog I96 := instOk_of Try.func96 (by kernel_rfl) (by kernel_rfl) (by kernel_rfl) (by kernel_rfl)
theorem ok98 : InstOk Try.prog I98 := instOk_of Try.func98 (by kernel_rfl) (by kernel_rfl) (by kernel_rfl) (by kernel_rfl)
theorem ok20 : InstOk Try.prog I20 := instOk_of Try.func20 (by kernel_rfl) (by kernel_rfl) (by kernel_rfl) (by kernel_rfl)
theorem ok99 : InstOk Try.prog I99 := instOk_of Try.func99 (by kernel_rfl) (by kernel_rfl) (by kernel_rfl) (by kernel_rfl)
theorem ok5078 : InstOk Try.prog I5078 := instOk_of Try.func78 (by kernel_rfl) (by kernel_rfl) (by kernel_rfl) (by kernel_rfl)
theorem ok21 : InstOk Try.prog I21 := instOk_of Try.func21 (by kernel_rfl) (by kernel_rfl) (by kernel_rfl) (by kernel_rfl)
theorem ok102 : InstOk Try.prog I102 := instOk_of Try.func102 (by kernel_rfl) (by kernel_rfl) (by kernel_rfl) (by kernel_rfl)
theorem ok101 : InstOk Try.prog I101 := instOk_of Try.func101 (by kernel_rfl) (by kernel_rfl) (by kernel_rfl) (by kernel_rfl)
theorem ok161 : InstOk Try.prog I161 := instOk_of Try.func161 (by kernel_rfl) (by kernel_rfl) (by kernel_rfl) (by kernel_rfl)
theorem ok100 : InstOk Try.prog I100 := instOk_of Try.func100 (by kernel_rfl) (by kernel_rfl) (by kernel_rfl) (by kernel_rfl)
theorem ok22 : InstOk Try.prog I22 := instOk_of Try.func22 (by kernel_rfl) (by kernel_rfl) (by kernel_rfl) (by kernel_rfl)
theorem ok171 : InstOk Try.prog I171 := instOk_of Try.func171 (by kernel_rfl) (by kernel_rfl) (by kernel_rfl) (by kernel_rfl)
theorem ok170 : InstOk Try.prog I170 := instOk_of Try.func170 (by kernel_rfl) (by kernel_rfl) (by kernel_rfl) (by kernel_rfl)
theorem ok103 : InstOk Try.prog I103 := instOk_of Try.func103 (by kernel_rfl) (by kernel_rfl) (by kernel_rfl) (by kernel_rfl)
theorem ok23 : InstOk Try.prog I23 := instOk_of Try.func23 (by kernel_rfl) (by kernel_rfl) (by kernel_rfl) (by kernel_rfl)
theorem ok105 : InstOk Try.prog I105 := instOk_of Try.func105 (by kernel_rfl) (by kernel_rfl) (by kernel_rfl) (by kernel_rfl)
theorem ok172 : InstOk Try.prog I172 := instOk_of Try.func172 (by kernel_rfl) (by kernel_rfl) (by kernel_rfl) (by kernel_rfl)
theorem ok104 : InstOk Try.prog I104 := instOk_of Try.func104 (by kernel_rfl) (by kernel_rfl) (by kernel_rfl) (by kernel_rfl)
theorem ok24 : InstOk Try.prog I24 := instOk_of Try.func24 (by kernel_rfl) (by kernel_rfl) (by kernel_rfl) (by kernel_rfl)
theorem ok25 : InstOk Try.prog I25 := instOk_of Try.func25 (by kernel_rfl) (by kernel_rfl) (by kernel_rfl) (by kernel_rfl)
theorem ok26 : InstOk Try.prog I26 := instOk_of Try.func26 (by kernel_rfl) (by kernel_rfl) (by kernel_rfl) (by kernel_rfl)
theorem ok3 : InstOk Try.prog I3 := instOk_of Try.func3 (by kernel_rfl) (by kernel_rfl) (by kernel_rfl) (by kernel_rfl)
theorem insts : ∀ j, InstOk Try.prog (C j) := find_all ok8 (List.forall_mem_cons.2 ⟨ok8, List.forall_mem_cons.2 ⟨ok75, List.forall_mem_cons.2 ⟨ok165, List.forall_mem_cons.2 ⟨ok76, List.forall_mem_cons.2 ⟨ok162, List.forall_mem_cons.2 ⟨ok164, List.forall_mem_cons.2 ⟨ok163, List.forall_mem_cons.2 ⟨ok146, List.forall_mem_cons.2 ⟨ok74, List.forall_mem_cons.2 ⟨ok9, List.forall_mem_cons.2 ⟨ok10, List.forall_mem_cons.2 ⟨ok79, List.forall_mem_cons.2 ⟨ok84, List.forall_mem_cons.2 ⟨ok93, List.forall_mem_cons.2 ⟨ok114, List.forall_mem_cons.2 ⟨ok169, List.forall_mem_cons.2 ⟨ok196, List.forall_mem_cons.2 ⟨ok168, List.forall_mem_cons.2 ⟨ok89, List.forall_mem_cons.2 ⟨ok77, List.forall_mem_cons.2 ⟨ok167, List.forall_mem_cons.2 ⟨ok154, List.forall_mem_cons.2 ⟨ok81, List.forall_mem_cons.2 ⟨ok80, List.forall_mem_cons.2 ⟨ok78, List.forall_mem_cons.2 ⟨ok11, List.forall_mem_cons.2 ⟨ok87, List.forall_mem_cons.2 ⟨ok97, List.forall_mem_cons.2 ⟨ok166, List.forall_mem_cons.2 ⟨ok95, List.forall_mem_cons.2 ⟨ok82, List.forall_mem_cons.2 ⟨ok83, List.forall_mem_cons.2 ⟨ok12, List.forall_mem_cons.2 ⟨ok13, List.forall_mem_cons.2 ⟨ok86, List.forall_mem_cons.2 ⟨ok85, List.forall_mem_cons.2 ⟨ok1078, List.forall_mem_cons.2 ⟨ok14, List.forall_mem_cons.2 ⟨ok88, List.forall_mem_cons.2 ⟨ok15, List.forall_mem_cons.2 ⟨ok90, List.forall_mem_cons.2 ⟨ok2078, List.forall_mem_cons.2 ⟨ok16, List.forall_mem_cons.2 ⟨ok91, List.forall_mem_cons.2 ⟨ok3078, List.forall_mem_cons.2 ⟨ok17, List.forall_mem_cons.2 ⟨ok92, List.forall_mem_cons.2 ⟨ok18, List.forall_mem_cons.2 ⟨ok94, List.forall_mem_cons.2 ⟨ok4078, List.forall_mem_cons.2 ⟨ok19, List.forall_mem_cons.2 ⟨ok96, List.forall_mem_cons.2 ⟨ok98, List.forall_mem_cons.2 ⟨ok20, List.forall_mem_cons.2 ⟨ok99, List.forall_mem_cons.2 ⟨ok5078, List.forall_mem_cons.2 ⟨ok21, List.forall_mem_cons.2 ⟨ok102, List.forall_mem_cons.2 ⟨ok101, List.forall_mem_cons.2 ⟨ok161, List.forall_mem_cons.2 ⟨ok100, List.forall_mem_cons.2 ⟨ok22, List.forall_mem_cons.2 ⟨ok171, List.forall_mem_cons.2 ⟨ok170, List.forall_mem_cons.2 ⟨ok103, List.forall_mem_cons.2 ⟨ok23, List.forall_mem_cons.2 ⟨ok105, List.forall_mem_cons.2 ⟨ok172, List.forall_mem_cons.2 ⟨ok104, List.forall_mem_cons.2 ⟨ok24, List.forall_mem_cons.2 ⟨ok25, List.forall_mem_cons.2 ⟨ok26, List.forall_mem_cons.2 ⟨ok3, fun _ h => absurd h List.not_mem_nil⟩⟩⟩⟩⟩⟩⟩⟩⟩⟩⟩⟩⟩⟩⟩⟩⟩⟩⟩⟩⟩⟩⟩⟩⟩⟩⟩⟩⟩⟩⟩⟩⟩⟩⟩⟩⟩⟩⟩⟩⟩⟩⟩⟩⟩⟩⟩⟩⟩⟩⟩⟩⟩⟩⟩⟩⟩⟩⟩⟩⟩⟩⟩⟩⟩⟩⟩⟩⟩⟩⟩⟩⟩)
theorem noExt : ∀ j, (C j).ext = none := by
  have hC : C = find I8 CL := by delta C; with_reducible rfl
  exact fun j => noExt_of (C := C) _ _ hC (by kernel_rfl) (by kernel_rfl) j
end Go.Proofs.Ytgcncghbeplgnaa.LMa
