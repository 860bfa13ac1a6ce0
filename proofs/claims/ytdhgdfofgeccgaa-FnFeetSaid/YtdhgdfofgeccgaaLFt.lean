/- The types and the functions that a law reaches, told for the reading (Fw). Written by a program (gen.py). -/
import Derived.Test.YtdhgdfofgeccgaaFwC
import Derived.Test.YtdhgdfofgeccgaaProg
namespace Go.Proofs.Ytdhgdfofgeccgaa.LFt
open Go Go.Fw
open Go.Proofs
noncomputable def tyL : List (Nat × TI) := [(2, ⟨(.int .i64), 0, 8⟩),
  (3, ⟨(.int .i64), 0, 8⟩),
  (4, ⟨.bool, 0, 1⟩),
  (5, ⟨(.int .u8), 0, 1⟩),
  (29, ⟨(.slc (.int .i16)), 57, 24⟩),
  (49, ⟨(.slc (.int .u8)), 5, 24⟩),
  (55, ⟨(.slc (.int .i64)), 2, 24⟩),
  (57, ⟨(.int .i16), 0, 2⟩),
  (129, ⟨.fn, 0, 8⟩),
  (133, ⟨.fn, 0, 8⟩),
  (135, ⟨(.ptr (.pair (.slc (.int .u8)) (.pair (.int .i64) (.pair (.int .u64) .unit)))), 0, 8⟩),
  (185, ⟨(.int .u64), 0, 8⟩),
  (187, ⟨(.pair (.slc (.int .u8)) (.pair (.int .i64) (.pair (.int .u64) .unit))), 0, 40⟩),
  (191, ⟨.fn, 0, 8⟩)]
noncomputable def T : Nat → Option TI := findT tyL
/- laws.f6big -/
noncomputable def I40 : Inst := { f := 40, nt := 6, params := [((.ro (.slc (.int .u8))), false)], res := [(.ro .bool)], slots := [.tmp 2], code := bd Try.f40 }
/- spec.l00From -/
noncomputable def I110 : Inst := { f := 110, nt := 6, params := [((.ro (.slc (.int .u8))), false)], res := [(.box (.ro (.pair (.slc (.int .u8)) (.pair (.int .i64) (.pair (.int .u64) .unit)))))], slots := [.tmp 2], code := bd Try.f110, strict := true }
/- spec.l00Src).next -/
noncomputable def I180 : Inst := { f := 180, nt := 62, params := [((.box (.ro (.pair (.slc (.int .u8)) (.pair (.int .i64) (.pair (.int .u64) .unit))))), true)], res := [(.ro (.int .i64))], slots := [.tmp 2], code := bd Try.f180, strict := true, pins := [0] }
/- spec.l00Src).pick -/
noncomputable def I111 : Inst := { f := 111, nt := 20, params := [((.box (.ro (.pair (.slc (.int .u8)) (.pair (.int .i64) (.pair (.int .u64) .unit))))), true), ((.ro (.int .i64)), false)], res := [(.ro (.int .i64))], slots := [.tmp 4], code := bd Try.f111, strict := true, callee := fun r i => find 0 [(3001, 180), (5003, 180)] (r * 1000 + i), pins := [0] }
/- spec.l00Src).among -/
noncomputable def I183 : Inst := { f := 183, nt := 12, params := [((.box (.ro (.pair (.slc (.int .u8)) (.pair (.int .i64) (.pair (.int .u64) .unit))))), true), ((.ro (.slc (.int .i64))), false)], res := [(.ro (.int .i64))], slots := [.tmp 4], code := bd Try.f183, strict := true, callee := fun r i => find 0 [(1004, 111)] (r * 1000 + i), pins := [0] }
/- spec.l00Min -/
noncomputable def I184 : Inst := { f := 184, nt := 10, params := [((.ro (.int .i64)), false), ((.ro (.int .i64)), false)], res := [(.ro (.int .i64))], slots := [.tmp 4], code := bd Try.f184 }
/- spec.l00Max -/
noncomputable def I98 : Inst := { f := 98, nt := 10, params := [((.ro (.int .i64)), false), ((.ro (.int .i64)), false)], res := [(.ro (.int .i64))], slots := [.tmp 4], code := bd Try.f98 }
/- spec.l00Src).one -/
noncomputable def I185 : Inst := { f := 185, nt := 9, params := [((.box (.ro (.pair (.slc (.int .u8)) (.pair (.int .i64) (.pair (.int .u64) .unit))))), true), ((.ro (.int .i64)), false)], res := [(.ro .bool)], slots := [.tmp 4], code := bd Try.f185, strict := true, callee := fun r i => find 0 [(1002, 111)] (r * 1000 + i), pins := [0] }
/- spec.l01Drawn -/
noncomputable def I124 : Inst := { f := 124, nt := 60, params := [((.box (.ro (.pair (.slc (.int .u8)) (.pair (.int .i64) (.pair (.int .u64) .unit))))), true)], res := [(.ro (.slc (.int .i16)))], slots := [.tmp 2], code := bd Try.f124, strict := true, callee := fun r i => find 0 [(1002, 183), (3001, 111), (5001, 111), (6001, 111), (9003, 184), (9004, 98), (11001, 185)] (r * 1000 + i), loops := fun b => find [] [(2, [.own 0 (.box (.ro (.pair (.slc (.int .u8)) (.pair (.int .i64) (.pair (.int .u64) .unit))))), .own 3 (.ro (.int .i64)), .own 4 (.row false (.int .i16)), .own 5 (.ro (.int .i64)), .own 6 (.ro (.int .i64)), .own 7 (.ro (.int .i64))]), (0, [.own 0 (.box (.ro (.pair (.slc (.int .u8)) (.pair (.int .i64) (.pair (.int .u64) .unit))))), .own 3 (.ro (.int .i64)), .own 4 (.row false (.int .i16)), .own 5 (.ro (.int .i64))])] b, pins := [0], deep := fun r i => find false [(1001, true), (2000, true), (10003, true), (10004, true), (14000, true), (14002, true), (14004, true)] (r * 1000 + i), frz := fun r i => find false [(1001, true)] (r * 1000 + i), ice := fun r i => find [] [(12003, [47, 4, 15])] (r * 1000 + i) }
/- spec.P6Cam -/
noncomputable def I41 : Inst := { f := 41, nt := 6, params := [((.ro (.slc (.int .u8))), false)], res := [(.ro (.slc (.int .i16)))], slots := [.tmp 2], code := bd Try.f41, strict := true, callee := fun r i => find 0 [(1001, 110), (1002, 124)] (r * 1000 + i) }
/- impl.Cam).steps -/
noncomputable def I132 : Inst := { f := 132, nt := 5, params := [((.ro (.slc (.int .i16))), false)], res := [(.ro (.int .i64))], slots := [.tmp 2], code := bd Try.f132 }
/- impl.inRange -/
noncomputable def I91 : Inst := { f := 91, nt := 15, params := [((.ro (.int .i64)), false), ((.ro (.int .i64)), false), ((.ro (.int .i64)), false)], res := [(.ro .bool)], slots := [.tmp 6], code := bd Try.f91 }
/- impl.isSteps -/
noncomputable def I115 : Inst := { f := 115, nt := 5, params := [((.ro (.int .i64)), false)], res := [(.ro .bool)], slots := [.tmp 2], code := bd Try.f115, callee := fun r i => find 0 [(1001, 91)] (r * 1000 + i) }
/- impl.isLift -/
noncomputable def I114 : Inst := { f := 114, nt := 5, params := [((.ro (.int .i64)), false)], res := [(.ro .bool)], slots := [.tmp 2], code := bd Try.f114, callee := fun r i => find 0 [(1001, 91)] (r * 1000 + i) }
/- impl.ValidCam$1 -/
noncomputable def I187 : Inst := { f := 187, nt := 7, params := [((.ro (.int .i16)), false)], res := [(.ro .bool)], slots := [.tmp 2], code := bd Try.f187, callee := fun r i => find 0 [(1002, 114)] (r * 1000 + i) }
/- impl.Cam,int16] -/
noncomputable def I209 : Inst := { f := 209, nt := 19, params := [((.ro (.slc (.int .i16))), false), ((.clo 187 (.ro .unit) (.ro .unit)), false)], res := [(.ro (.int .i64))], slots := [.tmp 4], code := bd Try.f209, callee := fun r i => find 0 [(4005, 187)] (r * 1000 + i), loops := fun b => find [] [(0, [.own 0 (.ro (.slc (.int .i16))), .own 1 (.clo 187 (.ro .unit) (.ro .unit)), .own 7 (.ro (.int .i64)), .own 8 (.ro (.int .i64))])] b }
/- impl.Cam,int16] -/
noncomputable def I186 : Inst := { f := 186, nt := 9, params := [((.ro (.slc (.int .i16))), false), ((.clo 187 (.ro .unit) (.ro .unit)), false)], res := [(.ro .bool)], slots := [.tmp 4], code := bd Try.f186, callee := fun r i => find 0 [(1002, 209)] (r * 1000 + i) }
/- impl.ValidCam -/
noncomputable def I125 : Inst := { f := 125, nt := 11, params := [((.ro (.slc (.int .i16))), false)], res := [(.ro .bool)], slots := [.tmp 2], code := bd Try.f125, callee := fun r i => find 0 [(1001, 132), (1002, 115), (1005, 186)] (r * 1000 + i) }
/- impl.floorDiv -/
noncomputable def I210 : Inst := { f := 210, nt := 16, params := [((.ro (.int .i64)), false), ((.ro (.int .i64)), false)], res := [(.ro (.int .i64))], slots := [.tmp 4], code := bd Try.f210 }
/- impl.mod -/
noncomputable def I188 : Inst := { f := 188, nt := 12, params := [((.ro (.int .i64)), false), ((.ro (.int .i64)), false)], res := [(.ro (.int .i64))], slots := [.tmp 4], code := bd Try.f188, callee := fun r i => find 0 [(1004, 210)] (r * 1000 + i) }
/- impl.Cam).at -/
noncomputable def I134 : Inst := { f := 134, nt := 13, params := [((.ro (.slc (.int .i16))), false), ((.ro (.int .i64)), false)], res := [(.ro (.int .i64))], slots := [.tmp 4], code := bd Try.f134, callee := fun r i => find 0 [(1003, 132), (1004, 188)] (r * 1000 + i) }
/- impl.Cam).change -/
noncomputable def I128 : Inst := { f := 128, nt := 13, params := [((.ro (.slc (.int .i16))), false), ((.ro (.int .i64)), false)], res := [(.ro (.int .i64))], slots := [.tmp 4], code := bd Try.f128, callee := fun r i => find 0 [(1003, 134), (1006, 134)] (r * 1000 + i) }
/- impl.Cam).numbers -/
noncomputable def I127 : Inst := { f := 127, nt := 21, params := [((.ro (.slc (.int .i16))), false), ((.clo 128 (.pr (.ro (.slc (.int .i16))) (.ro .unit)) (.ro .unit)), true)], res := [(.row false (.int .i64))], slots := [.tmp 4], code := bd Try.f127, strict := true, callee := fun r i => find 0 [(2001, 132), (5003, 128)] (r * 1000 + i), loops := fun b => find [] [(0, [.own 1 (.clo 128 (.pr (.ro (.slc (.int .i16))) (.ro .unit)) (.ro .unit)), .own 5 (.row false (.int .i64)), .own 9 (.ro (.int .i64)), .own 10 (.ro (.int .i64))])] b, pins := [1], deep := fun r i => find false [(1000, true), (5004, true), (5005, true)] (r * 1000 + i) }
/- slices.Min[[]int64,int64] -/
noncomputable def I126 : Inst := { f := 126, nt := 25, params := [((.ro (.slc (.int .i64))), false)], res := [(.ro (.int .i64))], slots := [.tmp 2], code := bd Try.f126, loops := fun b => find [] [(0, [.own 0 (.ro (.slc (.int .i64))), .own 3 (.ro (.int .i64)), .own 4 (.ro (.int .i64))])] b }
/- impl.LeastRate -/
noncomputable def I42 : Inst := { f := 42, nt := 14, params := [((.ro (.slc (.int .i16))), false)], res := [(.ro (.int .i64)), (.ro (.int .i64))], slots := [.tmp 2, .tmp 3], code := bd Try.f42, callee := fun r i => find 0 [(1001, 125), (3003, 127), (3004, 126)] (r * 1000 + i) }
/- spec.l00In -/
noncomputable def I85 : Inst := { f := 85, nt := 15, params := [((.ro (.int .i64)), false), ((.ro (.int .i64)), false), ((.ro (.int .i64)), false)], res := [(.ro .bool)], slots := [.tmp 6], code := bd Try.f85 }
/- spec.l01Steps -/
noncomputable def I117 : Inst := { f := 117, nt := 5, params := [((.ro (.int .i64)), false)], res := [(.ro .bool)], slots := [.tmp 2], code := bd Try.f117, callee := fun r i => find 0 [(1001, 85)] (r * 1000 + i) }
/- spec.l01Lift -/
noncomputable def I108 : Inst := { f := 108, nt := 5, params := [((.ro (.int .i64)), false)], res := [(.ro .bool)], slots := [.tmp 2], code := bd Try.f108, callee := fun r i => find 0 [(1001, 85)] (r * 1000 + i) }
/- spec.l01Ok -/
noncomputable def I129 : Inst := { f := 129, nt := 21, params := [((.ro (.slc (.int .i16))), false)], res := [(.ro .bool)], slots := [.tmp 2], code := bd Try.f129, callee := fun r i => find 0 [(1002, 117), (6005, 108)] (r * 1000 + i), loops := fun b => find [] [(0, [.own 0 (.ro (.slc (.int .i16))), .own 3 (.ro (.int .i64))])] b }
/- spec.l01At -/
noncomputable def I136 : Inst := { f := 136, nt := 19, params := [((.ro (.slc (.int .i16))), false), ((.ro (.int .i64)), false)], res := [(.ro (.int .i64))], slots := [.tmp 4], code := bd Try.f136 }
/- spec.l01Changes -/
noncomputable def I130 : Inst := { f := 130, nt := 24, params := [((.ro (.slc (.int .i16))), false)], res := [(.row false (.int .i64))], slots := [.tmp 2], code := bd Try.f130, callee := fun r i => find 0 [(5004, 136), (5007, 136)] (r * 1000 + i), loops := fun b => find [] [(0, [.own 0 (.ro (.slc (.int .i16))), .own 3 (.row false (.int .i64)), .own 4 (.ro (.int .i64))])] b, deep := fun r i => find false [(1000, true), (5009, true), (5010, true)] (r * 1000 + i) }
/- spec.LeastRate -/
noncomputable def I43 : Inst := { f := 43, nt := 26, params := [((.ro (.slc (.int .i16))), false)], res := [(.ro (.int .i64)), (.ro (.int .i64))], slots := [.tmp 2, .tmp 3], code := bd Try.f43, callee := fun r i => find 0 [(1001, 129), (3001, 130), (8006, 98)] (r * 1000 + i), loops := fun b => find [] [(0, [.own 4 (.ro (.slc (.int .i64))), .own 5 (.ro (.int .i64)), .own 6 (.ro (.int .i64))])] b }
/- impl.LagCam$1 -/
noncomputable def I133 : Inst := { f := 133, nt := 28, params := [((.ro (.int .i64)), false), ((.box (.ro (.slc (.int .i16)))), true), ((.box (.ro (.int .i64))), true)], res := [(.ro (.int .i64))], slots := [.tmp 4], code := bd Try.f133, strict := true, callee := fun r i => find 0 [(1002, 134), (2001, 132), (5005, 134)] (r * 1000 + i), loops := fun b => find [] [(0, [.own 0 (.ro (.int .i64)), .own 1 (.box (.ro (.slc (.int .i16)))), .own 2 (.box (.ro (.int .i64))), .own 5 (.ro (.int .i64)), .own 11 (.ro (.int .i64)), .own 12 (.ro (.int .i64))])] b, pins := [1, 2] }
/- impl.camOf -/
noncomputable def I131 : Inst := { f := 131, nt := 27, params := [((.ro (.int .i64)), false), ((.clo 133 (.ro .unit) (.pr (.box (.ro (.slc (.int .i16)))) (.pr (.box (.ro (.int .i64))) (.ro .unit)))), true)], res := [(.row false (.int .i16)), (.ro (.int .i64))], slots := [.tmp 4, .tmp 5], code := bd Try.f131, strict := true, callee := fun r i => find 0 [(5002, 133), (6001, 114)] (r * 1000 + i), loops := fun b => find [] [(0, [.own 1 (.clo 133 (.ro .unit) (.pr (.box (.ro (.slc (.int .i16)))) (.pr (.box (.ro (.int .i64))) (.ro .unit)))), .own 6 (.row false (.int .i16)), .own 10 (.ro (.int .i64)), .own 11 (.ro (.int .i64))])] b, pins := [1], deep := fun r i => find false [(1000, true), (8003, true), (8004, true)] (r * 1000 + i) }
/- impl.LagCam -/
noncomputable def I44 : Inst := { f := 44, nt := 20, params := [((.ro (.slc (.int .i16))), false), ((.ro (.int .i64)), false)], res := [(.row false (.int .i16)), (.ro (.int .i64))], slots := [.tmp 4, .tmp 5], code := bd Try.f44, callee := fun r i => find 0 [(1001, 125), (3001, 91), (5001, 132), (5003, 131)] (r * 1000 + i) }
/- spec.l01Same -/
noncomputable def I135 : Inst := { f := 135, nt := 26, params := [((.ro (.slc (.int .i16))), false), ((.ro (.slc (.int .i16))), false)], res := [(.ro .bool)], slots := [.tmp 4], code := bd Try.f135, loops := fun b => find [] [(0, [.own 0 (.ro (.slc (.int .i16))), .own 1 (.ro (.slc (.int .i16))), .own 5 (.ro (.int .i64))])] b }
/- spec.SameCam -/
noncomputable def I45 : Inst := { f := 45, nt := 8, params := [((.ro (.slc (.int .i16))), false), ((.ro (.slc (.int .i16))), false)], res := [(.ro .bool)], slots := [.tmp 4], code := bd Try.f45, callee := fun r i => find 0 [(1002, 135)] (r * 1000 + i) }
/- spec.P6Pick -/
noncomputable def I46 : Inst := { f := 46, nt := 9, params := [((.ro (.slc (.int .u8))), false), ((.ro (.int .i64)), false)], res := [(.ro (.int .i64))], slots := [.tmp 4], code := bd Try.f46, callee := fun r i => find 0 [(1001, 110), (1003, 111)] (r * 1000 + i) }
/- spec.LagCam -/
noncomputable def I47 : Inst := { f := 47, nt := 51, params := [((.ro (.slc (.int .i16))), false), ((.ro (.int .i64)), false)], res := [(.row false (.int .i16)), (.ro (.int .i64))], slots := [.tmp 4, .tmp 5], code := bd Try.f47, callee := fun r i => find 0 [(1001, 129), (3001, 85), (9002, 136), (13005, 136), (13010, 98)] (r * 1000 + i), loops := fun b => find [] [(2, [.own 0 (.ro (.slc (.int .i16))), .own 1 (.ro (.int .i64)), .own 6 (.row false (.int .i16)), .own 7 (.ro (.int .i64)), .own 8 (.ro (.int .i64)), .own 9 (.ro (.int .i64))]), (0, [.own 0 (.ro (.slc (.int .i16))), .own 1 (.ro (.int .i64)), .own 6 (.row false (.int .i16)), .own 7 (.ro (.int .i64))])] b, deep := fun r i => find false [(2000, true), (4000, true), (5000, true), (14003, true), (14004, true)] (r * 1000 + i) }
/- impl.footCode -/
noncomputable def I137 : Inst := { f := 137, nt := 13, params := [((.ro (.slc (.int .i16))), false), ((.ro (.int .i64)), false)], res := [(.ro (.int .i64))], slots := [.tmp 4], code := bd Try.f137, callee := fun r i => find 0 [(1001, 125), (3001, 91)] (r * 1000 + i) }
/- impl.greater -/
noncomputable def I139 : Inst := { f := 139, nt := 8, params := [((.ro (.int .i64)), false), ((.ro (.int .i64)), false)], res := [(.ro (.int .i64))], slots := [.tmp 4], code := bd Try.f139 }
/- impl.Cam).beside$1 -/
noncomputable def I189 : Inst := { f := 189, nt := 27, params := [((.ro (.int .i64)), false), ((.box (.ro (.slc (.int .i16)))), true), ((.box (.ro (.int .i64))), true), ((.box (.clo 139 (.ro .unit) (.ro .unit))), true)], res := [(.ro (.int .i64))], slots := [.tmp 5], code := bd Try.f189, strict := true, callee := fun r i => find 0 [(1002, 134), (5006, 134), (5007, 139)] (r * 1000 + i), loops := fun b => find [] [(0, [.own 0 (.ro (.int .i64)), .own 1 (.box (.ro (.slc (.int .i16)))), .own 2 (.box (.ro (.int .i64))), .own 3 (.box (.clo 139 (.ro .unit) (.ro .unit))), .own 6 (.ro (.int .i64)), .own 7 (.ro (.int .i64))])] b, pins := [1, 2, 3] }
/- impl.camOf -/
noncomputable def I1131 : Inst := { f := 131, nt := 27, params := [((.ro (.int .i64)), false), ((.clo 189 (.ro .unit) (.pr (.box (.ro (.slc (.int .i16)))) (.pr (.box (.ro (.int .i64))) (.pr (.box (.clo 139 (.ro .unit) (.ro .unit))) (.ro .unit))))), true)], res := [(.row false (.int .i16)), (.ro (.int .i64))], slots := [.tmp 4, .tmp 5], code := bd Try.f131, strict := true, callee := fun r i => find 0 [(5002, 189), (6001, 114)] (r * 1000 + i), loops := fun b => find [] [(0, [.own 1 (.clo 189 (.ro .unit) (.pr (.box (.ro (.slc (.int .i16)))) (.pr (.box (.ro (.int .i64))) (.pr (.box (.clo 139 (.ro .unit) (.ro .unit))) (.ro .unit))))), .own 6 (.row false (.int .i16)), .own 10 (.ro (.int .i64)), .own 11 (.ro (.int .i64))])] b, pins := [1], deep := fun r i => find false [(1000, true), (8003, true), (8004, true)] (r * 1000 + i) }
/- impl.Cam).beside -/
noncomputable def I138 : Inst := { f := 138, nt := 17, params := [((.ro (.slc (.int .i16))), false), ((.ro (.int .i64)), false), ((.clo 139 (.ro .unit) (.ro .unit)), false)], res := [(.row false (.int .i16))], slots := [.tmp 6], code := bd Try.f138, callee := fun r i => find 0 [(1001, 132), (1003, 1131)] (r * 1000 + i) }
/- impl.FootCam -/
noncomputable def I48 : Inst := { f := 48, nt := 16, params := [((.ro (.slc (.int .i16))), false), ((.ro (.int .i64)), false)], res := [(.row false (.int .i16)), (.ro (.int .i64))], slots := [.tmp 4, .tmp 5], code := bd Try.f48, callee := fun r i => find 0 [(1002, 137), (4002, 138)] (r * 1000 + i) }
/- spec.l03Footed -/
noncomputable def I140 : Inst := { f := 140, nt := 11, params := [((.ro (.slc (.int .i16))), false), ((.ro (.int .i64)), false)], res := [(.ro (.int .i64))], slots := [.tmp 4], code := bd Try.f140, callee := fun r i => find 0 [(1001, 129), (3001, 85)] (r * 1000 + i) }
/- spec.l03Foot -/
noncomputable def I141 : Inst := { f := 141, nt := 47, params := [((.ro (.slc (.int .i16))), false), ((.ro (.int .i64)), false), ((.ro .bool), false)], res := [(.row false (.int .i16))], slots := [.tmp 6], code := bd Try.f141, callee := fun r i => find 0 [(5002, 136), (9004, 136), (11002, 98), (12002, 184)] (r * 1000 + i), loops := fun b => find [] [(2, [.own 0 (.ro (.slc (.int .i16))), .own 1 (.ro (.int .i64)), .own 2 (.ro .bool), .own 7 (.row false (.int .i16)), .own 8 (.ro (.int .i64)), .own 9 (.ro (.int .i64)), .own 10 (.ro (.int .i64))]), (0, [.own 0 (.ro (.slc (.int .i16))), .own 1 (.ro (.int .i64)), .own 2 (.ro .bool), .own 7 (.row false (.int .i16)), .own 8 (.ro (.int .i64))])] b, deep := fun r i => find false [(1000, true), (13003, true), (13004, true)] (r * 1000 + i) }
/- spec.FootCam -/
noncomputable def I49 : Inst := { f := 49, nt := 17, params := [((.ro (.slc (.int .i16))), false), ((.ro (.int .i64)), false)], res := [(.row false (.int .i16)), (.ro (.int .i64))], slots := [.tmp 4, .tmp 5], code := bd Try.f49, callee := fun r i => find 0 [(1002, 140), (4002, 141)] (r * 1000 + i), deep := fun r i => find false [(3000, true)] (r * 1000 + i) }
/- impl.lesser -/
noncomputable def I190 : Inst := { f := 190, nt := 8, params := [((.ro (.int .i64)), false), ((.ro (.int .i64)), false)], res := [(.ro (.int .i64))], slots := [.tmp 4], code := bd Try.f190 }
/- impl.Cam).beside$1 -/
noncomputable def I1189 : Inst := { f := 189, nt := 27, params := [((.ro (.int .i64)), false), ((.box (.ro (.slc (.int .i16)))), true), ((.box (.ro (.int .i64))), true), ((.box (.clo 190 (.ro .unit) (.ro .unit))), true)], res := [(.ro (.int .i64))], slots := [.tmp 5], code := bd Try.f189, strict := true, callee := fun r i => find 0 [(1002, 134), (5006, 134), (5007, 190)] (r * 1000 + i), loops := fun b => find [] [(0, [.own 0 (.ro (.int .i64)), .own 1 (.box (.ro (.slc (.int .i16)))), .own 2 (.box (.ro (.int .i64))), .own 3 (.box (.clo 190 (.ro .unit) (.ro .unit))), .own 6 (.ro (.int .i64)), .own 7 (.ro (.int .i64))])] b, pins := [1, 2, 3] }
/- impl.camOf -/
noncomputable def I2131 : Inst := { f := 131, nt := 27, params := [((.ro (.int .i64)), false), ((.clo 189 (.ro .unit) (.pr (.box (.ro (.slc (.int .i16)))) (.pr (.box (.ro (.int .i64))) (.pr (.box (.clo 190 (.ro .unit) (.ro .unit))) (.ro .unit))))), true)], res := [(.row false (.int .i16)), (.ro (.int .i64))], slots := [.tmp 4, .tmp 5], code := bd Try.f131, strict := true, callee := fun r i => find 0 [(5002, 1189), (6001, 114)] (r * 1000 + i), loops := fun b => find [] [(0, [.own 1 (.clo 189 (.ro .unit) (.pr (.box (.ro (.slc (.int .i16)))) (.pr (.box (.ro (.int .i64))) (.pr (.box (.clo 190 (.ro .unit) (.ro .unit))) (.ro .unit))))), .own 6 (.row false (.int .i16)), .own 10 (.ro (.int .i64)), .own 11 (.ro (.int .i64))])] b, pins := [1], deep := fun r i => find false [(1000, true), (8003, true), (8004, true)] (r * 1000 + i) }
/- impl.Cam).beside -/
noncomputable def I1138 : Inst := { f := 138, nt := 17, params := [((.ro (.slc (.int .i16))), false), ((.ro (.int .i64)), false), ((.clo 190 (.ro .unit) (.ro .unit)), false)], res := [(.row false (.int .i16))], slots := [.tmp 6], code := bd Try.f138, callee := fun r i => find 0 [(1001, 132), (1003, 2131)] (r * 1000 + i) }
/- impl.Cam).reached -/
noncomputable def I142 : Inst := { f := 142, nt := 10, params := [((.ro (.slc (.int .i16))), false), ((.ro (.int .i64)), false)], res := [(.row false (.int .i16))], slots := [.tmp 4], code := bd Try.f142, callee := fun r i => find 0 [(1002, 138), (1004, 1138)] (r * 1000 + i) }
/- impl.ReachedCam -/
noncomputable def I50 : Inst := { f := 50, nt := 16, params := [((.ro (.slc (.int .i16))), false), ((.ro (.int .i64)), false)], res := [(.row false (.int .i16)), (.ro (.int .i64))], slots := [.tmp 4, .tmp 5], code := bd Try.f50, callee := fun r i => find 0 [(1002, 137), (4002, 142)] (r * 1000 + i) }
/- spec.l03Reached -/
noncomputable def I143 : Inst := { f := 143, nt := 10, params := [((.ro (.slc (.int .i16))), false), ((.ro (.int .i64)), false)], res := [(.row false (.int .i16))], slots := [.tmp 4], code := bd Try.f143, callee := fun r i => find 0 [(1002, 141), (1004, 141)] (r * 1000 + i) }
/- spec.ReachedCam -/
noncomputable def I51 : Inst := { f := 51, nt := 17, params := [((.ro (.slc (.int .i16))), false), ((.ro (.int .i64)), false)], res := [(.row false (.int .i16)), (.ro (.int .i64))], slots := [.tmp 4, .tmp 5], code := bd Try.f51, callee := fun r i => find 0 [(1002, 140), (4002, 143)] (r * 1000 + i), deep := fun r i => find false [(3000, true)] (r * 1000 + i) }
/- impl.MissedSteps -/
noncomputable def I52 : Inst := { f := 52, nt := 38, params := [((.ro (.slc (.int .i16))), false), ((.ro (.int .i64)), false)], res := [(.row false (.int .i64)), (.ro (.int .i64))], slots := [.tmp 4, .tmp 5], code := bd Try.f52, callee := fun r i => find 0 [(1002, 137), (5002, 142)] (r * 1000 + i), loops := fun b => find [] [(0, [.own 0 (.ro (.slc (.int .i16))), .own 7 (.row false (.int .i64)), .own 19 (.ro (.slc (.int .i16))), .own 20 (.ro (.int .i64)), .own 21 (.ro (.int .i64))])] b, deep := fun r i => find false [(4000, true), (9002, true), (9003, true)] (r * 1000 + i) }
/- spec.MissedSteps -/
noncomputable def I53 : Inst := { f := 53, nt := 41, params := [((.ro (.slc (.int .i16))), false), ((.ro (.int .i64)), false)], res := [(.row false (.int .i64)), (.ro (.int .i64))], slots := [.tmp 4, .tmp 5], code := bd Try.f53, callee := fun r i => find 0 [(1002, 140), (4002, 143)] (r * 1000 + i), loops := fun b => find [] [(0, [.own 0 (.ro (.slc (.int .i16))), .own 7 (.ro (.slc (.int .i16))), .own 8 (.row false (.int .i64)), .own 9 (.ro (.int .i64))])] b, deep := fun r i => find false [(3000, true), (5000, true), (10002, true), (10003, true)] (r * 1000 + i) }
/- spec.l00Same -/
noncomputable def I144 : Inst := { f := 144, nt := 26, params := [((.ro (.slc (.int .i64))), false), ((.ro (.slc (.int .i64))), false)], res := [(.ro .bool)], slots := [.tmp 4], code := bd Try.f144, loops := fun b => find [] [(0, [.own 0 (.ro (.slc (.int .i64))), .own 1 (.ro (.slc (.int .i64))), .own 5 (.ro (.int .i64))])] b }
/- spec.SameNumbers -/
noncomputable def I54 : Inst := { f := 54, nt := 8, params := [((.ro (.slc (.int .i64))), false), ((.ro (.slc (.int .i64))), false)], res := [(.ro .bool)], slots := [.tmp 4], code := bd Try.f54, callee := fun r i => find 0 [(1002, 144)] (r * 1000 + i) }
/- impl.Cam,int16] -/
noncomputable def I145 : Inst := { f := 145, nt := 26, params := [((.ro (.slc (.int .i16))), false), ((.ro (.slc (.int .i16))), false)], res := [(.ro .bool)], slots := [.tmp 4], code := bd Try.f145, loops := fun b => find [] [(0, [.own 0 (.ro (.slc (.int .i16))), .own 1 (.ro (.slc (.int .i16))), .own 12 (.ro (.int .i64)), .own 13 (.ro (.int .i64))])] b }
/- impl.WidestFoot -/
noncomputable def I55 : Inst := { f := 55, nt := 21, params := [((.ro (.slc (.int .i16))), false)], res := [(.ro (.int .i64)), (.ro (.int .i64))], slots := [.tmp 2, .tmp 3], code := bd Try.f55, callee := fun r i => find 0 [(1001, 125), (4006, 142), (4008, 145)] (r * 1000 + i), loops := fun b => find [] [(0, [.own 0 (.ro (.slc (.int .i16))), .own 4 (.ro (.int .i64))])] b }
/- spec.WidestFoot -/
noncomputable def I56 : Inst := { f := 56, nt := 21, params := [((.ro (.slc (.int .i16))), false)], res := [(.ro (.int .i64)), (.ro (.int .i64))], slots := [.tmp 2, .tmp 3], code := bd Try.f56, callee := fun r i => find 0 [(1001, 129), (4006, 143), (4008, 135)] (r * 1000 + i), loops := fun b => find [] [(0, [.own 0 (.ro (.slc (.int .i16))), .own 4 (.ro (.int .i64))])] b }
/- laws.FnFeet -/
noncomputable def I7 : Inst := { f := 7, nt := 341, params := [((.ro (.slc (.int .u8))), false), ((.ro (.slc (.int .u8))), false)], res := [(.ro .bool)], slots := [.tmp 4], code := bd Try.f7, callee := fun r i => find 0 [(1001, 40), (1004, 40), (3001, 41), (4001, 42), (5001, 43), (6002, 44), (7019, 45), (10003, 44), (11005, 45), (13001, 46), (14002, 44), (15002, 47), (16001, 42), (17001, 46), (18002, 48), (19002, 49), (20002, 50), (21002, 51), (22002, 50), (23002, 52), (24002, 53), (25010, 45), (25034, 45), (25049, 45), (25059, 45), (25074, 54), (35001, 55), (36001, 56)] (r * 1000 + i), loops := fun b => find [] [(0, [.own 5 (.ro (.slc (.int .i16))), .own 17 (.ro (.slc (.int .i16))), .own 21 (.ro (.int .i64)), .own 24 (.ro (.slc (.int .i16))), .own 28 (.ro (.slc (.int .i16))), .own 34 (.ro (.slc (.int .i64))), .own 36 (.ro (.int .i64)), .own 37 (.ro (.int .i64))])] b }
noncomputable def CL : List (Nat × Inst) := [(40, I40), (110, I110), (180, I180), (111, I111), (183, I183), (184, I184), (98, I98), (185, I185), (124, I124), (41, I41), (132, I132), (91, I91), (115, I115), (114, I114), (187, I187), (209, I209), (186, I186), (125, I125), (210, I210), (188, I188), (134, I134), (128, I128), (127, I127), (126, I126), (42, I42), (85, I85), (117, I117), (108, I108), (129, I129), (136, I136), (130, I130), (43, I43), (133, I133), (131, I131), (44, I44), (135, I135), (45, I45), (46, I46), (47, I47), (137, I137), (139, I139), (189, I189), (1131, I1131), (138, I138), (48, I48), (140, I140), (141, I141), (49, I49), (190, I190), (1189, I1189), (2131, I2131), (1138, I1138), (142, I142), (50, I50), (143, I143), (51, I51), (52, I52), (53, I53), (144, I144), (54, I54), (145, I145), (55, I55), (56, I56), (7, I7)]
noncomputable def C : Nat → Inst := find I40 CL
theorem tsOk : TsOk Try.prog T := tsOkB_sound (by kernel_rfl)
theorem ok40 : InstOk Try.prog I40 := instOk_of Try.func40 (by kernel_rfl) (by kernel_rfl) (by kernel_rfl) (by kernel_rfl)
theorem ok110 : InstOk Try.prog I110 := instOk_of Try.func110 (by kernel_rfl) (by kernel_rfl) (by kernel_rfl) (by kernel_rfl)
theorem ok180 : InstOk Try.prog I180 := instOk_of Try.func180 (by kernel_rfl) (by kernel_rfl) (by kernel_rfl) (by kernel_rfl)
theorem ok111 : InstOk Try.prog I111 := instOk_of Try.func111 (by kernel_rfl) (by kernel_rfl) (by kernel_rfl) (by kernel_rfl)
theorem ok183 : InstOk Try.prog I183 := instOk_of Try.func183 (by kernel_rfl) (by kernel_rfl) (by kernel_rfl) (by kernel_rfl)
theorem ok184 : InstOk Try.prog I184 := instOk_of Try.func184 (by kernel_rfl) (by kernel_rfl) (by kernel_rfl) (by kernel_rfl)
theorem ok98 : InstOk Try.prog I98 := instOk_of Try.func98 (by kernel_rfl) (by kernel_rfl) (by kernel_rfl) (by kernel_rfl)
theorem ok185 : InstOk Try.prog I185 := instOk_of Try.func185 (by kernel_rfl) (by kernel_rfl) (by kernel_rfl) (by kernel_rfl)
theorem ok124 : InstOk Try.prog I124 := instOk_of Try.func124 (by kernel_rfl) (by kernel_rfl) (by kernel_rfl) (by kernel_rfl)
theorem ok41 : InstOk Try.prog I41 := instOk_of Try.func41 (by kernel_rfl) (by kernel_rfl) (by kernel_rfl) (by kernel_rfl)
theorem ok132 : InstOk Try.prog I132 := instOk_of Try.func132 (by kernel_rfl) (by kernel_rfl) (by kernel_rfl) (by kernel_rfl)
theorem ok91 : InstOk Try.prog I91 := instOk_of Try.func91 (by kernel_rfl) (by kernel_rfl) (by kernel_rfl) (by kernel_rfl)
theorem ok115 : InstOk Try.prog I115 := instOk_of Try.func115 (by kernel_rfl) (by kernel_rfl) (by kernel_rfl) (by kernel_rfl)
theorem ok114 : InstOk Try.prog I114 := instOk_of Try.func114 (by kernel_rfl) (by kernel_rfl) (by kernel_rfl) (by kernel_rfl)
theorem ok187 : InstOk Try.prog I187 := instOk_of Try.func187 (by kernel_rfl) (by kernel_rfl) (by kernel_rfl) (by kernel_rfl)
theorem ok209 : InstOk Try.prog I209 := instOk_of Try.func209 (by kernel_rfl) (by kernel_rfl) (by kernel_rfl) (by kernel_rfl)
theorem ok186 : InstOk Try.prog I186 := instOk_of Try.func186 (by kernel_rfl) (by kernel_rfl) (by kernel_rfl) (by kernel_rfl)
theorem ok125 : InstOk Try.prog I125 := instOk_of Try.func125 (by kernel_rfl) (by kernel_rfl) (by kernel_rfl) (by kernel_rfl)
theorem ok210 : InstOk Try.prog I210 := instOk_of Try.func210 (by kernel_rfl) (by kernel_rfl) (by kernel_rfl) (by kernel_rfl)
theorem ok188 : InstOk Try.prog I188 := instOk_of Try.func188 (by kernel_rfl) (by kernel_rfl) (by kernel_rfl) (by kernel_rfl)
theorem ok134 : InstOk Try.prog I134 := instOk_of Try.func134 (by kernel_rfl) (by kernel_rfl) (by kernel_rfl) (by kernel_rfl)
theorem ok128 : InstOk Try.prog I128 := instOk_of Try.func128 (by kernel_rfl) (by kernel_rfl) (by kernel_rfl) (by kernel_rfl)
theorem ok127 : InstOk Try.prog I127 := instOk_of Try.func127 (by kernel_rfl) (by kernel_rfl) (by kernel_rfl) (by kernel_rfl)
theorem ok126 : InstOk Try.prog I126 := instOk_of Try.func126 (by kernel_rfl) (by kernel_rfl) (by kernel_rfl) (by kernel_rfl)
theorem ok42 : InstOk Try.prog I42 := instOk_of Try.func42 (by kernel_rfl) (by kernel_rfl) (by kernel_rfl) (by kernel_rfl)
theorem ok85 : InstOk Try.prog I85 := instOk_of Try.func85 (by kernel_rfl) (by kernel_rfl) (by kernel_rfl) (by kernel_rfl)
theorem ok117 : InstOk Try.prog I117 := instOk_of Try.func117 (by kernel_rfl) (by kernel_rfl) (by kernel_rfl) (by kernel_rfl)
theorem ok108 : InstOk Try.prog I108 := instOk_of Try.func108 (by kernel_rfl) (by kernel_rfl) (by kernel_rfl) (by kernel_rfl)
theorem ok129 : InstOk Try.prog I129 := instOk_of Try.func129 (by kernel_rfl) (by kernel_rfl) (by kernel_rfl) (by kernel_rfl)
theorem ok136 : InstOk Try.prog I136 := instOk_of Try.func136 (by kernel_rfl) (by kernel_rfl) (by kernel_rfl) (by kernel_rfl)
theorem ok130 : InstOk Try.prog I130 := instOk_of Try.func130 (by kernel_rfl) (by kernel_rfl) (by kernel_rfl) (by kernel_rfl)
theorem ok43 : InstOk Try.prog I43 := instOk_of Try.func43 (by kernel_rfl) (by kernel_rfl) (by kernel_rfl) (by kernel_rfl)
theorem ok133 : InstOk Try.prog I133 := instOk_of Try.func133 (by kernel_rfl) (by kernel_rfl) (by kernel_rfl) (by kernel_rfl)
theorem ok131 : InstOk Try.prog I131 := instOk_of Try.func131 (by kernel_rfl) (by kernel_rfl) (by kernel_rfl) (by kernel_rfl)
theorem ok44 : InstOk Try.prog I44 := instOk_of Try.func44 (by kernel_rfl) (by kernel_rfl) (by kernel_rfl) (by kernel_rfl)
theorem ok135 : InstOk Try.prog I135 := instOk_of Try.func135 (by kernel_rfl) (by kernel_rfl) (by kernel_rfl) (by kernel_rfl)
theorem ok45 : InstOk Try.prog I45 := instOk_of Try.func45 (by kernel_rfl) (by kernel_rfl) (by kernel_rfl) (by kernel_rfl)
theorem ok46 : InstOk Try.prog I46 := instOk_of Try.func46 (by kernel_rfl) (by kernel_rfl) (by kernel_rfl) (by kernel_rfl)
theorem ok47 : InstOk Try.prog I47 := instOk_of Try.func47 (by kernel_rfl) (by kernel_rfl) (by kernel_rfl) (by kernel_rfl)
theorem ok137 : InstOk Try.prog I137 := instOk_of Try.func137 (by kernel_rfl) (by kernel_rfl) (by kernel_rfl) (by kernel_rfl)
theorem ok139 : InstOk Try.prog I139 := instOk_of Try.func139 (by kernel_rfl) (by kernel_rfl) (by kernel_rfl) (by kernel_rfl)
theorem ok189 : InstOk Try.prog I189 := instOk_of Try.func189 (by kernel_rfl) (by kernel_rfl) (by kernel_rfl) (by kernel_rfl)
theorem ok1131 : InstOk Try.prog I1131 := instOk_of Try.func131 (by kernel_rfl) (by kernel_rfl) (by kernel_rfl) (by kernel_rfl)
theorem ok138 : InstOk Try.prog I138 := instOk_of Try.func138 (by kernel_rfl) (by kernel_rfl) (by kernel_rfl) (by kernel_rfl)
theorem ok48 : InstOk Try.prog I48 := instOk_of Try.func48 (by kernel_rfl) (by kernel_rfl) (by kernel_rfl) (by kernel_rfl)
theorem ok140 : InstOk Try.prog I140 := instOk_of Try.func140 (by kernel_rfl) (by kernel_rfl) (by kernel_rfl) (by kernel_rfl)
theorem ok141 : InstOk Try.prog I141 := instOk_of Try.func141 (by kernel_rfl) (by kernel_rfl) (by kernel_rfl) (by kernel_rfl)
theorem ok49 : InstOk Try.prog I49 := instOk_of Try.func49 (by kernel_rfl) (by kernel_rfl) (by kernel_rfl) (by kernel_rfl)
theorem ok190 : InstOk Try.prog I190 := instOk_of Try.func190 (by kernel_rfl) (by kernel_rfl) (by kernel_rfl) (by kernel_rfl)
theorem ok1189 : InstOk Try.prog I1189 := instOk_of Try.func189 (by kernel_rfl) (by kernel_rfl) (by kernel_rfl) (by kernel_rfl)
theorem ok2131 : InstOk Try.prog I2131 := instOk_of Try.func131 (by kernel_rfl) (by kernel_rfl) (by kernel_rfl) (by kernel_rfl)
theorem ok1138 : InstOk Try.prog I1138 := instOk_of Try.func138 (by kernel_rfl) (by kernel_rfl) (by kernel_rfl) (by kernel_rfl)
theorem ok142 : InstOk Try.prog I142 := instOk_of Try.func142 (by kernel_rfl) (by kernel_rfl) (by kernel_rfl) (by kernel_rfl)
theorem ok50 : InstOk Try.prog I50 := instOk_of Try.func50 (by kernel_rfl) (by kernel_rfl) (by kernel_rfl) (by kernel_rfl)
theorem ok143 : InstOk Try.prog I143 := instOk_of Try.func143 (by kernel_rfl) (by kernel_rfl) (by kernel_rfl) (by kernel_rfl)
theorem ok51 : InstOk Try.prog I51 := instOk_of Try.func51 (by kernel_rfl) (by kernel_rfl) (by kernel_rfl) (by kernel_rfl)
theorem ok52 : InstOk Try.prog I52 := instOk_of Try.func52 (by kernel_rfl) (by kernel_rfl) (by kernel_rfl) (by kernel_rfl)
theorem ok53 : InstOk Try.prog I53 := instOk_of Try.func53 (by kernel_rfl) (by kernel_rfl) (by kernel_rfl) (by kernel_rfl)
theorem ok144 : InstOk Try.prog I144 := instOk_of Try.func144 (by kernel_rfl) (by kernel_rfl) (by kernel_rfl) (by kernel_rfl)
theorem ok54 : InstOk Try.prog I54 := instOk_of Try.func54 (by kernel_rfl) (by kernel_rfl) (by kernel_rfl) (by kernel_rfl)
theorem ok145 : InstOk Try.prog I145 := instOk_of Try.func145 (by kernel_rfl) (by kernel_rfl) (by kernel_rfl) (by kernel_rfl)
theorem ok55 : InstOk Try.prog I55 := instOk_of Try.func55 (by kernel_rfl) (by kernel_rfl) (by kernel_rfl) (by kernel_rfl)
theorem ok56 : InstOk Try.prog I56 := instOk_of Try.func56 (by kernel_rfl) (by kernel_rfl) (by kernel_rfl) (by kernel_rfl)
theorem ok7 : InstOk Try.prog I7 := instOk_of Try.func7 (by kernel_rfl) (by kernel_rfl) (by kernel_rfl) (by kernel_rfl)
theorem insts : ∀ j, InstOk Try.prog (C j) := find_all ok40 (List.forall_mem_cons.2 ⟨ok40, List.forall_mem_cons.2 ⟨ok110, List.forall_mem_cons.2 ⟨ok180, List.forall_mem_cons.2 ⟨ok111, List.forall_mem_cons.2 ⟨ok183, List.forall_mem_cons.2 ⟨ok184, List.forall_mem_cons.2 ⟨ok98, List.forall_mem_cons.2 ⟨ok185, List.forall_mem_cons.2 ⟨ok124, List.forall_mem_cons.2 ⟨ok41, List.forall_mem_cons.2 ⟨ok132, List.forall_mem_cons.2 ⟨ok91, List.forall_mem_cons.2 ⟨ok115, List.forall_mem_cons.2 ⟨ok114, List.forall_mem_cons.2 ⟨ok187, List.forall_mem_cons.2 ⟨ok209, List.forall_mem_cons.2 ⟨ok186, List.forall_mem_cons.2 ⟨ok125, List.forall_mem_cons.2 ⟨ok210, List.forall_mem_cons.2 ⟨ok188, List.forall_mem_cons.2 ⟨ok134, List.forall_mem_cons.2 ⟨ok128, List.forall_mem_cons.2 ⟨ok127, List.forall_mem_cons.2 ⟨ok126, List.forall_mem_cons.2 ⟨ok42, List.forall_mem_cons.2 ⟨ok85, List.forall_mem_cons.2 ⟨ok117, List.forall_mem_cons.2 ⟨ok108, List.forall_mem_cons.2 ⟨ok129, List.forall_mem_cons.2 ⟨ok136, List.forall_mem_cons.2 ⟨ok130, List.forall_mem_cons.2 ⟨ok43, List.forall_mem_cons.2 ⟨ok133, List.forall_mem_cons.2 ⟨ok131, List.forall_mem_cons.2 ⟨ok44, List.forall_mem_cons.2 ⟨ok135, List.forall_mem_cons.2 ⟨ok45, List.forall_mem_cons.2 ⟨ok46, List.forall_mem_cons.2 ⟨ok47, List.forall_mem_cons.2 ⟨ok137, List.forall_mem_cons.2 ⟨ok139, List.forall_mem_cons.2 ⟨ok189, List.forall_mem_cons.2 ⟨ok1131, List.forall_mem_cons.2 ⟨ok138, List.forall_mem_cons.2 ⟨ok48, List.forall_mem_cons.2 ⟨ok140, List.forall_mem_cons.2 ⟨ok141, List.forall_mem_cons.2 ⟨ok49, List.forall_mem_cons.2 ⟨ok190, List.forall_mem_cons.2 ⟨ok1189, List.forall_mem_cons.2 ⟨ok2131, List.forall_mem_cons.2 ⟨ok1138, List.forall_mem_cons.2 ⟨ok142, List.forall_mem_cons.2 ⟨ok50, List.forall_mem_cons.2 ⟨ok143, List.forall_mem_cons.2 ⟨ok51, List.forall_mem_cons.2 ⟨ok52, List.forall_mem_cons.2 ⟨ok53, List.forall_mem_cons.2 ⟨ok144, List.forall_mem_cons.2 ⟨ok54, List.forall_mem_cons.2 ⟨ok145, List.forall_mem_cons.2 ⟨ok55, List.forall_mem_cons.2 ⟨ok56, List.forall_mem_cons.2 ⟨ok7, fun _ h => absurd h List.not_mem_nil⟩⟩⟩⟩⟩⟩⟩⟩⟩⟩⟩⟩⟩⟩⟩⟩⟩⟩⟩⟩⟩⟩⟩⟩⟩⟩⟩⟩⟩⟩⟩⟩⟩⟩⟩⟩⟩⟩⟩⟩⟩⟩⟩⟩⟩⟩⟩⟩⟩⟩⟩⟩⟩⟩⟩⟩⟩⟩⟩⟩⟩⟩⟩⟩)
theorem noExt : ∀ j, (C j).ext = none := by
  have hC : C = find I40 CL := by delta C; with_reducible rfl
  exact fun j => noExt_of (C := C) _ _ hC (by kernel_rfl) (by kernel_rfl) j
end Go.Proofs.Ytdhgdfofgeccgaa.LFt
