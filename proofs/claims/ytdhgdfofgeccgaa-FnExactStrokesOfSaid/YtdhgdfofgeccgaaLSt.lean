/- The types and the functions that a law reaches, told for the reading (Fw). Written by a program (gen.py). -/
import Derived.Test.YtdhgdfofgeccgaaFwC
import Derived.Test.YtdhgdfofgeccgaaProg
namespace Go.Proofs.Ytdhgdfofgeccgaa.LSt
open Go Go.Fw
open Go.Proofs
noncomputable def tyL : List (Nat × TI) := [(2, ⟨(.int .i64), 0, 8⟩),
  (3, ⟨(.int .i64), 0, 8⟩),
  (4, ⟨.bool, 0, 1⟩),
  (22, ⟨(.slc (.int .i16)), 57, 24⟩),
  (24, ⟨(.pair (.slc (.int .i16)) (.pair (.slc (.int .i16)) (.pair (.slc (.int .i16)) .unit))), 0, 72⟩),
  (26, ⟨(.slc (.slc (.arr 2 (.int .i16)))), 108, 24⟩),
  (29, ⟨(.slc (.int .i16)), 57, 24⟩),
  (31, ⟨(.pair (.slc (.int .i16)) (.pair (.slc (.int .i16)) (.pair (.slc (.int .i16)) .unit))), 0, 72⟩),
  (40, ⟨(.slc (.pair (.arr 2 (.int .i16)) (.pair .bool .unit))), 106, 24⟩),
  (57, ⟨(.int .i16), 0, 2⟩),
  (97, ⟨(.ptr (.pair (.slc (.int .i16)) (.pair (.slc (.int .i16)) (.pair (.slc (.int .i16)) .unit)))), 0, 8⟩),
  (104, ⟨(.arr 2 (.int .i16)), 57, 4⟩),
  (106, ⟨(.pair (.arr 2 (.int .i16)) (.pair .bool .unit)), 0, 6⟩),
  (108, ⟨(.slc (.arr 2 (.int .i16))), 104, 24⟩),
  (170, ⟨(.arr 2 (.slc (.int .i16))), 29, 48⟩),
  (191, ⟨.fn, 0, 8⟩)]
noncomputable def T : Nat → Option TI := findT tyL
/- laws.szCam -/
noncomputable def I70 : Inst := { f := 70, nt := 12, params := [((.ro (.slc (.int .i16))), false), ((.ro (.int .i64)), false)], res := [(.ro (.int .i64))], slots := [.tmp 4], code := bd Try.f70 }
/- laws.szMachine -/
noncomputable def I9 : Inst := { f := 9, nt := 24, params := [((.ro (.pair (.slc (.int .i16)) (.pair (.slc (.int .i16)) (.pair (.slc (.int .i16)) .unit)))), false), ((.ro (.int .i64)), false)], res := [(.ro (.int .i64))], slots := [.tmp 4], code := bd Try.f9, callee := fun r i => find 0 [(1003, 70), (4003, 70), (7003, 70)] (r * 1000 + i) }
/- laws.toCam -/
noncomputable def I74 : Inst := { f := 74, nt := 22, params := [((.ro (.slc (.int .i16))), false)], res := [(.row false (.int .i16))], slots := [.tmp 2], code := bd Try.f74, loops := fun b => find [] [(0, [.own 0 (.ro (.slc (.int .i16))), .own 3 (.row false (.int .i16)), .own 4 (.ro (.int .i64))])] b, deep := fun r i => find false [(1002, true)] (r * 1000 + i) }
/- laws.toMachine -/
noncomputable def I11 : Inst := { f := 11, nt := 17, params := [((.ro (.pair (.slc (.int .i16)) (.pair (.slc (.int .i16)) (.pair (.slc (.int .i16)) .unit)))), false)], res := [(.pr (.row false (.int .i16)) (.pr (.row false (.int .i16)) (.pr (.row false (.int .i16)) (.ro .unit))))], slots := [.cell 2 31], code := bd Try.f11, callee := fun r i => find 0 [(2002, 74), (3002, 74), (4002, 74)] (r * 1000 + i) }
/- spec.l00In -/
noncomputable def I85 : Inst := { f := 85, nt := 15, params := [((.ro (.int .i64)), false), ((.ro (.int .i64)), false), ((.ro (.int .i64)), false)], res := [(.ro .bool)], slots := [.tmp 6], code := bd Try.f85 }
/- spec.l01Steps -/
noncomputable def I117 : Inst := { f := 117, nt := 5, params := [((.ro (.int .i64)), false)], res := [(.ro .bool)], slots := [.tmp 2], code := bd Try.f117, callee := fun r i => find 0 [(1001, 85)] (r * 1000 + i) }
/- spec.l01Lift -/
noncomputable def I108 : Inst := { f := 108, nt := 5, params := [((.ro (.int .i64)), false)], res := [(.ro .bool)], slots := [.tmp 2], code := bd Try.f108, callee := fun r i => find 0 [(1001, 85)] (r * 1000 + i) }
/- spec.l01Ok -/
noncomputable def I129 : Inst := { f := 129, nt := 21, params := [((.ro (.slc (.int .i16))), false)], res := [(.ro .bool)], slots := [.tmp 2], code := bd Try.f129, callee := fun r i => find 0 [(1002, 117), (6005, 108)] (r * 1000 + i), loops := fun b => find [] [(0, [.own 0 (.ro (.slc (.int .i16))), .own 3 (.ro (.int .i64))])] b }
/- spec.l00Min -/
noncomputable def I184 : Inst := { f := 184, nt := 10, params := [((.ro (.int .i64)), false), ((.ro (.int .i64)), false)], res := [(.ro (.int .i64))], slots := [.tmp 4], code := bd Try.f184 }
/- spec.l00Max -/
noncomputable def I98 : Inst := { f := 98, nt := 10, params := [((.ro (.int .i64)), false), ((.ro (.int .i64)), false)], res := [(.ro (.int .i64))], slots := [.tmp 4], code := bd Try.f98 }
/- spec.l01Range -/
noncomputable def I201 : Inst := { f := 201, nt := 34, params := [((.ro (.slc (.int .i16))), false)], res := [(.ro (.int .i64)), (.ro (.int .i64))], slots := [.tmp 2, .tmp 3], code := bd Try.f201, callee := fun r i => find 0 [(6006, 184), (7006, 98)] (r * 1000 + i), loops := fun b => find [] [(0, [.own 0 (.ro (.slc (.int .i16))), .own 4 (.ro (.int .i64)), .own 5 (.ro (.int .i64)), .own 6 (.ro (.int .i64))])] b }
/- spec.l07Moves -/
noncomputable def I160 : Inst := { f := 160, nt := 15, params := [((.ro (.slc (.int .i16))), false)], res := [(.ro .bool)], slots := [.tmp 2], code := bd Try.f160, callee := fun r i => find 0 [(1001, 129), (3001, 201)] (r * 1000 + i) }
/- spec.l07Ok -/
noncomputable def I71 : Inst := { f := 71, nt := 48, params := [((.ro (.ptr (.pair (.slc (.int .i16)) (.pair (.slc (.int .i16)) (.pair (.slc (.int .i16)) .unit))))), false)], res := [(.ro .bool)], slots := [.tmp 2], code := bd Try.f71, callee := fun r i => find 0 [(1004, 160), (1010, 160), (1017, 129)] (r * 1000 + i) }
/- spec.l07Stops -/
noncomputable def I73 : Inst := { f := 73, nt := 43, params := [((.ro (.ptr (.pair (.slc (.int .i16)) (.pair (.slc (.int .i16)) (.pair (.slc (.int .i16)) .unit))))), false)], res := [(.row false (.pair (.arr 2 (.int .i16)) (.pair .bool .unit)))], slots := [.tmp 2], code := bd Try.f73, loops := fun b => find [] [(0, [.own 0 (.ro (.ptr (.pair (.slc (.int .i16)) (.pair (.slc (.int .i16)) (.pair (.slc (.int .i16)) .unit))))), .own 3 (.row false (.pair (.arr 2 (.int .i16)) (.pair .bool .unit))), .own 4 (.ro (.int .i64))])] b, deep := fun r i => find false [(1000, true), (5025, true), (5026, true)] (r * 1000 + i) }
/- spec.l07Traced -/
noncomputable def I72 : Inst := { f := 72, nt := 83, params := [((.ro (.slc (.pair (.arr 2 (.int .i16)) (.pair .bool .unit)))), false)], res := [(.ro (.slc (.slc (.arr 2 (.int .i16)))))], slots := [.tmp 2], code := bd Try.f72, strict := true, loops := fun b => find [] [(0, [.own 0 (.ro (.slc (.pair (.arr 2 (.int .i16)) (.pair .bool .unit)))), .own 3 (.row false (.slc (.arr 2 (.int .i16)))), .own 4 (.row false (.arr 2 (.int .i16))), .own 5 (.ro (.int .i64))])] b, ice := fun r i => find [] [(8002, [24, 4, 20]), (11002, [32, 4, 28]), (17002, [61, 4, 50, 57]), (20002, [79, 4, 77, 50])] (r * 1000 + i) }
/- spec.StrokesOf -/
noncomputable def I10 : Inst := { f := 10, nt := 15, params := [((.ro (.pair (.slc (.int .i16)) (.pair (.slc (.int .i16)) (.pair (.slc (.int .i16)) .unit)))), false)], res := [(.ro (.slc (.slc (.arr 2 (.int .i16))))), (.ro (.int .i64))], slots := [.tmp 2, .tmp 3], code := bd Try.f10, strict := true, callee := fun r i => find 0 [(1000, 71), (3000, 73), (3001, 72)] (r * 1000 + i), ice := fun r i => find [] [(3001, [8])] (r * 1000 + i) }
/- impl.Cam).steps -/
noncomputable def I132 : Inst := { f := 132, nt := 5, params := [((.ro (.slc (.int .i16))), false)], res := [(.ro (.int .i64))], slots := [.tmp 2], code := bd Try.f132 }
/- impl.inRange -/
noncomputable def I91 : Inst := { f := 91, nt := 15, params := [((.ro (.int .i64)), false), ((.ro (.int .i64)), false), ((.ro (.int .i64)), false)], res := [(.ro .bool)], slots := [.tmp 6], code := bd Try.f91 }
/- impl.isSteps -/
noncomputable def I115 : Inst := { f := 115, nt := 5, params := [((.ro (.int .i64)), false)], res := [(.ro .bool)], slots := [.tmp 2], code := bd Try.f115, callee := fun r i => find 0 [(1001, 91)] (r * 1000 + i) }
/- impl.isLift -/
noncomputable def I114 : Inst := { f := 114, nt := 5, params := [((.ro (.int .i64)), false)], res := [(.ro .bool)], slots := [.tmp 2], code := bd Try.f114, callee := fun r i => find 0 [(1001, 91)] (r * 1000 + i) }
/- impl.ValidCam$1 -/
noncomputable def I187 : Inst := { f := 187, nt := 7, params := [((.ro (.int .i16)), false)], res := [(.ro .bool)], slots := [.tmp 2], code := bd Try.f187, callee := fun r i => find 0 [(1002, 114)] (r * 1000 + i) }
/- impl.Cam,int16] -/
noncomputable def I209 : Inst := { f := 209, nt := 19, params := [((.ro (.slc (.int .i16))), false), ((.clo 187 (.ro .unit) (.ro .unit)), false)], res := [(.ro (.int .i64))], slots := [.tmp 4], code := bd Try.f209, callee := fun r i => find 0 [(4005, 187)] (r * 1000 + i), loops := fun b => find [] [(0, [.own 0 (.ro (.slc (.int .i16))), .own 1 (.clo 187 (.ro .unit) (.ro .unit)), .own 7 (.ro (.int .i64)), .own 8 (.ro (.int .i64))])] b }
/- impl.Cam,int16] -/
noncomputable def I186 : Inst := { f := 186, nt := 9, params := [((.ro (.slc (.int .i16))), false), ((.clo 187 (.ro .unit) (.ro .unit)), false)], res := [(.ro .bool)], slots := [.tmp 4], code := bd Try.f186, callee := fun r i => find 0 [(1002, 209)] (r * 1000 + i) }
/- impl.ValidCam -/
noncomputable def I125 : Inst := { f := 125, nt := 11, params := [((.ro (.slc (.int .i16))), false)], res := [(.ro .bool)], slots := [.tmp 2], code := bd Try.f125, callee := fun r i => find 0 [(1001, 132), (1002, 115), (1005, 186)] (r * 1000 + i) }
/- impl.Cam,int16] -/
noncomputable def I161 : Inst := { f := 161, nt := 25, params := [((.ro (.slc (.int .i16))), false)], res := [(.ro (.int .i16))], slots := [.tmp 2], code := bd Try.f161, loops := fun b => find [] [(0, [.own 0 (.ro (.slc (.int .i16))), .own 3 (.ro (.int .i16)), .own 4 (.ro (.int .i64))])] b }
/- impl.ValidMachine -/
noncomputable def I75 : Inst := { f := 75, nt := 33, params := [((.ro (.pair (.slc (.int .i16)) (.pair (.slc (.int .i16)) (.pair (.slc (.int .i16)) .unit)))), false)], res := [(.ro .bool)], slots := [.tmp 2], code := bd Try.f75, callee := fun r i => find 0 [(4001, 125), (4013, 161), (7002, 125)] (r * 1000 + i), loops := fun b => find [] [(0, [.own 1 (.box (.ro (.pair (.slc (.int .i16)) (.pair (.slc (.int .i16)) (.pair (.slc (.int .i16)) .unit))))), .own 9 (.ro (.arr 2 (.slc (.int .i16)))), .own 10 (.ro (.int .i64))])] b }
/- impl.Machine).steps -/
noncomputable def I162 : Inst := { f := 162, nt := 6, params := [((.ro (.pair (.slc (.int .i16)) (.pair (.slc (.int .i16)) (.pair (.slc (.int .i16)) .unit)))), false)], res := [(.ro (.int .i64))], slots := [.tmp 2], code := bd Try.f162, callee := fun r i => find 0 [(1002, 132)] (r * 1000 + i) }
/- impl.floorDiv -/
noncomputable def I210 : Inst := { f := 210, nt := 16, params := [((.ro (.int .i64)), false), ((.ro (.int .i64)), false)], res := [(.ro (.int .i64))], slots := [.tmp 4], code := bd Try.f210 }
/- impl.mod -/
noncomputable def I188 : Inst := { f := 188, nt := 12, params := [((.ro (.int .i64)), false), ((.ro (.int .i64)), false)], res := [(.ro (.int .i64))], slots := [.tmp 4], code := bd Try.f188, callee := fun r i => find 0 [(1004, 210)] (r * 1000 + i) }
/- impl.Cam).at -/
noncomputable def I134 : Inst := { f := 134, nt := 13, params := [((.ro (.slc (.int .i16))), false), ((.ro (.int .i64)), false)], res := [(.ro (.int .i64))], slots := [.tmp 4], code := bd Try.f134, callee := fun r i => find 0 [(1003, 132), (1004, 188)] (r * 1000 + i) }
/- impl.Machine).stop -/
noncomputable def I163 : Inst := { f := 163, nt := 22, params := [((.ro (.pair (.slc (.int .i16)) (.pair (.slc (.int .i16)) (.pair (.slc (.int .i16)) .unit)))), false), ((.ro (.int .i64)), false)], res := [(.ro (.pair (.arr 2 (.int .i16)) (.pair .bool .unit)))], slots := [.cell 4 106], code := bd Try.f163, callee := fun r i => find 0 [(1003, 134), (1008, 134), (1014, 134)] (r * 1000 + i) }
/- impl.Machine).stops -/
noncomputable def I76 : Inst := { f := 76, nt := 19, params := [((.ro (.pair (.slc (.int .i16)) (.pair (.slc (.int .i16)) (.pair (.slc (.int .i16)) .unit)))), false)], res := [(.ro (.slc (.pair (.arr 2 (.int .i16)) (.pair .bool .unit))))], slots := [.tmp 2], code := bd Try.f76, strict := true, callee := fun r i => find 0 [(2001, 162), (5003, 163)] (r * 1000 + i), loops := fun b => find [] [(0, [.own 1 (.box (.ro (.pair (.slc (.int .i16)) (.pair (.slc (.int .i16)) (.pair (.slc (.int .i16)) .unit))))), .own 3 (.row false (.pair (.arr 2 (.int .i16)) (.pair .bool .unit))), .own 7 (.ro (.int .i64)), .own 8 (.ro (.int .i64))])] b }
/- impl.extend -/
noncomputable def I77 : Inst := { f := 77, nt := 41, params := [((.row true (.slc (.arr 2 (.int .i16)))), false), ((.ro (.arr 2 (.int .i16))), false)], res := [(.row true (.slc (.arr 2 (.int .i16))))], slots := [.tmp 4], code := bd Try.f77, deep := fun r i => find false [(4010, true), (4011, true), (4012, true), (5005, true), (5007, true), (5008, true), (2003, true), (4004, true)] (r * 1000 + i), ice := fun r i => find [] [(4004, [0]), (4012, [0]), (5005, [0])] (r * 1000 + i) }
/- impl.StrokesOf -/
noncomputable def I12 : Inst := { f := 12, nt := 71, params := [((.ro (.pair (.slc (.int .i16)) (.pair (.slc (.int .i16)) (.pair (.slc (.int .i16)) .unit)))), false)], res := [(.row true (.slc (.arr 2 (.int .i16)))), (.ro (.int .i64))], slots := [.tmp 2, .tmp 3], code := bd Try.f12, callee := fun r i => find 0 [(1001, 75), (3001, 76), (7003, 77), (13005, 77)] (r * 1000 + i), loops := fun b => find [] [(0, [.own 4 (.ro (.slc (.pair (.arr 2 (.int .i16)) (.pair .bool .unit)))), .own 5 (.row true (.slc (.arr 2 (.int .i16)))), .own 14 (.ro (.slc (.pair (.arr 2 (.int .i16)) (.pair .bool .unit)))), .own 15 (.ro (.int .i64)), .own 16 (.ro (.int .i64))])] b, deep := fun r i => find false [(3002, true), (10003, true), (10004, true), (10005, true)] (r * 1000 + i) }
/- laws.eqMark -/
noncomputable def I164 : Inst := { f := 164, nt := 17, params := [((.ro (.arr 2 (.int .i16))), false), ((.ro (.arr 2 (.int .i16))), false)], res := [(.ro .bool)], slots := [.tmp 4], code := bd Try.f164, loops := fun b => find [] [(0, [.own 2 (.box (.ro (.arr 2 (.int .i16)))), .own 3 (.box (.ro (.arr 2 (.int .i16)))), .own 5 (.ro (.int .i64))])] b }
/- laws.eqStroke -/
noncomputable def I78 : Inst := { f := 78, nt := 27, params := [((.ro (.slc (.arr 2 (.int .i16)))), false), ((.ro (.slc (.arr 2 (.int .i16)))), false)], res := [(.ro .bool)], slots := [.tmp 4], code := bd Try.f78, callee := fun r i => find 0 [(6008, 164)] (r * 1000 + i), loops := fun b => find [] [(0, [.own 0 (.ro (.slc (.arr 2 (.int .i16)))), .own 1 (.ro (.slc (.arr 2 (.int .i16)))), .own 5 (.ro (.int .i64))])] b }
/- laws.eqStrokeS -/
noncomputable def I13 : Inst := { f := 13, nt := 27, params := [((.ro (.slc (.slc (.arr 2 (.int .i16))))), false), ((.ro (.slc (.slc (.arr 2 (.int .i16))))), false)], res := [(.ro .bool)], slots := [.tmp 4], code := bd Try.f13, callee := fun r i => find 0 [(6008, 78)] (r * 1000 + i), loops := fun b => find [] [(0, [.own 0 (.ro (.slc (.slc (.arr 2 (.int .i16))))), .own 1 (.ro (.slc (.slc (.arr 2 (.int .i16))))), .own 5 (.ro (.int .i64))])] b }
/- laws.eqCam -/
noncomputable def I79 : Inst := { f := 79, nt := 26, params := [((.ro (.slc (.int .i16))), false), ((.ro (.slc (.int .i16))), false)], res := [(.ro .bool)], slots := [.tmp 4], code := bd Try.f79, loops := fun b => find [] [(0, [.own 0 (.ro (.slc (.int .i16))), .own 1 (.ro (.slc (.int .i16))), .own 5 (.ro (.int .i64))])] b }
/- laws.eqMachine -/
noncomputable def I14 : Inst := { f := 14, nt := 23, params := [((.ro (.pair (.slc (.int .i16)) (.pair (.slc (.int .i16)) (.pair (.slc (.int .i16)) .unit)))), false), ((.ro (.pair (.slc (.int .i16)) (.pair (.slc (.int .i16)) (.pair (.slc (.int .i16)) .unit)))), false)], res := [(.ro .bool)], slots := [.tmp 4], code := bd Try.f14, callee := fun r i => find 0 [(1004, 79), (3004, 79), (5004, 79)] (r * 1000 + i) }
/- laws.markCam -/
noncomputable def I80 : Inst := { f := 80, nt := 20, params := [((.row false (.int .i16)), true), ((.ro (.int .i64)), false)], res := [(.ro (.int .i64))], slots := [.tmp 4], code := bd Try.f80, loops := fun b => find [] [(0, [.own 0 (.row false (.int .i16)), .own 1 (.ro (.int .i64)), .own 5 (.ro (.int .i64))])] b, pins := [0] }
/- laws.markMachine -/
noncomputable def I15 : Inst := { f := 15, nt := 18, params := [((.pr (.row false (.int .i16)) (.pr (.row false (.int .i16)) (.pr (.row false (.int .i16)) (.ro .unit)))), true), ((.ro (.int .i64)), false)], res := [(.ro (.int .i64))], slots := [.tmp 4], code := bd Try.f15, callee := fun r i => find 0 [(1003, 80), (2003, 80), (3003, 80)] (r * 1000 + i), pins := [0] }
/- laws.markStroke -/
noncomputable def I81 : Inst := { f := 81, nt := 27, params := [((.row false (.arr 2 (.int .i16))), true), ((.ro (.int .i64)), false)], res := [(.ro (.int .i64))], slots := [.tmp 4], code := bd Try.f81, loops := fun b => find [] [(2, [.own 0 (.row false (.arr 2 (.int .i16))), .own 1 (.ro (.int .i64)), .own 5 (.ro (.int .i64)), .own 6 (.ro (.int .i64))]), (0, [.own 0 (.row false (.arr 2 (.int .i16))), .own 1 (.ro (.int .i64)), .own 5 (.ro (.int .i64))])] b, pins := [0] }
/- laws.markStrokeS -/
noncomputable def I16 : Inst := { f := 16, nt := 19, params := [((.row true (.slc (.arr 2 (.int .i16)))), true), ((.ro (.int .i64)), false)], res := [(.ro (.int .i64))], slots := [.tmp 4], code := bd Try.f16, callee := fun r i => find 0 [(4005, 81)] (r * 1000 + i), loops := fun b => find [] [(0, [.own 0 (.row true (.slc (.arr 2 (.int .i16)))), .own 1 (.ro (.int .i64)), .own 5 (.ro (.int .i64))])] b, pins := [0], deep := fun r i => find false [(4003, true)] (r * 1000 + i) }
/- laws.heldStroke -/
noncomputable def I82 : Inst := { f := 82, nt := 29, params := [((.ro (.slc (.arr 2 (.int .i16)))), false), ((.ro (.int .i64)), false)], res := [(.ro (.int .i64))], slots := [.tmp 4], code := bd Try.f82, loops := fun b => find [] [(2, [.own 0 (.ro (.slc (.arr 2 (.int .i16)))), .own 1 (.ro (.int .i64)), .own 5 (.ro (.int .i64)), .own 6 (.ro (.int .i64))]), (0, [.own 0 (.ro (.slc (.arr 2 (.int .i16)))), .own 1 (.ro (.int .i64)), .own 5 (.ro (.int .i64))])] b }
/- laws.heldStrokeS -/
noncomputable def I17 : Inst := { f := 17, nt := 21, params := [((.ro (.slc (.slc (.arr 2 (.int .i16))))), false), ((.ro (.int .i64)), false)], res := [(.ro (.int .i64))], slots := [.tmp 4], code := bd Try.f17, callee := fun r i => find 0 [(4005, 82)] (r * 1000 + i), loops := fun b => find [] [(0, [.own 0 (.ro (.slc (.slc (.arr 2 (.int .i16))))), .own 1 (.ro (.int .i64)), .own 5 (.ro (.int .i64))])] b }
/- laws.FnExactStrokesOf -/
noncomputable def I3 : Inst := { f := 3, nt := 96, params := [((.ro (.pair (.slc (.int .i16)) (.pair (.slc (.int .i16)) (.pair (.slc (.int .i16)) .unit)))), false)], res := [(.ro .bool)], slots := [.tmp 2], code := bd Try.f3, callee := fun r i => find 0 [(2002, 9), (5001, 11), (5002, 10), (6001, 11), (7001, 12), (8002, 13), (10002, 11), (10003, 14), (13002, 15), (14005, 13), (17002, 16), (19002, 17), (24001, 11), (24002, 12), (25002, 13), (28002, 17)] (r * 1000 + i), ice := fun r i => find [] [(5002, [21])] (r * 1000 + i) }
noncomputable def CL : List (Nat × Inst) := [(70, I70), (9, I9), (74, I74), (11, I11), (85, I85), (117, I117), (108, I108), (129, I129), (184, I184), (98, I98), (201, I201), (160, I160), (71, I71), (73, I73), (72, I72), (10, I10), (132, I132), (91, I91), (115, I115), (114, I114), (187, I187), (209, I209), (186, I186), (125, I125), (161, I161), (75, I75), (162, I162), (210, I210), (188, I188), (134, I134), (163, I163), (76, I76), (77, I77), (12, I12), (164, I164), (78, I78), (13, I13), (79, I79), (14, I14), (80, I80), (15, I15), (81, I81), (16, I16), (82, I82), (17, I17), (3, I3)]
noncomputable def C : Nat → Inst := find I70 CL
theorem tsOk : TsOk Try.prog T := tsOkB_sound (by kernel_rfl)
theorem ok70 : InstOk Try.prog I70 := instOk_of Try.func70 (by kernel_rfl) (by kernel_rfl) (by kernel_rfl) (by kernel_rfl)
theorem ok9 : InstOk Try.prog I9 := instOk_of Try.func9 (by kernel_rfl) (by kernel_rfl) (by kernel_rfl) (by kernel_rfl)
theorem ok74 : InstOk Try.prog I74 := instOk_of Try.func74 (by kernel_rfl) (by kernel_rfl) (by kernel_rfl) (by kernel_rfl)
theorem ok11 : InstOk Try.prog I11 := instOk_of Try.func11 (by kernel_rfl) (by kernel_rfl) (by kernel_rfl) (by kernel_rfl)
theorem ok85 : InstOk Try.prog I85 := instOk_of Try.func85 (by kernel_rfl) (by kernel_rfl) (by kernel_rfl) (by kernel_rfl)
theorem ok117 : InstOk Try.prog I117 := instOk_of Try.func117 (by kernel_rfl) (by kernel_rfl) (by kernel_rfl) (by kernel_rfl)
theorem ok108 : InstOk Try.prog I108 := instOk_of Try.func108 (by kernel_rfl) (by kernel_rfl) (by kernel_rfl) (by kernel_rfl)
theorem ok129 : InstOk Try.prog I129 := instOk_of Try.func129 (by kernel_rfl) (by kernel_rfl) (by kernel_rfl) (by kernel_rfl)
theorem ok184 : InstOk Try.prog I184 := instOk_of Try.func184 (by kernel_rfl) (by kernel_rfl) (by kernel_rfl) (by kernel_rfl)
theorem ok98 : InstOk Try.prog I98 := instOk_of Try.func98 (by kernel_rfl) (by kernel_rfl) (by kernel_rfl) (by kernel_rfl)
theorem ok201 : InstOk Try.prog I201 := instOk_of Try.func201 (by kernel_rfl) (by kernel_rfl) (by kernel_rfl) (by kernel_rfl)
theorem ok160 : InstOk Try.prog I160 := instOk_of Try.func160 (by kernel_rfl) (by kernel_rfl) (by kernel_rfl) (by kernel_rfl)
theorem ok71 : InstOk Try.prog I71 := instOk_of Try.func71 (by kernel_rfl) (by kernel_rfl) (by kernel_rfl) (by kernel_rfl)
theorem ok73 : InstOk Try.prog I73 := instOk_of Try.func73 (by kernel_rfl) (by kernel_rfl) (by kernel_rfl) (by kernel_rfl)
theorem ok72 : InstOk Try.prog I72 := instOk_of Try.func72 (by kernel_rfl) (by kernel_rfl) (by kernel_rfl) (by kernel_rfl)
theorem ok10 : InstOk Try.prog I10 := instOk_of Try.func10 (by kernel_rfl) (by kernel_rfl) (by kernel_rfl) (by kernel_rfl)
theorem ok132 : InstOk Try.prog I132 := instOk_of Try.func132 (by kernel_rfl) (by kernel_rfl) (by kernel_rfl) (by kernel_rfl)
theorem ok91 : InstOk Try.prog I91 := instOk_of Try.func91 (by kernel_rfl) (by kernel_rfl) (by kernel_rfl) (by kernel_rfl)
theorem ok115 : InstOk Try.prog I115 := instOk_of Try.func115 (by kernel_rfl) (by kernel_rfl) (by kernel_rfl) (by kernel_rfl)
theorem ok114 : InstOk Try.prog I114 := instOk_of Try.func114 (by kernel_rfl) (by kernel_rfl) (by kernel_rfl) (by kernel_rfl)
theorem ok187 : InstOk Try.prog I187 := instOk_of Try.func187 (by kernel_rfl) (by kernel_rfl) (by kernel_rfl) (by kernel_rfl)
theorem ok209 : InstOk Try.prog I209 := instOk_of Try.func209 (by kernel_rfl) (by kernel_rfl) (by kernel_rfl) (by kernel_rfl)
theorem ok186 : InstOk Try.prog I186 := instOk_of Try.func186 (by kernel_rfl) (by kernel_rfl) (by kernel_rfl) (by kernel_rfl)
theorem ok125 : InstOk Try.prog I125 := instOk_of Try.func125 (by kernel_rfl) (by kernel_rfl) (by kernel_rfl) (by kernel_rfl)
theorem ok161 : InstOk Try.prog I161 := instOk_of Try.func161 (by kernel_rfl) (by kernel_rfl) (by kernel_rfl) (by kernel_rfl)
theorem ok75 : InstOk Try.prog I75 := instOk_of Try.func75 (by kernel_rfl) (by kernel_rfl) (by kernel_rfl) (by kernel_rfl)
theorem ok162 : InstOk Try.prog I162 := instOk_of Try.func162 (by kernel_rfl) (by kernel_rfl) (by kernel_rfl) (by kernel_rfl)
theorem ok210 : InstOk Try.prog I210 := instOk_of Try.func210 (by kernel_rfl) (by kernel_rfl) (by kernel_rfl) (by kernel_rfl)
theorem ok188 : InstOk Try.prog I188 := instOk_of Try.func188 (by kernel_rfl) (by kernel_rfl) (by kernel_rfl) (by kernel_rfl)
theorem ok134 : InstOk Try.prog I134 := instOk_of Try.func134 (by kernel_rfl) (by kernel_rfl) (by kernel_rfl) (by kernel_rfl)
theorem ok163 : InstOk Try.prog I163 := instOk_of Try.func163 (by kernel_rfl) (by kernel_rfl) (by kernel_rfl) (by kernel_rfl)
theorem ok76 : InstOk Try.prog I76 := instOk_of Try.func76 (by kernel_rfl) (by kernel_rfl) (by kernel_rfl) (by kernel_rfl)
theorem ok77 : InstOk Try.prog I77 := instOk_of Try.func77 (by kernel_rfl) (by kernel_rfl) (by kernel_rfl) (by kernel_rfl)
theorem ok12 : InstOk Try.prog I12 := instOk_of Try.func12 (by kernel_rfl) (by kernel_rfl) (by kernel_rfl) (by kernel_rfl)
theorem ok164 : InstOk Try.prog I164 := instOk_of Try.func164 (by kernel_rfl) (by kernel_rfl) (by kernel_rfl) (by kernel_rfl)
theorem ok78 : InstOk Try.prog I78 := instOk_of Try.func78 (by kernel_rfl) (by kernel_rfl) (by kernel_rfl) (by kernel_rfl)
theorem ok13 : InstOk Try.prog I13 := instOk_of Try.func13 (by kernel_rfl) (by kernel_rfl) (by kernel_rfl) (by kernel_rfl)
theorem ok79 : InstOk Try.prog I79 := instOk_of Try.func79 (by kernel_rfl) (by kernel_rfl) (by kernel_rfl) (by kernel_rfl)
theorem ok14 : InstOk Try.prog I14 := instOk_of Try.func14 (by kernel_rfl) (by kernel_rfl) (by kernel_rfl) (by kernel_rfl)
theorem ok80 : InstOk Try.prog I80 := instOk_of Try.func80 (by kernel_rfl) (by kernel_rfl) (by kernel_rfl) (by kernel_rfl)
theorem ok15 : InstOk Try.prog I15 := instOk_of Try.func15 (by kernel_rfl) (by kernel_rfl) (by kernel_rfl) (by kernel_rfl)
theorem ok81 : InstOk Try.prog I81 := instOk_of Try.func81 (by kernel_rfl) (by kernel_rfl) (by kernel_rfl) (by kernel_rfl)
theorem ok16 : InstOk Try.prog I16 := instOk_of Try.func16 (by kernel_rfl) (by kernel_rfl) (by kernel_rfl) (by kernel_rfl)
theorem ok82 : InstOk Try.prog I82 := instOk_of Try.func82 (by kernel_rfl) (by kernel_rfl) (by kernel_rfl) (by kernel_rfl)
theorem ok17 : InstOk Try.prog I17 := instOk_of Try.func17 (by kernel_rfl) (by kernel_rfl) (by kernel_rfl) (by kernel_rfl)
theorem ok3 : InstOk Try.prog I3 := instOk_of Try.func3 (by kernel_rfl) (by kernel_rfl) (by kernel_rfl) (by kernel_rfl)
theorem insts : ∀ j, InstOk Try.prog (C j) := find_all ok70 (List.forall_mem_cons.2 ⟨ok70, List.forall_mem_cons.2 ⟨ok9, List.forall_mem_cons.2 ⟨ok74, List.forall_mem_cons.2 ⟨ok11, List.forall_mem_cons.2 ⟨ok85, List.forall_mem_cons.2 ⟨ok117, List.forall_mem_cons.2 ⟨ok108, List.forall_mem_cons.2 ⟨ok129, List.forall_mem_cons.2 ⟨ok184, List.forall_mem_cons.2 ⟨ok98, List.forall_mem_cons.2 ⟨ok201, List.forall_mem_cons.2 ⟨ok160, List.forall_mem_cons.2 ⟨ok71, List.forall_mem_cons.2 ⟨ok73, List.forall_mem_cons.2 ⟨ok72, List.forall_mem_cons.2 ⟨ok10, List.forall_mem_cons.2 ⟨ok132, List.forall_mem_cons.2 ⟨ok91, List.forall_mem_cons.2 ⟨ok115, List.forall_mem_cons.2 ⟨ok114, List.forall_mem_cons.2 ⟨ok187, List.forall_mem_cons.2 ⟨ok209, List.forall_mem_cons.2 ⟨ok186, List.forall_mem_cons.2 ⟨ok125, List.forall_mem_cons.2 ⟨ok161, List.forall_mem_cons.2 ⟨ok75, List.forall_mem_cons.2 ⟨ok162, List.forall_mem_cons.2 ⟨ok210, List.forall_mem_cons.2 ⟨ok188, List.forall_mem_cons.2 ⟨ok134, List.forall_mem_cons.2 ⟨ok163, List.forall_mem_cons.2 ⟨ok76, List.forall_mem_cons.2 ⟨ok77, List.forall_mem_cons.2 ⟨ok12, List.forall_mem_cons.2 ⟨ok164, List.forall_mem_cons.2 ⟨ok78, List.forall_mem_cons.2 ⟨ok13, List.forall_mem_cons.2 ⟨ok79, List.forall_mem_cons.2 ⟨ok14, List.forall_mem_cons.2 ⟨ok80, List.forall_mem_cons.2 ⟨ok15, List.forall_mem_cons.2 ⟨ok81, List.forall_mem_cons.2 ⟨ok16, List.forall_mem_cons.2 ⟨ok82, List.forall_mem_cons.2 ⟨ok17, List.forall_mem_cons.2 ⟨ok3, fun _ h => absurd h List.not_mem_nil⟩⟩⟩⟩⟩⟩⟩⟩⟩⟩⟩⟩⟩⟩⟩⟩⟩⟩⟩⟩⟩⟩⟩⟩⟩⟩⟩⟩⟩⟩⟩⟩⟩⟩⟩⟩⟩⟩⟩⟩⟩⟩⟩⟩⟩⟩)
theorem noExt : ∀ j, (C j).ext = none := by
  have hC : C = find I70 CL := by delta C; with_reducible rfl
  exact fun j => noExt_of (C := C) _ _ hC (by kernel_rfl) (by kernel_rfl) j
end Go.Proofs.Ytdhgdfofgeccgaa.LSt
