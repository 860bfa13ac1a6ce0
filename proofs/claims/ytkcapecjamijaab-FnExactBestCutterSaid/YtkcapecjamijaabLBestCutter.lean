/- The types and the functions that a law reaches, told for the reading (Fw). Written by a program (gen.py). -/
import Derived.Test.YtkcapecjamijaabFwC
import Derived.Test.YtkcapecjamijaabProg
namespace Go.Proofs.Ytkcapecjamijaab.LBestCutter
open Go Go.Fw
open Go.Proofs
noncomputable def tyL : List (Nat × TI) := [(2, ⟨(.int .i64), 0, 8⟩),
  (3, ⟨(.int .i64), 0, 8⟩),
  (4, ⟨.bool, 0, 1⟩),
  (22, ⟨(.slc (.int .i16)), 53, 24⟩),
  (23, ⟨(.slc (.slc (.int .i16))), 22, 24⟩),
  (27, ⟨(.slc (.int .i16)), 53, 24⟩),
  (29, ⟨(.slc (.slc (.int .i16))), 54, 24⟩),
  (53, ⟨(.int .i16), 0, 2⟩),
  (54, ⟨(.slc (.int .i16)), 53, 24⟩),
  (78, ⟨.fn, 0, 8⟩),
  (81, ⟨(.slc (.int .i64)), 2, 24⟩),
  (84, ⟨.fn, 0, 8⟩),
  (96, ⟨.fn, 0, 8⟩),
  (104, ⟨.fn, 0, 8⟩)]
noncomputable def T : Nat → Option TI := findT tyL
/- laws.szCutter -/
noncomputable def I21 : Inst := { f := 21, nt := 12, params := [((.ro (.slc (.int .i16))), false), ((.ro (.int .i64)), false)], res := [(.ro (.int .i64))], slots := [.tmp 4], code := bd Try.f21 }
/- laws.szCutterS -/
noncomputable def I5 : Inst := { f := 5, nt := 27, params := [((.ro (.slc (.slc (.int .i16)))), false), ((.ro (.int .i64)), false)], res := [(.ro (.int .i64))], slots := [.tmp 4], code := bd Try.f5, callee := fun r i => find 0 [(7005, 21)] (r * 1000 + i), loops := fun b => find [] [(0, [.own 0 (.ro (.slc (.slc (.int .i16)))), .own 1 (.ro (.int .i64)), .own 5 (.ro (.int .i64))])] b }
/- laws.toCam -/
noncomputable def I7 : Inst := { f := 7, nt := 22, params := [((.ro (.slc (.int .i16))), false)], res := [(.row false (.int .i16))], slots := [.tmp 2], code := bd Try.f7, loops := fun b => find [] [(0, [.own 0 (.ro (.slc (.int .i16))), .own 3 (.row false (.int .i16)), .own 4 (.ro (.int .i64))])] b, deep := fun r i => find false [(1002, true)] (r * 1000 + i) }
/- laws.toCutter -/
noncomputable def I26 : Inst := { f := 26, nt := 22, params := [((.ro (.slc (.int .i16))), false)], res := [(.row false (.int .i16))], slots := [.tmp 2], code := bd Try.f26, loops := fun b => find [] [(0, [.own 0 (.ro (.slc (.int .i16))), .own 3 (.row false (.int .i16)), .own 4 (.ro (.int .i64))])] b, deep := fun r i => find false [(1002, true)] (r * 1000 + i) }
/- laws.toCutterS -/
noncomputable def I8 : Inst := { f := 8, nt := 23, params := [((.ro (.slc (.slc (.int .i16)))), false)], res := [(.row true (.slc (.int .i16)))], slots := [.tmp 2], code := bd Try.f8, callee := fun r i => find 0 [(5006, 26)] (r * 1000 + i), loops := fun b => find [] [(0, [.own 0 (.ro (.slc (.slc (.int .i16)))), .own 3 (.row true (.slc (.int .i16))), .own 4 (.ro (.int .i64))])] b, deep := fun r i => find false [(1002, true)] (r * 1000 + i) }
/- spec.l00In -/
noncomputable def I48 : Inst := { f := 48, nt := 15, params := [((.ro (.int .i64)), false), ((.ro (.int .i64)), false), ((.ro (.int .i64)), false)], res := [(.ro .bool)], slots := [.tmp 6], code := bd Try.f48 }
/- spec.l01Steps -/
noncomputable def I45 : Inst := { f := 45, nt := 5, params := [((.ro (.int .i64)), false)], res := [(.ro .bool)], slots := [.tmp 2], code := bd Try.f45, callee := fun r i => find 0 [(1001, 48)] (r * 1000 + i) }
/- spec.l01Lift -/
noncomputable def I46 : Inst := { f := 46, nt := 5, params := [((.ro (.int .i64)), false)], res := [(.ro .bool)], slots := [.tmp 2], code := bd Try.f46, callee := fun r i => find 0 [(1001, 48)] (r * 1000 + i) }
/- spec.l01Ok -/
noncomputable def I22 : Inst := { f := 22, nt := 21, params := [((.ro (.slc (.int .i16))), false)], res := [(.ro .bool)], slots := [.tmp 2], code := bd Try.f22, callee := fun r i => find 0 [(1002, 45), (6005, 46)] (r * 1000 + i), loops := fun b => find [] [(0, [.own 0 (.ro (.slc (.int .i16))), .own 3 (.ro (.int .i64))])] b }
/- spec.l06Ok -/
noncomputable def I47 : Inst := { f := 47, nt := 66, params := [((.ro (.slc (.int .i16))), false)], res := [(.ro .bool)], slots := [.tmp 2], code := bd Try.f47, callee := fun r i => find 0 [(2001, 48), (7005, 46)] (r * 1000 + i), loops := fun b => find [] [(0, [.own 0 (.ro (.slc (.int .i16))), .own 3 (.ro (.int .i64)), .own 4 (.ro (.int .i64))])] b }
/- spec.l06Cutters -/
noncomputable def I23 : Inst := { f := 23, nt := 16, params := [((.ro (.slc (.slc (.int .i16)))), false)], res := [(.ro .bool)], slots := [.tmp 2], code := bd Try.f23, callee := fun r i => find 0 [(4004, 47)] (r * 1000 + i), loops := fun b => find [] [(0, [.own 0 (.ro (.slc (.slc (.int .i16)))), .own 3 (.ro (.int .i64))])] b }
/- spec.l06Some -/
noncomputable def I24 : Inst := { f := 24, nt := 6, params := [((.ro (.slc (.slc (.int .i16)))), false)], res := [(.ro .bool)], slots := [.tmp 2], code := bd Try.f24, callee := fun r i => find 0 [(1002, 48)] (r * 1000 + i) }
/- spec.l01At -/
noncomputable def I86 : Inst := { f := 86, nt := 19, params := [((.ro (.slc (.int .i16))), false), ((.ro (.int .i64)), false)], res := [(.ro (.int .i64))], slots := [.tmp 4], code := bd Try.f86 }
/- spec.l00Max -/
noncomputable def I80 : Inst := { f := 80, nt := 10, params := [((.ro (.int .i64)), false), ((.ro (.int .i64)), false)], res := [(.ro (.int .i64))], slots := [.tmp 4], code := bd Try.f80 }
/- spec.l06Tip -/
noncomputable def I81 : Inst := { f := 81, nt := 36, params := [((.ro (.slc (.int .i16))), false), ((.ro (.slc (.int .i16))), false), ((.ro (.int .i64)), false)], res := [(.ro (.int .i64))], slots := [.tmp 6], code := bd Try.f81, callee := fun r i => find 0 [(6005, 86), (6014, 80)] (r * 1000 + i), loops := fun b => find [] [(0, [.own 0 (.ro (.slc (.int .i16))), .own 1 (.ro (.slc (.int .i16))), .own 2 (.ro (.int .i64)), .own 7 (.ro (.int .i64)), .own 8 (.ro (.int .i64)), .own 9 (.ro (.int .i64))])] b }
/- spec.l06Tips -/
noncomputable def I71 : Inst := { f := 71, nt := 22, params := [((.ro (.slc (.int .i16))), false), ((.ro (.slc (.int .i16))), false)], res := [(.row false (.int .i64))], slots := [.tmp 4], code := bd Try.f71, callee := fun r i => find 0 [(5004, 81)] (r * 1000 + i), loops := fun b => find [] [(0, [.own 0 (.ro (.slc (.int .i16))), .own 1 (.ro (.slc (.int .i16))), .own 5 (.row false (.int .i64)), .own 6 (.ro (.int .i64))])] b, deep := fun r i => find false [(1000, true), (5005, true), (5006, true)] (r * 1000 + i) }
/- spec.l06Cut -/
noncomputable def I72 : Inst := { f := 72, nt := 73, params := [((.ro (.slc (.int .i16))), false), ((.ro (.slc (.int .i16))), false), ((.ro (.int .i64)), false), ((.ro (.int .i64)), false)], res := [(.row false (.int .i16)), (.ro (.int .i64))], slots := [.tmp 8, .tmp 9], code := bd Try.f72, loops := fun b => find [] [(0, [.own 1 (.ro (.slc (.int .i16))), .own 2 (.ro (.int .i64)), .own 3 (.ro (.int .i64)), .own 10 (.row false (.int .i16)), .own 11 (.ro (.int .i64)), .own 12 (.ro (.int .i64)), .own 13 (.ro (.int .i64)), .own 14 (.ro (.int .i64))])] b, deep := fun r i => find false [(1000, true), (1002, true)] (r * 1000 + i) }
/- spec.l06Left -/
noncomputable def I65 : Inst := { f := 65, nt := 38, params := [((.ro (.slc (.int .i16))), false), ((.ro (.slc (.int .i16))), false)], res := [(.row false (.int .i16))], slots := [.tmp 4], code := bd Try.f65, callee := fun r i => find 0 [(6002, 71), (10007, 72)] (r * 1000 + i), loops := fun b => find [] [(2, [.own 1 (.ro (.slc (.int .i16))), .own 5 (.row false (.int .i16)), .own 6 (.ro (.slc (.int .i64))), .own 7 (.ro (.int .i64))]), (0, [.own 0 (.ro (.slc (.int .i16))), .own 1 (.ro (.slc (.int .i16))), .own 5 (.row false (.int .i16)), .own 10 (.ro (.int .i64)), .own 11 (.ro (.int .i64))])] b, deep := fun r i => find false [(1000, true), (4001, true), (4002, true)] (r * 1000 + i) }
/- spec.l06Waste -/
noncomputable def I49 : Inst := { f := 49, nt := 31, params := [((.ro (.slc (.int .i16))), false), ((.ro (.slc (.int .i16))), false)], res := [(.ro (.int .i64))], slots := [.tmp 4], code := bd Try.f49, callee := fun r i => find 0 [(1002, 65)] (r * 1000 + i), loops := fun b => find [] [(0, [.own 0 (.ro (.slc (.int .i16))), .own 5 (.ro (.slc (.int .i16))), .own 6 (.ro (.int .i64)), .own 7 (.ro (.int .i64))])] b }
/- spec.l06Best -/
noncomputable def I25 : Inst := { f := 25, nt := 34, params := [((.ro (.slc (.int .i16))), false), ((.ro (.slc (.slc (.int .i16)))), false)], res := [(.ro (.int .i64)), (.ro (.int .i64))], slots := [.tmp 4, .tmp 5], code := bd Try.f25, callee := fun r i => find 0 [(2004, 49), (6005, 49)] (r * 1000 + i), loops := fun b => find [] [(0, [.own 0 (.ro (.slc (.int .i16))), .own 1 (.ro (.slc (.slc (.int .i16)))), .own 6 (.ro (.int .i64)), .own 7 (.ro (.int .i64)), .own 8 (.ro (.int .i64))])] b }
/- spec.BestCutter -/
noncomputable def I6 : Inst := { f := 6, nt := 28, params := [((.ro (.slc (.int .i16))), false), ((.ro (.slc (.slc (.int .i16)))), false)], res := [(.ro (.int .i64)), (.ro (.int .i64)), (.ro (.int .i64))], slots := [.tmp 4, .tmp 5, .tmp 6], code := bd Try.f6, callee := fun r i => find 0 [(1001, 22), (1005, 23), (3001, 24), (5002, 25)] (r * 1000 + i) }
/- impl.Cam).steps -/
noncomputable def I51 : Inst := { f := 51, nt := 5, params := [((.ro (.slc (.int .i16))), false)], res := [(.ro (.int .i64))], slots := [.tmp 2], code := bd Try.f51 }
/- impl.inRange -/
noncomputable def I58 : Inst := { f := 58, nt := 15, params := [((.ro (.int .i64)), false), ((.ro (.int .i64)), false), ((.ro (.int .i64)), false)], res := [(.ro .bool)], slots := [.tmp 6], code := bd Try.f58 }
/- impl.isSteps -/
noncomputable def I50 : Inst := { f := 50, nt := 5, params := [((.ro (.int .i64)), false)], res := [(.ro .bool)], slots := [.tmp 2], code := bd Try.f50, callee := fun r i => find 0 [(1001, 58)] (r * 1000 + i) }
/- impl.isLift -/
noncomputable def I54 : Inst := { f := 54, nt := 5, params := [((.ro (.int .i64)), false)], res := [(.ro .bool)], slots := [.tmp 2], code := bd Try.f54, callee := fun r i => find 0 [(1001, 58)] (r * 1000 + i) }
/- impl.ValidCam$1 -/
noncomputable def I53 : Inst := { f := 53, nt := 7, params := [((.ro (.int .i16)), false)], res := [(.ro .bool)], slots := [.tmp 2], code := bd Try.f53, callee := fun r i => find 0 [(1002, 54)] (r * 1000 + i) }
/- impl.Cam,int16] -/
noncomputable def I66 : Inst := { f := 66, nt := 19, params := [((.ro (.slc (.int .i16))), false), ((.clo 53 (.ro .unit) (.ro .unit)), false)], res := [(.ro (.int .i64))], slots := [.tmp 4], code := bd Try.f66, callee := fun r i => find 0 [(4005, 53)] (r * 1000 + i), loops := fun b => find [] [(0, [.own 0 (.ro (.slc (.int .i16))), .own 1 (.clo 53 (.ro .unit) (.ro .unit)), .own 7 (.ro (.int .i64)), .own 8 (.ro (.int .i64))])] b }
/- impl.Cam,int16] -/
noncomputable def I52 : Inst := { f := 52, nt := 9, params := [((.ro (.slc (.int .i16))), false), ((.clo 53 (.ro .unit) (.ro .unit)), false)], res := [(.ro .bool)], slots := [.tmp 4], code := bd Try.f52, callee := fun r i => find 0 [(1002, 66)] (r * 1000 + i) }
/- impl.ValidCam -/
noncomputable def I29 : Inst := { f := 29, nt := 11, params := [((.ro (.slc (.int .i16))), false)], res := [(.ro .bool)], slots := [.tmp 2], code := bd Try.f29, callee := fun r i => find 0 [(1001, 51), (1002, 50), (1005, 52)] (r * 1000 + i) }
/- impl.ValidCutter -/
noncomputable def I57 : Inst := { f := 57, nt := 61, params := [((.ro (.slc (.int .i16))), false)], res := [(.ro .bool)], slots := [.tmp 2], code := bd Try.f57, callee := fun r i => find 0 [(7002, 54)] (r * 1000 + i), loops := fun b => find [] [(0, [.own 0 (.ro (.slc (.int .i16))), .own 3 (.ro (.int .i64)), .own 23 (.ro (.slc (.int .i16))), .own 24 (.ro (.int .i64)), .own 25 (.ro (.int .i64))])] b }
/- impl.areCutters$1 -/
noncomputable def I56 : Inst := { f := 56, nt := 6, params := [((.ro (.slc (.int .i16))), false)], res := [(.ro .bool)], slots := [.tmp 2], code := bd Try.f56, callee := fun r i => find 0 [(1001, 57)] (r * 1000 + i) }
/- impl.Cutter] -/
noncomputable def I67 : Inst := { f := 67, nt := 19, params := [((.ro (.slc (.slc (.int .i16)))), false), ((.clo 56 (.ro .unit) (.ro .unit)), false)], res := [(.ro (.int .i64))], slots := [.tmp 4], code := bd Try.f67, callee := fun r i => find 0 [(4005, 56)] (r * 1000 + i), loops := fun b => find [] [(0, [.own 0 (.ro (.slc (.slc (.int .i16)))), .own 1 (.clo 56 (.ro .unit) (.ro .unit)), .own 7 (.ro (.int .i64)), .own 8 (.ro (.int .i64))])] b }
/- impl.Cutter] -/
noncomputable def I55 : Inst := { f := 55, nt := 9, params := [((.ro (.slc (.slc (.int .i16)))), false), ((.clo 56 (.ro .unit) (.ro .unit)), false)], res := [(.ro .bool)], slots := [.tmp 4], code := bd Try.f55, callee := fun r i => find 0 [(1002, 67)] (r * 1000 + i) }
/- impl.areCutters -/
noncomputable def I30 : Inst := { f := 30, nt := 6, params := [((.ro (.slc (.slc (.int .i16)))), false)], res := [(.ro .bool)], slots := [.tmp 2], code := bd Try.f30, callee := fun r i => find 0 [(1001, 55)] (r * 1000 + i) }
/- impl.codeIf -/
noncomputable def I28 : Inst := { f := 28, nt := 7, params := [((.ro .bool), false), ((.ro (.int .i64)), false)], res := [(.ro (.int .i64))], slots := [.tmp 4], code := bd Try.f28 }
/- impl.isCount -/
noncomputable def I31 : Inst := { f := 31, nt := 6, params := [((.ro (.slc (.slc (.int .i16)))), false)], res := [(.ro .bool)], slots := [.tmp 2], code := bd Try.f31, callee := fun r i => find 0 [(1002, 58)] (r * 1000 + i) }
/- impl.firstCode -/
noncomputable def I27 : Inst := { f := 27, nt := 15, params := [((.ro (.slc (.int .i64))), false)], res := [(.ro (.int .i64))], slots := [.tmp 2], code := bd Try.f27, loops := fun b => find [] [(0, [.own 5 (.ro (.slc (.int .i64))), .own 6 (.ro (.int .i64)), .own 7 (.ro (.int .i64))])] b }
/- impl.floorDiv -/
noncomputable def I85 : Inst := { f := 85, nt := 16, params := [((.ro (.int .i64)), false), ((.ro (.int .i64)), false)], res := [(.ro (.int .i64))], slots := [.tmp 4], code := bd Try.f85 }
/- impl.mod -/
noncomputable def I78 : Inst := { f := 78, nt := 12, params := [((.ro (.int .i64)), false), ((.ro (.int .i64)), false)], res := [(.ro (.int .i64))], slots := [.tmp 4], code := bd Try.f78, callee := fun r i => find 0 [(1004, 85)] (r * 1000 + i) }
/- impl.Cam).at -/
noncomputable def I70 : Inst := { f := 70, nt := 13, params := [((.ro (.slc (.int .i16))), false), ((.ro (.int .i64)), false)], res := [(.ro (.int .i64))], slots := [.tmp 4], code := bd Try.f70, callee := fun r i => find 0 [(1003, 51), (1004, 78)] (r * 1000 + i) }
/- impl.Cam).tips$1$1 -/
noncomputable def I84 : Inst := { f := 84, nt := 13, params := [((.ro (.int .i64)), false), ((.ro (.int .i64)), false), ((.box (.ro (.int .i64))), true), ((.box (.ro (.slc (.int .i16)))), true)], res := [], slots := [], code := bd Try.f84, strict := true, callee := fun r i => find 0 [(3, 70)] (r * 1000 + i), pins := [2, 3] }
/- impl.Cutter).each -/
noncomputable def I76 : Inst := { f := 76, nt := 29, params := [((.ro (.slc (.int .i16))), false), ((.ro (.int .i64)), false), ((.clo 84 (.ro .unit) (.pr (.box (.ro (.int .i64))) (.pr (.box (.ro (.slc (.int .i16)))) (.ro .unit)))), true)], res := [], slots := [], code := bd Try.f76, strict := true, callee := fun r i => find 0 [(4008, 84)] (r * 1000 + i), loops := fun b => find [] [(0, [.own 1 (.ro (.int .i64)), .own 2 (.clo 84 (.ro .unit) (.pr (.box (.ro (.int .i64))) (.pr (.box (.ro (.slc (.int .i16)))) (.ro .unit)))), .own 6 (.ro (.int .i64)), .own 12 (.ro (.slc (.int .i16))), .own 13 (.ro (.int .i64)), .own 14 (.ro (.int .i64))])] b, pins := [2] }
/- impl.Cam).tips$1 -/
noncomputable def I83 : Inst := { f := 83, nt := 11, params := [((.ro (.int .i64)), false), ((.box (.ro (.slc (.int .i16)))), true), ((.box (.ro (.slc (.int .i16)))), true)], res := [(.ro (.int .i64))], slots := [.tmp 4], code := bd Try.f83, strict := true, callee := fun r i => find 0 [(2003, 76)] (r * 1000 + i), pins := [1, 2] }
/- impl.Cam).numbers -/
noncomputable def I82 : Inst := { f := 82, nt := 21, params := [((.ro (.slc (.int .i16))), false), ((.clo 83 (.ro .unit) (.pr (.box (.ro (.slc (.int .i16)))) (.pr (.box (.ro (.slc (.int .i16)))) (.ro .unit)))), true)], res := [(.row false (.int .i64))], slots := [.tmp 4], code := bd Try.f82, strict := true, callee := fun r i => find 0 [(2001, 51), (5003, 83)] (r * 1000 + i), loops := fun b => find [] [(0, [.own 1 (.clo 83 (.ro .unit) (.pr (.box (.ro (.slc (.int .i16)))) (.pr (.box (.ro (.slc (.int .i16)))) (.ro .unit)))), .own 5 (.row false (.int .i64)), .own 9 (.ro (.int .i64)), .own 10 (.ro (.int .i64))])] b, pins := [1], deep := fun r i => find false [(1000, true), (5004, true), (5005, true)] (r * 1000 + i) }
/- impl.Cam).tips -/
noncomputable def I73 : Inst := { f := 73, nt := 8, params := [((.ro (.slc (.int .i16))), false), ((.ro (.slc (.int .i16))), false)], res := [(.row false (.int .i64))], slots := [.tmp 4], code := bd Try.f73, callee := fun r i => find 0 [(1002, 82)] (r * 1000 + i) }
/- impl.Cam).left$1$1 -/
noncomputable def I77 : Inst := { f := 77, nt := 18, params := [((.ro (.int .i64)), false), ((.ro (.int .i64)), false), ((.box (.ro (.int .i64))), true), ((.box (.ro (.slc (.int .i64)))), true), ((.box (.ro (.slc (.int .i16)))), true)], res := [], slots := [], code := bd Try.f77, strict := true, callee := fun r i => find 0 [(4, 51), (5, 78)] (r * 1000 + i), pins := [2, 3, 4] }
/- impl.Cutter).each -/
noncomputable def I1076 : Inst := { f := 76, nt := 29, params := [((.ro (.slc (.int .i16))), false), ((.ro (.int .i64)), false), ((.clo 77 (.ro .unit) (.pr (.box (.ro (.int .i64))) (.pr (.box (.ro (.slc (.int .i64)))) (.pr (.box (.ro (.slc (.int .i16)))) (.ro .unit))))), true)], res := [], slots := [], code := bd Try.f76, strict := true, callee := fun r i => find 0 [(4008, 77)] (r * 1000 + i), loops := fun b => find [] [(0, [.own 1 (.ro (.int .i64)), .own 2 (.clo 77 (.ro .unit) (.pr (.box (.ro (.int .i64))) (.pr (.box (.ro (.slc (.int .i64)))) (.pr (.box (.ro (.slc (.int .i16)))) (.ro .unit))))), .own 6 (.ro (.int .i64)), .own 12 (.ro (.slc (.int .i16))), .own 13 (.ro (.int .i64)), .own 14 (.ro (.int .i64))])] b, pins := [2] }
/- impl.Cam).left$1 -/
noncomputable def I75 : Inst := { f := 75, nt := 16, params := [((.ro (.int .i64)), false), ((.box (.ro (.slc (.int .i64)))), true), ((.box (.ro (.slc (.int .i16)))), true), ((.box (.ro (.slc (.int .i16)))), true)], res := [(.ro (.int .i64))], slots := [.tmp 5], code := bd Try.f75, strict := true, callee := fun r i => find 0 [(2003, 1076)] (r * 1000 + i), pins := [1, 2, 3] }
/- impl.camOf -/
noncomputable def I74 : Inst := { f := 74, nt := 27, params := [((.ro (.int .i64)), false), ((.clo 75 (.ro .unit) (.pr (.box (.ro (.slc (.int .i64)))) (.pr (.box (.ro (.slc (.int .i16)))) (.pr (.box (.ro (.slc (.int .i16)))) (.ro .unit))))), true)], res := [(.row false (.int .i16)), (.ro (.int .i64))], slots := [.tmp 4, .tmp 5], code := bd Try.f74, strict := true, callee := fun r i => find 0 [(5002, 75), (6001, 54)] (r * 1000 + i), loops := fun b => find [] [(0, [.own 1 (.clo 75 (.ro .unit) (.pr (.box (.ro (.slc (.int .i64)))) (.pr (.box (.ro (.slc (.int .i16)))) (.pr (.box (.ro (.slc (.int .i16)))) (.ro .unit))))), .own 6 (.row false (.int .i16)), .own 10 (.ro (.int .i64)), .own 11 (.ro (.int .i64))])] b, pins := [1], deep := fun r i => find false [(1000, true), (8003, true), (8004, true)] (r * 1000 + i) }
/- impl.Cam).left -/
noncomputable def I68 : Inst := { f := 68, nt := 19, params := [((.ro (.slc (.int .i16))), false), ((.ro (.slc (.int .i16))), false)], res := [(.row false (.int .i16))], slots := [.tmp 4], code := bd Try.f68, callee := fun r i => find 0 [(1002, 73), (2001, 51), (2003, 74)] (r * 1000 + i) }
/- impl.Cam).waste -/
noncomputable def I59 : Inst := { f := 59, nt := 28, params := [((.ro (.slc (.int .i16))), false), ((.ro (.slc (.int .i16))), false)], res := [(.ro (.int .i64))], slots := [.tmp 4], code := bd Try.f59, callee := fun r i => find 0 [(2002, 68)] (r * 1000 + i), loops := fun b => find [] [(0, [.own 0 (.ro (.slc (.int .i16))), .own 5 (.ro (.int .i64)), .own 10 (.ro (.slc (.int .i16))), .own 11 (.ro (.int .i64)), .own 12 (.ro (.int .i64))])] b }
/- impl.Cam).best -/
noncomputable def I32 : Inst := { f := 32, nt := 33, params := [((.ro (.slc (.int .i16))), false), ((.ro (.slc (.slc (.int .i16)))), false)], res := [(.ro (.int .i64)), (.ro (.int .i64))], slots := [.tmp 4, .tmp 5], code := bd Try.f32, callee := fun r i => find 0 [(5002, 59)] (r * 1000 + i), loops := fun b => find [] [(0, [.own 0 (.ro (.slc (.int .i16))), .own 6 (.ro (.int .i64)), .own 7 (.ro (.int .i64)), .own 11 (.ro (.slc (.slc (.int .i16)))), .own 12 (.ro (.int .i64)), .own 13 (.ro (.int .i64))])] b }
/- impl.BestCutter -/
noncomputable def I9 : Inst := { f := 9, nt := 36, params := [((.ro (.slc (.int .i16))), false), ((.ro (.slc (.slc (.int .i16)))), false)], res := [(.ro (.int .i64)), (.ro (.int .i64)), (.ro (.int .i64))], slots := [.tmp 4, .tmp 5, .tmp 6], code := bd Try.f9, callee := fun r i => find 0 [(1001, 29), (1005, 30), (1008, 28), (1010, 31), (1012, 28), (1014, 27), (4002, 32)] (r * 1000 + i), deep := fun r i => find false [(1013, true)] (r * 1000 + i) }
/- laws.eqCam -/
noncomputable def I10 : Inst := { f := 10, nt := 26, params := [((.ro (.slc (.int .i16))), false), ((.ro (.slc (.int .i16))), false)], res := [(.ro .bool)], slots := [.tmp 4], code := bd Try.f10, loops := fun b => find [] [(0, [.own 0 (.ro (.slc (.int .i16))), .own 1 (.ro (.slc (.int .i16))), .own 5 (.ro (.int .i64))])] b }
/- laws.eqCutter -/
noncomputable def I33 : Inst := { f := 33, nt := 26, params := [((.ro (.slc (.int .i16))), false), ((.ro (.slc (.int .i16))), false)], res := [(.ro .bool)], slots := [.tmp 4], code := bd Try.f33, loops := fun b => find [] [(0, [.own 0 (.ro (.slc (.int .i16))), .own 1 (.ro (.slc (.int .i16))), .own 5 (.ro (.int .i64))])] b }
/- laws.eqCutterS -/
noncomputable def I11 : Inst := { f := 11, nt := 27, params := [((.ro (.slc (.slc (.int .i16)))), false), ((.ro (.slc (.slc (.int .i16)))), false)], res := [(.ro .bool)], slots := [.tmp 4], code := bd Try.f11, callee := fun r i => find 0 [(6008, 33)] (r * 1000 + i), loops := fun b => find [] [(0, [.own 0 (.ro (.slc (.slc (.int .i16)))), .own 1 (.ro (.slc (.slc (.int .i16)))), .own 5 (.ro (.int .i64))])] b }
/- laws.FnExactBestCutter -/
noncomputable def I3 : Inst := { f := 3, nt := 65, params := [((.ro (.slc (.int .i16))), false), ((.ro (.slc (.slc (.int .i16)))), false)], res := [(.ro .bool)], slots := [.tmp 4], code := bd Try.f3, callee := fun r i => find 0 [(4002, 5), (7001, 7), (7003, 8), (7004, 6), (8001, 7), (9001, 8), (10002, 9), (13002, 7), (13003, 10), (15002, 8), (15003, 11)] (r * 1000 + i) }
noncomputable def C : Nat → Inst := find I21 [(21, I21), (5, I5), (7, I7), (26, I26), (8, I8), (48, I48), (45, I45), (46, I46), (22, I22), (47, I47), (23, I23), (24, I24), (86, I86), (80, I80), (81, I81), (71, I71), (72, I72), (65, I65), (49, I49), (25, I25), (6, I6), (51, I51), (58, I58), (50, I50), (54, I54), (53, I53), (66, I66), (52, I52), (29, I29), (57, I57), (56, I56), (67, I67), (55, I55), (30, I30), (28, I28), (31, I31), (27, I27), (85, I85), (78, I78), (70, I70), (84, I84), (76, I76), (83, I83), (82, I82), (73, I73), (77, I77), (1076, I1076), (75, I75), (74, I74), (68, I68), (59, I59), (32, I32), (9, I9), (10, I10), (33, I33), (11, I11), (3, I3)]
theorem tsOk : TsOk Try.prog T := tsOkB_sound (by kernel_rfl)
theorem ok21 : InstOk Try.prog I21 := instOk_of Try.func21 (by kernel_rfl) (by kernel_rfl) (by kernel_rfl) (by kernel_rfl)
theorem ok5 : InstOk Try.prog I5 := instOk_of Try.func5 (by kernel_rfl) (by kernel_rfl) (by kernel_rfl) (by kernel_rfl)
theorem ok7 : InstOk Try.prog I7 := instOk_of Try.func7 (by kernel_rfl) (by kernel_rfl) (by kernel_rfl) (by kernel_rfl)
theorem ok26 : InstOk Try.prog I26 := instOk_of Try.func26 (by kernel_rfl) (by kernel_rfl) (by kernel_rfl) (by kernel_rfl)
theorem ok8 : InstOk Try.prog I8 := instOk_of Try.func8 (by kernel_rfl) (by kernel_rfl) (by kernel_rfl) (by kernel_rfl)
theorem ok48 : InstOk Try.prog I48 := instOk_of Try.func48 (by kernel_rfl) (by kernel_rfl) (by kernel_rfl) (by kernel_rfl)
theorem ok45 : InstOk Try.prog I45 := instOk_of Try.func45 (by kernel_rfl) (by kernel_rfl) (by kernel_rfl) (by kernel_rfl)
theorem ok46 : InstOk Try.prog I46 := instOk_of Try.func46 (by kernel_rfl) (by kernel_rfl) (by kernel_rfl) (by kernel_rfl)
theorem ok22 : InstOk Try.prog I22 := instOk_of Try.func22 (by kernel_rfl) (by kernel_rfl) (by kernel_rfl) (by kernel_rfl)
theorem ok47 : InstOk Try.prog I47 := instOk_of Try.func47 (by kernel_rfl) (by kernel_rfl) (by kernel_rfl) (by kernel_rfl)
theorem ok23 : InstOk Try.prog I23 := instOk_of Try.func23 (by kernel_rfl) (by kernel_rfl) (by kernel_rfl) (by kernel_rfl)
theorem ok24 : InstOk Try.prog I24 := instOk_of Try.func24 (by kernel_rfl) (by kernel_rfl) (by kernel_rfl) (by kernel_rfl)
theorem ok86 : InstOk Try.prog I86 := instOk_of Try.func86 (by kernel_rfl) (by kernel_rfl) (by kernel_rfl) (by kernel_rfl)
theorem ok80 : InstOk Try.prog I80 := instOk_of Try.func80 (by kernel_rfl) (by kernel_rfl) (by kernel_rfl) (by kernel_rfl)
theorem ok81 : InstOk Try.prog I81 := instOk_of Try.func81 (by kernel_rfl) (by kernel_rfl) (by kernel_rfl) (by kernel_rfl)
theorem ok71 : InstOk Try.prog I71 := instOk_of Try.func71 (by kernel_rfl) (by kernel_rfl) (by kernel_rfl) (by kernel_rfl)
theorem ok72 : InstOk Try.prog I72 := instOk_of Try.func72 (by kernel_rfl) (by kernel_rfl) (by kernel_rfl) (by kernel_rfl)
theorem ok65 : InstOk Try.prog I65 := instOk_of Try.func65 (by kernel_rfl) (by kernel_rfl) (by kernel_rfl) (by kernel_rfl)
theorem ok49 : InstOk Try.prog I49 := instOk_of Try.func49 (by kernel_rfl) (by kernel_rfl) (by kernel_rfl) (by kernel_rfl)
theorem ok25 : InstOk Try.prog I25 := instOk_of Try.func25 (by kernel_rfl) (by kernel_rfl) (by kernel_rfl) (by kernel_rfl)
theorem ok6 : InstOk Try.prog I6 := instOk_of Try.func6 (by kernel_rfl) (by kernel_rfl) (by kernel_rfl) (by kernel_rfl)
theorem ok51 : InstOk Try.prog I51 := instOk_of Try.func51 (by kernel_rfl) (by kernel_rfl) (by kernel_rfl) (by kernel_rfl)
theorem ok58 : InstOk Try.prog I58 := instOk_of Try.func58 (by kernel_rfl) (by kernel_rfl) (by kernel_rfl) (by kernel_rfl)
theorem ok50 : InstOk Try.prog I50 := instOk_of Try.func50 (by kernel_rfl) (by kernel_rfl) (by kernel_rfl) (by kernel_rfl)
theorem ok54 : InstOk Try.prog I54 := instOk_of Try.func54 (by kernel_rfl) (by kernel_rfl) (by kernel_rfl) (by kernel_rfl)
theorem ok53 : InstOk Try.prog I53 := instOk_of Try.func53 (by kernel_rfl) (by kernel_rfl) (by kernel_rfl) (by kernel_rfl)
theorem ok66 : InstOk Try.prog I66 := instOk_of Try.func66 (by kernel_rfl) (by kernel_rfl) (by kernel_rfl) (by kernel_rfl)
theorem ok52 : InstOk Try.prog I52 := instOk_of Try.func52 (by kernel_rfl) (by kernel_rfl) (by kernel_rfl) (by kernel_rfl)
theorem ok29 : InstOk Try.prog I29 := instOk_of Try.func29 (by kernel_rfl) (by kernel_rfl) (by kernel_rfl) (by kernel_rfl)
theorem ok57 : InstOk Try.prog I57 := instOk_of Try.func57 (by kernel_rfl) (by kernel_rfl) (by kernel_rfl) (by kernel_rfl)
theorem ok56 : InstOk Try.prog I56 := instOk_of Try.func56 (by kernel_rfl) (by kernel_rfl) (by kernel_rfl) (by kernel_rfl)
theorem ok67 : InstOk Try.prog I67 := instOk_of Try.func67 (by kernel_rfl) (by kernel_rfl) (by kernel_rfl) (by kernel_rfl)
theorem ok55 : InstOk Try.prog I55 := instOk_of Try.func55 (by kernel_rfl) (by kernel_rfl) (by kernel_rfl) (by kernel_rfl)
theorem ok30 : InstOk Try.prog I30 := instOk_of Try.func30 (by kernel_rfl) (by kernel_rfl) (by kernel_rfl) (by kernel_rfl)
theorem ok28 : InstOk Try.prog I28 := instOk_of Try.func28 (by kernel_rfl) (by kernel_rfl) (by kernel_rfl) (by kernel_rfl)
theorem ok31 : InstOk Try.prog I31 := instOk_of Try.func31 (by kernel_rfl) (by kernel_rfl) (by kernel_rfl) (by kernel_rfl)
theorem ok27 : InstOk Try.prog I27 := instOk_of Try.func27 (by kernel_rfl) (by kernel_rfl) (by kernel_rfl) (by kernel_rfl)
theorem ok85 : InstOk Try.prog I85 := instOk_of Try.func85 (by kernel_rfl) (by kernel_rfl) (by kernel_rfl) (by kernel_rfl)
theorem ok78 : InstOk Try.prog I78 := instOk_of Try.func78 (by kernel_rfl) (by kernel_rfl) (by kernel_rfl) (by kernel_rfl)
theorem ok70 : InstOk Try.prog I70 := instOk_of Try.func70 (by kernel_rfl) (by kernel_rfl) (by kernel_rfl) (by kernel_rfl)
theorem ok84 : InstOk Try.prog I84 := instOk_of Try.func84 (by kernel_rfl) (by kernel_rfl) (by kernel_rfl) (by kernel_rfl)
theorem ok76 : InstOk Try.prog I76 := instOk_of Try.func76 (by kernel_rfl) (by kernel_rfl) (by kernel_rfl) (by kernel_rfl)
theorem ok83 : InstOk Try.prog I83 := instOk_of Try.func83 (by kernel_rfl) (by kernel_rfl) (by kernel_rfl) (by kernel_rfl)
theorem ok82 : InstOk Try.prog I82 := instOk_of Try.func82 (by kernel_rfl) (by kernel_rfl) (by kernel_rfl) (by kernel_rfl)
theorem ok73 : InstOk Try.prog I73 := instOk_of Try.func73 (by kernel_rfl) (by kernel_rfl) (by kernel_rfl) (by kernel_rfl)
theorem ok77 : InstOk Try.prog I77 := instOk_of Try.func77 (by kernel_rfl) (by kernel_rfl) (by kernel_rfl) (by kernel_rfl)
theorem ok1076 : InstOk Try.prog I1076 := instOk_of Try.func76 (by kernel_rfl) (by kernel_rfl) (by kernel_rfl) (by kernel_rfl)
theorem ok75 : InstOk Try.prog I75 := instOk_of Try.func75 (by kernel_rfl) (by kernel_rfl) (by kernel_rfl) (by kernel_rfl)
theorem ok74 : InstOk Try.prog I74 := instOk_of Try.func74 (by kernel_rfl) (by kernel_rfl) (by kernel_rfl) (by kernel_rfl)
theorem ok68 : InstOk Try.prog I68 := instOk_of Try.func68 (by kernel_rfl) (by kernel_rfl) (by kernel_rfl) (by kernel_rfl)
theorem ok59 : InstOk Try.prog I59 := instOk_of Try.func59 (by kernel_rfl) (by kernel_rfl) (by kernel_rfl) (by kernel_rfl)
theorem ok32 : InstOk Try.prog I32 := instOk_of Try.func32 (by kernel_rfl) (by kernel_rfl) (by kernel_rfl) (by kernel_rfl)
theorem ok9 : InstOk Try.prog I9 := instOk_of Try.func9 (by kernel_rfl) (by kernel_rfl) (by kernel_rfl) (by kernel_rfl)
theorem ok10 : InstOk Try.prog I10 := instOk_of Try.func10 (by kernel_rfl) (by kernel_rfl) (by kernel_rfl) (by kernel_rfl)
theorem ok33 : InstOk Try.prog I33 := instOk_of Try.func33 (by kernel_rfl) (by kernel_rfl) (by kernel_rfl) (by kernel_rfl)
theorem ok11 : InstOk Try.prog I11 := instOk_of Try.func11 (by kernel_rfl) (by kernel_rfl) (by kernel_rfl) (by kernel_rfl)
theorem ok3 : InstOk Try.prog I3 := instOk_of Try.func3 (by kernel_rfl) (by kernel_rfl) (by kernel_rfl) (by kernel_rfl)
theorem insts : ∀ j, InstOk Try.prog (C j) := find_all ok21 (List.forall_mem_cons.2 ⟨ok21, List.forall_mem_cons.2 ⟨ok5, List.forall_mem_cons.2 ⟨ok7, List.forall_mem_cons.2 ⟨ok26, List.forall_mem_cons.2 ⟨ok8, List.forall_mem_cons.2 ⟨ok48, List.forall_mem_cons.2 ⟨ok45, List.forall_mem_cons.2 ⟨ok46, List.forall_mem_cons.2 ⟨ok22, List.forall_mem_cons.2 ⟨ok47, List.forall_mem_cons.2 ⟨ok23, List.forall_mem_cons.2 ⟨ok24, List.forall_mem_cons.2 ⟨ok86, List.forall_mem_cons.2 ⟨ok80, List.forall_mem_cons.2 ⟨ok81, List.forall_mem_cons.2 ⟨ok71, List.forall_mem_cons.2 ⟨ok72, List.forall_mem_cons.2 ⟨ok65, List.forall_mem_cons.2 ⟨ok49, List.forall_mem_cons.2 ⟨ok25, List.forall_mem_cons.2 ⟨ok6, List.forall_mem_cons.2 ⟨ok51, List.forall_mem_cons.2 ⟨ok58, List.forall_mem_cons.2 ⟨ok50, List.forall_mem_cons.2 ⟨ok54, List.forall_mem_cons.2 ⟨ok53, List.forall_mem_cons.2 ⟨ok66, List.forall_mem_cons.2 ⟨ok52, List.forall_mem_cons.2 ⟨ok29, List.forall_mem_cons.2 ⟨ok57, List.forall_mem_cons.2 ⟨ok56, List.forall_mem_cons.2 ⟨ok67, List.forall_mem_cons.2 ⟨ok55, List.forall_mem_cons.2 ⟨ok30, List.forall_mem_cons.2 ⟨ok28, List.forall_mem_cons.2 ⟨ok31, List.forall_mem_cons.2 ⟨ok27, List.forall_mem_cons.2 ⟨ok85, List.forall_mem_cons.2 ⟨ok78, List.forall_mem_cons.2 ⟨ok70, List.forall_mem_cons.2 ⟨ok84, List.forall_mem_cons.2 ⟨ok76, List.forall_mem_cons.2 ⟨ok83, List.forall_mem_cons.2 ⟨ok82, List.forall_mem_cons.2 ⟨ok73, List.forall_mem_cons.2 ⟨ok77, List.forall_mem_cons.2 ⟨ok1076, List.forall_mem_cons.2 ⟨ok75, List.forall_mem_cons.2 ⟨ok74, List.forall_mem_cons.2 ⟨ok68, List.forall_mem_cons.2 ⟨ok59, List.forall_mem_cons.2 ⟨ok32, List.forall_mem_cons.2 ⟨ok9, List.forall_mem_cons.2 ⟨ok10, List.forall_mem_cons.2 ⟨ok33, List.forall_mem_cons.2 ⟨ok11, List.forall_mem_cons.2 ⟨ok3, fun _ h => absurd h List.not_mem_nil⟩⟩⟩⟩⟩⟩⟩⟩⟩⟩⟩⟩⟩⟩⟩⟩⟩⟩⟩⟩⟩⟩⟩⟩⟩⟩⟩⟩⟩⟩⟩⟩⟩⟩⟩⟩⟩⟩⟩⟩⟩⟩⟩⟩⟩⟩⟩⟩⟩⟩⟩⟩⟩⟩⟩⟩⟩)
end Go.Proofs.Ytkcapecjamijaab.LBestCutter
