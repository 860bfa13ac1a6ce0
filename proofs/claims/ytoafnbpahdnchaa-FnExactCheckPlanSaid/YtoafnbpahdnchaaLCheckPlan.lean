/- The types and the functions that a law reaches, told for the reading (Fw). Written by a program (gen.py). -/
import Derived.Test.YtoafnbpahdnchaaFwC
import Derived.Test.YtoafnbpahdnchaaProg
namespace Go.Proofs.Ytoafnbpahdnchaa.LCheckPlan
open Go Go.Fw
open Go.Proofs
noncomputable def tyL : List (Nat × TI) := [(2, ⟨(.int .i64), 0, 8⟩),
  (3, ⟨(.int .i64), 0, 8⟩),
  (4, ⟨.bool, 0, 1⟩),
  (22, ⟨(.slc (.int .i16)), 57, 24⟩),
  (23, ⟨(.slc (.slc (.int .i16))), 22, 24⟩),
  (24, ⟨(.slc (.pair (.int .i16) (.pair (.int .i16) (.pair (.int .i8) .unit)))), 89, 24⟩),
  (27, ⟨(.slc (.int .i16)), 57, 24⟩),
  (31, ⟨(.slc (.slc (.int .i16))), 48, 24⟩),
  (33, ⟨(.slc (.pair (.int .i16) (.pair (.int .i16) (.pair (.int .i8) .unit)))), 87, 24⟩),
  (48, ⟨(.slc (.int .i16)), 57, 24⟩),
  (52, ⟨(.slc (.int .i64)), 2, 24⟩),
  (57, ⟨(.int .i16), 0, 2⟩),
  (59, ⟨.fn, 0, 8⟩),
  (85, ⟨(.int .i8), 0, 1⟩),
  (87, ⟨(.pair (.int .i16) (.pair (.int .i16) (.pair (.int .i8) .unit))), 0, 6⟩),
  (89, ⟨(.pair (.int .i16) (.pair (.int .i16) (.pair (.int .i8) .unit))), 0, 6⟩),
  (122, ⟨.fn, 0, 8⟩),
  (129, ⟨.fn, 0, 8⟩),
  (147, ⟨(.slc (.slc (.int .i64))), 52, 24⟩),
  (149, ⟨.fn, 0, 8⟩),
  (152, ⟨.fn, 0, 8⟩)]
noncomputable def T : Nat → Option TI := findT tyL
/- laws.szCutter -/
noncomputable def I54 : Inst := { f := 54, nt := 12, params := [((.ro (.slc (.int .i16))), false), ((.ro (.int .i64)), false)], res := [(.ro (.int .i64))], slots := [.tmp 4], code := bd Try.f54 }
/- laws.szCutterS -/
noncomputable def I7 : Inst := { f := 7, nt := 27, params := [((.ro (.slc (.slc (.int .i16)))), false), ((.ro (.int .i64)), false)], res := [(.ro (.int .i64))], slots := [.tmp 4], code := bd Try.f7, callee := fun r i => find 0 [(7005, 54)] (r * 1000 + i), loops := fun b => find [] [(0, [.own 0 (.ro (.slc (.slc (.int .i16)))), .own 1 (.ro (.int .i64)), .own 5 (.ro (.int .i64))])] b }
/- laws.szCutS -/
noncomputable def I8 : Inst := { f := 8, nt := 12, params := [((.ro (.slc (.pair (.int .i16) (.pair (.int .i16) (.pair (.int .i8) .unit))))), false), ((.ro (.int .i64)), false)], res := [(.ro (.int .i64))], slots := [.tmp 4], code := bd Try.f8 }
/- laws.toCam -/
noncomputable def I10 : Inst := { f := 10, nt := 22, params := [((.ro (.slc (.int .i16))), false)], res := [(.row false (.int .i16))], slots := [.tmp 2], code := bd Try.f10, loops := fun b => find [] [(0, [.own 0 (.ro (.slc (.int .i16))), .own 3 (.row false (.int .i16)), .own 4 (.ro (.int .i64))])] b, deep := fun r i => find false [(1002, true)] (r * 1000 + i) }
/- laws.toCutter -/
noncomputable def I57 : Inst := { f := 57, nt := 22, params := [((.ro (.slc (.int .i16))), false)], res := [(.row false (.int .i16))], slots := [.tmp 2], code := bd Try.f57, loops := fun b => find [] [(0, [.own 0 (.ro (.slc (.int .i16))), .own 3 (.row false (.int .i16)), .own 4 (.ro (.int .i64))])] b, deep := fun r i => find false [(1002, true)] (r * 1000 + i) }
/- laws.toCutterS -/
noncomputable def I11 : Inst := { f := 11, nt := 23, params := [((.ro (.slc (.slc (.int .i16)))), false)], res := [(.row true (.slc (.int .i16)))], slots := [.tmp 2], code := bd Try.f11, callee := fun r i => find 0 [(5006, 57)] (r * 1000 + i), loops := fun b => find [] [(0, [.own 0 (.ro (.slc (.slc (.int .i16)))), .own 3 (.row true (.slc (.int .i16))), .own 4 (.ro (.int .i64))])] b, deep := fun r i => find false [(1002, true)] (r * 1000 + i) }
/- laws.toCut -/
noncomputable def I58 : Inst := { f := 58, nt := 14, params := [((.ro (.pair (.int .i16) (.pair (.int .i16) (.pair (.int .i8) .unit)))), false)], res := [(.ro (.pair (.int .i16) (.pair (.int .i16) (.pair (.int .i8) .unit))))], slots := [.cell 2 87], code := bd Try.f58 }
/- laws.toCutS -/
noncomputable def I12 : Inst := { f := 12, nt := 23, params := [((.ro (.slc (.pair (.int .i16) (.pair (.int .i16) (.pair (.int .i8) .unit))))), false)], res := [(.row false (.pair (.int .i16) (.pair (.int .i16) (.pair (.int .i8) .unit))))], slots := [.tmp 2], code := bd Try.f12, callee := fun r i => find 0 [(5006, 58)] (r * 1000 + i), loops := fun b => find [] [(0, [.own 0 (.ro (.slc (.pair (.int .i16) (.pair (.int .i16) (.pair (.int .i8) .unit))))), .own 3 (.row false (.pair (.int .i16) (.pair (.int .i16) (.pair (.int .i8) .unit)))), .own 4 (.ro (.int .i64))])] b, deep := fun r i => find false [(1002, true)] (r * 1000 + i) }
/- spec.l00In -/
noncomputable def I129 : Inst := { f := 129, nt := 15, params := [((.ro (.int .i64)), false), ((.ro (.int .i64)), false), ((.ro (.int .i64)), false)], res := [(.ro .bool)], slots := [.tmp 6], code := bd Try.f129 }
/- spec.l01Steps -/
noncomputable def I159 : Inst := { f := 159, nt := 5, params := [((.ro (.int .i64)), false)], res := [(.ro .bool)], slots := [.tmp 2], code := bd Try.f159, callee := fun r i => find 0 [(1001, 129)] (r * 1000 + i) }
/- spec.l01Lift -/
noncomputable def I65 : Inst := { f := 65, nt := 5, params := [((.ro (.int .i64)), false)], res := [(.ro .bool)], slots := [.tmp 2], code := bd Try.f65, callee := fun r i => find 0 [(1001, 129)] (r * 1000 + i) }
/- spec.l01Ok -/
noncomputable def I113 : Inst := { f := 113, nt := 21, params := [((.ro (.slc (.int .i16))), false)], res := [(.ro .bool)], slots := [.tmp 2], code := bd Try.f113, callee := fun r i => find 0 [(1002, 159), (6005, 65)] (r * 1000 + i), loops := fun b => find [] [(0, [.own 0 (.ro (.slc (.int .i16))), .own 3 (.ro (.int .i64))])] b }
/- spec.l06Some -/
noncomputable def I167 : Inst := { f := 167, nt := 6, params := [((.ro (.slc (.slc (.int .i16)))), false)], res := [(.ro .bool)], slots := [.tmp 2], code := bd Try.f167, callee := fun r i => find 0 [(1002, 129)] (r * 1000 + i) }
/- spec.l06Ok -/
noncomputable def I96 : Inst := { f := 96, nt := 66, params := [((.ro (.slc (.int .i16))), false)], res := [(.ro .bool)], slots := [.tmp 2], code := bd Try.f96, callee := fun r i => find 0 [(2001, 129), (7005, 65)] (r * 1000 + i), loops := fun b => find [] [(0, [.own 0 (.ro (.slc (.int .i16))), .own 3 (.ro (.int .i64)), .own 4 (.ro (.int .i64))])] b }
/- spec.l06Cutters -/
noncomputable def I168 : Inst := { f := 168, nt := 16, params := [((.ro (.slc (.slc (.int .i16)))), false)], res := [(.ro .bool)], slots := [.tmp 2], code := bd Try.f168, callee := fun r i => find 0 [(4004, 96)] (r * 1000 + i), loops := fun b => find [] [(0, [.own 0 (.ro (.slc (.slc (.int .i16)))), .own 3 (.ro (.int .i64))])] b }
/- spec.l06Plain -/
noncomputable def I169 : Inst := { f := 169, nt := 46, params := [((.ro (.slc (.pair (.int .i16) (.pair (.int .i16) (.pair (.int .i8) .unit))))), false), ((.ro (.int .i64)), false)], res := [(.ro .bool)], slots := [.tmp 4], code := bd Try.f169, callee := fun r i => find 0 [(7005, 129), (7013, 65), (7024, 129)] (r * 1000 + i), loops := fun b => find [] [(0, [.own 0 (.ro (.slc (.pair (.int .i16) (.pair (.int .i16) (.pair (.int .i8) .unit))))), .own 1 (.ro (.int .i64)), .own 5 (.ro (.int .i64))])] b }
/- spec.l06Cuts -/
noncomputable def I123 : Inst := { f := 123, nt := 17, params := [((.ro (.slc (.pair (.int .i16) (.pair (.int .i16) (.pair (.int .i8) .unit))))), false), ((.ro (.slc (.slc (.int .i16)))), false)], res := [(.ro .bool)], slots := [.tmp 4], code := bd Try.f123, callee := fun r i => find 0 [(1001, 167), (1004, 168), (1010, 169)] (r * 1000 + i) }
/- spec.l06On -/
noncomputable def I124 : Inst := { f := 124, nt := 20, params := [((.ro (.slc (.pair (.int .i16) (.pair (.int .i16) (.pair (.int .i8) .unit))))), false), ((.ro (.int .i64)), false)], res := [(.ro .bool)], slots := [.tmp 4], code := bd Try.f124, loops := fun b => find [] [(0, [.own 0 (.ro (.slc (.pair (.int .i16) (.pair (.int .i16) (.pair (.int .i8) .unit))))), .own 1 (.ro (.int .i64)), .own 5 (.ro (.int .i64))])] b }
/- spec.l06Given -/
noncomputable def I55 : Inst := { f := 55, nt := 21, params := [((.ro (.slc (.int .i16))), false), ((.ro (.slc (.slc (.int .i16)))), false), ((.ro (.slc (.pair (.int .i16) (.pair (.int .i16) (.pair (.int .i8) .unit))))), false)], res := [(.ro (.int .i64))], slots := [.tmp 6], code := bd Try.f55, callee := fun r i => find 0 [(1001, 113), (1006, 123), (3003, 124)] (r * 1000 + i) }
/- spec.l00Min -/
noncomputable def I153 : Inst := { f := 153, nt := 10, params := [((.ro (.int .i64)), false), ((.ro (.int .i64)), false)], res := [(.ro (.int .i64))], slots := [.tmp 4], code := bd Try.f153 }
/- spec.l00Max -/
noncomputable def I117 : Inst := { f := 117, nt := 10, params := [((.ro (.int .i64)), false), ((.ro (.int .i64)), false)], res := [(.ro (.int .i64))], slots := [.tmp 4], code := bd Try.f117 }
/- spec.l01Range -/
noncomputable def I130 : Inst := { f := 130, nt := 34, params := [((.ro (.slc (.int .i16))), false)], res := [(.ro (.int .i64)), (.ro (.int .i64))], slots := [.tmp 2, .tmp 3], code := bd Try.f130, callee := fun r i => find 0 [(6006, 153), (7006, 117)] (r * 1000 + i), loops := fun b => find [] [(0, [.own 0 (.ro (.slc (.int .i16))), .own 4 (.ro (.int .i64)), .own 5 (.ro (.int .i64)), .own 6 (.ro (.int .i64))])] b }
/- spec.l06Over -/
noncomputable def I66 : Inst := { f := 66, nt := 15, params := [((.ro (.slc (.int .i16))), false), ((.ro (.int .i64)), false)], res := [(.ro .bool)], slots := [.tmp 4], code := bd Try.f66, callee := fun r i => find 0 [(1001, 130)] (r * 1000 + i) }
/- spec.l01At -/
noncomputable def I161 : Inst := { f := 161, nt := 19, params := [((.ro (.slc (.int .i16))), false), ((.ro (.int .i64)), false)], res := [(.ro (.int .i64))], slots := [.tmp 4], code := bd Try.f161 }
/- spec.l06Tip -/
noncomputable def I131 : Inst := { f := 131, nt := 36, params := [((.ro (.slc (.int .i16))), false), ((.ro (.slc (.int .i16))), false), ((.ro (.int .i64)), false)], res := [(.ro (.int .i64))], slots := [.tmp 6], code := bd Try.f131, callee := fun r i => find 0 [(6005, 161), (6014, 117)] (r * 1000 + i), loops := fun b => find [] [(0, [.own 0 (.ro (.slc (.int .i16))), .own 1 (.ro (.slc (.int .i16))), .own 2 (.ro (.int .i64)), .own 7 (.ro (.int .i64)), .own 8 (.ro (.int .i64)), .own 9 (.ro (.int .i64))])] b }
/- spec.l06Deep -/
noncomputable def I67 : Inst := { f := 67, nt := 38, params := [((.ro (.slc (.int .i16))), false), ((.ro (.slc (.slc (.int .i16)))), false), ((.ro (.slc (.pair (.int .i16) (.pair (.int .i16) (.pair (.int .i8) .unit))))), false)], res := [(.ro (.int .i64))], slots := [.tmp 6], code := bd Try.f67, callee := fun r i => find 0 [(4021, 131)] (r * 1000 + i), loops := fun b => find [] [(0, [.own 0 (.ro (.slc (.int .i16))), .own 1 (.ro (.slc (.slc (.int .i16)))), .own 2 (.ro (.slc (.pair (.int .i16) (.pair (.int .i16) (.pair (.int .i8) .unit))))), .own 7 (.ro (.int .i64))])] b }
/- spec.l06Tips -/
noncomputable def I87 : Inst := { f := 87, nt := 22, params := [((.ro (.slc (.int .i16))), false), ((.ro (.slc (.int .i16))), false)], res := [(.row false (.int .i64))], slots := [.tmp 4], code := bd Try.f87, callee := fun r i => find 0 [(5004, 131)] (r * 1000 + i), loops := fun b => find [] [(0, [.own 0 (.ro (.slc (.int .i16))), .own 1 (.ro (.slc (.int .i16))), .own 5 (.row false (.int .i64)), .own 6 (.ro (.int .i64))])] b, deep := fun r i => find false [(1000, true), (5005, true), (5006, true)] (r * 1000 + i) }
/- spec.l06Cut -/
noncomputable def I125 : Inst := { f := 125, nt := 73, params := [((.ro (.slc (.int .i16))), false), ((.ro (.slc (.int .i16))), false), ((.ro (.int .i64)), false), ((.ro (.int .i64)), false)], res := [(.row false (.int .i16)), (.ro (.int .i64))], slots := [.tmp 8, .tmp 9], code := bd Try.f125, loops := fun b => find [] [(0, [.own 1 (.ro (.slc (.int .i16))), .own 2 (.ro (.int .i64)), .own 3 (.ro (.int .i64)), .own 10 (.row false (.int .i16)), .own 11 (.ro (.int .i64)), .own 12 (.ro (.int .i64)), .own 13 (.ro (.int .i64)), .own 14 (.ro (.int .i64))])] b, deep := fun r i => find false [(1000, true), (1002, true)] (r * 1000 + i) }
/- spec.l06Left -/
noncomputable def I69 : Inst := { f := 69, nt := 38, params := [((.ro (.slc (.int .i16))), false), ((.ro (.slc (.int .i16))), false)], res := [(.row false (.int .i16))], slots := [.tmp 4], code := bd Try.f69, callee := fun r i => find 0 [(6002, 87), (10007, 125)] (r * 1000 + i), loops := fun b => find [] [(2, [.own 1 (.ro (.slc (.int .i16))), .own 5 (.row false (.int .i16)), .own 6 (.ro (.slc (.int .i64))), .own 7 (.ro (.int .i64))]), (0, [.own 0 (.ro (.slc (.int .i16))), .own 1 (.ro (.slc (.int .i16))), .own 5 (.row false (.int .i16)), .own 10 (.ro (.int .i64)), .own 11 (.ro (.int .i64))])] b, deep := fun r i => find false [(1000, true), (4001, true), (4002, true)] (r * 1000 + i) }
/- spec.l06Waste -/
noncomputable def I132 : Inst := { f := 132, nt := 31, params := [((.ro (.slc (.int .i16))), false), ((.ro (.slc (.int .i16))), false)], res := [(.ro (.int .i64))], slots := [.tmp 4], code := bd Try.f132, callee := fun r i => find 0 [(1002, 69)] (r * 1000 + i), loops := fun b => find [] [(0, [.own 0 (.ro (.slc (.int .i16))), .own 5 (.ro (.slc (.int .i16))), .own 6 (.ro (.int .i64)), .own 7 (.ro (.int .i64))])] b }
/- spec.l06Best -/
noncomputable def I68 : Inst := { f := 68, nt := 34, params := [((.ro (.slc (.int .i16))), false), ((.ro (.slc (.slc (.int .i16)))), false)], res := [(.ro (.int .i64)), (.ro (.int .i64))], slots := [.tmp 4, .tmp 5], code := bd Try.f68, callee := fun r i => find 0 [(2004, 132), (6005, 132)] (r * 1000 + i), loops := fun b => find [] [(0, [.own 0 (.ro (.slc (.int .i16))), .own 1 (.ro (.slc (.slc (.int .i16)))), .own 6 (.ro (.int .i64)), .own 7 (.ro (.int .i64)), .own 8 (.ro (.int .i64))])] b }
/- spec.l06Blank -/
noncomputable def I70 : Inst := { f := 70, nt := 19, params := [((.ro (.int .i64)), false), ((.ro (.int .i64)), false)], res := [(.row false (.int .i16))], slots := [.tmp 4], code := bd Try.f70, loops := fun b => find [] [(0, [.own 0 (.ro (.int .i64)), .own 1 (.ro (.int .i64)), .own 5 (.row false (.int .i16)), .own 6 (.ro (.int .i64))])] b, deep := fun r i => find false [(1000, true), (5003, true), (5004, true)] (r * 1000 + i) }
/- spec.l06Do -/
noncomputable def I56 : Inst := { f := 56, nt := 53, params := [((.ro (.slc (.int .i16))), false), ((.ro (.slc (.slc (.int .i16)))), false), ((.ro (.slc (.pair (.int .i16) (.pair (.int .i16) (.pair (.int .i8) .unit))))), false)], res := [(.row false (.int .i16)), (.ro (.int .i64))], slots := [.tmp 6, .tmp 7], code := bd Try.f56, callee := fun r i => find 0 [(6021, 125)] (r * 1000 + i), loops := fun b => find [] [(0, [.own 1 (.ro (.slc (.slc (.int .i16)))), .own 2 (.ro (.slc (.pair (.int .i16) (.pair (.int .i16) (.pair (.int .i8) .unit))))), .own 8 (.row false (.int .i16)), .own 9 (.ro (.int .i64)), .own 10 (.ro (.int .i64))])] b }
/- spec.CheckPlan -/
noncomputable def I21 : Inst := { f := 21, nt := 80, params := [((.ro (.slc (.int .i16))), false), ((.ro (.int .i64)), false), ((.ro (.slc (.slc (.int .i16)))), false), ((.ro (.slc (.pair (.int .i16) (.pair (.int .i16) (.pair (.int .i8) .unit))))), false)], res := [(.ro .bool), (.ro (.int .i64))], slots := [.tmp 8, .tmp 9], code := bd Try.f21, callee := fun r i => find 0 [(1003, 55), (2004, 65), (4005, 66), (8003, 67), (10002, 68), (11005, 69), (12003, 70), (12006, 56)] (r * 1000 + i), loops := fun b => find [] [(0, [.own 13 (.ro (.slc (.int .i16))), .own 14 (.ro (.slc (.int .i16))), .own 16 (.ro (.int .i64))])] b }
/- impl.Cam).steps -/
noncomputable def I77 : Inst := { f := 77, nt := 5, params := [((.ro (.slc (.int .i16))), false)], res := [(.ro (.int .i64))], slots := [.tmp 2], code := bd Try.f77 }
/- impl.inRange -/
noncomputable def I133 : Inst := { f := 133, nt := 15, params := [((.ro (.int .i64)), false), ((.ro (.int .i64)), false), ((.ro (.int .i64)), false)], res := [(.ro .bool)], slots := [.tmp 6], code := bd Try.f133 }
/- impl.isSteps -/
noncomputable def I91 : Inst := { f := 91, nt := 5, params := [((.ro (.int .i64)), false)], res := [(.ro .bool)], slots := [.tmp 2], code := bd Try.f91, callee := fun r i => find 0 [(1001, 133)] (r * 1000 + i) }
/- impl.isLift -/
noncomputable def I73 : Inst := { f := 73, nt := 5, params := [((.ro (.int .i64)), false)], res := [(.ro .bool)], slots := [.tmp 2], code := bd Try.f73, callee := fun r i => find 0 [(1001, 133)] (r * 1000 + i) }
/- impl.ValidCam$1 -/
noncomputable def I93 : Inst := { f := 93, nt := 7, params := [((.ro (.int .i16)), false)], res := [(.ro .bool)], slots := [.tmp 2], code := bd Try.f93, callee := fun r i => find 0 [(1002, 73)] (r * 1000 + i) }
/- impl.Cam,int16] -/
noncomputable def I148 : Inst := { f := 148, nt := 19, params := [((.ro (.slc (.int .i16))), false), ((.clo 93 (.ro .unit) (.ro .unit)), false)], res := [(.ro (.int .i64))], slots := [.tmp 4], code := bd Try.f148, callee := fun r i => find 0 [(4005, 93)] (r * 1000 + i), loops := fun b => find [] [(0, [.own 0 (.ro (.slc (.int .i16))), .own 1 (.clo 93 (.ro .unit) (.ro .unit)), .own 7 (.ro (.int .i64)), .own 8 (.ro (.int .i64))])] b }
/- impl.Cam,int16] -/
noncomputable def I92 : Inst := { f := 92, nt := 9, params := [((.ro (.slc (.int .i16))), false), ((.clo 93 (.ro .unit) (.ro .unit)), false)], res := [(.ro .bool)], slots := [.tmp 4], code := bd Try.f92, callee := fun r i => find 0 [(1002, 148)] (r * 1000 + i) }
/- impl.ValidCam -/
noncomputable def I35 : Inst := { f := 35, nt := 11, params := [((.ro (.slc (.int .i16))), false)], res := [(.ro .bool)], slots := [.tmp 2], code := bd Try.f35, callee := fun r i => find 0 [(1001, 77), (1002, 91), (1005, 92)] (r * 1000 + i) }
/- impl.isCount -/
noncomputable def I99 : Inst := { f := 99, nt := 6, params := [((.ro (.slc (.slc (.int .i16)))), false)], res := [(.ro .bool)], slots := [.tmp 2], code := bd Try.f99, callee := fun r i => find 0 [(1002, 133)] (r * 1000 + i) }
/- impl.ValidCutter -/
noncomputable def I34 : Inst := { f := 34, nt := 61, params := [((.ro (.slc (.int .i16))), false)], res := [(.ro .bool)], slots := [.tmp 2], code := bd Try.f34, callee := fun r i => find 0 [(7002, 73)] (r * 1000 + i), loops := fun b => find [] [(0, [.own 0 (.ro (.slc (.int .i16))), .own 3 (.ro (.int .i64)), .own 23 (.ro (.slc (.int .i16))), .own 24 (.ro (.int .i64)), .own 25 (.ro (.int .i64))])] b }
/- impl.areCutters$1 -/
noncomputable def I151 : Inst := { f := 151, nt := 6, params := [((.ro (.slc (.int .i16))), false)], res := [(.ro .bool)], slots := [.tmp 2], code := bd Try.f151, callee := fun r i => find 0 [(1001, 34)] (r * 1000 + i) }
/- impl.Cutter] -/
noncomputable def I176 : Inst := { f := 176, nt := 19, params := [((.ro (.slc (.slc (.int .i16)))), false), ((.clo 151 (.ro .unit) (.ro .unit)), false)], res := [(.ro (.int .i64))], slots := [.tmp 4], code := bd Try.f176, callee := fun r i => find 0 [(4005, 151)] (r * 1000 + i), loops := fun b => find [] [(0, [.own 0 (.ro (.slc (.slc (.int .i16)))), .own 1 (.clo 151 (.ro .unit) (.ro .unit)), .own 7 (.ro (.int .i64)), .own 8 (.ro (.int .i64))])] b }
/- impl.Cutter] -/
noncomputable def I150 : Inst := { f := 150, nt := 9, params := [((.ro (.slc (.slc (.int .i16)))), false), ((.clo 151 (.ro .unit) (.ro .unit)), false)], res := [(.ro .bool)], slots := [.tmp 4], code := bd Try.f150, callee := fun r i => find 0 [(1002, 176)] (r * 1000 + i) }
/- impl.areCutters -/
noncomputable def I98 : Inst := { f := 98, nt := 6, params := [((.ro (.slc (.slc (.int .i16)))), false)], res := [(.ro .bool)], slots := [.tmp 2], code := bd Try.f98, callee := fun r i => find 0 [(1001, 150)] (r * 1000 + i) }
/- impl.isPlace -/
noncomputable def I107 : Inst := { f := 107, nt := 9, params := [((.ro (.int .i64)), false), ((.ro (.int .i64)), false)], res := [(.ro .bool)], slots := [.tmp 4], code := bd Try.f107, callee := fun r i => find 0 [(1003, 133)] (r * 1000 + i) }
/- impl.areCuts$1 -/
noncomputable def I182 : Inst := { f := 182, nt := 24, params := [((.ro (.pair (.int .i16) (.pair (.int .i16) (.pair (.int .i8) .unit)))), false), ((.box (.ro (.int .i64))), true)], res := [(.ro .bool)], slots := [.tmp 3], code := bd Try.f182, callee := fun r i => find 0 [(1003, 133), (1009, 73), (1017, 107)] (r * 1000 + i), pins := [1] }
/- impl.Cut] -/
noncomputable def I134 : Inst := { f := 134, nt := 19, params := [((.ro (.slc (.pair (.int .i16) (.pair (.int .i16) (.pair (.int .i8) .unit))))), false), ((.clo 182 (.ro .unit) (.pr (.box (.ro (.int .i64))) (.ro .unit))), true)], res := [(.ro (.int .i64))], slots := [.tmp 4], code := bd Try.f134, strict := true, callee := fun r i => find 0 [(4005, 182)] (r * 1000 + i), loops := fun b => find [] [(0, [.own 0 (.ro (.slc (.pair (.int .i16) (.pair (.int .i16) (.pair (.int .i8) .unit))))), .own 1 (.clo 182 (.ro .unit) (.pr (.box (.ro (.int .i64))) (.ro .unit))), .own 7 (.ro (.int .i64)), .own 8 (.ro (.int .i64))])] b, pins := [1] }
/- impl.Cut] -/
noncomputable def I171 : Inst := { f := 171, nt := 9, params := [((.ro (.slc (.pair (.int .i16) (.pair (.int .i16) (.pair (.int .i8) .unit))))), false), ((.clo 182 (.ro .unit) (.pr (.box (.ro (.int .i64))) (.ro .unit))), true)], res := [(.ro .bool)], slots := [.tmp 4], code := bd Try.f171, strict := true, callee := fun r i => find 0 [(1002, 134)] (r * 1000 + i), pins := [1] }
/- impl.areCuts -/
noncomputable def I170 : Inst := { f := 170, nt := 14, params := [((.ro (.slc (.pair (.int .i16) (.pair (.int .i16) (.pair (.int .i8) .unit))))), false), ((.ro (.int .i64)), false)], res := [(.ro .bool)], slots := [.tmp 4], code := bd Try.f170, callee := fun r i => find 0 [(1006, 171)] (r * 1000 + i) }
/- impl.ValidCuts -/
noncomputable def I126 : Inst := { f := 126, nt := 17, params := [((.ro (.slc (.pair (.int .i16) (.pair (.int .i16) (.pair (.int .i8) .unit))))), false), ((.ro (.slc (.slc (.int .i16)))), false)], res := [(.ro .bool)], slots := [.tmp 4], code := bd Try.f126, callee := fun r i => find 0 [(1001, 99), (1004, 98), (1010, 170)] (r * 1000 + i) }
/- impl.codeIf -/
noncomputable def I72 : Inst := { f := 72, nt := 7, params := [((.ro .bool), false), ((.ro (.int .i64)), false)], res := [(.ro (.int .i64))], slots := [.tmp 4], code := bd Try.f72 }
/- impl.areOn$1 -/
noncomputable def I172 : Inst := { f := 172, nt := 9, params := [((.ro (.pair (.int .i16) (.pair (.int .i16) (.pair (.int .i8) .unit)))), false), ((.box (.ro (.int .i64))), true)], res := [(.ro .bool)], slots := [.tmp 3], code := bd Try.f172, pins := [1] }
/- impl.Cut] -/
noncomputable def I1134 : Inst := { f := 134, nt := 19, params := [((.ro (.slc (.pair (.int .i16) (.pair (.int .i16) (.pair (.int .i8) .unit))))), false), ((.clo 172 (.ro .unit) (.pr (.box (.ro (.int .i64))) (.ro .unit))), true)], res := [(.ro (.int .i64))], slots := [.tmp 4], code := bd Try.f134, strict := true, callee := fun r i => find 0 [(4005, 172)] (r * 1000 + i), loops := fun b => find [] [(0, [.own 0 (.ro (.slc (.pair (.int .i16) (.pair (.int .i16) (.pair (.int .i8) .unit))))), .own 1 (.clo 172 (.ro .unit) (.pr (.box (.ro (.int .i64))) (.ro .unit))), .own 7 (.ro (.int .i64)), .own 8 (.ro (.int .i64))])] b, pins := [1] }
/- impl.Cut] -/
noncomputable def I1171 : Inst := { f := 171, nt := 9, params := [((.ro (.slc (.pair (.int .i16) (.pair (.int .i16) (.pair (.int .i8) .unit))))), false), ((.clo 172 (.ro .unit) (.pr (.box (.ro (.int .i64))) (.ro .unit))), true)], res := [(.ro .bool)], slots := [.tmp 4], code := bd Try.f171, strict := true, callee := fun r i => find 0 [(1002, 1134)] (r * 1000 + i), pins := [1] }
/- impl.areOn -/
noncomputable def I127 : Inst := { f := 127, nt := 9, params := [((.ro (.slc (.pair (.int .i16) (.pair (.int .i16) (.pair (.int .i8) .unit))))), false), ((.ro (.int .i64)), false)], res := [(.ro .bool)], slots := [.tmp 4], code := bd Try.f127, callee := fun r i => find 0 [(1002, 1171)] (r * 1000 + i) }
/- impl.firstCode -/
noncomputable def I71 : Inst := { f := 71, nt := 15, params := [((.ro (.slc (.int .i64))), false)], res := [(.ro (.int .i64))], slots := [.tmp 2], code := bd Try.f71, loops := fun b => find [] [(0, [.own 5 (.ro (.slc (.int .i64))), .own 6 (.ro (.int .i64)), .own 7 (.ro (.int .i64))])] b }
/- impl.cutsCode -/
noncomputable def I59 : Inst := { f := 59, nt := 25, params := [((.ro (.slc (.int .i16))), false), ((.ro (.slc (.slc (.int .i16)))), false), ((.ro (.slc (.pair (.int .i16) (.pair (.int .i16) (.pair (.int .i8) .unit))))), false)], res := [(.ro (.int .i64))], slots := [.tmp 6], code := bd Try.f59, callee := fun r i => find 0 [(1001, 35), (1006, 126), (1009, 72), (1012, 77), (1013, 127), (1015, 72), (1017, 71)] (r * 1000 + i), deep := fun r i => find false [(1016, true)] (r * 1000 + i), frz := fun r i => find false [(1016, true)] (r * 1000 + i) }
/- impl.Cam,int16] -/
noncomputable def I74 : Inst := { f := 74, nt := 25, params := [((.ro (.slc (.int .i16))), false)], res := [(.ro (.int .i16))], slots := [.tmp 2], code := bd Try.f74, loops := fun b => find [] [(0, [.own 0 (.ro (.slc (.int .i16))), .own 3 (.ro (.int .i16)), .own 4 (.ro (.int .i64))])] b }
/- impl.floorDiv -/
noncomputable def I109 : Inst := { f := 109, nt := 16, params := [((.ro (.int .i64)), false), ((.ro (.int .i64)), false)], res := [(.ro (.int .i64))], slots := [.tmp 4], code := bd Try.f109 }
/- impl.mod -/
noncomputable def I141 : Inst := { f := 141, nt := 12, params := [((.ro (.int .i64)), false), ((.ro (.int .i64)), false)], res := [(.ro (.int .i64))], slots := [.tmp 4], code := bd Try.f141, callee := fun r i => find 0 [(1004, 109)] (r * 1000 + i) }
/- impl.Cam).at -/
noncomputable def I112 : Inst := { f := 112, nt := 13, params := [((.ro (.slc (.int .i16))), false), ((.ro (.int .i64)), false)], res := [(.ro (.int .i64))], slots := [.tmp 4], code := bd Try.f112, callee := fun r i => find 0 [(1003, 77), (1004, 141)] (r * 1000 + i) }
/- impl.Cam).tips$1$1 -/
noncomputable def I147 : Inst := { f := 147, nt := 13, params := [((.ro (.int .i64)), false), ((.ro (.int .i64)), false), ((.box (.ro (.int .i64))), true), ((.box (.ro (.slc (.int .i16)))), true)], res := [], slots := [], code := bd Try.f147, strict := true, callee := fun r i => find 0 [(3, 112)] (r * 1000 + i), pins := [2, 3] }
/- impl.Cutter).each -/
noncomputable def I139 : Inst := { f := 139, nt := 29, params := [((.ro (.slc (.int .i16))), false), ((.ro (.int .i64)), false), ((.clo 147 (.ro .unit) (.pr (.box (.ro (.int .i64))) (.pr (.box (.ro (.slc (.int .i16)))) (.ro .unit)))), true)], res := [], slots := [], code := bd Try.f139, strict := true, callee := fun r i => find 0 [(4008, 147)] (r * 1000 + i), loops := fun b => find [] [(0, [.own 1 (.ro (.int .i64)), .own 2 (.clo 147 (.ro .unit) (.pr (.box (.ro (.int .i64))) (.pr (.box (.ro (.slc (.int .i16)))) (.ro .unit)))), .own 6 (.ro (.int .i64)), .own 12 (.ro (.slc (.int .i16))), .own 13 (.ro (.int .i64)), .own 14 (.ro (.int .i64))])] b, pins := [2] }
/- impl.Cam).tips$1 -/
noncomputable def I146 : Inst := { f := 146, nt := 11, params := [((.ro (.int .i64)), false), ((.box (.ro (.slc (.int .i16)))), true), ((.box (.ro (.slc (.int .i16)))), true)], res := [(.ro (.int .i64))], slots := [.tmp 4], code := bd Try.f146, strict := true, callee := fun r i => find 0 [(2003, 139)] (r * 1000 + i), pins := [1, 2] }
/- impl.Cam).numbers -/
noncomputable def I145 : Inst := { f := 145, nt := 21, params := [((.ro (.slc (.int .i16))), false), ((.clo 146 (.ro .unit) (.pr (.box (.ro (.slc (.int .i16)))) (.pr (.box (.ro (.slc (.int .i16)))) (.ro .unit)))), true)], res := [(.row false (.int .i64))], slots := [.tmp 4], code := bd Try.f145, strict := true, callee := fun r i => find 0 [(2001, 77), (5003, 146)] (r * 1000 + i), loops := fun b => find [] [(0, [.own 1 (.clo 146 (.ro .unit) (.pr (.box (.ro (.slc (.int .i16)))) (.pr (.box (.ro (.slc (.int .i16)))) (.ro .unit)))), .own 5 (.row false (.int .i64)), .own 9 (.ro (.int .i64)), .own 10 (.ro (.int .i64))])] b, pins := [1], deep := fun r i => find false [(1000, true), (5004, true), (5005, true)] (r * 1000 + i) }
/- impl.Cam).tips -/
noncomputable def I86 : Inst := { f := 86, nt := 8, params := [((.ro (.slc (.int .i16))), false), ((.ro (.slc (.int .i16))), false)], res := [(.row false (.int .i64))], slots := [.tmp 4], code := bd Try.f86, callee := fun r i => find 0 [(1002, 145)] (r * 1000 + i) }
/- impl.Cam).tooDeep$1 -/
noncomputable def I135 : Inst := { f := 135, nt := 17, params := [((.ro (.pair (.int .i16) (.pair (.int .i16) (.pair (.int .i8) .unit)))), false), ((.box (.row false (.slc (.int .i64)))), true)], res := [(.ro .bool)], slots := [.tmp 3], code := bd Try.f135, strict := true, pins := [1] }
/- impl.Cut] -/
noncomputable def I2134 : Inst := { f := 134, nt := 19, params := [((.ro (.slc (.pair (.int .i16) (.pair (.int .i16) (.pair (.int .i8) .unit))))), false), ((.clo 135 (.ro .unit) (.pr (.box (.row false (.slc (.int .i64)))) (.ro .unit))), true)], res := [(.ro (.int .i64))], slots := [.tmp 4], code := bd Try.f134, strict := true, callee := fun r i => find 0 [(4005, 135)] (r * 1000 + i), loops := fun b => find [] [(0, [.own 0 (.ro (.slc (.pair (.int .i16) (.pair (.int .i16) (.pair (.int .i8) .unit))))), .own 1 (.clo 135 (.ro .unit) (.pr (.box (.row false (.slc (.int .i64)))) (.ro .unit))), .own 7 (.ro (.int .i64)), .own 8 (.ro (.int .i64))])] b, pins := [1] }
/- impl.Cam).tooDeep -/
noncomputable def I75 : Inst := { f := 75, nt := 27, params := [((.ro (.slc (.int .i16))), false), ((.ro (.slc (.slc (.int .i16)))), false), ((.ro (.slc (.pair (.int .i16) (.pair (.int .i16) (.pair (.int .i8) .unit))))), false)], res := [(.ro (.int .i64))], slots := [.tmp 6], code := bd Try.f75, callee := fun r i => find 0 [(5003, 86), (7002, 2134)] (r * 1000 + i), loops := fun b => find [] [(0, [.own 0 (.ro (.slc (.int .i16))), .own 2 (.ro (.slc (.pair (.int .i16) (.pair (.int .i16) (.pair (.int .i8) .unit))))), .own 7 (.box (.row false (.slc (.int .i64)))), .own 11 (.ro (.slc (.slc (.int .i16)))), .own 12 (.ro (.int .i64)), .own 13 (.ro (.int .i64))])] b }
/- impl.FlatCam$1 -/
noncomputable def I137 : Inst := { f := 137, nt := 5, params := [((.ro (.int .i64)), false), ((.box (.ro (.int .i64))), true)], res := [(.ro (.int .i64))], slots := [.tmp 3], code := bd Try.f137, pins := [1] }
/- impl.camOf -/
noncomputable def I136 : Inst := { f := 136, nt := 27, params := [((.ro (.int .i64)), false), ((.clo 137 (.ro .unit) (.pr (.box (.ro (.int .i64))) (.ro .unit))), true)], res := [(.row false (.int .i16)), (.ro (.int .i64))], slots := [.tmp 4, .tmp 5], code := bd Try.f136, strict := true, callee := fun r i => find 0 [(5002, 137), (6001, 73)] (r * 1000 + i), loops := fun b => find [] [(0, [.own 1 (.clo 137 (.ro .unit) (.pr (.box (.ro (.int .i64))) (.ro .unit))), .own 6 (.row false (.int .i16)), .own 10 (.ro (.int .i64)), .own 11 (.ro (.int .i64))])] b, pins := [1], deep := fun r i => find false [(1000, true), (8003, true), (8004, true)] (r * 1000 + i) }
/- impl.FlatCam -/
noncomputable def I76 : Inst := { f := 76, nt := 19, params := [((.ro (.int .i64)), false), ((.ro (.int .i64)), false)], res := [(.row false (.int .i16)), (.ro (.int .i64))], slots := [.tmp 4, .tmp 5], code := bd Try.f76, callee := fun r i => find 0 [(1001, 91), (1005, 73), (3002, 136)] (r * 1000 + i) }
/- impl.Cam).cut$1 -/
noncomputable def I173 : Inst := { f := 173, nt := 37, params := [((.ro (.int .i64)), false), ((.ro (.int .i64)), false), ((.pin false (.int .i16)), true), ((.box (.ro (.int .i64))), true), ((.box (.ro (.int .i64))), true)], res := [], slots := [], code := bd Try.f173, strict := true, callee := fun r i => find 0 [(2, 77), (3, 141)] (r * 1000 + i), pins := [2, 3, 4] }
/- impl.Cutter).each -/
noncomputable def I1139 : Inst := { f := 139, nt := 29, params := [((.ro (.slc (.int .i16))), false), ((.ro (.int .i64)), false), ((.clo 173 (.ro .unit) (.pr (.pin false (.int .i16)) (.pr (.box (.ro (.int .i64))) (.pr (.box (.ro (.int .i64))) (.ro .unit))))), true)], res := [], slots := [], code := bd Try.f139, strict := true, callee := fun r i => find 0 [(4008, 173)] (r * 1000 + i), loops := fun b => find [] [(0, [.own 1 (.ro (.int .i64)), .own 2 (.clo 173 (.ro .unit) (.pr (.pin false (.int .i16)) (.pr (.box (.ro (.int .i64))) (.pr (.box (.ro (.int .i64))) (.ro .unit))))), .own 6 (.ro (.int .i64)), .own 12 (.ro (.slc (.int .i16))), .own 13 (.ro (.int .i64)), .own 14 (.ro (.int .i64))])] b, pins := [2] }
/- impl.Cam).cut -/
noncomputable def I128 : Inst := { f := 128, nt := 15, params := [((.row false (.int .i16)), true), ((.ro (.slc (.int .i16))), false), ((.ro (.int .i64)), false), ((.ro (.int .i64)), false)], res := [(.ro (.int .i64))], slots := [.tmp 8], code := bd Try.f128, callee := fun r i => find 0 [(2003, 1139)] (r * 1000 + i), pins := [0], frz := fun r i => find false [(0, true)] (r * 1000 + i) }
/- impl.Cam).do -/
noncomputable def I61 : Inst := { f := 61, nt := 20, params := [((.row false (.int .i16)), true), ((.ro (.slc (.slc (.int .i16)))), false), ((.ro (.pair (.int .i16) (.pair (.int .i16) (.pair (.int .i8) .unit)))), false)], res := [(.ro (.int .i64))], slots := [.tmp 6], code := bd Try.f61, callee := fun r i => find 0 [(1012, 128)] (r * 1000 + i), pins := [0] }
/- impl.Cam).left$1$1 -/
noncomputable def I140 : Inst := { f := 140, nt := 18, params := [((.ro (.int .i64)), false), ((.ro (.int .i64)), false), ((.box (.ro (.int .i64))), true), ((.box (.ro (.slc (.int .i64)))), true), ((.box (.ro (.slc (.int .i16)))), true)], res := [], slots := [], code := bd Try.f140, strict := true, callee := fun r i => find 0 [(4, 77), (5, 141)] (r * 1000 + i), pins := [2, 3, 4] }
/- impl.Cutter).each -/
noncomputable def I2139 : Inst := { f := 139, nt := 29, params := [((.ro (.slc (.int .i16))), false), ((.ro (.int .i64)), false), ((.clo 140 (.ro .unit) (.pr (.box (.ro (.int .i64))) (.pr (.box (.ro (.slc (.int .i64)))) (.pr (.box (.ro (.slc (.int .i16)))) (.ro .unit))))), true)], res := [], slots := [], code := bd Try.f139, strict := true, callee := fun r i => find 0 [(4008, 140)] (r * 1000 + i), loops := fun b => find [] [(0, [.own 1 (.ro (.int .i64)), .own 2 (.clo 140 (.ro .unit) (.pr (.box (.ro (.int .i64))) (.pr (.box (.ro (.slc (.int .i64)))) (.pr (.box (.ro (.slc (.int .i16)))) (.ro .unit))))), .own 6 (.ro (.int .i64)), .own 12 (.ro (.slc (.int .i16))), .own 13 (.ro (.int .i64)), .own 14 (.ro (.int .i64))])] b, pins := [2] }
/- impl.Cam).left$1 -/
noncomputable def I138 : Inst := { f := 138, nt := 16, params := [((.ro (.int .i64)), false), ((.box (.ro (.slc (.int .i64)))), true), ((.box (.ro (.slc (.int .i16)))), true), ((.box (.ro (.slc (.int .i16)))), true)], res := [(.ro (.int .i64))], slots := [.tmp 5], code := bd Try.f138, strict := true, callee := fun r i => find 0 [(2003, 2139)] (r * 1000 + i), pins := [1, 2, 3] }
/- impl.camOf -/
noncomputable def I1136 : Inst := { f := 136, nt := 27, params := [((.ro (.int .i64)), false), ((.clo 138 (.ro .unit) (.pr (.box (.ro (.slc (.int .i64)))) (.pr (.box (.ro (.slc (.int .i16)))) (.pr (.box (.ro (.slc (.int .i16)))) (.ro .unit))))), true)], res := [(.row false (.int .i16)), (.ro (.int .i64))], slots := [.tmp 4, .tmp 5], code := bd Try.f136, strict := true, callee := fun r i => find 0 [(5002, 138), (6001, 73)] (r * 1000 + i), loops := fun b => find [] [(0, [.own 1 (.clo 138 (.ro .unit) (.pr (.box (.ro (.slc (.int .i64)))) (.pr (.box (.ro (.slc (.int .i16)))) (.pr (.box (.ro (.slc (.int .i16)))) (.ro .unit))))), .own 6 (.row false (.int .i16)), .own 10 (.ro (.int .i64)), .own 11 (.ro (.int .i64))])] b, pins := [1], deep := fun r i => find false [(1000, true), (8003, true), (8004, true)] (r * 1000 + i) }
/- impl.Cam).left -/
noncomputable def I79 : Inst := { f := 79, nt := 19, params := [((.ro (.slc (.int .i16))), false), ((.ro (.slc (.int .i16))), false)], res := [(.row false (.int .i16))], slots := [.tmp 4], code := bd Try.f79, callee := fun r i => find 0 [(1002, 86), (2001, 77), (2003, 1136)] (r * 1000 + i) }
/- impl.Cam).waste -/
noncomputable def I88 : Inst := { f := 88, nt := 28, params := [((.ro (.slc (.int .i16))), false), ((.ro (.slc (.int .i16))), false)], res := [(.ro (.int .i64))], slots := [.tmp 4], code := bd Try.f88, callee := fun r i => find 0 [(2002, 79)] (r * 1000 + i), loops := fun b => find [] [(0, [.own 0 (.ro (.slc (.int .i16))), .own 5 (.ro (.int .i64)), .own 10 (.ro (.slc (.int .i16))), .own 11 (.ro (.int .i64)), .own 12 (.ro (.int .i64))])] b }
/- impl.Cam).best -/
noncomputable def I78 : Inst := { f := 78, nt := 33, params := [((.ro (.slc (.int .i16))), false), ((.ro (.slc (.slc (.int .i16)))), false)], res := [(.ro (.int .i64)), (.ro (.int .i64))], slots := [.tmp 4, .tmp 5], code := bd Try.f78, callee := fun r i => find 0 [(5002, 88)] (r * 1000 + i), loops := fun b => find [] [(0, [.own 0 (.ro (.slc (.int .i16))), .own 6 (.ro (.int .i64)), .own 7 (.ro (.int .i64)), .own 11 (.ro (.slc (.slc (.int .i16)))), .own 12 (.ro (.int .i64)), .own 13 (.ro (.int .i64))])] b }
/- impl.CheckPlan -/
noncomputable def I22 : Inst := { f := 22, nt := 89, params := [((.ro (.slc (.int .i16))), false), ((.ro (.int .i64)), false), ((.ro (.slc (.slc (.int .i16)))), false), ((.ro (.slc (.pair (.int .i16) (.pair (.int .i16) (.pair (.int .i8) .unit))))), false)], res := [(.ro .bool), (.ro (.int .i64))], slots := [.tmp 8, .tmp 9], code := bd Try.f22, callee := fun r i => find 0 [(1003, 59), (1005, 73), (1007, 72), (1009, 71), (4001, 74), (6003, 75), (8001, 77), (8003, 76), (12003, 61), (14002, 78), (15005, 79)] (r * 1000 + i), loops := fun b => find [] [(2, [.own 1 (.ro (.int .i64)), .own 11 (.row false (.int .i16)), .own 71 (.ro (.slc (.int .i16))), .own 72 (.ro (.int .i64)), .own 73 (.ro (.int .i64))]), (0, [.own 0 (.ro (.slc (.int .i16))), .own 1 (.ro (.int .i64)), .own 2 (.ro (.slc (.slc (.int .i16)))), .own 11 (.row false (.int .i16)), .own 49 (.ro (.slc (.pair (.int .i16) (.pair (.int .i16) (.pair (.int .i8) .unit))))), .own 50 (.ro (.int .i64)), .own 51 (.ro (.int .i64))])] b, deep := fun r i => find false [(1008, true)] (r * 1000 + i), frz := fun r i => find false [(1008, true)] (r * 1000 + i) }
/- laws.eqCam -/
noncomputable def I14 : Inst := { f := 14, nt := 26, params := [((.ro (.slc (.int .i16))), false), ((.ro (.slc (.int .i16))), false)], res := [(.ro .bool)], slots := [.tmp 4], code := bd Try.f14, loops := fun b => find [] [(0, [.own 0 (.ro (.slc (.int .i16))), .own 1 (.ro (.slc (.int .i16))), .own 5 (.ro (.int .i64))])] b }
/- laws.eqCutter -/
noncomputable def I62 : Inst := { f := 62, nt := 26, params := [((.ro (.slc (.int .i16))), false), ((.ro (.slc (.int .i16))), false)], res := [(.ro .bool)], slots := [.tmp 4], code := bd Try.f62, loops := fun b => find [] [(0, [.own 0 (.ro (.slc (.int .i16))), .own 1 (.ro (.slc (.int .i16))), .own 5 (.ro (.int .i64))])] b }
/- laws.eqCutterS -/
noncomputable def I15 : Inst := { f := 15, nt := 27, params := [((.ro (.slc (.slc (.int .i16)))), false), ((.ro (.slc (.slc (.int .i16)))), false)], res := [(.ro .bool)], slots := [.tmp 4], code := bd Try.f15, callee := fun r i => find 0 [(6008, 62)] (r * 1000 + i), loops := fun b => find [] [(0, [.own 0 (.ro (.slc (.slc (.int .i16)))), .own 1 (.ro (.slc (.slc (.int .i16)))), .own 5 (.ro (.int .i64))])] b }
/- laws.eqCut -/
noncomputable def I63 : Inst := { f := 63, nt := 20, params := [((.ro (.pair (.int .i16) (.pair (.int .i16) (.pair (.int .i8) .unit)))), false), ((.ro (.pair (.int .i16) (.pair (.int .i16) (.pair (.int .i8) .unit)))), false)], res := [(.ro .bool)], slots := [.tmp 4], code := bd Try.f63 }
/- laws.eqCutS -/
noncomputable def I16 : Inst := { f := 16, nt := 27, params := [((.ro (.slc (.pair (.int .i16) (.pair (.int .i16) (.pair (.int .i8) .unit))))), false), ((.ro (.slc (.pair (.int .i16) (.pair (.int .i16) (.pair (.int .i8) .unit))))), false)], res := [(.ro .bool)], slots := [.tmp 4], code := bd Try.f16, callee := fun r i => find 0 [(6008, 63)] (r * 1000 + i), loops := fun b => find [] [(0, [.own 0 (.ro (.slc (.pair (.int .i16) (.pair (.int .i16) (.pair (.int .i8) .unit))))), .own 1 (.ro (.slc (.pair (.int .i16) (.pair (.int .i16) (.pair (.int .i8) .unit))))), .own 5 (.ro (.int .i64))])] b }
/- laws.FnExactCheckPlan -/
noncomputable def I4 : Inst := { f := 4, nt := 78, params := [((.ro (.slc (.int .i16))), false), ((.ro (.int .i64)), false), ((.ro (.slc (.slc (.int .i16)))), false), ((.ro (.slc (.pair (.int .i16) (.pair (.int .i16) (.pair (.int .i8) .unit))))), false)], res := [(.ro .bool)], slots := [.tmp 8], code := bd Try.f4, callee := fun r i => find 0 [(4002, 7), (7002, 8), (10001, 10), (10004, 11), (10006, 12), (10007, 21), (11001, 10), (12001, 11), (13001, 12), (14004, 22), (17002, 10), (17003, 14), (19002, 11), (19003, 15), (21002, 12), (21003, 16)] (r * 1000 + i) }
noncomputable def CL : List (Nat × Inst) := [(54, I54), (7, I7), (8, I8), (10, I10), (57, I57), (11, I11), (58, I58), (12, I12), (129, I129), (159, I159), (65, I65), (113, I113), (167, I167), (96, I96), (168, I168), (169, I169), (123, I123), (124, I124), (55, I55), (153, I153), (117, I117), (130, I130), (66, I66), (161, I161), (131, I131), (67, I67), (87, I87), (125, I125), (69, I69), (132, I132), (68, I68), (70, I70), (56, I56), (21, I21), (77, I77), (133, I133), (91, I91), (73, I73), (93, I93), (148, I148), (92, I92), (35, I35), (99, I99), (34, I34), (151, I151), (176, I176), (150, I150), (98, I98), (107, I107), (182, I182), (134, I134), (171, I171), (170, I170), (126, I126), (72, I72), (172, I172), (1134, I1134), (1171, I1171), (127, I127), (71, I71), (59, I59), (74, I74), (109, I109), (141, I141), (112, I112), (147, I147), (139, I139), (146, I146), (145, I145), (86, I86), (135, I135), (2134, I2134), (75, I75), (137, I137), (136, I136), (76, I76), (173, I173), (1139, I1139), (128, I128), (61, I61), (140, I140), (2139, I2139), (138, I138), (1136, I1136), (79, I79), (88, I88), (78, I78), (22, I22), (14, I14), (62, I62), (15, I15), (63, I63), (16, I16), (4, I4)]
noncomputable def C : Nat → Inst := find I54 CL
theorem tsOk : TsOk Try.prog T := tsOkB_sound (by kernel_rfl)
theorem ok54 : InstOk Try.prog I54 := instOk_of Try.func54 (by kernel_rfl) (by kernel_rfl) (by kernel_rfl) (by kernel_rfl)
theorem ok7 : InstOk Try.prog I7 := instOk_of Try.func7 (by kernel_rfl) (by kernel_rfl) (by kernel_rfl) (by kernel_rfl)
theorem ok8 : InstOk Try.prog I8 := instOk_of Try.func8 (by kernel_rfl) (by kernel_rfl) (by kernel_rfl) (by kernel_rfl)
theorem ok10 : InstOk Try.prog I10 := instOk_of Try.func10 (by kernel_rfl) (by kernel_rfl) (by kernel_rfl) (by kernel_rfl)
theorem ok57 : InstOk Try.prog I57 := instOk_of Try.func57 (by kernel_rfl) (by kernel_rfl) (by kernel_rfl) (by kernel_rfl)
theorem ok11 : InstOk Try.prog I11 := instOk_of Try.func11 (by kernel_rfl) (by kernel_rfl) (by kernel_rfl) (by kernel_rfl)
theorem ok58 : InstOk Try.prog I58 := instOk_of Try.func58 (by kernel_rfl) (by kernel_rfl) (by kernel_rfl) (by kernel_rfl)
theorem ok12 : InstOk Try.prog I12 := instOk_of Try.func12 (by kernel_rfl) (by kernel_rfl) (by kernel_rfl) (by kernel_rfl)
theorem ok129 : InstOk Try.prog I129 := instOk_of Try.func129 (by kernel_rfl) (by kernel_rfl) (by kernel_rfl) (by kernel_rfl)
theorem ok159 : InstOk Try.prog I159 := instOk_of Try.func159 (by kernel_rfl) (by kernel_rfl) (by kernel_rfl) (by kernel_rfl)
theorem ok65 : InstOk Try.prog I65 := instOk_of Try.func65 (by kernel_rfl) (by kernel_rfl) (by kernel_rfl) (by kernel_rfl)
theorem ok113 : InstOk Try.prog I113 := instOk_of Try.func113 (by kernel_rfl) (by kernel_rfl) (by kernel_rfl) (by kernel_rfl)
theorem ok167 : InstOk Try.prog I167 := instOk_of Try.func167 (by kernel_rfl) (by kernel_rfl) (by kernel_rfl) (by kernel_rfl)
theorem ok96 : InstOk Try.prog I96 := instOk_of Try.func96 (by kernel_rfl) (by kernel_rfl) (by kernel_rfl) (by kernel_rfl)
theorem ok168 : InstOk Try.prog I168 := instOk_of Try.func168 (by kernel_rfl) (by kernel_rfl) (by kernel_rfl) (by kernel_rfl)
theorem ok169 : InstOk Try.prog I169 := instOk_of Try.func169 (by kernel_rfl) (by kernel_rfl) (by kernel_rfl) (by kernel_rfl)
theorem ok123 : InstOk Try.prog I123 := instOk_of Try.func123 (by kernel_rfl) (by kernel_rfl) (by kernel_rfl) (by kernel_rfl)
theorem ok124 : InstOk Try.prog I124 := instOk_of Try.func124 (by kernel_rfl) (by kernel_rfl) (by kernel_rfl) (by kernel_rfl)
theorem ok55 : InstOk Try.prog I55 := instOk_of Try.func55 (by kernel_rfl) (by kernel_rfl) (by kernel_rfl) (by kernel_rfl)
theorem ok153 : InstOk Try.prog I153 := instOk_of Try.func153 (by kernel_rfl) (by kernel_rfl) (by kernel_rfl) (by kernel_rfl)
theorem ok117 : InstOk Try.prog I117 := instOk_of Try.func117 (by kernel_rfl) (by kernel_rfl) (by kernel_rfl) (by kernel_rfl)
theorem ok130 : InstOk Try.prog I130 := instOk_of Try.func130 (by kernel_rfl) (by kernel_rfl) (by kernel_rfl) (by kernel_rfl)
theorem ok66 : InstOk Try.prog I66 := instOk_of Try.func66 (by kernel_rfl) (by kernel_rfl) (by kernel_rfl) (by kernel_rfl)
theorem ok161 : InstOk Try.prog I161 := instOk_of Try.func161 (by kernel_rfl) (by kernel_rfl) (by kernel_rfl) (by kernel_rfl)
theorem ok131 : InstOk Try.prog I131 := instOk_of Try.func131 (by kernel_rfl) (by kernel_rfl) (by kernel_rfl) (by kernel_rfl)
theorem ok67 : InstOk Try.prog I67 := instOk_of Try.func67 (by kernel_rfl) (by kernel_rfl) (by kernel_rfl) (by kernel_rfl)
theorem ok87 : InstOk Try.prog I87 := instOk_of Try.func87 (by kernel_rfl) (by kernel_rfl) (by kernel_rfl) (by kernel_rfl)
theorem ok125 : InstOk Try.prog I125 := instOk_of Try.func125 (by kernel_rfl) (by kernel_rfl) (by kernel_rfl) (by kernel_rfl)
theorem ok69 : InstOk Try.prog I69 := instOk_of Try.func69 (by kernel_rfl) (by kernel_rfl) (by kernel_rfl) (by kernel_rfl)
theorem ok132 : InstOk Try.prog I132 := instOk_of Try.func132 (by kernel_rfl) (by kernel_rfl) (by kernel_rfl) (by kernel_rfl)
theorem ok68 : InstOk Try.prog I68 := instOk_of Try.func68 (by kernel_rfl) (by kernel_rfl) (by kernel_rfl) (by kernel_rfl)
theorem ok70 : InstOk Try.prog I70 := instOk_of Try.func70 (by kernel_rfl) (by kernel_rfl) (by kernel_rfl) (by kernel_rfl)
theorem ok56 : InstOk Try.prog I56 := instOk_of Try.func56 (by kernel_rfl) (by kernel_rfl) (by kernel_rfl) (by kernel_rfl)
theorem ok21 : InstOk Try.prog I21 := instOk_of Try.func21 (by kernel_rfl) (by kernel_rfl) (by kernel_rfl) (by kernel_rfl)
theorem ok77 : InstOk Try.prog I77 := instOk_of Try.func77 (by kernel_rfl) (by kernel_rfl) (by kernel_rfl) (by kernel_rfl)
theorem ok133 : InstOk Try.prog I133 := instOk_of Try.func133 (by kernel_rfl) (by kernel_rfl) (by kernel_rfl) (by kernel_rfl)
theorem ok91 : InstOk Try.prog I91 := instOk_of Try.func91 (by kernel_rfl) (by kernel_rfl) (by kernel_rfl) (by kernel_rfl)
theorem ok73 : InstOk Try.prog I73 := instOk_of Try.func73 (by kernel_rfl) (by kernel_rfl) (by kernel_rfl) (by kernel_rfl)
theorem ok93 : InstOk Try.prog I93 := instOk_of Try.func93 (by kernel_rfl) (by kernel_rfl) (by kernel_rfl) (by kernel_rfl)
theorem ok148 : InstOk Try.prog I148 := instOk_of Try.func148 (by kernel_rfl) (by kernel_rfl) (by kernel_rfl) (by kernel_rfl)
theorem ok92 : InstOk Try.prog I92 := instOk_of Try.func92 (by kernel_rfl) (by kernel_rfl) (by kernel_rfl) (by kernel_rfl)
theorem ok35 : InstOk Try.prog I35 := instOk_of Try.func35 (by kernel_rfl) (by kernel_rfl) (by kernel_rfl) (by kernel_rfl)
theorem ok99 : InstOk Try.prog I99 := instOk_of Try.func99 (by kernel_rfl) (by kernel_rfl) (by kernel_rfl) (by kernel_rfl)
theorem ok34 : InstOk Try.prog I34 := instOk_of Try.func34 (by kernel_rfl) (by kernel_rfl) (by kernel_rfl) (by kernel_rfl)
theorem ok151 : InstOk Try.prog I151 := instOk_of Try.func151 (by kernel_rfl) (by kernel_rfl) (by kernel_rfl) (by kernel_rfl)
theorem ok176 : InstOk Try.prog I176 := instOk_of Try.func176 (by kernel_rfl) (by kernel_rfl) (by kernel_rfl) (by kernel_rfl)
theorem ok150 : InstOk Try.prog I150 := instOk_of Try.func150 (by kernel_rfl) (by kernel_rfl) (by kernel_rfl) (by kernel_rfl)
theorem ok98 : InstOk Try.prog I98 := instOk_of Try.func98 (by kernel_rfl) (by kernel_rfl) (by kernel_rfl) (by kernel_rfl)
theorem ok107 : InstOk Try.prog I107 := instOk_of Try.func107 (by kernel_rfl) (by kernel_rfl) (by kernel_rfl) (by kernel_rfl)
theorem ok182 : InstOk Try.prog I182 := instOk_of Try.func182 (by kernel_rfl) (by kernel_rfl) (by kernel_rfl) (by kernel_rfl)
theorem ok134 : InstOk Try.prog I134 := instOk_of Try.func134 (by kernel_rfl) (by kernel_rfl) (by kernel_rfl) (by kernel_rfl)
theorem ok171 : InstOk Try.prog I171 := instOk_of Try.func171 (by kernel_rfl) (by kernel_rfl) (by kernel_rfl) (by kernel_rfl)
theorem ok170 : InstOk Try.prog I170 := instOk_of Try.func170 (by kernel_rfl) (by kernel_rfl) (by kernel_rfl) (by kernel_rfl)
theorem ok126 : InstOk Try.prog I126 := instOk_of Try.func126 (by kernel_rfl) (by kernel_rfl) (by kernel_rfl) (by kernel_rfl)
theorem ok72 : InstOk Try.prog I72 := instOk_of Try.func72 (by kernel_rfl) (by kernel_rfl) (by kernel_rfl) (by kernel_rfl)
theorem ok172 : InstOk Try.prog I172 := instOk_of Try.func172 (by kernel_rfl) (by kernel_rfl) (by kernel_rfl) (by kernel_rfl)
theorem ok1134 : InstOk Try.prog I1134 := instOk_of Try.func134 (by kernel_rfl) (by kernel_rfl) (by kernel_rfl) (by kernel_rfl)
theorem ok1171 : InstOk Try.prog I1171 := instOk_of Try.func171 (by kernel_rfl) (by kernel_rfl) (by kernel_rfl) (by kernel_rfl)
theorem ok127 : InstOk Try.prog I127 := instOk_of Try.func127 (by kernel_rfl) (by kernel_rfl) (by kernel_rfl) (by kernel_rfl)
theorem ok71 : InstOk Try.prog I71 := instOk_of Try.func71 (by kernel_rfl) (by kernel_rfl) (by kernel_rfl) (by kernel_rfl)
theorem ok59 : InstOk Try.prog I59 := instOk_of Try.func59 (by kernel_rfl) (by kernel_rfl) (by kernel_rfl) (by kernel_rfl)
theorem ok74 : InstOk Try.prog I74 := instOk_of Try.func74 (by kernel_rfl) (by kernel_rfl) (by kernel_rfl) (by kernel_rfl)
theorem ok109 : InstOk Try.prog I109 := instOk_of Try.func109 (by kernel_rfl) (by kernel_rfl) (by kernel_rfl) (by kernel_rfl)
theorem ok141 : InstOk Try.prog I141 := instOk_of Try.func141 (by kernel_rfl) (by kernel_rfl) (by kernel_rfl) (by kernel_rfl)
theorem ok112 : InstOk Try.prog I112 := instOk_of Try.func112 (by kernel_rfl) (by kernel_rfl) (by kernel_rfl) (by kernel_rfl)
theorem ok147 : InstOk Try.prog I147 := instOk_of Try.func147 (by kernel_rfl) (by kernel_rfl) (by kernel_rfl) (by kernel_rfl)
theorem ok139 : InstOk Try.prog I139 := instOk_of Try.func139 (by kernel_rfl) (by kernel_rfl) (by kernel_rfl) (by kernel_rfl)
theorem ok146 : InstOk Try.prog I146 := instOk_of Try.func146 (by kernel_rfl) (by kernel_rfl) (by kernel_rfl) (by kernel_rfl)
theorem ok145 : InstOk Try.prog I145 := instOk_of Try.func145 (by kernel_rfl) (by kernel_rfl) (by kernel_rfl) (by kernel_rfl)
theorem ok86 : InstOk Try.prog I86 := instOk_of Try.func86 (by kernel_rfl) (by kernel_rfl) (by kernel_rfl) (by kernel_rfl)
theorem ok135 : InstOk Try.prog I135 := instOk_of Try.func135 (by kernel_rfl) (by kernel_rfl) (by kernel_rfl) (by kernel_rfl)
theorem ok2134 : InstOk Try.prog I2134 := instOk_of Try.func134 (by kernel_rfl) (by kernel_rfl) (by kernel_rfl) (by kernel_rfl)
theorem ok75 : InstOk Try.prog I75 := instOk_of Try.func75 (by kernel_rfl) (by kernel_rfl) (by kernel_rfl) (by kernel_rfl)
theorem ok137 : InstOk Try.prog I137 := instOk_of Try.func137 (by kernel_rfl) (by kernel_rfl) (by kernel_rfl) (by kernel_rfl)
theorem ok136 : InstOk Try.prog I136 := instOk_of Try.func136 (by kernel_rfl) (by kernel_rfl) (by kernel_rfl) (by kernel_rfl)
theorem ok76 : InstOk Try.prog I76 := instOk_of Try.func76 (by kernel_rfl) (by kernel_rfl) (by kernel_rfl) (by kernel_rfl)
theorem ok173 : InstOk Try.prog I173 := instOk_of Try.func173 (by kernel_rfl) (by kernel_rfl) (by kernel_rfl) (by kernel_rfl)
theorem ok1139 : InstOk Try.prog I1139 := instOk_of Try.func139 (by kernel_rfl) (by kernel_rfl) (by kernel_rfl) (by kernel_rfl)
theorem ok128 : InstOk Try.prog I128 := instOk_of Try.func128 (by kernel_rfl) (by kernel_rfl) (by kernel_rfl) (by kernel_rfl)
theorem ok61 : InstOk Try.prog I61 := instOk_of Try.func61 (by kernel_rfl) (by kernel_rfl) (by kernel_rfl) (by kernel_rfl)
theorem ok140 : InstOk Try.prog I140 := instOk_of Try.func140 (by kernel_rfl) (by kernel_rfl) (by kernel_rfl) (by kernel_rfl)
theorem ok2139 : InstOk Try.prog I2139 := instOk_of Try.func139 (by kernel_rfl) (by kernel_rfl) (by kernel_rfl) (by kernel_rfl)
theorem ok138 : InstOk Try.prog I138 := instOk_of Try.func138 (by kernel_rfl) (by kernel_rfl) (by kernel_rfl) (by kernel_rfl)
theorem ok1136 : InstOk Try.prog I1136 := instOk_of Try.func136 (by kernel_rfl) (by kernel_rfl) (by kernel_rfl) (by kernel_rfl)
theorem ok79 : InstOk Try.prog I79 := instOk_of Try.func79 (by kernel_rfl) (by kernel_rfl) (by kernel_rfl) (by kernel_rfl)
theorem ok88 : InstOk Try.prog I88 := instOk_of Try.func88 (by kernel_rfl) (by kernel_rfl) (by kernel_rfl) (by kernel_rfl)
theorem ok78 : InstOk Try.prog I78 := instOk_of Try.func78 (by kernel_rfl) (by kernel_rfl) (by kernel_rfl) (by kernel_rfl)
theorem ok22 : InstOk Try.prog I22 := instOk_of Try.func22 (by kernel_rfl) (by kernel_rfl) (by kernel_rfl) (by kernel_rfl)
theorem ok14 : InstOk Try.prog I14 := instOk_of Try.func14 (by kernel_rfl) (by kernel_rfl) (by kernel_rfl) (by kernel_rfl)
theorem ok62 : InstOk Try.prog I62 := instOk_of Try.func62 (by kernel_rfl) (by kernel_rfl) (by kernel_rfl) (by kernel_rfl)
theorem ok15 : InstOk Try.prog I15 := instOk_of Try.func15 (by kernel_rfl) (by kernel_rfl) (by kernel_rfl) (by kernel_rfl)
theorem ok63 : InstOk Try.prog I63 := instOk_of Try.func63 (by kernel_rfl) (by kernel_rfl) (by kernel_rfl) (by kernel_rfl)
theorem ok16 : InstOk Try.prog I16 := instOk_of Try.func16 (by kernel_rfl) (by kernel_rfl) (by kernel_rfl) (by kernel_rfl)
theorem ok4 : InstOk Try.prog I4 := instOk_of Try.func4 (by kernel_rfl) (by kernel_rfl) (by kernel_rfl) (by kernel_rfl)
theorem insts : ∀ j, InstOk Try.prog (C j) := find_all ok54 (List.forall_mem_cons.2 ⟨ok54, List.forall_mem_cons.2 ⟨ok7, List.forall_mem_cons.2 ⟨ok8, List.forall_mem_cons.2 ⟨ok10, List.forall_mem_cons.2 ⟨ok57, List.forall_mem_cons.2 ⟨ok11, List.forall_mem_cons.2 ⟨ok58, List.forall_mem_cons.2 ⟨ok12, List.forall_mem_cons.2 ⟨ok129, List.forall_mem_cons.2 ⟨ok159, List.forall_mem_cons.2 ⟨ok65, List.forall_mem_cons.2 ⟨ok113, List.forall_mem_cons.2 ⟨ok167, List.forall_mem_cons.2 ⟨ok96, List.forall_mem_cons.2 ⟨ok168, List.forall_mem_cons.2 ⟨ok169, List.forall_mem_cons.2 ⟨ok123, List.forall_mem_cons.2 ⟨ok124, List.forall_mem_cons.2 ⟨ok55, List.forall_mem_cons.2 ⟨ok153, List.forall_mem_cons.2 ⟨ok117, List.forall_mem_cons.2 ⟨ok130, List.forall_mem_cons.2 ⟨ok66, List.forall_mem_cons.2 ⟨ok161, List.forall_mem_cons.2 ⟨ok131, List.forall_mem_cons.2 ⟨ok67, List.forall_mem_cons.2 ⟨ok87, List.forall_mem_cons.2 ⟨ok125, List.forall_mem_cons.2 ⟨ok69, List.forall_mem_cons.2 ⟨ok132, List.forall_mem_cons.2 ⟨ok68, List.forall_mem_cons.2 ⟨ok70, List.forall_mem_cons.2 ⟨ok56, List.forall_mem_cons.2 ⟨ok21, List.forall_mem_cons.2 ⟨ok77, List.forall_mem_cons.2 ⟨ok133, List.forall_mem_cons.2 ⟨ok91, List.forall_mem_cons.2 ⟨ok73, List.forall_mem_cons.2 ⟨ok93, List.forall_mem_cons.2 ⟨ok148, List.forall_mem_cons.2 ⟨ok92, List.forall_mem_cons.2 ⟨ok35, List.forall_mem_cons.2 ⟨ok99, List.forall_mem_cons.2 ⟨ok34, List.forall_mem_cons.2 ⟨ok151, List.forall_mem_cons.2 ⟨ok176, List.forall_mem_cons.2 ⟨ok150, List.forall_mem_cons.2 ⟨ok98, List.forall_mem_cons.2 ⟨ok107, List.forall_mem_cons.2 ⟨ok182, List.forall_mem_cons.2 ⟨ok134, List.forall_mem_cons.2 ⟨ok171, List.forall_mem_cons.2 ⟨ok170, List.forall_mem_cons.2 ⟨ok126, List.forall_mem_cons.2 ⟨ok72, List.forall_mem_cons.2 ⟨ok172, List.forall_mem_cons.2 ⟨ok1134, List.forall_mem_cons.2 ⟨ok1171, List.forall_mem_cons.2 ⟨ok127, List.forall_mem_cons.2 ⟨ok71, List.forall_mem_cons.2 ⟨ok59, List.forall_mem_cons.2 ⟨ok74, List.forall_mem_cons.2 ⟨ok109, List.forall_mem_cons.2 ⟨ok141, List.forall_mem_cons.2 ⟨ok112, List.forall_mem_cons.2 ⟨ok147, List.forall_mem_cons.2 ⟨ok139, List.forall_mem_cons.2 ⟨ok146, List.forall_mem_cons.2 ⟨ok145, List.forall_mem_cons.2 ⟨ok86, List.forall_mem_cons.2 ⟨ok135, List.forall_mem_cons.2 ⟨ok2134, List.forall_mem_cons.2 ⟨ok75, List.forall_mem_cons.2 ⟨ok137, List.forall_mem_cons.2 ⟨ok136, List.forall_mem_cons.2 ⟨ok76, List.forall_mem_cons.2 ⟨ok173, List.forall_mem_cons.2 ⟨ok1139, List.forall_mem_cons.2 ⟨ok128, List.forall_mem_cons.2 ⟨ok61, List.forall_mem_cons.2 ⟨ok140, List.forall_mem_cons.2 ⟨ok2139, List.forall_mem_cons.2 ⟨ok138, List.forall_mem_cons.2 ⟨ok1136, List.forall_mem_cons.2 ⟨ok79, List.forall_mem_cons.2 ⟨ok88, List.forall_mem_cons.2 ⟨ok78, List.forall_mem_cons.2 ⟨ok22, List.forall_mem_cons.2 ⟨ok14, List.forall_mem_cons.2 ⟨ok62, List.forall_mem_cons.2 ⟨ok15, List.forall_mem_cons.2 ⟨ok63, List.forall_mem_cons.2 ⟨ok16, List.forall_mem_cons.2 ⟨ok4, fun _ h => absurd h List.not_mem_nil⟩⟩⟩⟩⟩⟩⟩⟩⟩⟩⟩⟩⟩⟩⟩⟩⟩⟩⟩⟩⟩⟩⟩⟩⟩⟩⟩⟩⟩⟩⟩⟩⟩⟩⟩⟩⟩⟩⟩⟩⟩⟩⟩⟩⟩⟩⟩⟩⟩⟩⟩⟩⟩⟩⟩⟩⟩⟩⟩⟩⟩⟩⟩⟩⟩⟩⟩⟩⟩⟩⟩⟩⟩⟩⟩⟩⟩⟩⟩⟩⟩⟩⟩⟩⟩⟩⟩⟩⟩⟩⟩⟩⟩⟩)
theorem noExt : ∀ j, (C j).ext = none := by
  have hC : C = find I54 CL := by delta C; with_reducible rfl
  exact fun j => noExt_of (C := C) _ _ hC (by kernel_rfl) (by kernel_rfl) j
end Go.Proofs.Ytoafnbpahdnchaa.LCheckPlan
