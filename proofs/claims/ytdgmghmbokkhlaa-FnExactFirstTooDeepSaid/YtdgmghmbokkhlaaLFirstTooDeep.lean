/- The types and the functions that a law reaches, told for the reading (Fw). Written by a program (gen.py). -/
import Derived.Test.YtdgmghmbokkhlaaFwC
import Derived.Test.YtdgmghmbokkhlaaProg
namespace Go.Proofs.Ytdgmghmbokkhlaa.LFirstTooDeep
open Go Go.Fw
open Go.Proofs
noncomputable def tyL : List (Nat × TI) := [(2, ⟨(.int .i64), 0, 8⟩),
  (3, ⟨(.int .i64), 0, 8⟩),
  (4, ⟨.bool, 0, 1⟩),
  (34, ⟨(.slc (.int .i16)), 62, 24⟩),
  (35, ⟨(.slc (.slc (.int .i16))), 34, 24⟩),
  (36, ⟨(.slc (.pair (.int .i16) (.pair (.int .i16) (.pair (.int .i8) .unit)))), 97, 24⟩),
  (41, ⟨(.slc (.int .i16)), 62, 24⟩),
  (43, ⟨(.slc (.slc (.int .i16))), 91, 24⟩),
  (45, ⟨(.slc (.pair (.int .i16) (.pair (.int .i16) (.pair (.int .i8) .unit)))), 95, 24⟩),
  (58, ⟨(.slc (.int .i64)), 2, 24⟩),
  (62, ⟨(.int .i16), 0, 2⟩),
  (91, ⟨(.slc (.int .i16)), 62, 24⟩),
  (93, ⟨(.int .i8), 0, 1⟩),
  (95, ⟨(.pair (.int .i16) (.pair (.int .i16) (.pair (.int .i8) .unit))), 0, 6⟩),
  (97, ⟨(.pair (.int .i16) (.pair (.int .i16) (.pair (.int .i8) .unit))), 0, 6⟩),
  (107, ⟨.fn, 0, 8⟩),
  (138, ⟨(.slc (.slc (.int .i64))), 58, 24⟩),
  (141, ⟨.fn, 0, 8⟩),
  (146, ⟨.fn, 0, 8⟩),
  (157, ⟨.fn, 0, 8⟩),
  (163, ⟨.fn, 0, 8⟩)]
noncomputable def T : Nat → Option TI := findT tyL
/- laws.szCutter -/
noncomputable def I58 : Inst := { f := 58, nt := 12, params := [((.ro (.slc (.int .i16))), false), ((.ro (.int .i64)), false)], res := [(.ro (.int .i64))], slots := [.tmp 4], code := bd Try.f58 }
/- laws.szCutterS -/
noncomputable def I16 : Inst := { f := 16, nt := 27, params := [((.ro (.slc (.slc (.int .i16)))), false), ((.ro (.int .i64)), false)], res := [(.ro (.int .i64))], slots := [.tmp 4], code := bd Try.f16, callee := fun r i => find 0 [(7005, 58)] (r * 1000 + i), loops := fun b => find [] [(0, [.own 0 (.ro (.slc (.slc (.int .i16)))), .own 1 (.ro (.int .i64)), .own 5 (.ro (.int .i64))])] b }
/- laws.szCutS -/
noncomputable def I17 : Inst := { f := 17, nt := 12, params := [((.ro (.slc (.pair (.int .i16) (.pair (.int .i16) (.pair (.int .i8) .unit))))), false), ((.ro (.int .i64)), false)], res := [(.ro (.int .i64))], slots := [.tmp 4], code := bd Try.f17 }
/- laws.toCam -/
noncomputable def I19 : Inst := { f := 19, nt := 22, params := [((.ro (.slc (.int .i16))), false)], res := [(.row false (.int .i16))], slots := [.tmp 2], code := bd Try.f19, loops := fun b => find [] [(0, [.own 0 (.ro (.slc (.int .i16))), .own 3 (.row false (.int .i16)), .own 4 (.ro (.int .i64))])] b, deep := fun r i => find false [(1002, true)] (r * 1000 + i) }
/- laws.toCutter -/
noncomputable def I61 : Inst := { f := 61, nt := 22, params := [((.ro (.slc (.int .i16))), false)], res := [(.row false (.int .i16))], slots := [.tmp 2], code := bd Try.f61, loops := fun b => find [] [(0, [.own 0 (.ro (.slc (.int .i16))), .own 3 (.row false (.int .i16)), .own 4 (.ro (.int .i64))])] b, deep := fun r i => find false [(1002, true)] (r * 1000 + i) }
/- laws.toCutterS -/
noncomputable def I20 : Inst := { f := 20, nt := 23, params := [((.ro (.slc (.slc (.int .i16)))), false)], res := [(.row true (.slc (.int .i16)))], slots := [.tmp 2], code := bd Try.f20, callee := fun r i => find 0 [(5006, 61)] (r * 1000 + i), loops := fun b => find [] [(0, [.own 0 (.ro (.slc (.slc (.int .i16)))), .own 3 (.row true (.slc (.int .i16))), .own 4 (.ro (.int .i64))])] b, deep := fun r i => find false [(1002, true)] (r * 1000 + i) }
/- laws.toCut -/
noncomputable def I62 : Inst := { f := 62, nt := 14, params := [((.ro (.pair (.int .i16) (.pair (.int .i16) (.pair (.int .i8) .unit)))), false)], res := [(.ro (.pair (.int .i16) (.pair (.int .i16) (.pair (.int .i8) .unit))))], slots := [.cell 2 95], code := bd Try.f62 }
/- laws.toCutS -/
noncomputable def I21 : Inst := { f := 21, nt := 23, params := [((.ro (.slc (.pair (.int .i16) (.pair (.int .i16) (.pair (.int .i8) .unit))))), false)], res := [(.row false (.pair (.int .i16) (.pair (.int .i16) (.pair (.int .i8) .unit))))], slots := [.tmp 2], code := bd Try.f21, callee := fun r i => find 0 [(5006, 62)] (r * 1000 + i), loops := fun b => find [] [(0, [.own 0 (.ro (.slc (.pair (.int .i16) (.pair (.int .i16) (.pair (.int .i8) .unit))))), .own 3 (.row false (.pair (.int .i16) (.pair (.int .i16) (.pair (.int .i8) .unit)))), .own 4 (.ro (.int .i64))])] b, deep := fun r i => find false [(1002, true)] (r * 1000 + i) }
/- spec.l00In -/
noncomputable def I83 : Inst := { f := 83, nt := 15, params := [((.ro (.int .i64)), false), ((.ro (.int .i64)), false), ((.ro (.int .i64)), false)], res := [(.ro .bool)], slots := [.tmp 6], code := bd Try.f83 }
/- spec.l01Steps -/
noncomputable def I126 : Inst := { f := 126, nt := 5, params := [((.ro (.int .i64)), false)], res := [(.ro .bool)], slots := [.tmp 2], code := bd Try.f126, callee := fun r i => find 0 [(1001, 83)] (r * 1000 + i) }
/- spec.l01Lift -/
noncomputable def I127 : Inst := { f := 127, nt := 5, params := [((.ro (.int .i64)), false)], res := [(.ro .bool)], slots := [.tmp 2], code := bd Try.f127, callee := fun r i => find 0 [(1001, 83)] (r * 1000 + i) }
/- spec.l01Ok -/
noncomputable def I73 : Inst := { f := 73, nt := 21, params := [((.ro (.slc (.int .i16))), false)], res := [(.ro .bool)], slots := [.tmp 2], code := bd Try.f73, callee := fun r i => find 0 [(1002, 126), (6005, 127)] (r * 1000 + i), loops := fun b => find [] [(0, [.own 0 (.ro (.slc (.int .i16))), .own 3 (.ro (.int .i64))])] b }
/- spec.l06Some -/
noncomputable def I146 : Inst := { f := 146, nt := 6, params := [((.ro (.slc (.slc (.int .i16)))), false)], res := [(.ro .bool)], slots := [.tmp 2], code := bd Try.f146, callee := fun r i => find 0 [(1002, 83)] (r * 1000 + i) }
/- spec.l06Ok -/
noncomputable def I167 : Inst := { f := 167, nt := 66, params := [((.ro (.slc (.int .i16))), false)], res := [(.ro .bool)], slots := [.tmp 2], code := bd Try.f167, callee := fun r i => find 0 [(2001, 83), (7005, 127)] (r * 1000 + i), loops := fun b => find [] [(0, [.own 0 (.ro (.slc (.int .i16))), .own 3 (.ro (.int .i64)), .own 4 (.ro (.int .i64))])] b }
/- spec.l06Cutters -/
noncomputable def I147 : Inst := { f := 147, nt := 16, params := [((.ro (.slc (.slc (.int .i16)))), false)], res := [(.ro .bool)], slots := [.tmp 2], code := bd Try.f147, callee := fun r i => find 0 [(4004, 167)] (r * 1000 + i), loops := fun b => find [] [(0, [.own 0 (.ro (.slc (.slc (.int .i16)))), .own 3 (.ro (.int .i64))])] b }
/- spec.l06Plain -/
noncomputable def I148 : Inst := { f := 148, nt := 46, params := [((.ro (.slc (.pair (.int .i16) (.pair (.int .i16) (.pair (.int .i8) .unit))))), false), ((.ro (.int .i64)), false)], res := [(.ro .bool)], slots := [.tmp 4], code := bd Try.f148, callee := fun r i => find 0 [(7005, 83), (7013, 127), (7024, 83)] (r * 1000 + i), loops := fun b => find [] [(0, [.own 0 (.ro (.slc (.pair (.int .i16) (.pair (.int .i16) (.pair (.int .i8) .unit))))), .own 1 (.ro (.int .i64)), .own 5 (.ro (.int .i64))])] b }
/- spec.l06Cuts -/
noncomputable def I111 : Inst := { f := 111, nt := 17, params := [((.ro (.slc (.pair (.int .i16) (.pair (.int .i16) (.pair (.int .i8) .unit))))), false), ((.ro (.slc (.slc (.int .i16)))), false)], res := [(.ro .bool)], slots := [.tmp 4], code := bd Try.f111, callee := fun r i => find 0 [(1001, 146), (1004, 147), (1010, 148)] (r * 1000 + i) }
/- spec.l06On -/
noncomputable def I112 : Inst := { f := 112, nt := 20, params := [((.ro (.slc (.pair (.int .i16) (.pair (.int .i16) (.pair (.int .i8) .unit))))), false), ((.ro (.int .i64)), false)], res := [(.ro .bool)], slots := [.tmp 4], code := bd Try.f112, loops := fun b => find [] [(0, [.own 0 (.ro (.slc (.pair (.int .i16) (.pair (.int .i16) (.pair (.int .i8) .unit))))), .own 1 (.ro (.int .i64)), .own 5 (.ro (.int .i64))])] b }
/- spec.l06Given -/
noncomputable def I59 : Inst := { f := 59, nt := 21, params := [((.ro (.slc (.int .i16))), false), ((.ro (.slc (.slc (.int .i16)))), false), ((.ro (.slc (.pair (.int .i16) (.pair (.int .i16) (.pair (.int .i8) .unit))))), false)], res := [(.ro (.int .i64))], slots := [.tmp 6], code := bd Try.f59, callee := fun r i => find 0 [(1001, 73), (1006, 111), (3003, 112)] (r * 1000 + i) }
/- spec.l01At -/
noncomputable def I84 : Inst := { f := 84, nt := 19, params := [((.ro (.slc (.int .i16))), false), ((.ro (.int .i64)), false)], res := [(.ro (.int .i64))], slots := [.tmp 4], code := bd Try.f84 }
/- spec.l00Max -/
noncomputable def I75 : Inst := { f := 75, nt := 10, params := [((.ro (.int .i64)), false), ((.ro (.int .i64)), false)], res := [(.ro (.int .i64))], slots := [.tmp 4], code := bd Try.f75 }
/- spec.l06Tip -/
noncomputable def I113 : Inst := { f := 113, nt := 36, params := [((.ro (.slc (.int .i16))), false), ((.ro (.slc (.int .i16))), false), ((.ro (.int .i64)), false)], res := [(.ro (.int .i64))], slots := [.tmp 6], code := bd Try.f113, callee := fun r i => find 0 [(6005, 84), (6014, 75)] (r * 1000 + i), loops := fun b => find [] [(0, [.own 0 (.ro (.slc (.int .i16))), .own 1 (.ro (.slc (.int .i16))), .own 2 (.ro (.int .i64)), .own 7 (.ro (.int .i64)), .own 8 (.ro (.int .i64)), .own 9 (.ro (.int .i64))])] b }
/- spec.l06Deep -/
noncomputable def I60 : Inst := { f := 60, nt := 38, params := [((.ro (.slc (.int .i16))), false), ((.ro (.slc (.slc (.int .i16)))), false), ((.ro (.slc (.pair (.int .i16) (.pair (.int .i16) (.pair (.int .i8) .unit))))), false)], res := [(.ro (.int .i64))], slots := [.tmp 6], code := bd Try.f60, callee := fun r i => find 0 [(4021, 113)] (r * 1000 + i), loops := fun b => find [] [(0, [.own 0 (.ro (.slc (.int .i16))), .own 1 (.ro (.slc (.slc (.int .i16)))), .own 2 (.ro (.slc (.pair (.int .i16) (.pair (.int .i16) (.pair (.int .i8) .unit))))), .own 7 (.ro (.int .i64))])] b }
/- spec.FirstTooDeep -/
noncomputable def I18 : Inst := { f := 18, nt := 24, params := [((.ro (.slc (.int .i16))), false), ((.ro (.slc (.slc (.int .i16)))), false), ((.ro (.slc (.pair (.int .i16) (.pair (.int .i16) (.pair (.int .i8) .unit))))), false)], res := [(.ro (.int .i64)), (.ro (.int .i64))], slots := [.tmp 6, .tmp 7], code := bd Try.f18, callee := fun r i => find 0 [(1003, 59), (4003, 60)] (r * 1000 + i) }
/- impl.Cam).steps -/
noncomputable def I78 : Inst := { f := 78, nt := 5, params := [((.ro (.slc (.int .i16))), false)], res := [(.ro (.int .i64))], slots := [.tmp 2], code := bd Try.f78 }
/- impl.inRange -/
noncomputable def I76 : Inst := { f := 76, nt := 15, params := [((.ro (.int .i64)), false), ((.ro (.int .i64)), false), ((.ro (.int .i64)), false)], res := [(.ro .bool)], slots := [.tmp 6], code := bd Try.f76 }
/- impl.isSteps -/
noncomputable def I122 : Inst := { f := 122, nt := 5, params := [((.ro (.int .i64)), false)], res := [(.ro .bool)], slots := [.tmp 2], code := bd Try.f122, callee := fun r i => find 0 [(1001, 76)] (r * 1000 + i) }
/- impl.isLift -/
noncomputable def I125 : Inst := { f := 125, nt := 5, params := [((.ro (.int .i64)), false)], res := [(.ro .bool)], slots := [.tmp 2], code := bd Try.f125, callee := fun r i => find 0 [(1001, 76)] (r * 1000 + i) }
/- impl.ValidCam$1 -/
noncomputable def I124 : Inst := { f := 124, nt := 7, params := [((.ro (.int .i16)), false)], res := [(.ro .bool)], slots := [.tmp 2], code := bd Try.f124, callee := fun r i => find 0 [(1002, 125)] (r * 1000 + i) }
/- impl.Cam,int16] -/
noncomputable def I157 : Inst := { f := 157, nt := 19, params := [((.ro (.slc (.int .i16))), false), ((.clo 124 (.ro .unit) (.ro .unit)), false)], res := [(.ro (.int .i64))], slots := [.tmp 4], code := bd Try.f157, callee := fun r i => find 0 [(4005, 124)] (r * 1000 + i), loops := fun b => find [] [(0, [.own 0 (.ro (.slc (.int .i16))), .own 1 (.clo 124 (.ro .unit) (.ro .unit)), .own 7 (.ro (.int .i64)), .own 8 (.ro (.int .i64))])] b }
/- impl.Cam,int16] -/
noncomputable def I123 : Inst := { f := 123, nt := 9, params := [((.ro (.slc (.int .i16))), false), ((.clo 124 (.ro .unit) (.ro .unit)), false)], res := [(.ro .bool)], slots := [.tmp 4], code := bd Try.f123, callee := fun r i => find 0 [(1002, 157)] (r * 1000 + i) }
/- impl.ValidCam -/
noncomputable def I69 : Inst := { f := 69, nt := 11, params := [((.ro (.slc (.int .i16))), false)], res := [(.ro .bool)], slots := [.tmp 2], code := bd Try.f69, callee := fun r i => find 0 [(1001, 78), (1002, 122), (1005, 123)] (r * 1000 + i) }
/- impl.isCount -/
noncomputable def I149 : Inst := { f := 149, nt := 6, params := [((.ro (.slc (.slc (.int .i16)))), false)], res := [(.ro .bool)], slots := [.tmp 2], code := bd Try.f149, callee := fun r i => find 0 [(1002, 76)] (r * 1000 + i) }
/- impl.ValidCutter -/
noncomputable def I170 : Inst := { f := 170, nt := 61, params := [((.ro (.slc (.int .i16))), false)], res := [(.ro .bool)], slots := [.tmp 2], code := bd Try.f170, callee := fun r i => find 0 [(7002, 125)] (r * 1000 + i), loops := fun b => find [] [(0, [.own 0 (.ro (.slc (.int .i16))), .own 3 (.ro (.int .i64)), .own 23 (.ro (.slc (.int .i16))), .own 24 (.ro (.int .i64)), .own 25 (.ro (.int .i64))])] b }
/- impl.areCutters$1 -/
noncomputable def I169 : Inst := { f := 169, nt := 6, params := [((.ro (.slc (.int .i16))), false)], res := [(.ro .bool)], slots := [.tmp 2], code := bd Try.f169, callee := fun r i => find 0 [(1001, 170)] (r * 1000 + i) }
/- impl.Cutter] -/
noncomputable def I174 : Inst := { f := 174, nt := 19, params := [((.ro (.slc (.slc (.int .i16)))), false), ((.clo 169 (.ro .unit) (.ro .unit)), false)], res := [(.ro (.int .i64))], slots := [.tmp 4], code := bd Try.f174, callee := fun r i => find 0 [(4005, 169)] (r * 1000 + i), loops := fun b => find [] [(0, [.own 0 (.ro (.slc (.slc (.int .i16)))), .own 1 (.clo 169 (.ro .unit) (.ro .unit)), .own 7 (.ro (.int .i64)), .own 8 (.ro (.int .i64))])] b }
/- impl.Cutter] -/
noncomputable def I168 : Inst := { f := 168, nt := 9, params := [((.ro (.slc (.slc (.int .i16)))), false), ((.clo 169 (.ro .unit) (.ro .unit)), false)], res := [(.ro .bool)], slots := [.tmp 4], code := bd Try.f168, callee := fun r i => find 0 [(1002, 174)] (r * 1000 + i) }
/- impl.areCutters -/
noncomputable def I150 : Inst := { f := 150, nt := 6, params := [((.ro (.slc (.slc (.int .i16)))), false)], res := [(.ro .bool)], slots := [.tmp 2], code := bd Try.f150, callee := fun r i => find 0 [(1001, 168)] (r * 1000 + i) }
/- impl.isPlace -/
noncomputable def I142 : Inst := { f := 142, nt := 9, params := [((.ro (.int .i64)), false), ((.ro (.int .i64)), false)], res := [(.ro .bool)], slots := [.tmp 4], code := bd Try.f142, callee := fun r i => find 0 [(1003, 76)] (r * 1000 + i) }
/- impl.areCuts$1 -/
noncomputable def I171 : Inst := { f := 171, nt := 24, params := [((.ro (.pair (.int .i16) (.pair (.int .i16) (.pair (.int .i8) .unit)))), false), ((.box (.ro (.int .i64))), true)], res := [(.ro .bool)], slots := [.tmp 3], code := bd Try.f171, callee := fun r i => find 0 [(1003, 76), (1009, 125), (1017, 142)] (r * 1000 + i), pins := [1] }
/- impl.Cut] -/
noncomputable def I117 : Inst := { f := 117, nt := 19, params := [((.ro (.slc (.pair (.int .i16) (.pair (.int .i16) (.pair (.int .i8) .unit))))), false), ((.clo 171 (.ro .unit) (.pr (.box (.ro (.int .i64))) (.ro .unit))), true)], res := [(.ro (.int .i64))], slots := [.tmp 4], code := bd Try.f117, strict := true, callee := fun r i => find 0 [(4005, 171)] (r * 1000 + i), loops := fun b => find [] [(0, [.own 0 (.ro (.slc (.pair (.int .i16) (.pair (.int .i16) (.pair (.int .i8) .unit))))), .own 1 (.clo 171 (.ro .unit) (.pr (.box (.ro (.int .i64))) (.ro .unit))), .own 7 (.ro (.int .i64)), .own 8 (.ro (.int .i64))])] b, pins := [1] }
/- impl.Cut] -/
noncomputable def I152 : Inst := { f := 152, nt := 9, params := [((.ro (.slc (.pair (.int .i16) (.pair (.int .i16) (.pair (.int .i8) .unit))))), false), ((.clo 171 (.ro .unit) (.pr (.box (.ro (.int .i64))) (.ro .unit))), true)], res := [(.ro .bool)], slots := [.tmp 4], code := bd Try.f152, strict := true, callee := fun r i => find 0 [(1002, 117)] (r * 1000 + i), pins := [1] }
/- impl.areCuts -/
noncomputable def I151 : Inst := { f := 151, nt := 14, params := [((.ro (.slc (.pair (.int .i16) (.pair (.int .i16) (.pair (.int .i8) .unit))))), false), ((.ro (.int .i64)), false)], res := [(.ro .bool)], slots := [.tmp 4], code := bd Try.f151, callee := fun r i => find 0 [(1006, 152)] (r * 1000 + i) }
/- impl.ValidCuts -/
noncomputable def I114 : Inst := { f := 114, nt := 17, params := [((.ro (.slc (.pair (.int .i16) (.pair (.int .i16) (.pair (.int .i8) .unit))))), false), ((.ro (.slc (.slc (.int .i16)))), false)], res := [(.ro .bool)], slots := [.tmp 4], code := bd Try.f114, callee := fun r i => find 0 [(1001, 149), (1004, 150), (1010, 151)] (r * 1000 + i) }
/- impl.codeIf -/
noncomputable def I107 : Inst := { f := 107, nt := 7, params := [((.ro .bool), false), ((.ro (.int .i64)), false)], res := [(.ro (.int .i64))], slots := [.tmp 4], code := bd Try.f107 }
/- impl.areOn$1 -/
noncomputable def I153 : Inst := { f := 153, nt := 9, params := [((.ro (.pair (.int .i16) (.pair (.int .i16) (.pair (.int .i8) .unit)))), false), ((.box (.ro (.int .i64))), true)], res := [(.ro .bool)], slots := [.tmp 3], code := bd Try.f153, pins := [1] }
/- impl.Cut] -/
noncomputable def I1117 : Inst := { f := 117, nt := 19, params := [((.ro (.slc (.pair (.int .i16) (.pair (.int .i16) (.pair (.int .i8) .unit))))), false), ((.clo 153 (.ro .unit) (.pr (.box (.ro (.int .i64))) (.ro .unit))), true)], res := [(.ro (.int .i64))], slots := [.tmp 4], code := bd Try.f117, strict := true, callee := fun r i => find 0 [(4005, 153)] (r * 1000 + i), loops := fun b => find [] [(0, [.own 0 (.ro (.slc (.pair (.int .i16) (.pair (.int .i16) (.pair (.int .i8) .unit))))), .own 1 (.clo 153 (.ro .unit) (.pr (.box (.ro (.int .i64))) (.ro .unit))), .own 7 (.ro (.int .i64)), .own 8 (.ro (.int .i64))])] b, pins := [1] }
/- impl.Cut] -/
noncomputable def I1152 : Inst := { f := 152, nt := 9, params := [((.ro (.slc (.pair (.int .i16) (.pair (.int .i16) (.pair (.int .i8) .unit))))), false), ((.clo 153 (.ro .unit) (.pr (.box (.ro (.int .i64))) (.ro .unit))), true)], res := [(.ro .bool)], slots := [.tmp 4], code := bd Try.f152, strict := true, callee := fun r i => find 0 [(1002, 1117)] (r * 1000 + i), pins := [1] }
/- impl.areOn -/
noncomputable def I115 : Inst := { f := 115, nt := 9, params := [((.ro (.slc (.pair (.int .i16) (.pair (.int .i16) (.pair (.int .i8) .unit))))), false), ((.ro (.int .i64)), false)], res := [(.ro .bool)], slots := [.tmp 4], code := bd Try.f115, callee := fun r i => find 0 [(1002, 1152)] (r * 1000 + i) }
/- impl.firstCode -/
noncomputable def I106 : Inst := { f := 106, nt := 15, params := [((.ro (.slc (.int .i64))), false)], res := [(.ro (.int .i64))], slots := [.tmp 2], code := bd Try.f106, loops := fun b => find [] [(0, [.own 5 (.ro (.slc (.int .i64))), .own 6 (.ro (.int .i64)), .own 7 (.ro (.int .i64))])] b }
/- impl.cutsCode -/
noncomputable def I63 : Inst := { f := 63, nt := 25, params := [((.ro (.slc (.int .i16))), false), ((.ro (.slc (.slc (.int .i16)))), false), ((.ro (.slc (.pair (.int .i16) (.pair (.int .i16) (.pair (.int .i8) .unit))))), false)], res := [(.ro (.int .i64))], slots := [.tmp 6], code := bd Try.f63, callee := fun r i => find 0 [(1001, 69), (1006, 114), (1009, 107), (1012, 78), (1013, 115), (1015, 107), (1017, 106)] (r * 1000 + i), deep := fun r i => find false [(1016, true)] (r * 1000 + i) }
/- impl.floorDiv -/
noncomputable def I158 : Inst := { f := 158, nt := 16, params := [((.ro (.int .i64)), false), ((.ro (.int .i64)), false)], res := [(.ro (.int .i64))], slots := [.tmp 4], code := bd Try.f158 }
/- impl.mod -/
noncomputable def I128 : Inst := { f := 128, nt := 12, params := [((.ro (.int .i64)), false), ((.ro (.int .i64)), false)], res := [(.ro (.int .i64))], slots := [.tmp 4], code := bd Try.f128, callee := fun r i => find 0 [(1004, 158)] (r * 1000 + i) }
/- impl.Cam).at -/
noncomputable def I80 : Inst := { f := 80, nt := 13, params := [((.ro (.slc (.int .i16))), false), ((.ro (.int .i64)), false)], res := [(.ro (.int .i64))], slots := [.tmp 4], code := bd Try.f80, callee := fun r i => find 0 [(1003, 78), (1004, 128)] (r * 1000 + i) }
/- impl.Cam).tips$1$1 -/
noncomputable def I156 : Inst := { f := 156, nt := 13, params := [((.ro (.int .i64)), false), ((.ro (.int .i64)), false), ((.box (.ro (.int .i64))), true), ((.box (.ro (.slc (.int .i16)))), true)], res := [], slots := [], code := bd Try.f156, strict := true, callee := fun r i => find 0 [(3, 80)] (r * 1000 + i), pins := [2, 3] }
/- impl.Cutter).each -/
noncomputable def I155 : Inst := { f := 155, nt := 29, params := [((.ro (.slc (.int .i16))), false), ((.ro (.int .i64)), false), ((.clo 156 (.ro .unit) (.pr (.box (.ro (.int .i64))) (.pr (.box (.ro (.slc (.int .i16)))) (.ro .unit)))), true)], res := [], slots := [], code := bd Try.f155, strict := true, callee := fun r i => find 0 [(4008, 156)] (r * 1000 + i), loops := fun b => find [] [(0, [.own 1 (.ro (.int .i64)), .own 2 (.clo 156 (.ro .unit) (.pr (.box (.ro (.int .i64))) (.pr (.box (.ro (.slc (.int .i16)))) (.ro .unit)))), .own 6 (.ro (.int .i64)), .own 12 (.ro (.slc (.int .i16))), .own 13 (.ro (.int .i64)), .own 14 (.ro (.int .i64))])] b, pins := [2] }
/- impl.Cam).tips$1 -/
noncomputable def I154 : Inst := { f := 154, nt := 11, params := [((.ro (.int .i64)), false), ((.box (.ro (.slc (.int .i16)))), true), ((.box (.ro (.slc (.int .i16)))), true)], res := [(.ro (.int .i64))], slots := [.tmp 4], code := bd Try.f154, strict := true, callee := fun r i => find 0 [(2003, 155)] (r * 1000 + i), pins := [1, 2] }
/- impl.Cam).numbers -/
noncomputable def I71 : Inst := { f := 71, nt := 21, params := [((.ro (.slc (.int .i16))), false), ((.clo 154 (.ro .unit) (.pr (.box (.ro (.slc (.int .i16)))) (.pr (.box (.ro (.slc (.int .i16)))) (.ro .unit)))), true)], res := [(.row false (.int .i64))], slots := [.tmp 4], code := bd Try.f71, strict := true, callee := fun r i => find 0 [(2001, 78), (5003, 154)] (r * 1000 + i), loops := fun b => find [] [(0, [.own 1 (.clo 154 (.ro .unit) (.pr (.box (.ro (.slc (.int .i16)))) (.pr (.box (.ro (.slc (.int .i16)))) (.ro .unit)))), .own 5 (.row false (.int .i64)), .own 9 (.ro (.int .i64)), .own 10 (.ro (.int .i64))])] b, pins := [1], deep := fun r i => find false [(1000, true), (5004, true), (5005, true)] (r * 1000 + i) }
/- impl.Cam).tips -/
noncomputable def I116 : Inst := { f := 116, nt := 8, params := [((.ro (.slc (.int .i16))), false), ((.ro (.slc (.int .i16))), false)], res := [(.row false (.int .i64))], slots := [.tmp 4], code := bd Try.f116, callee := fun r i => find 0 [(1002, 71)] (r * 1000 + i) }
/- impl.Cam).tooDeep$1 -/
noncomputable def I118 : Inst := { f := 118, nt := 17, params := [((.ro (.pair (.int .i16) (.pair (.int .i16) (.pair (.int .i8) .unit)))), false), ((.box (.row false (.slc (.int .i64)))), true)], res := [(.ro .bool)], slots := [.tmp 3], code := bd Try.f118, strict := true, pins := [1] }
/- impl.Cut] -/
noncomputable def I2117 : Inst := { f := 117, nt := 19, params := [((.ro (.slc (.pair (.int .i16) (.pair (.int .i16) (.pair (.int .i8) .unit))))), false), ((.clo 118 (.ro .unit) (.pr (.box (.row false (.slc (.int .i64)))) (.ro .unit))), true)], res := [(.ro (.int .i64))], slots := [.tmp 4], code := bd Try.f117, strict := true, callee := fun r i => find 0 [(4005, 118)] (r * 1000 + i), loops := fun b => find [] [(0, [.own 0 (.ro (.slc (.pair (.int .i16) (.pair (.int .i16) (.pair (.int .i8) .unit))))), .own 1 (.clo 118 (.ro .unit) (.pr (.box (.row false (.slc (.int .i64)))) (.ro .unit))), .own 7 (.ro (.int .i64)), .own 8 (.ro (.int .i64))])] b, pins := [1] }
/- impl.Cam).tooDeep -/
noncomputable def I64 : Inst := { f := 64, nt := 27, params := [((.ro (.slc (.int .i16))), false), ((.ro (.slc (.slc (.int .i16)))), false), ((.ro (.slc (.pair (.int .i16) (.pair (.int .i16) (.pair (.int .i8) .unit))))), false)], res := [(.ro (.int .i64))], slots := [.tmp 6], code := bd Try.f64, callee := fun r i => find 0 [(5003, 116), (7002, 2117)] (r * 1000 + i), loops := fun b => find [] [(0, [.own 0 (.ro (.slc (.int .i16))), .own 2 (.ro (.slc (.pair (.int .i16) (.pair (.int .i16) (.pair (.int .i8) .unit))))), .own 7 (.box (.row false (.slc (.int .i64)))), .own 11 (.ro (.slc (.slc (.int .i16)))), .own 12 (.ro (.int .i64)), .own 13 (.ro (.int .i64))])] b }
/- impl.FirstTooDeep -/
noncomputable def I22 : Inst := { f := 22, nt := 24, params := [((.ro (.slc (.int .i16))), false), ((.ro (.slc (.slc (.int .i16)))), false), ((.ro (.slc (.pair (.int .i16) (.pair (.int .i16) (.pair (.int .i8) .unit))))), false)], res := [(.ro (.int .i64)), (.ro (.int .i64))], slots := [.tmp 6, .tmp 7], code := bd Try.f22, callee := fun r i => find 0 [(1003, 63), (4003, 64)] (r * 1000 + i) }
/- laws.eqCam -/
noncomputable def I23 : Inst := { f := 23, nt := 26, params := [((.ro (.slc (.int .i16))), false), ((.ro (.slc (.int .i16))), false)], res := [(.ro .bool)], slots := [.tmp 4], code := bd Try.f23, loops := fun b => find [] [(0, [.own 0 (.ro (.slc (.int .i16))), .own 1 (.ro (.slc (.int .i16))), .own 5 (.ro (.int .i64))])] b }
/- laws.eqCutter -/
noncomputable def I65 : Inst := { f := 65, nt := 26, params := [((.ro (.slc (.int .i16))), false), ((.ro (.slc (.int .i16))), false)], res := [(.ro .bool)], slots := [.tmp 4], code := bd Try.f65, loops := fun b => find [] [(0, [.own 0 (.ro (.slc (.int .i16))), .own 1 (.ro (.slc (.int .i16))), .own 5 (.ro (.int .i64))])] b }
/- laws.eqCutterS -/
noncomputable def I24 : Inst := { f := 24, nt := 27, params := [((.ro (.slc (.slc (.int .i16)))), false), ((.ro (.slc (.slc (.int .i16)))), false)], res := [(.ro .bool)], slots := [.tmp 4], code := bd Try.f24, callee := fun r i => find 0 [(6008, 65)] (r * 1000 + i), loops := fun b => find [] [(0, [.own 0 (.ro (.slc (.slc (.int .i16)))), .own 1 (.ro (.slc (.slc (.int .i16)))), .own 5 (.ro (.int .i64))])] b }
/- laws.eqCut -/
noncomputable def I66 : Inst := { f := 66, nt := 20, params := [((.ro (.pair (.int .i16) (.pair (.int .i16) (.pair (.int .i8) .unit)))), false), ((.ro (.pair (.int .i16) (.pair (.int .i16) (.pair (.int .i8) .unit)))), false)], res := [(.ro .bool)], slots := [.tmp 4], code := bd Try.f66 }
/- laws.eqCutS -/
noncomputable def I25 : Inst := { f := 25, nt := 27, params := [((.ro (.slc (.pair (.int .i16) (.pair (.int .i16) (.pair (.int .i8) .unit))))), false), ((.ro (.slc (.pair (.int .i16) (.pair (.int .i16) (.pair (.int .i8) .unit))))), false)], res := [(.ro .bool)], slots := [.tmp 4], code := bd Try.f25, callee := fun r i => find 0 [(6008, 66)] (r * 1000 + i), loops := fun b => find [] [(0, [.own 0 (.ro (.slc (.pair (.int .i16) (.pair (.int .i16) (.pair (.int .i8) .unit))))), .own 1 (.ro (.slc (.pair (.int .i16) (.pair (.int .i16) (.pair (.int .i8) .unit))))), .own 5 (.ro (.int .i64))])] b }
/- laws.FnExactFirstTooDeep -/
noncomputable def I4 : Inst := { f := 4, nt := 74, params := [((.ro (.slc (.int .i16))), false), ((.ro (.slc (.slc (.int .i16)))), false), ((.ro (.slc (.pair (.int .i16) (.pair (.int .i16) (.pair (.int .i8) .unit))))), false)], res := [(.ro .bool)], slots := [.tmp 6], code := bd Try.f4, callee := fun r i => find 0 [(4002, 16), (7002, 17), (10001, 19), (10003, 20), (10005, 21), (10006, 18), (11001, 19), (12001, 20), (13001, 21), (14003, 22), (17002, 19), (17003, 23), (19002, 20), (19003, 24), (21002, 21), (21003, 25)] (r * 1000 + i) }
noncomputable def C : Nat → Inst := find I58 [(58, I58), (16, I16), (17, I17), (19, I19), (61, I61), (20, I20), (62, I62), (21, I21), (83, I83), (126, I126), (127, I127), (73, I73), (146, I146), (167, I167), (147, I147), (148, I148), (111, I111), (112, I112), (59, I59), (84, I84), (75, I75), (113, I113), (60, I60), (18, I18), (78, I78), (76, I76), (122, I122), (125, I125), (124, I124), (157, I157), (123, I123), (69, I69), (149, I149), (170, I170), (169, I169), (174, I174), (168, I168), (150, I150), (142, I142), (171, I171), (117, I117), (152, I152), (151, I151), (114, I114), (107, I107), (153, I153), (1117, I1117), (1152, I1152), (115, I115), (106, I106), (63, I63), (158, I158), (128, I128), (80, I80), (156, I156), (155, I155), (154, I154), (71, I71), (116, I116), (118, I118), (2117, I2117), (64, I64), (22, I22), (23, I23), (65, I65), (24, I24), (66, I66), (25, I25), (4, I4)]
theorem tsOk : TsOk Try.prog T := tsOkB_sound (by kernel_rfl)
theorem ok58 : InstOk Try.prog I58 := instOk_of Try.func58 (by kernel_rfl) (by kernel_rfl) (by kernel_rfl) (by kernel_rfl)
theorem ok16 : InstOk Try.prog I16 := instOk_of Try.func16 (by kernel_rfl) (by kernel_rfl) (by kernel_rfl) (by kernel_rfl)
theorem ok17 : InstOk Try.prog I17 := instOk_of Try.func17 (by kernel_rfl) (by kernel_rfl) (by kernel_rfl) (by kernel_rfl)
theorem ok19 : InstOk Try.prog I19 := instOk_of Try.func19 (by kernel_rfl) (by kernel_rfl) (by kernel_rfl) (by kernel_rfl)
theorem ok61 : InstOk Try.prog I61 := instOk_of Try.func61 (by kernel_rfl) (by kernel_rfl) (by kernel_rfl) (by kernel_rfl)
theorem ok20 : InstOk Try.prog I20 := instOk_of Try.func20 (by kernel_rfl) (by kernel_rfl) (by kernel_rfl) (by kernel_rfl)
theorem ok62 : InstOk Try.prog I62 := instOk_of Try.func62 (by kernel_rfl) (by kernel_rfl) (by kernel_rfl) (by kernel_rfl)
theorem ok21 : InstOk Try.prog I21 := instOk_of Try.func21 (by kernel_rfl) (by kernel_rfl) (by kernel_rfl) (by kernel_rfl)
theorem ok83 : InstOk Try.prog I83 := instOk_of Try.func83 (by kernel_rfl) (by kernel_rfl) (by kernel_rfl) (by kernel_rfl)
theorem ok126 : InstOk Try.prog I126 := instOk_of Try.func126 (by kernel_rfl) (by kernel_rfl) (by kernel_rfl) (by kernel_rfl)
theorem ok127 : InstOk Try.prog I127 := instOk_of Try.func127 (by kernel_rfl) (by kernel_rfl) (by kernel_rfl) (by kernel_rfl)
theorem ok73 : InstOk Try.prog I73 := instOk_of Try.func73 (by kernel_rfl) (by kernel_rfl) (by kernel_rfl) (by kernel_rfl)
theorem ok146 : InstOk Try.prog I146 := instOk_of Try.func146 (by kernel_rfl) (by kernel_rfl) (by kernel_rfl) (by kernel_rfl)
theorem ok167 : InstOk Try.prog I167 := instOk_of Try.func167 (by kernel_rfl) (by kernel_rfl) (by kernel_rfl) (by kernel_rfl)
theorem ok147 : InstOk Try.prog I147 := instOk_of Try.func147 (by kernel_rfl) (by kernel_rfl) (by kernel_rfl) (by kernel_rfl)
theorem ok148 : InstOk Try.prog I148 := instOk_of Try.func148 (by kernel_rfl) (by kernel_rfl) (by kernel_rfl) (by kernel_rfl)
theorem ok111 : InstOk Try.prog I111 := instOk_of Try.func111 (by kernel_rfl) (by kernel_rfl) (by kernel_rfl) (by kernel_rfl)
theorem ok112 : InstOk Try.prog I112 := instOk_of Try.func112 (by kernel_rfl) (by kernel_rfl) (by kernel_rfl) (by kernel_rfl)
theorem ok59 : InstOk Try.prog I59 := instOk_of Try.func59 (by kernel_rfl) (by kernel_rfl) (by kernel_rfl) (by kernel_rfl)
theorem ok84 : InstOk Try.prog I84 := instOk_of Try.func84 (by kernel_rfl) (by kernel_rfl) (by kernel_rfl) (by kernel_rfl)
theorem ok75 : InstOk Try.prog I75 := instOk_of Try.func75 (by kernel_rfl) (by kernel_rfl) (by kernel_rfl) (by kernel_rfl)
theorem ok113 : InstOk Try.prog I113 := instOk_of Try.func113 (by kernel_rfl) (by kernel_rfl) (by kernel_rfl) (by kernel_rfl)
theorem ok60 : InstOk Try.prog I60 := instOk_of Try.func60 (by kernel_rfl) (by kernel_rfl) (by kernel_rfl) (by kernel_rfl)
theorem ok18 : InstOk Try.prog I18 := instOk_of Try.func18 (by kernel_rfl) (by kernel_rfl) (by kernel_rfl) (by kernel_rfl)
theorem ok78 : InstOk Try.prog I78 := instOk_of Try.func78 (by kernel_rfl) (by kernel_rfl) (by kernel_rfl) (by kernel_rfl)
theorem ok76 : InstOk Try.prog I76 := instOk_of Try.func76 (by kernel_rfl) (by kernel_rfl) (by kernel_rfl) (by kernel_rfl)
theorem ok122 : InstOk Try.prog I122 := instOk_of Try.func122 (by kernel_rfl) (by kernel_rfl) (by kernel_rfl) (by kernel_rfl)
theorem ok125 : InstOk Try.prog I125 := instOk_of Try.func125 (by kernel_rfl) (by kernel_rfl) (by kernel_rfl) (by kernel_rfl)
theorem ok124 : InstOk Try.prog I124 := instOk_of Try.func124 (by kernel_rfl) (by kernel_rfl) (by kernel_rfl) (by kernel_rfl)
theorem ok157 : InstOk Try.prog I157 := instOk_of Try.func157 (by kernel_rfl) (by kernel_rfl) (by kernel_rfl) (by kernel_rfl)
theorem ok123 : InstOk Try.prog I123 := instOk_of Try.func123 (by kernel_rfl) (by kernel_rfl) (by kernel_rfl) (by kernel_rfl)
theorem ok69 : InstOk Try.prog I69 := instOk_of Try.func69 (by kernel_rfl) (by kernel_rfl) (by kernel_rfl) (by kernel_rfl)
theorem ok149 : InstOk Try.prog I149 := instOk_of Try.func149 (by kernel_rfl) (by kernel_rfl) (by kernel_rfl) (by kernel_rfl)
theorem ok170 : InstOk Try.prog I170 := instOk_of Try.func170 (by kernel_rfl) (by kernel_rfl) (by kernel_rfl) (by kernel_rfl)
theorem ok169 : InstOk Try.prog I169 := instOk_of Try.func169 (by kernel_rfl) (by kernel_rfl) (by kernel_rfl) (by kernel_rfl)
theorem ok174 : InstOk Try.prog I174 := instOk_of Try.func174 (by kernel_rfl) (by kernel_rfl) (by kernel_rfl) (by kernel_rfl)
theorem ok168 : InstOk Try.prog I168 := instOk_of Try.func168 (by kernel_rfl) (by kernel_rfl) (by kernel_rfl) (by kernel_rfl)
theorem ok150 : InstOk Try.prog I150 := instOk_of Try.func150 (by kernel_rfl) (by kernel_rfl) (by kernel_rfl) (by kernel_rfl)
theorem ok142 : InstOk Try.prog I142 := instOk_of Try.func142 (by kernel_rfl) (by kernel_rfl) (by kernel_rfl) (by kernel_rfl)
theorem ok171 : InstOk Try.prog I171 := instOk_of Try.func171 (by kernel_rfl) (by kernel_rfl) (by kernel_rfl) (by kernel_rfl)
theorem ok117 : InstOk Try.prog I117 := instOk_of Try.func117 (by kernel_rfl) (by kernel_rfl) (by kernel_rfl) (by kernel_rfl)
theorem ok152 : InstOk Try.prog I152 := instOk_of Try.func152 (by kernel_rfl) (by kernel_rfl) (by kernel_rfl) (by kernel_rfl)
theorem ok151 : InstOk Try.prog I151 := instOk_of Try.func151 (by kernel_rfl) (by kernel_rfl) (by kernel_rfl) (by kernel_rfl)
theorem ok114 : InstOk Try.prog I114 := instOk_of Try.func114 (by kernel_rfl) (by kernel_rfl) (by kernel_rfl) (by kernel_rfl)
theorem ok107 : InstOk Try.prog I107 := instOk_of Try.func107 (by kernel_rfl) (by kernel_rfl) (by kernel_rfl) (by kernel_rfl)
theorem ok153 : InstOk Try.prog I153 := instOk_of Try.func153 (by kernel_rfl) (by kernel_rfl) (by kernel_rfl) (by kernel_rfl)
theorem ok1117 : InstOk Try.prog I1117 := instOk_of Try.func117 (by kernel_rfl) (by kernel_rfl) (by kernel_rfl) (by kernel_rfl)
theorem ok1152 : InstOk Try.prog I1152 := instOk_of Try.func152 (by kernel_rfl) (by kernel_rfl) (by kernel_rfl) (by kernel_rfl)
theorem ok115 : InstOk Try.prog I115 := instOk_of Try.func115 (by kernel_rfl) (by kernel_rfl) (by kernel_rfl) (by kernel_rfl)
theorem ok106 : InstOk Try.prog I106 := instOk_of Try.func106 (by kernel_rfl) (by kernel_rfl) (by kernel_rfl) (by kernel_rfl)
theorem ok63 : InstOk Try.prog I63 := instOk_of Try.func63 (by kernel_rfl) (by kernel_rfl) (by kernel_rfl) (by kernel_rfl)
theorem ok158 : InstOk Try.prog I158 := instOk_of Try.func158 (by kernel_rfl) (by kernel_rfl) (by kernel_rfl) (by kernel_rfl)
theorem ok128 : InstOk Try.prog I128 := instOk_of Try.func128 (by kernel_rfl) (by kernel_rfl) (by kernel_rfl) (by kernel_rfl)
theorem ok80 : InstOk Try.prog I80 := instOk_of Try.func80 (by kernel_rfl) (by kernel_rfl) (by kernel_rfl) (by kernel_rfl)
theorem ok156 : InstOk Try.prog I156 := instOk_of Try.func156 (by kernel_rfl) (by kernel_rfl) (by kernel_rfl) (by kernel_rfl)
theorem ok155 : InstOk Try.prog I155 := instOk_of Try.func155 (by kernel_rfl) (by kernel_rfl) (by kernel_rfl) (by kernel_rfl)
theorem ok154 : InstOk Try.prog I154 := instOk_of Try.func154 (by kernel_rfl) (by kernel_rfl) (by kernel_rfl) (by kernel_rfl)
theorem ok71 : InstOk Try.prog I71 := instOk_of Try.func71 (by kernel_rfl) (by kernel_rfl) (by kernel_rfl) (by kernel_rfl)
theorem ok116 : InstOk Try.prog I116 := instOk_of Try.func116 (by kernel_rfl) (by kernel_rfl) (by kernel_rfl) (by kernel_rfl)
theorem ok118 : InstOk Try.prog I118 := instOk_of Try.func118 (by kernel_rfl) (by kernel_rfl) (by kernel_rfl) (by kernel_rfl)
theorem ok2117 : InstOk Try.prog I2117 := instOk_of Try.func117 (by kernel_rfl) (by kernel_rfl) (by kernel_rfl) (by kernel_rfl)
theorem ok64 : InstOk Try.prog I64 := instOk_of Try.func64 (by kernel_rfl) (by kernel_rfl) (by kernel_rfl) (by kernel_rfl)
theorem ok22 : InstOk Try.prog I22 := instOk_of Try.func22 (by kernel_rfl) (by kernel_rfl) (by kernel_rfl) (by kernel_rfl)
theorem ok23 : InstOk Try.prog I23 := instOk_of Try.func23 (by kernel_rfl) (by kernel_rfl) (by kernel_rfl) (by kernel_rfl)
theorem ok65 : InstOk Try.prog I65 := instOk_of Try.func65 (by kernel_rfl) (by kernel_rfl) (by kernel_rfl) (by kernel_rfl)
theorem ok24 : InstOk Try.prog I24 := instOk_of Try.func24 (by kernel_rfl) (by kernel_rfl) (by kernel_rfl) (by kernel_rfl)
theorem ok66 : InstOk Try.prog I66 := instOk_of Try.func66 (by kernel_rfl) (by kernel_rfl) (by kernel_rfl) (by kernel_rfl)
theorem ok25 : InstOk Try.prog I25 := instOk_of Try.func25 (by kernel_rfl) (by kernel_rfl) (by kernel_rfl) (by kernel_rfl)
theorem ok4 : InstOk Try.prog I4 := instOk_of Try.func4 (by kernel_rfl) (by kernel_rfl) (by kernel_rfl) (by kernel_rfl)
theorem insts : ∀ j, InstOk Try.prog (C j) := find_all ok58 (List.forall_mem_cons.2 ⟨ok58, List.forall_mem_cons.2 ⟨ok16, List.forall_mem_cons.2 ⟨ok17, List.forall_mem_cons.2 ⟨ok19, List.forall_mem_cons.2 ⟨ok61, List.forall_mem_cons.2 ⟨ok20, List.forall_mem_cons.2 ⟨ok62, List.forall_mem_cons.2 ⟨ok21, List.forall_mem_cons.2 ⟨ok83, List.forall_mem_cons.2 ⟨ok126, List.forall_mem_cons.2 ⟨ok127, List.forall_mem_cons.2 ⟨ok73, List.forall_mem_cons.2 ⟨ok146, List.forall_mem_cons.2 ⟨ok167, List.forall_mem_cons.2 ⟨ok147, List.forall_mem_cons.2 ⟨ok148, List.forall_mem_cons.2 ⟨ok111, List.forall_mem_cons.2 ⟨ok112, List.forall_mem_cons.2 ⟨ok59, List.forall_mem_cons.2 ⟨ok84, List.forall_mem_cons.2 ⟨ok75, List.forall_mem_cons.2 ⟨ok113, List.forall_mem_cons.2 ⟨ok60, List.forall_mem_cons.2 ⟨ok18, List.forall_mem_cons.2 ⟨ok78, List.forall_mem_cons.2 ⟨ok76, List.forall_mem_cons.2 ⟨ok122, List.forall_mem_cons.2 ⟨ok125, List.forall_mem_cons.2 ⟨ok124, List.forall_mem_cons.2 ⟨ok157, List.forall_mem_cons.2 ⟨ok123, List.forall_mem_cons.2 ⟨ok69, List.forall_mem_cons.2 ⟨ok149, List.forall_mem_cons.2 ⟨ok170, List.forall_mem_cons.2 ⟨ok169, List.forall_mem_cons.2 ⟨ok174, List.forall_mem_cons.2 ⟨ok168, List.forall_mem_cons.2 ⟨ok150, List.forall_mem_cons.2 ⟨ok142, List.forall_mem_cons.2 ⟨ok171, List.forall_mem_cons.2 ⟨ok117, List.forall_mem_cons.2 ⟨ok152, List.forall_mem_cons.2 ⟨ok151, List.forall_mem_cons.2 ⟨ok114, List.forall_mem_cons.2 ⟨ok107, List.forall_mem_cons.2 ⟨ok153, List.forall_mem_cons.2 ⟨ok1117, List.forall_mem_cons.2 ⟨ok1152, List.forall_mem_cons.2 ⟨ok115, List.forall_mem_cons.2 ⟨ok106, List.forall_mem_cons.2 ⟨ok63, List.forall_mem_cons.2 ⟨ok158, List.forall_mem_cons.2 ⟨ok128, List.forall_mem_cons.2 ⟨ok80, List.forall_mem_cons.2 ⟨ok156, List.forall_mem_cons.2 ⟨ok155, List.forall_mem_cons.2 ⟨ok154, List.forall_mem_cons.2 ⟨ok71, List.forall_mem_cons.2 ⟨ok116, List.forall_mem_cons.2 ⟨ok118, List.forall_mem_cons.2 ⟨ok2117, List.forall_mem_cons.2 ⟨ok64, List.forall_mem_cons.2 ⟨ok22, List.forall_mem_cons.2 ⟨ok23, List.forall_mem_cons.2 ⟨ok65, List.forall_mem_cons.2 ⟨ok24, List.forall_mem_cons.2 ⟨ok66, List.forall_mem_cons.2 ⟨ok25, List.forall_mem_cons.2 ⟨ok4, fun _ h => absurd h List.not_mem_nil⟩⟩⟩⟩⟩⟩⟩⟩⟩⟩⟩⟩⟩⟩⟩⟩⟩⟩⟩⟩⟩⟩⟩⟩⟩⟩⟩⟩⟩⟩⟩⟩⟩⟩⟩⟩⟩⟩⟩⟩⟩⟩⟩⟩⟩⟩⟩⟩⟩⟩⟩⟩⟩⟩⟩⟩⟩⟩⟩⟩⟩⟩⟩⟩⟩⟩⟩⟩⟩)
end Go.Proofs.Ytdgmghmbokkhlaa.LFirstTooDeep
