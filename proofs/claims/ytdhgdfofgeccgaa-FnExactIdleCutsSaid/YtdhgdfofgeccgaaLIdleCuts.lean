/- The types and the functions that a law reaches, told for the reading (Fw). Written by a program (gen.py). -/
import Derived.Test.YtdhgdfofgeccgaaFwC
import Derived.Test.YtdhgdfofgeccgaaProg
namespace Go.Proofs.Ytdhgdfofgeccgaa.LIdleCuts
open Go Go.Fw
open Go.Proofs
noncomputable def tyL : List (Nat × TI) := [(2, ⟨(.int .i64), 0, 8⟩),
  (3, ⟨(.int .i64), 0, 8⟩),
  (4, ⟨.bool, 0, 1⟩),
  (22, ⟨(.slc (.int .i16)), 57, 24⟩),
  (29, ⟨(.slc (.int .i16)), 57, 24⟩),
  (55, ⟨(.slc (.int .i64)), 2, 24⟩),
  (57, ⟨(.int .i16), 0, 2⟩),
  (65, ⟨(.int .i8), 0, 1⟩),
  (80, ⟨(.slc (.slc (.int .i16))), 22, 24⟩),
  (81, ⟨(.slc (.pair (.int .i16) (.pair (.int .i16) (.pair (.int .i8) .unit)))), 164, 24⟩),
  (85, ⟨(.slc (.slc (.int .i16))), 159, 24⟩),
  (87, ⟨(.slc (.pair (.int .i16) (.pair (.int .i16) (.pair (.int .i8) .unit)))), 161, 24⟩),
  (133, ⟨.fn, 0, 8⟩),
  (159, ⟨(.slc (.int .i16)), 57, 24⟩),
  (161, ⟨(.pair (.int .i16) (.pair (.int .i16) (.pair (.int .i8) .unit))), 0, 6⟩),
  (164, ⟨(.pair (.int .i16) (.pair (.int .i16) (.pair (.int .i8) .unit))), 0, 6⟩),
  (195, ⟨.fn, 0, 8⟩),
  (202, ⟨.fn, 0, 8⟩),
  (207, ⟨.fn, 0, 8⟩)]
noncomputable def T : Nat → Option TI := findT tyL
/- laws.szCutter -/
noncomputable def I146 : Inst := { f := 146, nt := 12, params := [((.ro (.slc (.int .i16))), false), ((.ro (.int .i64)), false)], res := [(.ro (.int .i64))], slots := [.tmp 4], code := bd Try.f146 }
/- laws.szCutterS -/
noncomputable def I57 : Inst := { f := 57, nt := 27, params := [((.ro (.slc (.slc (.int .i16)))), false), ((.ro (.int .i64)), false)], res := [(.ro (.int .i64))], slots := [.tmp 4], code := bd Try.f57, callee := fun r i => find 0 [(7005, 146)] (r * 1000 + i), loops := fun b => find [] [(0, [.own 0 (.ro (.slc (.slc (.int .i16)))), .own 1 (.ro (.int .i64)), .own 5 (.ro (.int .i64))])] b }
/- laws.szCutS -/
noncomputable def I58 : Inst := { f := 58, nt := 12, params := [((.ro (.slc (.pair (.int .i16) (.pair (.int .i16) (.pair (.int .i8) .unit))))), false), ((.ro (.int .i64)), false)], res := [(.ro (.int .i64))], slots := [.tmp 4], code := bd Try.f58 }
/- laws.toCutter -/
noncomputable def I151 : Inst := { f := 151, nt := 22, params := [((.ro (.slc (.int .i16))), false)], res := [(.row false (.int .i16))], slots := [.tmp 2], code := bd Try.f151, loops := fun b => find [] [(0, [.own 0 (.ro (.slc (.int .i16))), .own 3 (.row false (.int .i16)), .own 4 (.ro (.int .i64))])] b, deep := fun r i => find false [(1002, true)] (r * 1000 + i) }
/- laws.toCutterS -/
noncomputable def I60 : Inst := { f := 60, nt := 23, params := [((.ro (.slc (.slc (.int .i16)))), false)], res := [(.row true (.slc (.int .i16)))], slots := [.tmp 2], code := bd Try.f60, callee := fun r i => find 0 [(5006, 151)] (r * 1000 + i), loops := fun b => find [] [(0, [.own 0 (.ro (.slc (.slc (.int .i16)))), .own 3 (.row true (.slc (.int .i16))), .own 4 (.ro (.int .i64))])] b, deep := fun r i => find false [(1002, true)] (r * 1000 + i) }
/- laws.toCut -/
noncomputable def I152 : Inst := { f := 152, nt := 14, params := [((.ro (.pair (.int .i16) (.pair (.int .i16) (.pair (.int .i8) .unit)))), false)], res := [(.ro (.pair (.int .i16) (.pair (.int .i16) (.pair (.int .i8) .unit))))], slots := [.cell 2 161], code := bd Try.f152 }
/- laws.toCutS -/
noncomputable def I61 : Inst := { f := 61, nt := 23, params := [((.ro (.slc (.pair (.int .i16) (.pair (.int .i16) (.pair (.int .i8) .unit))))), false)], res := [(.row false (.pair (.int .i16) (.pair (.int .i16) (.pair (.int .i8) .unit))))], slots := [.tmp 2], code := bd Try.f61, callee := fun r i => find 0 [(5006, 152)] (r * 1000 + i), loops := fun b => find [] [(0, [.own 0 (.ro (.slc (.pair (.int .i16) (.pair (.int .i16) (.pair (.int .i8) .unit))))), .own 3 (.row false (.pair (.int .i16) (.pair (.int .i16) (.pair (.int .i8) .unit)))), .own 4 (.ro (.int .i64))])] b, deep := fun r i => find false [(1002, true)] (r * 1000 + i) }
/- spec.l00In -/
noncomputable def I85 : Inst := { f := 85, nt := 15, params := [((.ro (.int .i64)), false), ((.ro (.int .i64)), false), ((.ro (.int .i64)), false)], res := [(.ro .bool)], slots := [.tmp 6], code := bd Try.f85 }
/- spec.l06Some -/
noncomputable def I191 : Inst := { f := 191, nt := 6, params := [((.ro (.slc (.slc (.int .i16)))), false)], res := [(.ro .bool)], slots := [.tmp 2], code := bd Try.f191, callee := fun r i => find 0 [(1002, 85)] (r * 1000 + i) }
/- spec.l01Lift -/
noncomputable def I108 : Inst := { f := 108, nt := 5, params := [((.ro (.int .i64)), false)], res := [(.ro .bool)], slots := [.tmp 2], code := bd Try.f108, callee := fun r i => find 0 [(1001, 85)] (r * 1000 + i) }
/- spec.l06Ok -/
noncomputable def I211 : Inst := { f := 211, nt := 66, params := [((.ro (.slc (.int .i16))), false)], res := [(.ro .bool)], slots := [.tmp 2], code := bd Try.f211, callee := fun r i => find 0 [(2001, 85), (7005, 108)] (r * 1000 + i), loops := fun b => find [] [(0, [.own 0 (.ro (.slc (.int .i16))), .own 3 (.ro (.int .i64)), .own 4 (.ro (.int .i64))])] b }
/- spec.l06Cutters -/
noncomputable def I192 : Inst := { f := 192, nt := 16, params := [((.ro (.slc (.slc (.int .i16)))), false)], res := [(.ro .bool)], slots := [.tmp 2], code := bd Try.f192, callee := fun r i => find 0 [(4004, 211)] (r * 1000 + i), loops := fun b => find [] [(0, [.own 0 (.ro (.slc (.slc (.int .i16)))), .own 3 (.ro (.int .i64))])] b }
/- spec.l06Plain -/
noncomputable def I193 : Inst := { f := 193, nt := 46, params := [((.ro (.slc (.pair (.int .i16) (.pair (.int .i16) (.pair (.int .i8) .unit))))), false), ((.ro (.int .i64)), false)], res := [(.ro .bool)], slots := [.tmp 4], code := bd Try.f193, callee := fun r i => find 0 [(7005, 85), (7013, 108), (7024, 85)] (r * 1000 + i), loops := fun b => find [] [(0, [.own 0 (.ro (.slc (.pair (.int .i16) (.pair (.int .i16) (.pair (.int .i8) .unit))))), .own 1 (.ro (.int .i64)), .own 5 (.ro (.int .i64))])] b }
/- spec.l06Cuts -/
noncomputable def I147 : Inst := { f := 147, nt := 17, params := [((.ro (.slc (.pair (.int .i16) (.pair (.int .i16) (.pair (.int .i8) .unit))))), false), ((.ro (.slc (.slc (.int .i16)))), false)], res := [(.ro .bool)], slots := [.tmp 4], code := bd Try.f147, callee := fun r i => find 0 [(1001, 191), (1004, 192), (1010, 193)] (r * 1000 + i) }
/- spec.l01Steps -/
noncomputable def I117 : Inst := { f := 117, nt := 5, params := [((.ro (.int .i64)), false)], res := [(.ro .bool)], slots := [.tmp 2], code := bd Try.f117, callee := fun r i => find 0 [(1001, 85)] (r * 1000 + i) }
/- spec.l06On -/
noncomputable def I148 : Inst := { f := 148, nt := 20, params := [((.ro (.slc (.pair (.int .i16) (.pair (.int .i16) (.pair (.int .i8) .unit))))), false), ((.ro (.int .i64)), false)], res := [(.ro .bool)], slots := [.tmp 4], code := bd Try.f148, loops := fun b => find [] [(0, [.own 0 (.ro (.slc (.pair (.int .i16) (.pair (.int .i16) (.pair (.int .i8) .unit))))), .own 1 (.ro (.int .i64)), .own 5 (.ro (.int .i64))])] b }
/- spec.l06Blank -/
noncomputable def I149 : Inst := { f := 149, nt := 19, params := [((.ro (.int .i64)), false), ((.ro (.int .i64)), false)], res := [(.row false (.int .i16))], slots := [.tmp 4], code := bd Try.f149, loops := fun b => find [] [(0, [.own 0 (.ro (.int .i64)), .own 1 (.ro (.int .i64)), .own 5 (.row false (.int .i16)), .own 6 (.ro (.int .i64))])] b, deep := fun r i => find false [(1000, true), (5003, true), (5004, true)] (r * 1000 + i) }
/- spec.l06Cut -/
noncomputable def I150 : Inst := { f := 150, nt := 73, params := [((.ro (.slc (.int .i16))), false), ((.ro (.slc (.int .i16))), false), ((.ro (.int .i64)), false), ((.ro (.int .i64)), false)], res := [(.row false (.int .i16)), (.ro (.int .i64))], slots := [.tmp 8, .tmp 9], code := bd Try.f150, loops := fun b => find [] [(0, [.own 1 (.ro (.slc (.int .i16))), .own 2 (.ro (.int .i64)), .own 3 (.ro (.int .i64)), .own 10 (.row false (.int .i16)), .own 11 (.ro (.int .i64)), .own 12 (.ro (.int .i64)), .own 13 (.ro (.int .i64)), .own 14 (.ro (.int .i64))])] b, deep := fun r i => find false [(1000, true), (1002, true)] (r * 1000 + i) }
/- spec.IdleCuts -/
noncomputable def I59 : Inst := { f := 59, nt := 78, params := [((.ro (.int .i64)), false), ((.ro (.int .i64)), false), ((.ro (.slc (.slc (.int .i16)))), false), ((.ro (.slc (.pair (.int .i16) (.pair (.int .i16) (.pair (.int .i8) .unit))))), false)], res := [(.row false (.int .i64)), (.ro (.int .i64))], slots := [.tmp 8, .tmp 9], code := bd Try.f59, callee := fun r i => find 0 [(1002, 147), (3001, 117), (3005, 108), (3011, 148), (5002, 149), (10021, 150)] (r * 1000 + i), loops := fun b => find [] [(0, [.own 2 (.ro (.slc (.slc (.int .i16)))), .own 3 (.ro (.slc (.pair (.int .i16) (.pair (.int .i16) (.pair (.int .i8) .unit))))), .own 10 (.ro (.slc (.int .i16))), .own 11 (.row false (.int .i64)), .own 12 (.ro (.int .i64))])] b, deep := fun r i => find false [(2000, true), (4000, true), (6000, true), (13002, true), (13003, true)] (r * 1000 + i) }
/- impl.inRange -/
noncomputable def I91 : Inst := { f := 91, nt := 15, params := [((.ro (.int .i64)), false), ((.ro (.int .i64)), false), ((.ro (.int .i64)), false)], res := [(.ro .bool)], slots := [.tmp 6], code := bd Try.f91 }
/- impl.isCount -/
noncomputable def I194 : Inst := { f := 194, nt := 6, params := [((.ro (.slc (.slc (.int .i16)))), false)], res := [(.ro .bool)], slots := [.tmp 2], code := bd Try.f194, callee := fun r i => find 0 [(1002, 91)] (r * 1000 + i) }
/- impl.isLift -/
noncomputable def I114 : Inst := { f := 114, nt := 5, params := [((.ro (.int .i64)), false)], res := [(.ro .bool)], slots := [.tmp 2], code := bd Try.f114, callee := fun r i => find 0 [(1001, 91)] (r * 1000 + i) }
/- impl.ValidCutter -/
noncomputable def I214 : Inst := { f := 214, nt := 61, params := [((.ro (.slc (.int .i16))), false)], res := [(.ro .bool)], slots := [.tmp 2], code := bd Try.f214, callee := fun r i => find 0 [(7002, 114)] (r * 1000 + i), loops := fun b => find [] [(0, [.own 0 (.ro (.slc (.int .i16))), .own 3 (.ro (.int .i64)), .own 23 (.ro (.slc (.int .i16))), .own 24 (.ro (.int .i64)), .own 25 (.ro (.int .i64))])] b }
/- impl.areCutters$1 -/
noncomputable def I213 : Inst := { f := 213, nt := 6, params := [((.ro (.slc (.int .i16))), false)], res := [(.ro .bool)], slots := [.tmp 2], code := bd Try.f213, callee := fun r i => find 0 [(1001, 214)] (r * 1000 + i) }
/- impl.Cutter] -/
noncomputable def I220 : Inst := { f := 220, nt := 19, params := [((.ro (.slc (.slc (.int .i16)))), false), ((.clo 213 (.ro .unit) (.ro .unit)), false)], res := [(.ro (.int .i64))], slots := [.tmp 4], code := bd Try.f220, callee := fun r i => find 0 [(4005, 213)] (r * 1000 + i), loops := fun b => find [] [(0, [.own 0 (.ro (.slc (.slc (.int .i16)))), .own 1 (.clo 213 (.ro .unit) (.ro .unit)), .own 7 (.ro (.int .i64)), .own 8 (.ro (.int .i64))])] b }
/- impl.Cutter] -/
noncomputable def I212 : Inst := { f := 212, nt := 9, params := [((.ro (.slc (.slc (.int .i16)))), false), ((.clo 213 (.ro .unit) (.ro .unit)), false)], res := [(.ro .bool)], slots := [.tmp 4], code := bd Try.f212, callee := fun r i => find 0 [(1002, 220)] (r * 1000 + i) }
/- impl.areCutters -/
noncomputable def I195 : Inst := { f := 195, nt := 6, params := [((.ro (.slc (.slc (.int .i16)))), false)], res := [(.ro .bool)], slots := [.tmp 2], code := bd Try.f195, callee := fun r i => find 0 [(1001, 212)] (r * 1000 + i) }
/- impl.isPlace -/
noncomputable def I176 : Inst := { f := 176, nt := 9, params := [((.ro (.int .i64)), false), ((.ro (.int .i64)), false)], res := [(.ro .bool)], slots := [.tmp 4], code := bd Try.f176, callee := fun r i => find 0 [(1003, 91)] (r * 1000 + i) }
/- impl.areCuts$1 -/
noncomputable def I215 : Inst := { f := 215, nt := 24, params := [((.ro (.pair (.int .i16) (.pair (.int .i16) (.pair (.int .i8) .unit)))), false), ((.box (.ro (.int .i64))), true)], res := [(.ro .bool)], slots := [.tmp 3], code := bd Try.f215, callee := fun r i => find 0 [(1003, 91), (1009, 114), (1017, 176)] (r * 1000 + i), pins := [1] }
/- impl.Cut] -/
noncomputable def I216 : Inst := { f := 216, nt := 19, params := [((.ro (.slc (.pair (.int .i16) (.pair (.int .i16) (.pair (.int .i8) .unit))))), false), ((.clo 215 (.ro .unit) (.pr (.box (.ro (.int .i64))) (.ro .unit))), true)], res := [(.ro (.int .i64))], slots := [.tmp 4], code := bd Try.f216, strict := true, callee := fun r i => find 0 [(4005, 215)] (r * 1000 + i), loops := fun b => find [] [(0, [.own 0 (.ro (.slc (.pair (.int .i16) (.pair (.int .i16) (.pair (.int .i8) .unit))))), .own 1 (.clo 215 (.ro .unit) (.pr (.box (.ro (.int .i64))) (.ro .unit))), .own 7 (.ro (.int .i64)), .own 8 (.ro (.int .i64))])] b, pins := [1] }
/- impl.Cut] -/
noncomputable def I197 : Inst := { f := 197, nt := 9, params := [((.ro (.slc (.pair (.int .i16) (.pair (.int .i16) (.pair (.int .i8) .unit))))), false), ((.clo 215 (.ro .unit) (.pr (.box (.ro (.int .i64))) (.ro .unit))), true)], res := [(.ro .bool)], slots := [.tmp 4], code := bd Try.f197, strict := true, callee := fun r i => find 0 [(1002, 216)] (r * 1000 + i), pins := [1] }
/- impl.areCuts -/
noncomputable def I196 : Inst := { f := 196, nt := 14, params := [((.ro (.slc (.pair (.int .i16) (.pair (.int .i16) (.pair (.int .i8) .unit))))), false), ((.ro (.int .i64)), false)], res := [(.ro .bool)], slots := [.tmp 4], code := bd Try.f196, callee := fun r i => find 0 [(1006, 197)] (r * 1000 + i) }
/- impl.ValidCuts -/
noncomputable def I153 : Inst := { f := 153, nt := 17, params := [((.ro (.slc (.pair (.int .i16) (.pair (.int .i16) (.pair (.int .i8) .unit))))), false), ((.ro (.slc (.slc (.int .i16)))), false)], res := [(.ro .bool)], slots := [.tmp 4], code := bd Try.f153, callee := fun r i => find 0 [(1001, 194), (1004, 195), (1010, 196)] (r * 1000 + i) }
/- impl.codeIf -/
noncomputable def I90 : Inst := { f := 90, nt := 7, params := [((.ro .bool), false), ((.ro (.int .i64)), false)], res := [(.ro (.int .i64))], slots := [.tmp 4], code := bd Try.f90 }
/- impl.isSteps -/
noncomputable def I115 : Inst := { f := 115, nt := 5, params := [((.ro (.int .i64)), false)], res := [(.ro .bool)], slots := [.tmp 2], code := bd Try.f115, callee := fun r i => find 0 [(1001, 91)] (r * 1000 + i) }
/- impl.areOn$1 -/
noncomputable def I198 : Inst := { f := 198, nt := 9, params := [((.ro (.pair (.int .i16) (.pair (.int .i16) (.pair (.int .i8) .unit)))), false), ((.box (.ro (.int .i64))), true)], res := [(.ro .bool)], slots := [.tmp 3], code := bd Try.f198, pins := [1] }
/- impl.Cut] -/
noncomputable def I1216 : Inst := { f := 216, nt := 19, params := [((.ro (.slc (.pair (.int .i16) (.pair (.int .i16) (.pair (.int .i8) .unit))))), false), ((.clo 198 (.ro .unit) (.pr (.box (.ro (.int .i64))) (.ro .unit))), true)], res := [(.ro (.int .i64))], slots := [.tmp 4], code := bd Try.f216, strict := true, callee := fun r i => find 0 [(4005, 198)] (r * 1000 + i), loops := fun b => find [] [(0, [.own 0 (.ro (.slc (.pair (.int .i16) (.pair (.int .i16) (.pair (.int .i8) .unit))))), .own 1 (.clo 198 (.ro .unit) (.pr (.box (.ro (.int .i64))) (.ro .unit))), .own 7 (.ro (.int .i64)), .own 8 (.ro (.int .i64))])] b, pins := [1] }
/- impl.Cut] -/
noncomputable def I1197 : Inst := { f := 197, nt := 9, params := [((.ro (.slc (.pair (.int .i16) (.pair (.int .i16) (.pair (.int .i8) .unit))))), false), ((.clo 198 (.ro .unit) (.pr (.box (.ro (.int .i64))) (.ro .unit))), true)], res := [(.ro .bool)], slots := [.tmp 4], code := bd Try.f197, strict := true, callee := fun r i => find 0 [(1002, 1216)] (r * 1000 + i), pins := [1] }
/- impl.areOn -/
noncomputable def I154 : Inst := { f := 154, nt := 9, params := [((.ro (.slc (.pair (.int .i16) (.pair (.int .i16) (.pair (.int .i8) .unit))))), false), ((.ro (.int .i64)), false)], res := [(.ro .bool)], slots := [.tmp 4], code := bd Try.f154, callee := fun r i => find 0 [(1002, 1197)] (r * 1000 + i) }
/- impl.firstCode -/
noncomputable def I88 : Inst := { f := 88, nt := 15, params := [((.ro (.slc (.int .i64))), false)], res := [(.ro (.int .i64))], slots := [.tmp 2], code := bd Try.f88, loops := fun b => find [] [(0, [.own 5 (.ro (.slc (.int .i64))), .own 6 (.ro (.int .i64)), .own 7 (.ro (.int .i64))])] b }
/- impl.FlatCam$1 -/
noncomputable def I199 : Inst := { f := 199, nt := 5, params := [((.ro (.int .i64)), false), ((.box (.ro (.int .i64))), true)], res := [(.ro (.int .i64))], slots := [.tmp 3], code := bd Try.f199, pins := [1] }
/- impl.camOf -/
noncomputable def I131 : Inst := { f := 131, nt := 27, params := [((.ro (.int .i64)), false), ((.clo 199 (.ro .unit) (.pr (.box (.ro (.int .i64))) (.ro .unit))), true)], res := [(.row false (.int .i16)), (.ro (.int .i64))], slots := [.tmp 4, .tmp 5], code := bd Try.f131, strict := true, callee := fun r i => find 0 [(5002, 199), (6001, 114)] (r * 1000 + i), loops := fun b => find [] [(0, [.own 1 (.clo 199 (.ro .unit) (.pr (.box (.ro (.int .i64))) (.ro .unit))), .own 6 (.row false (.int .i16)), .own 10 (.ro (.int .i64)), .own 11 (.ro (.int .i64))])] b, pins := [1], deep := fun r i => find false [(1000, true), (8003, true), (8004, true)] (r * 1000 + i) }
/- impl.FlatCam -/
noncomputable def I155 : Inst := { f := 155, nt := 19, params := [((.ro (.int .i64)), false), ((.ro (.int .i64)), false)], res := [(.row false (.int .i16)), (.ro (.int .i64))], slots := [.tmp 4, .tmp 5], code := bd Try.f155, callee := fun r i => find 0 [(1001, 115), (1005, 114), (3002, 131)] (r * 1000 + i) }
/- impl.Cam).steps -/
noncomputable def I132 : Inst := { f := 132, nt := 5, params := [((.ro (.slc (.int .i16))), false)], res := [(.ro (.int .i64))], slots := [.tmp 2], code := bd Try.f132 }
/- impl.floorDiv -/
noncomputable def I210 : Inst := { f := 210, nt := 16, params := [((.ro (.int .i64)), false), ((.ro (.int .i64)), false)], res := [(.ro (.int .i64))], slots := [.tmp 4], code := bd Try.f210 }
/- impl.mod -/
noncomputable def I188 : Inst := { f := 188, nt := 12, params := [((.ro (.int .i64)), false), ((.ro (.int .i64)), false)], res := [(.ro (.int .i64))], slots := [.tmp 4], code := bd Try.f188, callee := fun r i => find 0 [(1004, 210)] (r * 1000 + i) }
/- impl.Cam).cut$1 -/
noncomputable def I218 : Inst := { f := 218, nt := 37, params := [((.ro (.int .i64)), false), ((.ro (.int .i64)), false), ((.pin false (.int .i16)), true), ((.box (.ro (.int .i64))), true), ((.box (.ro (.int .i64))), true)], res := [], slots := [], code := bd Try.f218, strict := true, callee := fun r i => find 0 [(2, 132), (3, 188)] (r * 1000 + i), pins := [2, 3, 4] }
/- impl.Cutter).each -/
noncomputable def I217 : Inst := { f := 217, nt := 29, params := [((.ro (.slc (.int .i16))), false), ((.ro (.int .i64)), false), ((.clo 218 (.ro .unit) (.pr (.pin false (.int .i16)) (.pr (.box (.ro (.int .i64))) (.pr (.box (.ro (.int .i64))) (.ro .unit))))), true)], res := [], slots := [], code := bd Try.f217, strict := true, callee := fun r i => find 0 [(4008, 218)] (r * 1000 + i), loops := fun b => find [] [(0, [.own 1 (.ro (.int .i64)), .own 2 (.clo 218 (.ro .unit) (.pr (.pin false (.int .i16)) (.pr (.box (.ro (.int .i64))) (.pr (.box (.ro (.int .i64))) (.ro .unit))))), .own 6 (.ro (.int .i64)), .own 12 (.ro (.slc (.int .i16))), .own 13 (.ro (.int .i64)), .own 14 (.ro (.int .i64))])] b, pins := [2] }
/- impl.Cam).cut -/
noncomputable def I200 : Inst := { f := 200, nt := 15, params := [((.row false (.int .i16)), true), ((.ro (.slc (.int .i16))), false), ((.ro (.int .i64)), false), ((.ro (.int .i64)), false)], res := [(.ro (.int .i64))], slots := [.tmp 8], code := bd Try.f200, callee := fun r i => find 0 [(2003, 217)] (r * 1000 + i), pins := [0], frz := fun r i => find false [(0, true)] (r * 1000 + i) }
/- impl.Cam).do -/
noncomputable def I156 : Inst := { f := 156, nt := 20, params := [((.row false (.int .i16)), true), ((.ro (.slc (.slc (.int .i16)))), false), ((.ro (.pair (.int .i16) (.pair (.int .i16) (.pair (.int .i8) .unit)))), false)], res := [(.ro (.int .i64))], slots := [.tmp 6], code := bd Try.f156, callee := fun r i => find 0 [(1012, 200)] (r * 1000 + i), pins := [0] }
/- impl.IdleCuts -/
noncomputable def I62 : Inst := { f := 62, nt := 66, params := [((.ro (.int .i64)), false), ((.ro (.int .i64)), false), ((.ro (.slc (.slc (.int .i16)))), false), ((.ro (.slc (.pair (.int .i16) (.pair (.int .i16) (.pair (.int .i8) .unit))))), false)], res := [(.row false (.int .i64)), (.ro (.int .i64))], slots := [.tmp 8, .tmp 9], code := bd Try.f62, callee := fun r i => find 0 [(1002, 153), (1004, 90), (1006, 114), (1010, 115), (1016, 154), (1019, 90), (1021, 88), (4002, 155), (9003, 156)] (r * 1000 + i), loops := fun b => find [] [(0, [.own 2 (.ro (.slc (.slc (.int .i16)))), .own 11 (.row false (.int .i16)), .own 13 (.row false (.int .i64)), .own 48 (.ro (.slc (.pair (.int .i16) (.pair (.int .i16) (.pair (.int .i8) .unit))))), .own 49 (.ro (.int .i64)), .own 50 (.ro (.int .i64))])] b, deep := fun r i => find false [(1020, true), (5000, true), (10002, true), (10003, true)] (r * 1000 + i), frz := fun r i => find false [(1020, true)] (r * 1000 + i) }
/- laws.eqInt64S -/
noncomputable def I63 : Inst := { f := 63, nt := 26, params := [((.ro (.slc (.int .i64))), false), ((.ro (.slc (.int .i64))), false)], res := [(.ro .bool)], slots := [.tmp 4], code := bd Try.f63, loops := fun b => find [] [(0, [.own 0 (.ro (.slc (.int .i64))), .own 1 (.ro (.slc (.int .i64))), .own 5 (.ro (.int .i64))])] b }
/- laws.eqCutter -/
noncomputable def I157 : Inst := { f := 157, nt := 26, params := [((.ro (.slc (.int .i16))), false), ((.ro (.slc (.int .i16))), false)], res := [(.ro .bool)], slots := [.tmp 4], code := bd Try.f157, loops := fun b => find [] [(0, [.own 0 (.ro (.slc (.int .i16))), .own 1 (.ro (.slc (.int .i16))), .own 5 (.ro (.int .i64))])] b }
/- laws.eqCutterS -/
noncomputable def I64 : Inst := { f := 64, nt := 27, params := [((.ro (.slc (.slc (.int .i16)))), false), ((.ro (.slc (.slc (.int .i16)))), false)], res := [(.ro .bool)], slots := [.tmp 4], code := bd Try.f64, callee := fun r i => find 0 [(6008, 157)] (r * 1000 + i), loops := fun b => find [] [(0, [.own 0 (.ro (.slc (.slc (.int .i16)))), .own 1 (.ro (.slc (.slc (.int .i16)))), .own 5 (.ro (.int .i64))])] b }
/- laws.eqCut -/
noncomputable def I158 : Inst := { f := 158, nt := 20, params := [((.ro (.pair (.int .i16) (.pair (.int .i16) (.pair (.int .i8) .unit)))), false), ((.ro (.pair (.int .i16) (.pair (.int .i16) (.pair (.int .i8) .unit)))), false)], res := [(.ro .bool)], slots := [.tmp 4], code := bd Try.f158 }
/- laws.eqCutS -/
noncomputable def I65 : Inst := { f := 65, nt := 27, params := [((.ro (.slc (.pair (.int .i16) (.pair (.int .i16) (.pair (.int .i8) .unit))))), false), ((.ro (.slc (.pair (.int .i16) (.pair (.int .i16) (.pair (.int .i8) .unit))))), false)], res := [(.ro .bool)], slots := [.tmp 4], code := bd Try.f65, callee := fun r i => find 0 [(6008, 158)] (r * 1000 + i), loops := fun b => find [] [(0, [.own 0 (.ro (.slc (.pair (.int .i16) (.pair (.int .i16) (.pair (.int .i8) .unit))))), .own 1 (.ro (.slc (.pair (.int .i16) (.pair (.int .i16) (.pair (.int .i8) .unit))))), .own 5 (.ro (.int .i64))])] b }
/- laws.markCutter -/
noncomputable def I159 : Inst := { f := 159, nt := 20, params := [((.row false (.int .i16)), true), ((.ro (.int .i64)), false)], res := [(.ro (.int .i64))], slots := [.tmp 4], code := bd Try.f159, loops := fun b => find [] [(0, [.own 0 (.row false (.int .i16)), .own 1 (.ro (.int .i64)), .own 5 (.ro (.int .i64))])] b, pins := [0] }
/- laws.markCutterS -/
noncomputable def I66 : Inst := { f := 66, nt := 19, params := [((.row true (.slc (.int .i16))), true), ((.ro (.int .i64)), false)], res := [(.ro (.int .i64))], slots := [.tmp 4], code := bd Try.f66, callee := fun r i => find 0 [(4005, 159)] (r * 1000 + i), loops := fun b => find [] [(0, [.own 0 (.row true (.slc (.int .i16))), .own 1 (.ro (.int .i64)), .own 5 (.ro (.int .i64))])] b, pins := [0], deep := fun r i => find false [(4003, true)] (r * 1000 + i) }
/- laws.markCutS -/
noncomputable def I67 : Inst := { f := 67, nt := 37, params := [((.row false (.pair (.int .i16) (.pair (.int .i16) (.pair (.int .i8) .unit)))), true), ((.ro (.int .i64)), false)], res := [(.ro (.int .i64))], slots := [.tmp 4], code := bd Try.f67, loops := fun b => find [] [(0, [.own 0 (.row false (.pair (.int .i16) (.pair (.int .i16) (.pair (.int .i8) .unit)))), .own 1 (.ro (.int .i64)), .own 5 (.ro (.int .i64))])] b, pins := [0] }
/- laws.markInt64S -/
noncomputable def I68 : Inst := { f := 68, nt := 19, params := [((.row false (.int .i64)), true), ((.ro (.int .i64)), false)], res := [(.ro (.int .i64))], slots := [.tmp 4], code := bd Try.f68, loops := fun b => find [] [(0, [.own 0 (.row false (.int .i64)), .own 1 (.ro (.int .i64)), .own 5 (.ro (.int .i64))])] b, pins := [0] }
/- laws.heldInt64S -/
noncomputable def I69 : Inst := { f := 69, nt := 21, params := [((.ro (.slc (.int .i64))), false), ((.ro (.int .i64)), false)], res := [(.ro (.int .i64))], slots := [.tmp 4], code := bd Try.f69, loops := fun b => find [] [(0, [.own 0 (.ro (.slc (.int .i64))), .own 1 (.ro (.int .i64)), .own 5 (.ro (.int .i64))])] b }
/- laws.FnExactIdleCuts -/
noncomputable def I8 : Inst := { f := 8, nt := 129, params := [((.ro (.int .i64)), false), ((.ro (.int .i64)), false), ((.ro (.slc (.slc (.int .i16)))), false), ((.ro (.slc (.pair (.int .i16) (.pair (.int .i16) (.pair (.int .i8) .unit))))), false)], res := [(.ro .bool)], slots := [.tmp 8], code := bd Try.f8, callee := fun r i => find 0 [(2002, 57), (5002, 58), (8003, 60), (8005, 61), (8006, 59), (9001, 60), (10001, 61), (11004, 62), (12002, 63), (14002, 60), (14003, 64), (16002, 61), (16003, 65), (19002, 66), (20002, 67), (21005, 63), (24002, 68), (26002, 69), (31003, 60), (31005, 61), (31006, 62), (32002, 63), (35002, 69)] (r * 1000 + i) }
noncomputable def CL : List (Nat × Inst) := [(146, I146), (57, I57), (58, I58), (151, I151), (60, I60), (152, I152), (61, I61), (85, I85), (191, I191), (108, I108), (211, I211), (192, I192), (193, I193), (147, I147), (117, I117), (148, I148), (149, I149), (150, I150), (59, I59), (91, I91), (194, I194), (114, I114), (214, I214), (213, I213), (220, I220), (212, I212), (195, I195), (176, I176), (215, I215), (216, I216), (197, I197), (196, I196), (153, I153), (90, I90), (115, I115), (198, I198), (1216, I1216), (1197, I1197), (154, I154), (88, I88), (199, I199), (131, I131), (155, I155), (132, I132), (210, I210), (188, I188), (218, I218), (217, I217), (200, I200), (156, I156), (62, I62), (63, I63), (157, I157), (64, I64), (158, I158), (65, I65), (159, I159), (66, I66), (67, I67), (68, I68), (69, I69), (8, I8)]
noncomputable def C : Nat → Inst := find I146 CL
theorem tsOk : TsOk Try.prog T := tsOkB_sound (by kernel_rfl)
theorem ok146 : InstOk Try.prog I146 := instOk_of Try.func146 (by kernel_rfl) (by kernel_rfl) (by kernel_rfl) (by kernel_rfl)
theorem ok57 : InstOk Try.prog I57 := instOk_of Try.func57 (by kernel_rfl) (by kernel_rfl) (by kernel_rfl) (by kernel_rfl)
theorem ok58 : InstOk Try.prog I58 := instOk_of Try.func58 (by kernel_rfl) (by kernel_rfl) (by kernel_rfl) (by kernel_rfl)
theorem ok151 : InstOk Try.prog I151 := instOk_of Try.func151 (by kernel_rfl) (by kernel_rfl) (by kernel_rfl) (by kernel_rfl)
theorem ok60 : InstOk Try.prog I60 := instOk_of Try.func60 (by kernel_rfl) (by kernel_rfl) (by kernel_rfl) (by kernel_rfl)
theorem ok152 : InstOk Try.prog I152 := instOk_of Try.func152 (by kernel_rfl) (by kernel_rfl) (by kernel_rfl) (by kernel_rfl)
theorem ok61 : InstOk Try.prog I61 := instOk_of Try.func61 (by kernel_rfl) (by kernel_rfl) (by kernel_rfl) (by kernel_rfl)
theorem ok85 : InstOk Try.prog I85 := instOk_of Try.func85 (by kernel_rfl) (by kernel_rfl) (by kernel_rfl) (by kernel_rfl)
theorem ok191 : InstOk Try.prog I191 := instOk_of Try.func191 (by kernel_rfl) (by kernel_rfl) (by kernel_rfl) (by kernel_rfl)
theorem ok108 : InstOk Try.prog I108 := instOk_of Try.func108 (by kernel_rfl) (by kernel_rfl) (by kernel_rfl) (by kernel_rfl)
theorem ok211 : InstOk Try.prog I211 := instOk_of Try.func211 (by kernel_rfl) (by kernel_rfl) (by kernel_rfl) (by kernel_rfl)
theorem ok192 : InstOk Try.prog I192 := instOk_of Try.func192 (by kernel_rfl) (by kernel_rfl) (by kernel_rfl) (by kernel_rfl)
theorem ok193 : InstOk Try.prog I193 := instOk_of Try.func193 (by kernel_rfl) (by kernel_rfl) (by kernel_rfl) (by kernel_rfl)
theorem ok147 : InstOk Try.prog I147 := instOk_of Try.func147 (by kernel_rfl) (by kernel_rfl) (by kernel_rfl) (by kernel_rfl)
theorem ok117 : InstOk Try.prog I117 := instOk_of Try.func117 (by kernel_rfl) (by kernel_rfl) (by kernel_rfl) (by kernel_rfl)
theorem ok148 : InstOk Try.prog I148 := instOk_of Try.func148 (by kernel_rfl) (by kernel_rfl) (by kernel_rfl) (by kernel_rfl)
theorem ok149 : InstOk Try.prog I149 := instOk_of Try.func149 (by kernel_rfl) (by kernel_rfl) (by kernel_rfl) (by kernel_rfl)
theorem ok150 : InstOk Try.prog I150 := instOk_of Try.func150 (by kernel_rfl) (by kernel_rfl) (by kernel_rfl) (by kernel_rfl)
theorem ok59 : InstOk Try.prog I59 := instOk_of Try.func59 (by kernel_rfl) (by kernel_rfl) (by kernel_rfl) (by kernel_rfl)
theorem ok91 : InstOk Try.prog I91 := instOk_of Try.func91 (by kernel_rfl) (by kernel_rfl) (by kernel_rfl) (by kernel_rfl)
theorem ok194 : InstOk Try.prog I194 := instOk_of Try.func194 (by kernel_rfl) (by kernel_rfl) (by kernel_rfl) (by kernel_rfl)
theorem ok114 : InstOk Try.prog I114 := instOk_of Try.func114 (by kernel_rfl) (by kernel_rfl) (by kernel_rfl) (by kernel_rfl)
theorem ok214 : InstOk Try.prog I214 := instOk_of Try.func214 (by kernel_rfl) (by kernel_rfl) (by kernel_rfl) (by kernel_rfl)
theorem ok213 : InstOk Try.prog I213 := instOk_of Try.func213 (by kernel_rfl) (by kernel_rfl) (by kernel_rfl) (by kernel_rfl)
theorem ok220 : InstOk Try.prog I220 := instOk_of Try.func220 (by kernel_rfl) (by kernel_rfl) (by kernel_rfl) (by kernel_rfl)
theorem ok212 : InstOk Try.prog I212 := instOk_of Try.func212 (by kernel_rfl) (by kernel_rfl) (by kernel_rfl) (by kernel_rfl)
theorem ok195 : InstOk Try.prog I195 := instOk_of Try.func195 (by kernel_rfl) (by kernel_rfl) (by kernel_rfl) (by kernel_rfl)
theorem ok176 : InstOk Try.prog I176 := instOk_of Try.func176 (by kernel_rfl) (by kernel_rfl) (by kernel_rfl) (by kernel_rfl)
theorem ok215 : InstOk Try.prog I215 := instOk_of Try.func215 (by kernel_rfl) (by kernel_rfl) (by kernel_rfl) (by kernel_rfl)
theorem ok216 : InstOk Try.prog I216 := instOk_of Try.func216 (by kernel_rfl) (by kernel_rfl) (by kernel_rfl) (by kernel_rfl)
theorem ok197 : InstOk Try.prog I197 := instOk_of Try.func197 (by kernel_rfl) (by kernel_rfl) (by kernel_rfl) (by kernel_rfl)
theorem ok196 : InstOk Try.prog I196 := instOk_of Try.func196 (by kernel_rfl) (by kernel_rfl) (by kernel_rfl) (by kernel_rfl)
theorem ok153 : InstOk Try.prog I153 := instOk_of Try.func153 (by kernel_rfl) (by kernel_rfl) (by kernel_rfl) (by kernel_rfl)
theorem ok90 : InstOk Try.prog I90 := instOk_of Try.func90 (by kernel_rfl) (by kernel_rfl) (by kernel_rfl) (by kernel_rfl)
theorem ok115 : InstOk Try.prog I115 := instOk_of Try.func115 (by kernel_rfl) (by kernel_rfl) (by kernel_rfl) (by kernel_rfl)
theorem ok198 : InstOk Try.prog I198 := instOk_of Try.func198 (by kernel_rfl) (by kernel_rfl) (by kernel_rfl) (by kernel_rfl)
theorem ok1216 : InstOk Try.prog I1216 := instOk_of Try.func216 (by kernel_rfl) (by kernel_rfl) (by kernel_rfl) (by kernel_rfl)
theorem ok1197 : InstOk Try.prog I1197 := instOk_of Try.func197 (by kernel_rfl) (by kernel_rfl) (by kernel_rfl) (by kernel_rfl)
theorem ok154 : InstOk Try.prog I154 := instOk_of Try.func154 (by kernel_rfl) (by kernel_rfl) (by kernel_rfl) (by kernel_rfl)
theorem ok88 : InstOk Try.prog I88 := instOk_of Try.func88 (by kernel_rfl) (by kernel_rfl) (by kernel_rfl) (by kernel_rfl)
theorem ok199 : InstOk Try.prog I199 := instOk_of Try.func199 (by kernel_rfl) (by kernel_rfl) (by kernel_rfl) (by kernel_rfl)
theorem ok131 : InstOk Try.prog I131 := instOk_of Try.func131 (by kernel_rfl) (by kernel_rfl) (by kernel_rfl) (by kernel_rfl)
theorem ok155 : InstOk Try.prog I155 := instOk_of Try.func155 (by kernel_rfl) (by kernel_rfl) (by kernel_rfl) (by kernel_rfl)
theorem ok132 : InstOk Try.prog I132 := instOk_of Try.func132 (by kernel_rfl) (by kernel_rfl) (by kernel_rfl) (by kernel_rfl)
theorem ok210 : InstOk Try.prog I210 := instOk_of Try.func210 (by kernel_rfl) (by kernel_rfl) (by kernel_rfl) (by kernel_rfl)
theorem ok188 : InstOk Try.prog I188 := instOk_of Try.func188 (by kernel_rfl) (by kernel_rfl) (by kernel_rfl) (by kernel_rfl)
theorem ok218 : InstOk Try.prog I218 := instOk_of Try.func218 (by kernel_rfl) (by kernel_rfl) (by kernel_rfl) (by kernel_rfl)
theorem ok217 : InstOk Try.prog I217 := instOk_of Try.func217 (by kernel_rfl) (by kernel_rfl) (by kernel_rfl) (by kernel_rfl)
theorem ok200 : InstOk Try.prog I200 := instOk_of Try.func200 (by kernel_rfl) (by kernel_rfl) (by kernel_rfl) (by kernel_rfl)
theorem ok156 : InstOk Try.prog I156 := instOk_of Try.func156 (by kernel_rfl) (by kernel_rfl) (by kernel_rfl) (by kernel_rfl)
theorem ok62 : InstOk Try.prog I62 := instOk_of Try.func62 (by kernel_rfl) (by kernel_rfl) (by kernel_rfl) (by kernel_rfl)
theorem ok63 : InstOk Try.prog I63 := instOk_of Try.func63 (by kernel_rfl) (by kernel_rfl) (by kernel_rfl) (by kernel_rfl)
theorem ok157 : InstOk Try.prog I157 := instOk_of Try.func157 (by kernel_rfl) (by kernel_rfl) (by kernel_rfl) (by kernel_rfl)
theorem ok64 : InstOk Try.prog I64 := instOk_of Try.func64 (by kernel_rfl) (by kernel_rfl) (by kernel_rfl) (by kernel_rfl)
theorem ok158 : InstOk Try.prog I158 := instOk_of Try.func158 (by kernel_rfl) (by kernel_rfl) (by kernel_rfl) (by kernel_rfl)
theorem ok65 : InstOk Try.prog I65 := instOk_of Try.func65 (by kernel_rfl) (by kernel_rfl) (by kernel_rfl) (by kernel_rfl)
theorem ok159 : InstOk Try.prog I159 := instOk_of Try.func159 (by kernel_rfl) (by kernel_rfl) (by kernel_rfl) (by kernel_rfl)
theorem ok66 : InstOk Try.prog I66 := instOk_of Try.func66 (by kernel_rfl) (by kernel_rfl) (by kernel_rfl) (by kernel_rfl)
theorem ok67 : InstOk Try.prog I67 := instOk_of Try.func67 (by kernel_rfl) (by kernel_rfl) (by kernel_rfl) (by kernel_rfl)
theorem ok68 : InstOk Try.prog I68 := instOk_of Try.func68 (by kernel_rfl) (by kernel_rfl) (by kernel_rfl) (by kernel_rfl)
theorem ok69 : InstOk Try.prog I69 := instOk_of Try.func69 (by kernel_rfl) (by kernel_rfl) (by kernel_rfl) (by kernel_rfl)
theorem ok8 : InstOk Try.prog I8 := instOk_of Try.func8 (by kernel_rfl) (by kernel_rfl) (by kernel_rfl) (by kernel_rfl)
theorem insts : ∀ j, InstOk Try.prog (C j) := find_all ok146 (List.forall_mem_cons.2 ⟨ok146, List.forall_mem_cons.2 ⟨ok57, List.forall_mem_cons.2 ⟨ok58, List.forall_mem_cons.2 ⟨ok151, List.forall_mem_cons.2 ⟨ok60, List.forall_mem_cons.2 ⟨ok152, List.forall_mem_cons.2 ⟨ok61, List.forall_mem_cons.2 ⟨ok85, List.forall_mem_cons.2 ⟨ok191, List.forall_mem_cons.2 ⟨ok108, List.forall_mem_cons.2 ⟨ok211, List.forall_mem_cons.2 ⟨ok192, List.forall_mem_cons.2 ⟨ok193, List.forall_mem_cons.2 ⟨ok147, List.forall_mem_cons.2 ⟨ok117, List.forall_mem_cons.2 ⟨ok148, List.forall_mem_cons.2 ⟨ok149, List.forall_mem_cons.2 ⟨ok150, List.forall_mem_cons.2 ⟨ok59, List.forall_mem_cons.2 ⟨ok91, List.forall_mem_cons.2 ⟨ok194, List.forall_mem_cons.2 ⟨ok114, List.forall_mem_cons.2 ⟨ok214, List.forall_mem_cons.2 ⟨ok213, List.forall_mem_cons.2 ⟨ok220, List.forall_mem_cons.2 ⟨ok212, List.forall_mem_cons.2 ⟨ok195, List.forall_mem_cons.2 ⟨ok176, List.forall_mem_cons.2 ⟨ok215, List.forall_mem_cons.2 ⟨ok216, List.forall_mem_cons.2 ⟨ok197, List.forall_mem_cons.2 ⟨ok196, List.forall_mem_cons.2 ⟨ok153, List.forall_mem_cons.2 ⟨ok90, List.forall_mem_cons.2 ⟨ok115, List.forall_mem_cons.2 ⟨ok198, List.forall_mem_cons.2 ⟨ok1216, List.forall_mem_cons.2 ⟨ok1197, List.forall_mem_cons.2 ⟨ok154, List.forall_mem_cons.2 ⟨ok88, List.forall_mem_cons.2 ⟨ok199, List.forall_mem_cons.2 ⟨ok131, List.forall_mem_cons.2 ⟨ok155, List.forall_mem_cons.2 ⟨ok132, List.forall_mem_cons.2 ⟨ok210, List.forall_mem_cons.2 ⟨ok188, List.forall_mem_cons.2 ⟨ok218, List.forall_mem_cons.2 ⟨ok217, List.forall_mem_cons.2 ⟨ok200, List.forall_mem_cons.2 ⟨ok156, List.forall_mem_cons.2 ⟨ok62, List.forall_mem_cons.2 ⟨ok63, List.forall_mem_cons.2 ⟨ok157, List.forall_mem_cons.2 ⟨ok64, List.forall_mem_cons.2 ⟨ok158, List.forall_mem_cons.2 ⟨ok65, List.forall_mem_cons.2 ⟨ok159, List.forall_mem_cons.2 ⟨ok66, List.forall_mem_cons.2 ⟨ok67, List.forall_mem_cons.2 ⟨ok68, List.forall_mem_cons.2 ⟨ok69, List.forall_mem_cons.2 ⟨ok8, fun _ h => absurd h List.not_mem_nil⟩⟩⟩⟩⟩⟩⟩⟩⟩⟩⟩⟩⟩⟩⟩⟩⟩⟩⟩⟩⟩⟩⟩⟩⟩⟩⟩⟩⟩⟩⟩⟩⟩⟩⟩⟩⟩⟩⟩⟩⟩⟩⟩⟩⟩⟩⟩⟩⟩⟩⟩⟩⟩⟩⟩⟩⟩⟩⟩⟩⟩⟩)
theorem noExt : ∀ j, (C j).ext = none := by
  have hC : C = find I146 CL := by delta C; with_reducible rfl
  exact fun j => noExt_of (C := C) _ _ hC (by kernel_rfl) (by kernel_rfl) j
end Go.Proofs.Ytdhgdfofgeccgaa.LIdleCuts
