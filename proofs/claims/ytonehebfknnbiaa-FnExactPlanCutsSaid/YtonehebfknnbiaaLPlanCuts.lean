/- The types and the functions that a law reaches, told for the reading (Fw). Written by a program (gen.py). -/
import Derived.Test.YtonehebfknnbiaaFwC
import Derived.Test.YtonehebfknnbiaaProg
namespace Go.Proofs.Ytonehebfknnbiaa.LPlanCuts
open Go Go.Fw
open Go.Proofs
noncomputable def tyL : List (Nat × TI) := [(2, ⟨(.int .i64), 0, 8⟩),
  (3, ⟨(.int .i64), 0, 8⟩),
  (4, ⟨.bool, 0, 1⟩),
  (22, ⟨(.slc (.int .i16)), 42, 24⟩),
  (23, ⟨(.slc (.slc (.int .i16))), 22, 24⟩),
  (25, ⟨(.slc (.pair (.int .i16) (.pair (.int .i16) (.pair (.int .i8) .unit)))), 124, 24⟩),
  (28, ⟨(.slc (.int .i16)), 42, 24⟩),
  (30, ⟨(.slc (.slc (.int .i16))), 104, 24⟩),
  (42, ⟨(.int .i16), 0, 2⟩),
  (62, ⟨(.slc (.int .i64)), 2, 24⟩),
  (104, ⟨(.slc (.int .i16)), 42, 24⟩),
  (109, ⟨.fn, 0, 8⟩),
  (122, ⟨(.int .i8), 0, 1⟩),
  (124, ⟨(.pair (.int .i16) (.pair (.int .i16) (.pair (.int .i8) .unit))), 0, 6⟩),
  (145, ⟨.fn, 0, 8⟩),
  (201, ⟨.fn, 0, 8⟩),
  (213, ⟨.fn, 0, 8⟩)]
noncomputable def T : Nat → Option TI := findT tyL
/- laws.szCutter -/
noncomputable def I83 : Inst := { f := 83, nt := 12, params := [((.ro (.slc (.int .i16))), false), ((.ro (.int .i64)), false)], res := [(.ro (.int .i64))], slots := [.tmp 4], code := bd Try.f83 }
/- laws.szCutterS -/
noncomputable def I9 : Inst := { f := 9, nt := 27, params := [((.ro (.slc (.slc (.int .i16)))), false), ((.ro (.int .i64)), false)], res := [(.ro (.int .i64))], slots := [.tmp 4], code := bd Try.f9, callee := fun r i => find 0 [(7005, 83)] (r * 1000 + i), loops := fun b => find [] [(0, [.own 0 (.ro (.slc (.slc (.int .i16)))), .own 1 (.ro (.int .i64)), .own 5 (.ro (.int .i64))])] b }
/- laws.toCam -/
noncomputable def I11 : Inst := { f := 11, nt := 22, params := [((.ro (.slc (.int .i16))), false)], res := [(.row false (.int .i16))], slots := [.tmp 2], code := bd Try.f11, loops := fun b => find [] [(0, [.own 0 (.ro (.slc (.int .i16))), .own 3 (.row false (.int .i16)), .own 4 (.ro (.int .i64))])] b, deep := fun r i => find false [(1002, true)] (r * 1000 + i) }
/- laws.toCutter -/
noncomputable def I91 : Inst := { f := 91, nt := 22, params := [((.ro (.slc (.int .i16))), false)], res := [(.row false (.int .i16))], slots := [.tmp 2], code := bd Try.f91, loops := fun b => find [] [(0, [.own 0 (.ro (.slc (.int .i16))), .own 3 (.row false (.int .i16)), .own 4 (.ro (.int .i64))])] b, deep := fun r i => find false [(1002, true)] (r * 1000 + i) }
/- laws.toCutterS -/
noncomputable def I12 : Inst := { f := 12, nt := 23, params := [((.ro (.slc (.slc (.int .i16)))), false)], res := [(.row true (.slc (.int .i16)))], slots := [.tmp 2], code := bd Try.f12, callee := fun r i => find 0 [(5006, 91)] (r * 1000 + i), loops := fun b => find [] [(0, [.own 0 (.ro (.slc (.slc (.int .i16)))), .own 3 (.row true (.slc (.int .i16))), .own 4 (.ro (.int .i64))])] b, deep := fun r i => find false [(1002, true)] (r * 1000 + i) }
/- spec.l00In -/
noncomputable def I86 : Inst := { f := 86, nt := 15, params := [((.ro (.int .i64)), false), ((.ro (.int .i64)), false), ((.ro (.int .i64)), false)], res := [(.ro .bool)], slots := [.tmp 6], code := bd Try.f86 }
/- spec.l01Steps -/
noncomputable def I200 : Inst := { f := 200, nt := 5, params := [((.ro (.int .i64)), false)], res := [(.ro .bool)], slots := [.tmp 2], code := bd Try.f200, callee := fun r i => find 0 [(1001, 86)] (r * 1000 + i) }
/- spec.l01Lift -/
noncomputable def I85 : Inst := { f := 85, nt := 5, params := [((.ro (.int .i64)), false)], res := [(.ro .bool)], slots := [.tmp 2], code := bd Try.f85, callee := fun r i => find 0 [(1001, 86)] (r * 1000 + i) }
/- spec.l01Ok -/
noncomputable def I111 : Inst := { f := 111, nt := 21, params := [((.ro (.slc (.int .i16))), false)], res := [(.ro .bool)], slots := [.tmp 2], code := bd Try.f111, callee := fun r i => find 0 [(1002, 200), (6005, 85)] (r * 1000 + i), loops := fun b => find [] [(0, [.own 0 (.ro (.slc (.int .i16))), .own 3 (.ro (.int .i64))])] b }
/- spec.l06Some -/
noncomputable def I245 : Inst := { f := 245, nt := 6, params := [((.ro (.slc (.slc (.int .i16)))), false)], res := [(.ro .bool)], slots := [.tmp 2], code := bd Try.f245, callee := fun r i => find 0 [(1002, 86)] (r * 1000 + i) }
/- spec.l06Ok -/
noncomputable def I182 : Inst := { f := 182, nt := 66, params := [((.ro (.slc (.int .i16))), false)], res := [(.ro .bool)], slots := [.tmp 2], code := bd Try.f182, callee := fun r i => find 0 [(2001, 86), (7005, 85)] (r * 1000 + i), loops := fun b => find [] [(0, [.own 0 (.ro (.slc (.int .i16))), .own 3 (.ro (.int .i64)), .own 4 (.ro (.int .i64))])] b }
/- spec.l06Cutters -/
noncomputable def I246 : Inst := { f := 246, nt := 16, params := [((.ro (.slc (.slc (.int .i16)))), false)], res := [(.ro .bool)], slots := [.tmp 2], code := bd Try.f246, callee := fun r i => find 0 [(4004, 182)] (r * 1000 + i), loops := fun b => find [] [(0, [.own 0 (.ro (.slc (.slc (.int .i16)))), .own 3 (.ro (.int .i64))])] b }
/- spec.l06Plain -/
noncomputable def I247 : Inst := { f := 247, nt := 46, params := [((.ro (.slc (.pair (.int .i16) (.pair (.int .i16) (.pair (.int .i8) .unit))))), false), ((.ro (.int .i64)), false)], res := [(.ro .bool)], slots := [.tmp 4], code := bd Try.f247, callee := fun r i => find 0 [(7005, 86), (7013, 85), (7024, 86)] (r * 1000 + i), loops := fun b => find [] [(0, [.own 0 (.ro (.slc (.pair (.int .i16) (.pair (.int .i16) (.pair (.int .i8) .unit))))), .own 1 (.ro (.int .i64)), .own 5 (.ro (.int .i64))])] b }
/- spec.l06Cuts -/
noncomputable def I185 : Inst := { f := 185, nt := 17, params := [((.ro (.slc (.pair (.int .i16) (.pair (.int .i16) (.pair (.int .i8) .unit))))), false), ((.ro (.slc (.slc (.int .i16)))), false)], res := [(.ro .bool)], slots := [.tmp 4], code := bd Try.f185, callee := fun r i => find 0 [(1001, 245), (1004, 246), (1010, 247)] (r * 1000 + i) }
/- spec.l06On -/
noncomputable def I186 : Inst := { f := 186, nt := 20, params := [((.ro (.slc (.pair (.int .i16) (.pair (.int .i16) (.pair (.int .i8) .unit))))), false), ((.ro (.int .i64)), false)], res := [(.ro .bool)], slots := [.tmp 4], code := bd Try.f186, loops := fun b => find [] [(0, [.own 0 (.ro (.slc (.pair (.int .i16) (.pair (.int .i16) (.pair (.int .i8) .unit))))), .own 1 (.ro (.int .i64)), .own 5 (.ro (.int .i64))])] b }
/- spec.l06Given -/
noncomputable def I84 : Inst := { f := 84, nt := 21, params := [((.ro (.slc (.int .i16))), false), ((.ro (.slc (.slc (.int .i16)))), false), ((.ro (.slc (.pair (.int .i16) (.pair (.int .i16) (.pair (.int .i8) .unit))))), false)], res := [(.ro (.int .i64))], slots := [.tmp 6], code := bd Try.f84, callee := fun r i => find 0 [(1001, 111), (1006, 185), (3003, 186)] (r * 1000 + i) }
/- spec.l00Min -/
noncomputable def I89 : Inst := { f := 89, nt := 10, params := [((.ro (.int .i64)), false), ((.ro (.int .i64)), false)], res := [(.ro (.int .i64))], slots := [.tmp 4], code := bd Try.f89 }
/- spec.l00Max -/
noncomputable def I90 : Inst := { f := 90, nt := 10, params := [((.ro (.int .i64)), false), ((.ro (.int .i64)), false)], res := [(.ro (.int .i64))], slots := [.tmp 4], code := bd Try.f90 }
/- spec.l01Range -/
noncomputable def I187 : Inst := { f := 187, nt := 34, params := [((.ro (.slc (.int .i16))), false)], res := [(.ro (.int .i64)), (.ro (.int .i64))], slots := [.tmp 2, .tmp 3], code := bd Try.f187, callee := fun r i => find 0 [(6006, 89), (7006, 90)] (r * 1000 + i), loops := fun b => find [] [(0, [.own 0 (.ro (.slc (.int .i16))), .own 4 (.ro (.int .i64)), .own 5 (.ro (.int .i64)), .own 6 (.ro (.int .i64))])] b }
/- spec.l06Over -/
noncomputable def I87 : Inst := { f := 87, nt := 15, params := [((.ro (.slc (.int .i16))), false), ((.ro (.int .i64)), false)], res := [(.ro .bool)], slots := [.tmp 4], code := bd Try.f87, callee := fun r i => find 0 [(1001, 187)] (r * 1000 + i) }
/- spec.l01At -/
noncomputable def I114 : Inst := { f := 114, nt := 19, params := [((.ro (.slc (.int .i16))), false), ((.ro (.int .i64)), false)], res := [(.ro (.int .i64))], slots := [.tmp 4], code := bd Try.f114 }
/- spec.l06Tip -/
noncomputable def I188 : Inst := { f := 188, nt := 36, params := [((.ro (.slc (.int .i16))), false), ((.ro (.slc (.int .i16))), false), ((.ro (.int .i64)), false)], res := [(.ro (.int .i64))], slots := [.tmp 6], code := bd Try.f188, callee := fun r i => find 0 [(6005, 114), (6014, 90)] (r * 1000 + i), loops := fun b => find [] [(0, [.own 0 (.ro (.slc (.int .i16))), .own 1 (.ro (.slc (.int .i16))), .own 2 (.ro (.int .i64)), .own 7 (.ro (.int .i64)), .own 8 (.ro (.int .i64)), .own 9 (.ro (.int .i64))])] b }
/- spec.l06Tips -/
noncomputable def I88 : Inst := { f := 88, nt := 22, params := [((.ro (.slc (.int .i16))), false), ((.ro (.slc (.int .i16))), false)], res := [(.row false (.int .i64))], slots := [.tmp 4], code := bd Try.f88, callee := fun r i => find 0 [(5004, 188)] (r * 1000 + i), loops := fun b => find [] [(0, [.own 0 (.ro (.slc (.int .i16))), .own 1 (.ro (.slc (.int .i16))), .own 5 (.row false (.int .i64)), .own 6 (.ro (.int .i64))])] b, deep := fun r i => find false [(1000, true), (5005, true), (5006, true)] (r * 1000 + i) }
/- spec.PlanCuts -/
noncomputable def I10 : Inst := { f := 10, nt := 118, params := [((.ro (.slc (.int .i16))), false), ((.ro (.int .i64)), false), ((.ro (.slc (.slc (.int .i16)))), false), ((.ro (.int .i64)), false), ((.ro (.int .i64)), false)], res := [(.row false (.pair (.int .i16) (.pair (.int .i16) (.pair (.int .i8) .unit)))), (.ro (.int .i64))], slots := [.tmp 10, .tmp 11], code := bd Try.f10, callee := fun r i => find 0 [(1003, 84), (2004, 85), (2011, 86), (2016, 86), (4005, 87), (8005, 88), (13005, 89), (16003, 90), (23008, 90)] (r * 1000 + i), loops := fun b => find [] [(4, [.own 3 (.ro (.int .i64)), .own 4 (.ro (.int .i64)), .own 13 (.ro (.slc (.int .i64))), .own 14 (.ro (.int .i64)), .own 16 (.row false (.pair (.int .i16) (.pair (.int .i16) (.pair (.int .i8) .unit)))), .own 17 (.ro (.int .i64)), .own 18 (.ro (.int .i64)), .own 19 (.ro (.int .i64))]), (2, [.own 3 (.ro (.int .i64)), .own 4 (.ro (.int .i64)), .own 13 (.ro (.slc (.int .i64))), .own 14 (.ro (.int .i64)), .own 16 (.row false (.pair (.int .i16) (.pair (.int .i16) (.pair (.int .i8) .unit)))), .own 17 (.ro (.int .i64))]), (0, [.own 1 (.ro (.int .i64)), .own 3 (.ro (.int .i64)), .own 4 (.ro (.int .i64)), .own 13 (.ro (.slc (.int .i64))), .own 14 (.ro (.int .i64)), .own 15 (.ro (.int .i64))])] b, deep := fun r i => find false [(1002, true), (7000, true), (14000, true), (22000, true), (23013, true), (23014, true)] (r * 1000 + i) }
/- impl.Cam).steps -/
noncomputable def I123 : Inst := { f := 123, nt := 5, params := [((.ro (.slc (.int .i16))), false)], res := [(.ro (.int .i64))], slots := [.tmp 2], code := bd Try.f123 }
/- impl.inRange -/
noncomputable def I98 : Inst := { f := 98, nt := 15, params := [((.ro (.int .i64)), false), ((.ro (.int .i64)), false), ((.ro (.int .i64)), false)], res := [(.ro .bool)], slots := [.tmp 6], code := bd Try.f98 }
/- impl.isSteps -/
noncomputable def I121 : Inst := { f := 121, nt := 5, params := [((.ro (.int .i64)), false)], res := [(.ro .bool)], slots := [.tmp 2], code := bd Try.f121, callee := fun r i => find 0 [(1001, 98)] (r * 1000 + i) }
/- impl.isLift -/
noncomputable def I96 : Inst := { f := 96, nt := 5, params := [((.ro (.int .i64)), false)], res := [(.ro .bool)], slots := [.tmp 2], code := bd Try.f96, callee := fun r i => find 0 [(1001, 98)] (r * 1000 + i) }
/- impl.ValidCam$1 -/
noncomputable def I179 : Inst := { f := 179, nt := 7, params := [((.ro (.int .i16)), false)], res := [(.ro .bool)], slots := [.tmp 2], code := bd Try.f179, callee := fun r i => find 0 [(1002, 96)] (r * 1000 + i) }
/- impl.Cam,int16] -/
noncomputable def I243 : Inst := { f := 243, nt := 19, params := [((.ro (.slc (.int .i16))), false), ((.clo 179 (.ro .unit) (.ro .unit)), false)], res := [(.ro (.int .i64))], slots := [.tmp 4], code := bd Try.f243, callee := fun r i => find 0 [(4005, 179)] (r * 1000 + i), loops := fun b => find [] [(0, [.own 0 (.ro (.slc (.int .i16))), .own 1 (.clo 179 (.ro .unit) (.ro .unit)), .own 7 (.ro (.int .i64)), .own 8 (.ro (.int .i64))])] b }
/- impl.Cam,int16] -/
noncomputable def I178 : Inst := { f := 178, nt := 9, params := [((.ro (.slc (.int .i16))), false), ((.clo 179 (.ro .unit) (.ro .unit)), false)], res := [(.ro .bool)], slots := [.tmp 4], code := bd Try.f178, callee := fun r i => find 0 [(1002, 243)] (r * 1000 + i) }
/- impl.ValidCam -/
noncomputable def I78 : Inst := { f := 78, nt := 11, params := [((.ro (.slc (.int .i16))), false)], res := [(.ro .bool)], slots := [.tmp 2], code := bd Try.f78, callee := fun r i => find 0 [(1001, 123), (1002, 121), (1005, 178)] (r * 1000 + i) }
/- impl.isCount -/
noncomputable def I94 : Inst := { f := 94, nt := 6, params := [((.ro (.slc (.slc (.int .i16)))), false)], res := [(.ro .bool)], slots := [.tmp 2], code := bd Try.f94, callee := fun r i => find 0 [(1002, 98)] (r * 1000 + i) }
/- impl.ValidCutter -/
noncomputable def I77 : Inst := { f := 77, nt := 61, params := [((.ro (.slc (.int .i16))), false)], res := [(.ro .bool)], slots := [.tmp 2], code := bd Try.f77, callee := fun r i => find 0 [(7002, 96)] (r * 1000 + i), loops := fun b => find [] [(0, [.own 0 (.ro (.slc (.int .i16))), .own 3 (.ro (.int .i64)), .own 23 (.ro (.slc (.int .i16))), .own 24 (.ro (.int .i64)), .own 25 (.ro (.int .i64))])] b }
/- impl.areCutters$1 -/
noncomputable def I190 : Inst := { f := 190, nt := 6, params := [((.ro (.slc (.int .i16))), false)], res := [(.ro .bool)], slots := [.tmp 2], code := bd Try.f190, callee := fun r i => find 0 [(1001, 77)] (r * 1000 + i) }
/- impl.Cutter] -/
noncomputable def I248 : Inst := { f := 248, nt := 19, params := [((.ro (.slc (.slc (.int .i16)))), false), ((.clo 190 (.ro .unit) (.ro .unit)), false)], res := [(.ro (.int .i64))], slots := [.tmp 4], code := bd Try.f248, callee := fun r i => find 0 [(4005, 190)] (r * 1000 + i), loops := fun b => find [] [(0, [.own 0 (.ro (.slc (.slc (.int .i16)))), .own 1 (.clo 190 (.ro .unit) (.ro .unit)), .own 7 (.ro (.int .i64)), .own 8 (.ro (.int .i64))])] b }
/- impl.Cutter] -/
noncomputable def I189 : Inst := { f := 189, nt := 9, params := [((.ro (.slc (.slc (.int .i16)))), false), ((.clo 190 (.ro .unit) (.ro .unit)), false)], res := [(.ro .bool)], slots := [.tmp 4], code := bd Try.f189, callee := fun r i => find 0 [(1002, 248)] (r * 1000 + i) }
/- impl.areCutters -/
noncomputable def I95 : Inst := { f := 95, nt := 6, params := [((.ro (.slc (.slc (.int .i16)))), false)], res := [(.ro .bool)], slots := [.tmp 2], code := bd Try.f95, callee := fun r i => find 0 [(1001, 189)] (r * 1000 + i) }
/- impl.codeIf -/
noncomputable def I93 : Inst := { f := 93, nt := 7, params := [((.ro .bool), false), ((.ro (.int .i64)), false)], res := [(.ro (.int .i64))], slots := [.tmp 4], code := bd Try.f93 }
/- impl.isPlace -/
noncomputable def I97 : Inst := { f := 97, nt := 9, params := [((.ro (.int .i64)), false), ((.ro (.int .i64)), false)], res := [(.ro .bool)], slots := [.tmp 4], code := bd Try.f97, callee := fun r i => find 0 [(1003, 98)] (r * 1000 + i) }
/- impl.firstCode -/
noncomputable def I92 : Inst := { f := 92, nt := 15, params := [((.ro (.slc (.int .i64))), false)], res := [(.ro (.int .i64))], slots := [.tmp 2], code := bd Try.f92, loops := fun b => find [] [(0, [.own 5 (.ro (.slc (.int .i64))), .own 6 (.ro (.int .i64)), .own 7 (.ro (.int .i64))])] b }
/- impl.Cam,int16] -/
noncomputable def I99 : Inst := { f := 99, nt := 25, params := [((.ro (.slc (.int .i16))), false)], res := [(.ro (.int .i16))], slots := [.tmp 2], code := bd Try.f99, loops := fun b => find [] [(0, [.own 0 (.ro (.slc (.int .i16))), .own 3 (.ro (.int .i16)), .own 4 (.ro (.int .i64))])] b }
/- impl.floorDiv -/
noncomputable def I161 : Inst := { f := 161, nt := 16, params := [((.ro (.int .i64)), false), ((.ro (.int .i64)), false)], res := [(.ro (.int .i64))], slots := [.tmp 4], code := bd Try.f161 }
/- impl.mod -/
noncomputable def I199 : Inst := { f := 199, nt := 12, params := [((.ro (.int .i64)), false), ((.ro (.int .i64)), false)], res := [(.ro (.int .i64))], slots := [.tmp 4], code := bd Try.f199, callee := fun r i => find 0 [(1004, 161)] (r * 1000 + i) }
/- impl.Cam).at -/
noncomputable def I110 : Inst := { f := 110, nt := 13, params := [((.ro (.slc (.int .i16))), false), ((.ro (.int .i64)), false)], res := [(.ro (.int .i64))], slots := [.tmp 4], code := bd Try.f110, callee := fun r i => find 0 [(1003, 123), (1004, 199)] (r * 1000 + i) }
/- impl.Cam).tips$1$1 -/
noncomputable def I194 : Inst := { f := 194, nt := 13, params := [((.ro (.int .i64)), false), ((.ro (.int .i64)), false), ((.box (.ro (.int .i64))), true), ((.box (.ro (.slc (.int .i16)))), true)], res := [], slots := [], code := bd Try.f194, strict := true, callee := fun r i => find 0 [(3, 110)] (r * 1000 + i), pins := [2, 3] }
/- impl.Cutter).each -/
noncomputable def I193 : Inst := { f := 193, nt := 29, params := [((.ro (.slc (.int .i16))), false), ((.ro (.int .i64)), false), ((.clo 194 (.ro .unit) (.pr (.box (.ro (.int .i64))) (.pr (.box (.ro (.slc (.int .i16)))) (.ro .unit)))), true)], res := [], slots := [], code := bd Try.f193, strict := true, callee := fun r i => find 0 [(4008, 194)] (r * 1000 + i), loops := fun b => find [] [(0, [.own 1 (.ro (.int .i64)), .own 2 (.clo 194 (.ro .unit) (.pr (.box (.ro (.int .i64))) (.pr (.box (.ro (.slc (.int .i16)))) (.ro .unit)))), .own 6 (.ro (.int .i64)), .own 12 (.ro (.slc (.int .i16))), .own 13 (.ro (.int .i64)), .own 14 (.ro (.int .i64))])] b, pins := [2] }
/- impl.Cam).tips$1 -/
noncomputable def I192 : Inst := { f := 192, nt := 11, params := [((.ro (.int .i64)), false), ((.box (.ro (.slc (.int .i16)))), true), ((.box (.ro (.slc (.int .i16)))), true)], res := [(.ro (.int .i64))], slots := [.tmp 4], code := bd Try.f192, strict := true, callee := fun r i => find 0 [(2003, 193)] (r * 1000 + i), pins := [1, 2] }
/- impl.Cam).numbers -/
noncomputable def I191 : Inst := { f := 191, nt := 21, params := [((.ro (.slc (.int .i16))), false), ((.clo 192 (.ro .unit) (.pr (.box (.ro (.slc (.int .i16)))) (.pr (.box (.ro (.slc (.int .i16)))) (.ro .unit)))), true)], res := [(.row false (.int .i64))], slots := [.tmp 4], code := bd Try.f191, strict := true, callee := fun r i => find 0 [(2001, 123), (5003, 192)] (r * 1000 + i), loops := fun b => find [] [(0, [.own 1 (.clo 192 (.ro .unit) (.pr (.box (.ro (.slc (.int .i16)))) (.pr (.box (.ro (.slc (.int .i16)))) (.ro .unit)))), .own 5 (.row false (.int .i64)), .own 9 (.ro (.int .i64)), .own 10 (.ro (.int .i64))])] b, pins := [1], deep := fun r i => find false [(1000, true), (5004, true), (5005, true)] (r * 1000 + i) }
/- impl.Cam).tips -/
noncomputable def I100 : Inst := { f := 100, nt := 8, params := [((.ro (.slc (.int .i16))), false), ((.ro (.slc (.int .i16))), false)], res := [(.row false (.int .i64))], slots := [.tmp 4], code := bd Try.f100, callee := fun r i => find 0 [(1002, 191)] (r * 1000 + i) }
/- slices.Min[[]int64,int64] -/
noncomputable def I101 : Inst := { f := 101, nt := 25, params := [((.ro (.slc (.int .i64))), false)], res := [(.ro (.int .i64))], slots := [.tmp 2], code := bd Try.f101, loops := fun b => find [] [(0, [.own 0 (.ro (.slc (.int .i64))), .own 3 (.ro (.int .i64)), .own 4 (.ro (.int .i64))])] b }
/- impl.PlanCuts -/
noncomputable def I13 : Inst := { f := 13, nt := 103, params := [((.ro (.slc (.int .i16))), false), ((.ro (.int .i64)), false), ((.ro (.slc (.slc (.int .i16)))), false), ((.ro (.int .i64)), false), ((.ro (.int .i64)), false)], res := [(.row false (.pair (.int .i16) (.pair (.int .i16) (.pair (.int .i8) .unit)))), (.ro (.int .i64))], slots := [.tmp 10, .tmp 11], code := bd Try.f13, callee := fun r i => find 0 [(1001, 78), (1005, 94), (1010, 95), (1013, 93), (1015, 96), (1021, 97), (1026, 98), (1029, 93), (1031, 92), (4001, 99), (6005, 100), (17002, 101)] (r * 1000 + i), loops := fun b => find [] [(2, [.own 3 (.ro (.int .i64)), .own 4 (.ro (.int .i64)), .own 13 (.ro (.slc (.int .i64))), .own 14 (.row false (.pair (.int .i16) (.pair (.int .i16) (.pair (.int .i8) .unit)))), .own 15 (.ro (.int .i64)), .own 16 (.ro (.int .i64)), .own 71 (.ro (.slc (.int .i64))), .own 72 (.ro (.int .i64)), .own 73 (.ro (.int .i64))]), (0, [.own 3 (.ro (.int .i64)), .own 4 (.ro (.int .i64)), .own 13 (.ro (.slc (.int .i64))), .own 14 (.row false (.pair (.int .i16) (.pair (.int .i16) (.pair (.int .i8) .unit)))), .own 15 (.ro (.int .i64))])] b, deep := fun r i => find false [(1030, true), (6006, true), (14010, true), (14011, true)] (r * 1000 + i) }
/- laws.eqCut -/
noncomputable def I102 : Inst := { f := 102, nt := 20, params := [((.ro (.pair (.int .i16) (.pair (.int .i16) (.pair (.int .i8) .unit)))), false), ((.ro (.pair (.int .i16) (.pair (.int .i16) (.pair (.int .i8) .unit)))), false)], res := [(.ro .bool)], slots := [.tmp 4], code := bd Try.f102 }
/- laws.eqCutS -/
noncomputable def I14 : Inst := { f := 14, nt := 27, params := [((.ro (.slc (.pair (.int .i16) (.pair (.int .i16) (.pair (.int .i8) .unit))))), false), ((.ro (.slc (.pair (.int .i16) (.pair (.int .i16) (.pair (.int .i8) .unit))))), false)], res := [(.ro .bool)], slots := [.tmp 4], code := bd Try.f14, callee := fun r i => find 0 [(6008, 102)] (r * 1000 + i), loops := fun b => find [] [(0, [.own 0 (.ro (.slc (.pair (.int .i16) (.pair (.int .i16) (.pair (.int .i8) .unit))))), .own 1 (.ro (.slc (.pair (.int .i16) (.pair (.int .i16) (.pair (.int .i8) .unit))))), .own 5 (.ro (.int .i64))])] b }
/- laws.eqCam -/
noncomputable def I15 : Inst := { f := 15, nt := 26, params := [((.ro (.slc (.int .i16))), false), ((.ro (.slc (.int .i16))), false)], res := [(.ro .bool)], slots := [.tmp 4], code := bd Try.f15, loops := fun b => find [] [(0, [.own 0 (.ro (.slc (.int .i16))), .own 1 (.ro (.slc (.int .i16))), .own 5 (.ro (.int .i64))])] b }
/- laws.eqCutter -/
noncomputable def I103 : Inst := { f := 103, nt := 26, params := [((.ro (.slc (.int .i16))), false), ((.ro (.slc (.int .i16))), false)], res := [(.ro .bool)], slots := [.tmp 4], code := bd Try.f103, loops := fun b => find [] [(0, [.own 0 (.ro (.slc (.int .i16))), .own 1 (.ro (.slc (.int .i16))), .own 5 (.ro (.int .i64))])] b }
/- laws.eqCutterS -/
noncomputable def I16 : Inst := { f := 16, nt := 27, params := [((.ro (.slc (.slc (.int .i16)))), false), ((.ro (.slc (.slc (.int .i16)))), false)], res := [(.ro .bool)], slots := [.tmp 4], code := bd Try.f16, callee := fun r i => find 0 [(6008, 103)] (r * 1000 + i), loops := fun b => find [] [(0, [.own 0 (.ro (.slc (.slc (.int .i16)))), .own 1 (.ro (.slc (.slc (.int .i16)))), .own 5 (.ro (.int .i64))])] b }
/- laws.markCam -/
noncomputable def I17 : Inst := { f := 17, nt := 20, params := [((.row false (.int .i16)), true), ((.ro (.int .i64)), false)], res := [(.ro (.int .i64))], slots := [.tmp 4], code := bd Try.f17, loops := fun b => find [] [(0, [.own 0 (.row false (.int .i16)), .own 1 (.ro (.int .i64)), .own 5 (.ro (.int .i64))])] b, pins := [0] }
/- laws.markCutter -/
noncomputable def I104 : Inst := { f := 104, nt := 20, params := [((.row false (.int .i16)), true), ((.ro (.int .i64)), false)], res := [(.ro (.int .i64))], slots := [.tmp 4], code := bd Try.f104, loops := fun b => find [] [(0, [.own 0 (.row false (.int .i16)), .own 1 (.ro (.int .i64)), .own 5 (.ro (.int .i64))])] b, pins := [0] }
/- laws.markCutterS -/
noncomputable def I18 : Inst := { f := 18, nt := 19, params := [((.row true (.slc (.int .i16))), true), ((.ro (.int .i64)), false)], res := [(.ro (.int .i64))], slots := [.tmp 4], code := bd Try.f18, callee := fun r i => find 0 [(4005, 104)] (r * 1000 + i), loops := fun b => find [] [(0, [.own 0 (.row true (.slc (.int .i16))), .own 1 (.ro (.int .i64)), .own 5 (.ro (.int .i64))])] b, pins := [0], deep := fun r i => find false [(4003, true)] (r * 1000 + i) }
/- laws.markCutS -/
noncomputable def I19 : Inst := { f := 19, nt := 37, params := [((.row false (.pair (.int .i16) (.pair (.int .i16) (.pair (.int .i8) .unit)))), true), ((.ro (.int .i64)), false)], res := [(.ro (.int .i64))], slots := [.tmp 4], code := bd Try.f19, loops := fun b => find [] [(0, [.own 0 (.row false (.pair (.int .i16) (.pair (.int .i16) (.pair (.int .i8) .unit)))), .own 1 (.ro (.int .i64)), .own 5 (.ro (.int .i64))])] b, pins := [0] }
/- laws.heldCutS -/
noncomputable def I20 : Inst := { f := 20, nt := 43, params := [((.ro (.slc (.pair (.int .i16) (.pair (.int .i16) (.pair (.int .i8) .unit))))), false), ((.ro (.int .i64)), false)], res := [(.ro (.int .i64))], slots := [.tmp 4], code := bd Try.f20, loops := fun b => find [] [(0, [.own 0 (.ro (.slc (.pair (.int .i16) (.pair (.int .i16) (.pair (.int .i8) .unit))))), .own 1 (.ro (.int .i64)), .own 5 (.ro (.int .i64))])] b }
/- laws.FnExactPlanCuts -/
noncomputable def I3 : Inst := { f := 3, nt := 132, params := [((.ro (.slc (.int .i16))), false), ((.ro (.int .i64)), false), ((.ro (.slc (.slc (.int .i16)))), false), ((.ro (.int .i64)), false), ((.ro (.int .i64)), false)], res := [(.ro .bool)], slots := [.tmp 10], code := bd Try.f3, callee := fun r i => find 0 [(4002, 9), (7001, 11), (7004, 12), (7007, 10), (8001, 11), (9001, 12), (10005, 13), (11002, 14), (13002, 11), (13003, 15), (15002, 12), (15003, 16), (18002, 17), (19002, 18), (20005, 14), (23002, 19), (25002, 20), (30001, 11), (30004, 12), (30007, 13), (31002, 14), (34002, 20)] (r * 1000 + i) }
noncomputable def C : Nat → Inst := find I83 [(83, I83), (9, I9), (11, I11), (91, I91), (12, I12), (86, I86), (200, I200), (85, I85), (111, I111), (245, I245), (182, I182), (246, I246), (247, I247), (185, I185), (186, I186), (84, I84), (89, I89), (90, I90), (187, I187), (87, I87), (114, I114), (188, I188), (88, I88), (10, I10), (123, I123), (98, I98), (121, I121), (96, I96), (179, I179), (243, I243), (178, I178), (78, I78), (94, I94), (77, I77), (190, I190), (248, I248), (189, I189), (95, I95), (93, I93), (97, I97), (92, I92), (99, I99), (161, I161), (199, I199), (110, I110), (194, I194), (193, I193), (192, I192), (191, I191), (100, I100), (101, I101), (13, I13), (102, I102), (14, I14), (15, I15), (103, I103), (16, I16), (17, I17), (104, I104), (18, I18), (19, I19), (20, I20), (3, I3)]
theorem tsOk : TsOk Try.prog T := tsOkB_sound (by kernel_rfl)
theorem ok83 : InstOk Try.prog I83 := instOk_of Try.func83 (by kernel_rfl) (by kernel_rfl) (by kernel_rfl) (by kernel_rfl)
theorem ok9 : InstOk Try.prog I9 := instOk_of Try.func9 (by kernel_rfl) (by kernel_rfl) (by kernel_rfl) (by kernel_rfl)
theorem ok11 : InstOk Try.prog I11 := instOk_of Try.func11 (by kernel_rfl) (by kernel_rfl) (by kernel_rfl) (by kernel_rfl)
theorem ok91 : InstOk Try.prog I91 := instOk_of Try.func91 (by kernel_rfl) (by kernel_rfl) (by kernel_rfl) (by kernel_rfl)
theorem ok12 : InstOk Try.prog I12 := instOk_of Try.func12 (by kernel_rfl) (by kernel_rfl) (by kernel_rfl) (by kernel_rfl)
theorem ok86 : InstOk Try.prog I86 := instOk_of Try.func86 (by kernel_rfl) (by kernel_rfl) (by kernel_rfl) (by kernel_rfl)
theorem ok200 : InstOk Try.prog I200 := instOk_of Try.func200 (by kernel_rfl) (by kernel_rfl) (by kernel_rfl) (by kernel_rfl)
theorem ok85 : InstOk Try.prog I85 := instOk_of Try.func85 (by kernel_rfl) (by kernel_rfl) (by kernel_rfl) (by kernel_rfl)
theorem ok111 : InstOk Try.prog I111 := instOk_of Try.func111 (by kernel_rfl) (by kernel_rfl) (by kernel_rfl) (by kernel_rfl)
theorem ok245 : InstOk Try.prog I245 := instOk_of Try.func245 (by kernel_rfl) (by kernel_rfl) (by kernel_rfl) (by kernel_rfl)
theorem ok182 : InstOk Try.prog I182 := instOk_of Try.func182 (by kernel_rfl) (by kernel_rfl) (by kernel_rfl) (by kernel_rfl)
theorem ok246 : InstOk Try.prog I246 := instOk_of Try.func246 (by kernel_rfl) (by kernel_rfl) (by kernel_rfl) (by kernel_rfl)
theorem ok247 : InstOk Try.prog I247 := instOk_of Try.func247 (by kernel_rfl) (by kernel_rfl) (by kernel_rfl) (by kernel_rfl)
theorem ok185 : InstOk Try.prog I185 := instOk_of Try.func185 (by kernel_rfl) (by kernel_rfl) (by kernel_rfl) (by kernel_rfl)
theorem ok186 : InstOk Try.prog I186 := instOk_of Try.func186 (by kernel_rfl) (by kernel_rfl) (by kernel_rfl) (by kernel_rfl)
theorem ok84 : InstOk Try.prog I84 := instOk_of Try.func84 (by kernel_rfl) (by kernel_rfl) (by kernel_rfl) (by kernel_rfl)
theorem ok89 : InstOk Try.prog I89 := instOk_of Try.func89 (by kernel_rfl) (by kernel_rfl) (by kernel_rfl) (by kernel_rfl)
theorem ok90 : InstOk Try.prog I90 := instOk_of Try.func90 (by kernel_rfl) (by kernel_rfl) (by kernel_rfl) (by kernel_rfl)
theorem ok187 : InstOk Try.prog I187 := instOk_of Try.func187 (by kernel_rfl) (by kernel_rfl) (by kernel_rfl) (by kernel_rfl)
theorem ok87 : InstOk Try.prog I87 := instOk_of Try.func87 (by kernel_rfl) (by kernel_rfl) (by kernel_rfl) (by kernel_rfl)
theorem ok114 : InstOk Try.prog I114 := instOk_of Try.func114 (by kernel_rfl) (by kernel_rfl) (by kernel_rfl) (by kernel_rfl)
theorem ok188 : InstOk Try.prog I188 := instOk_of Try.func188 (by kernel_rfl) (by kernel_rfl) (by kernel_rfl) (by kernel_rfl)
theorem ok88 : InstOk Try.prog I88 := instOk_of Try.func88 (by kernel_rfl) (by kernel_rfl) (by kernel_rfl) (by kernel_rfl)
theorem ok10 : InstOk Try.prog I10 := instOk_of Try.func10 (by kernel_rfl) (by kernel_rfl) (by kernel_rfl) (by kernel_rfl)
theorem ok123 : InstOk Try.prog I123 := instOk_of Try.func123 (by kernel_rfl) (by kernel_rfl) (by kernel_rfl) (by kernel_rfl)
theorem ok98 : InstOk Try.prog I98 := instOk_of Try.func98 (by kernel_rfl) (by kernel_rfl) (by kernel_rfl) (by kernel_rfl)
theorem ok121 : InstOk Try.prog I121 := instOk_of Try.func121 (by kernel_rfl) (by kernel_rfl) (by kernel_rfl) (by kernel_rfl)
theorem ok96 : InstOk Try.prog I96 := instOk_of Try.func96 (by kernel_rfl) (by kernel_rfl) (by kernel_rfl) (by kernel_rfl)
theorem ok179 : InstOk Try.prog I179 := instOk_of Try.func179 (by kernel_rfl) (by kernel_rfl) (by kernel_rfl) (by kernel_rfl)
theorem ok243 : InstOk Try.prog I243 := instOk_of Try.func243 (by kernel_rfl) (by kernel_rfl) (by kernel_rfl) (by kernel_rfl)
theorem ok178 : InstOk Try.prog I178 := instOk_of Try.func178 (by kernel_rfl) (by kernel_rfl) (by kernel_rfl) (by kernel_rfl)
theorem ok78 : InstOk Try.prog I78 := instOk_of Try.func78 (by kernel_rfl) (by kernel_rfl) (by kernel_rfl) (by kernel_rfl)
theorem ok94 : InstOk Try.prog I94 := instOk_of Try.func94 (by kernel_rfl) (by kernel_rfl) (by kernel_rfl) (by kernel_rfl)
theorem ok77 : InstOk Try.prog I77 := instOk_of Try.func77 (by kernel_rfl) (by kernel_rfl) (by kernel_rfl) (by kernel_rfl)
theorem ok190 : InstOk Try.prog I190 := instOk_of Try.func190 (by kernel_rfl) (by kernel_rfl) (by kernel_rfl) (by kernel_rfl)
theorem ok248 : InstOk Try.prog I248 := instOk_of Try.func248 (by kernel_rfl) (by kernel_rfl) (by kernel_rfl) (by kernel_rfl)
theorem ok189 : InstOk Try.prog I189 := instOk_of Try.func189 (by kernel_rfl) (by kernel_rfl) (by kernel_rfl) (by kernel_rfl)
theorem ok95 : InstOk Try.prog I95 := instOk_of Try.func95 (by kernel_rfl) (by kernel_rfl) (by kernel_rfl) (by kernel_rfl)
theorem ok93 : InstOk Try.prog I93 := instOk_of Try.func93 (by kernel_rfl) (by kernel_rfl) (by kernel_rfl) (by kernel_rfl)
theorem ok97 : InstOk Try.prog I97 := instOk_of Try.func97 (by kernel_rfl) (by kernel_rfl) (by kernel_rfl) (by kernel_rfl)
theorem ok92 : InstOk Try.prog I92 := instOk_of Try.func92 (by kernel_rfl) (by kernel_rfl) (by kernel_rfl) (by kernel_rfl)
theorem ok99 : InstOk Try.prog I99 := instOk_of Try.func99 (by kernel_rfl) (by kernel_rfl) (by kernel_rfl) (by kernel_rfl)
theorem ok161 : InstOk Try.prog I161 := instOk_of Try.func161 (by kernel_rfl) (by kernel_rfl) (by kernel_rfl) (by kernel_rfl)
theorem ok199 : InstOk Try.prog I199 := instOk_of Try.func199 (by kernel_rfl) (by kernel_rfl) (by kernel_rfl) (by kernel_rfl)
theorem ok110 : InstOk Try.prog I110 := instOk_of Try.func110 (by kernel_rfl) (by kernel_rfl) (by kernel_rfl) (by kernel_rfl)
theorem ok194 : InstOk Try.prog I194 := instOk_of Try.func194 (by kernel_rfl) (by kernel_rfl) (by kernel_rfl) (by kernel_rfl)
theorem ok193 : InstOk Try.prog I193 := instOk_of Try.func193 (by kernel_rfl) (by kernel_rfl) (by kernel_rfl) (by kernel_rfl)
theorem ok192 : InstOk Try.prog I192 := instOk_of Try.func192 (by kernel_rfl) (by kernel_rfl) (by kernel_rfl) (by kernel_rfl)
theorem ok191 : InstOk Try.prog I191 := instOk_of Try.func191 (by kernel_rfl) (by kernel_rfl) (by kernel_rfl) (by kernel_rfl)
theorem ok100 : InstOk Try.prog I100 := instOk_of Try.func100 (by kernel_rfl) (by kernel_rfl) (by kernel_rfl) (by kernel_rfl)
theorem ok101 : InstOk Try.prog I101 := instOk_of Try.func101 (by kernel_rfl) (by kernel_rfl) (by kernel_rfl) (by kernel_rfl)
theorem ok13 : InstOk Try.prog I13 := instOk_of Try.func13 (by kernel_rfl) (by kernel_rfl) (by kernel_rfl) (by kernel_rfl)
theorem ok102 : InstOk Try.prog I102 := instOk_of Try.func102 (by kernel_rfl) (by kernel_rfl) (by kernel_rfl) (by kernel_rfl)
theorem ok14 : InstOk Try.prog I14 := instOk_of Try.func14 (by kernel_rfl) (by kernel_rfl) (by kernel_rfl) (by kernel_rfl)
theorem ok15 : InstOk Try.prog I15 := instOk_of Try.func15 (by kernel_rfl) (by kernel_rfl) (by kernel_rfl) (by kernel_rfl)
theorem ok103 : InstOk Try.prog I103 := instOk_of Try.func103 (by kernel_rfl) (by kernel_rfl) (by kernel_rfl) (by kernel_rfl)
theorem ok16 : InstOk Try.prog I16 := instOk_of Try.func16 (by kernel_rfl) (by kernel_rfl) (by kernel_rfl) (by kernel_rfl)
theorem ok17 : InstOk Try.prog I17 := instOk_of Try.func17 (by kernel_rfl) (by kernel_rfl) (by kernel_rfl) (by kernel_rfl)
theorem ok104 : InstOk Try.prog I104 := instOk_of Try.func104 (by kernel_rfl) (by kernel_rfl) (by kernel_rfl) (by kernel_rfl)
theorem ok18 : InstOk Try.prog I18 := instOk_of Try.func18 (by kernel_rfl) (by kernel_rfl) (by kernel_rfl) (by kernel_rfl)
theorem ok19 : InstOk Try.prog I19 := instOk_of Try.func19 (by kernel_rfl) (by kernel_rfl) (by kernel_rfl) (by kernel_rfl)
theorem ok20 : InstOk Try.prog I20 := instOk_of Try.func20 (by kernel_rfl) (by kernel_rfl) (by kernel_rfl) (by kernel_rfl)
theorem ok3 : InstOk Try.prog I3 := instOk_of Try.func3 (by kernel_rfl) (by kernel_rfl) (by kernel_rfl) (by kernel_rfl)
theorem insts : ∀ j, InstOk Try.prog (C j) := find_all ok83 (List.forall_mem_cons.2 ⟨ok83, List.forall_mem_cons.2 ⟨ok9, List.forall_mem_cons.2 ⟨ok11, List.forall_mem_cons.2 ⟨ok91, List.forall_mem_cons.2 ⟨ok12, List.forall_mem_cons.2 ⟨ok86, List.forall_mem_cons.2 ⟨ok200, List.forall_mem_cons.2 ⟨ok85, List.forall_mem_cons.2 ⟨ok111, List.forall_mem_cons.2 ⟨ok245, List.forall_mem_cons.2 ⟨ok182, List.forall_mem_cons.2 ⟨ok246, List.forall_mem_cons.2 ⟨ok247, List.forall_mem_cons.2 ⟨ok185, List.forall_mem_cons.2 ⟨ok186, List.forall_mem_cons.2 ⟨ok84, List.forall_mem_cons.2 ⟨ok89, List.forall_mem_cons.2 ⟨ok90, List.forall_mem_cons.2 ⟨ok187, List.forall_mem_cons.2 ⟨ok87, List.forall_mem_cons.2 ⟨ok114, List.forall_mem_cons.2 ⟨ok188, List.forall_mem_cons.2 ⟨ok88, List.forall_mem_cons.2 ⟨ok10, List.forall_mem_cons.2 ⟨ok123, List.forall_mem_cons.2 ⟨ok98, List.forall_mem_cons.2 ⟨ok121, List.forall_mem_cons.2 ⟨ok96, List.forall_mem_cons.2 ⟨ok179, List.forall_mem_cons.2 ⟨ok243, List.forall_mem_cons.2 ⟨ok178, List.forall_mem_cons.2 ⟨ok78, List.forall_mem_cons.2 ⟨ok94, List.forall_mem_cons.2 ⟨ok77, List.forall_mem_cons.2 ⟨ok190, List.forall_mem_cons.2 ⟨ok248, List.forall_mem_cons.2 ⟨ok189, List.forall_mem_cons.2 ⟨ok95, List.forall_mem_cons.2 ⟨ok93, List.forall_mem_cons.2 ⟨ok97, List.forall_mem_cons.2 ⟨ok92, List.forall_mem_cons.2 ⟨ok99, List.forall_mem_cons.2 ⟨ok161, List.forall_mem_cons.2 ⟨ok199, List.forall_mem_cons.2 ⟨ok110, List.forall_mem_cons.2 ⟨ok194, List.forall_mem_cons.2 ⟨ok193, List.forall_mem_cons.2 ⟨ok192, List.forall_mem_cons.2 ⟨ok191, List.forall_mem_cons.2 ⟨ok100, List.forall_mem_cons.2 ⟨ok101, List.forall_mem_cons.2 ⟨ok13, List.forall_mem_cons.2 ⟨ok102, List.forall_mem_cons.2 ⟨ok14, List.forall_mem_cons.2 ⟨ok15, List.forall_mem_cons.2 ⟨ok103, List.forall_mem_cons.2 ⟨ok16, List.forall_mem_cons.2 ⟨ok17, List.forall_mem_cons.2 ⟨ok104, List.forall_mem_cons.2 ⟨ok18, List.forall_mem_cons.2 ⟨ok19, List.forall_mem_cons.2 ⟨ok20, List.forall_mem_cons.2 ⟨ok3, fun _ h => absurd h List.not_mem_nil⟩⟩⟩⟩⟩⟩⟩⟩⟩⟩⟩⟩⟩⟩⟩⟩⟩⟩⟩⟩⟩⟩⟩⟩⟩⟩⟩⟩⟩⟩⟩⟩⟩⟩⟩⟩⟩⟩⟩⟩⟩⟩⟩⟩⟩⟩⟩⟩⟩⟩⟩⟩⟩⟩⟩⟩⟩⟩⟩⟩⟩⟩⟩)
end Go.Proofs.Ytonehebfknnbiaa.LPlanCuts
