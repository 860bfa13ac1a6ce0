/- The types and the functions that a law reaches, told for the reading (Fw). Written by a program (gen.py). -/
import Derived.Test.YtdgmghmbokkhlaaFwC
import Derived.Test.YtdgmghmbokkhlaaProg
namespace Go.Proofs.Ytdgmghmbokkhlaa.LFitProgram
open Go Go.Fw
open Go.Proofs
noncomputable def tyL : List (Nat × TI) := [(2, ⟨(.int .i64), 0, 8⟩),
  (3, ⟨(.int .i64), 0, 8⟩),
  (4, ⟨.bool, 0, 1⟩),
  (34, ⟨(.slc (.int .i16)), 62, 24⟩),
  (41, ⟨(.slc (.int .i16)), 62, 24⟩),
  (58, ⟨(.slc (.int .i64)), 2, 24⟩),
  (62, ⟨(.int .i16), 0, 2⟩),
  (64, ⟨(.slc (.pair (.int .i8) (.pair (.int .i16) (.pair (.int .i16) .unit)))), 124, 24⟩),
  (66, ⟨(.pair (.int .i16) (.pair (.slc (.pair (.int .i8) (.pair (.int .i16) (.pair (.int .i16) .unit)))) .unit)), 0, 32⟩),
  (93, ⟨(.int .i8), 0, 1⟩),
  (118, ⟨(.slc (.pair (.int .i8) (.pair (.int .i16) (.pair (.int .i16) .unit)))), 121, 24⟩),
  (121, ⟨(.pair (.int .i8) (.pair (.int .i16) (.pair (.int .i16) .unit))), 0, 6⟩),
  (124, ⟨(.pair (.int .i8) (.pair (.int .i16) (.pair (.int .i16) .unit))), 0, 6⟩),
  (146, ⟨.fn, 0, 8⟩)]
noncomputable def T : Nat → Option TI := findT tyL
/- laws.toCam -/
noncomputable def I19 : Inst := { f := 19, nt := 22, params := [((.ro (.slc (.int .i16))), false)], res := [(.row false (.int .i16))], slots := [.tmp 2], code := bd Try.f19, loops := fun b => find [] [(0, [.own 0 (.ro (.slc (.int .i16))), .own 3 (.row false (.int .i16)), .own 4 (.ro (.int .i64))])] b, deep := fun r i => find false [(1002, true)] (r * 1000 + i) }
/- spec.l00In -/
noncomputable def I83 : Inst := { f := 83, nt := 15, params := [((.ro (.int .i64)), false), ((.ro (.int .i64)), false), ((.ro (.int .i64)), false)], res := [(.ro .bool)], slots := [.tmp 6], code := bd Try.f83 }
/- spec.l01Steps -/
noncomputable def I126 : Inst := { f := 126, nt := 5, params := [((.ro (.int .i64)), false)], res := [(.ro .bool)], slots := [.tmp 2], code := bd Try.f126, callee := fun r i => find 0 [(1001, 83)] (r * 1000 + i) }
/- spec.l01Lift -/
noncomputable def I127 : Inst := { f := 127, nt := 5, params := [((.ro (.int .i64)), false)], res := [(.ro .bool)], slots := [.tmp 2], code := bd Try.f127, callee := fun r i => find 0 [(1001, 83)] (r * 1000 + i) }
/- spec.l01Ok -/
noncomputable def I73 : Inst := { f := 73, nt := 21, params := [((.ro (.slc (.int .i16))), false)], res := [(.ro .bool)], slots := [.tmp 2], code := bd Try.f73, callee := fun r i => find 0 [(1002, 126), (6005, 127)] (r * 1000 + i), loops := fun b => find [] [(0, [.own 0 (.ro (.slc (.int .i16))), .own 3 (.ro (.int .i64))])] b }
/- spec.l01At -/
noncomputable def I84 : Inst := { f := 84, nt := 19, params := [((.ro (.slc (.int .i16))), false), ((.ro (.int .i64)), false)], res := [(.ro (.int .i64))], slots := [.tmp 4], code := bd Try.f84 }
/- spec.l01Changes -/
noncomputable def I74 : Inst := { f := 74, nt := 24, params := [((.ro (.slc (.int .i16))), false)], res := [(.row false (.int .i64))], slots := [.tmp 2], code := bd Try.f74, callee := fun r i => find 0 [(5004, 84), (5007, 84)] (r * 1000 + i), loops := fun b => find [] [(0, [.own 0 (.ro (.slc (.int .i16))), .own 3 (.row false (.int .i64)), .own 4 (.ro (.int .i64))])] b, deep := fun r i => find false [(1000, true), (5009, true), (5010, true)] (r * 1000 + i) }
/- spec.l01Kind -/
noncomputable def I159 : Inst := { f := 159, nt := 9, params := [((.ro (.int .i64)), false)], res := [(.ro (.int .i8))], slots := [.tmp 2], code := bd Try.f159 }
/- spec.l01Runs -/
noncomputable def I132 : Inst := { f := 132, nt := 101, params := [((.ro (.slc (.int .i16))), false)], res := [(.row false (.pair (.int .i8) (.pair (.int .i16) (.pair (.int .i16) .unit))))], slots := [.tmp 2], code := bd Try.f132, callee := fun r i => find 0 [(1001, 74), (5014, 159), (5018, 159), (13012, 159), (13019, 159), (15007, 159)] (r * 1000 + i), loops := fun b => find [] [(4, [.own 3 (.ro (.slc (.int .i64))), .own 4 (.ro (.int .i64)), .own 7 (.row false (.pair (.int .i8) (.pair (.int .i16) (.pair (.int .i16) .unit)))), .own 8 (.ro (.int .i64)), .own 9 (.ro (.int .i64)), .own 10 (.ro (.int .i64))]), (2, [.own 3 (.ro (.slc (.int .i64))), .own 4 (.ro (.int .i64)), .own 7 (.row false (.pair (.int .i8) (.pair (.int .i16) (.pair (.int .i16) .unit)))), .own 8 (.ro (.int .i64)), .own 9 (.ro (.int .i64))]), (0, [.own 3 (.ro (.slc (.int .i64))), .own 4 (.ro (.int .i64)), .own 5 (.ro (.int .i64)), .own 6 (.ro (.int .i64))])] b, deep := fun r i => find false [(8000, true), (15015, true), (15016, true)] (r * 1000 + i) }
/- spec.l02Runs -/
noncomputable def I94 : Inst := { f := 94, nt := 52, params := [((.ro (.slc (.int .i16))), false)], res := [(.row false (.pair (.int .i8) (.pair (.int .i16) (.pair (.int .i16) .unit))))], slots := [.tmp 2], code := bd Try.f94, callee := fun r i => find 0 [(2001, 132)] (r * 1000 + i), deep := fun r i => find false [(7004, true), (8003, true), (9010, true), (9011, true)] (r * 1000 + i) }
/- spec.l02Shape -/
noncomputable def I160 : Inst := { f := 160, nt := 90, params := [((.ro (.int .i64)), false), ((.ro (.int .i64)), false), ((.ro (.int .i64)), false)], res := [(.ro (.int .i64)), (.ro (.int .i64))], slots := [.tmp 6, .tmp 7], code := bd Try.f160 }
/- spec.l01Near -/
noncomputable def I161 : Inst := { f := 161, nt := 23, params := [((.ro (.int .i64)), false), ((.ro (.int .i64)), false)], res := [(.ro (.int .i64))], slots := [.tmp 4], code := bd Try.f161 }
/- spec.l02Lift -/
noncomputable def I133 : Inst := { f := 133, nt := 31, params := [((.ro (.int .i64)), false), ((.ro (.int .i64)), false), ((.ro (.int .i64)), false), ((.ro (.int .i64)), false), ((.ro (.int .i64)), false)], res := [(.ro (.int .i64))], slots := [.tmp 10], code := bd Try.f133, callee := fun r i => find 0 [(1003, 160), (2010, 161)] (r * 1000 + i) }
/- spec.l02Fit -/
noncomputable def I95 : Inst := { f := 95, nt := 46, params := [((.ro (.slc (.int .i16))), false), ((.ro (.int .i64)), false), ((.ro (.int .i64)), false)], res := [(.ro (.int .i64))], slots := [.tmp 6], code := bd Try.f95, callee := fun r i => find 0 [(1002, 84), (2004, 84), (10006, 84), (10012, 133)] (r * 1000 + i), loops := fun b => find [] [(2, [.own 0 (.ro (.slc (.int .i16))), .own 1 (.ro (.int .i64)), .own 2 (.ro (.int .i64)), .own 7 (.ro (.int .i64)), .own 8 (.ro (.int .i64)), .own 9 (.ro (.int .i64)), .own 10 (.ro .bool), .own 11 (.ro (.int .i64))]), (0, [.own 0 (.ro (.slc (.int .i16))), .own 1 (.ro (.int .i64)), .own 2 (.ro (.int .i64)), .own 7 (.ro (.int .i64)), .own 8 (.ro (.int .i64)), .own 9 (.ro (.int .i64))])] b }
/- spec.FitProgram -/
noncomputable def I43 : Inst := { f := 43, nt := 69, params := [((.ro (.slc (.int .i16))), false)], res := [(.pr (.ro (.int .i16)) (.pr (.row false (.pair (.int .i8) (.pair (.int .i16) (.pair (.int .i16) .unit)))) (.ro .unit))), (.ro (.int .i64))], slots := [.cell 2 66, .tmp 3], code := bd Try.f43, callee := fun r i => find 0 [(1001, 73), (3001, 94), (12003, 95), (15013, 84)] (r * 1000 + i), loops := fun b => find [] [(0, [.own 0 (.ro (.slc (.int .i16))), .own 2 (.box (.ro (.pair (.int .i16) (.pair (.slc (.pair (.int .i8) (.pair (.int .i16) (.pair (.int .i16) .unit)))) .unit)))), .own 4 (.ro (.slc (.pair (.int .i8) (.pair (.int .i16) (.pair (.int .i16) .unit))))), .own 5 (.box (.pr (.ro (.int .i16)) (.pr (.row false (.pair (.int .i8) (.pair (.int .i16) (.pair (.int .i16) .unit)))) (.ro .unit)))), .own 6 (.ro (.int .i64))])] b, deep := fun r i => find false [(15016, true), (15017, true)] (r * 1000 + i) }
/- impl.Cam).steps -/
noncomputable def I78 : Inst := { f := 78, nt := 5, params := [((.ro (.slc (.int .i16))), false)], res := [(.ro (.int .i64))], slots := [.tmp 2], code := bd Try.f78 }
/- impl.inRange -/
noncomputable def I76 : Inst := { f := 76, nt := 15, params := [((.ro (.int .i64)), false), ((.ro (.int .i64)), false), ((.ro (.int .i64)), false)], res := [(.ro .bool)], slots := [.tmp 6], code := bd Try.f76 }
/- impl.isSteps -/
noncomputable def I122 : Inst := { f := 122, nt := 5, params := [((.ro (.int .i64)), false)], res := [(.ro .bool)], slots := [.tmp 2], code := bd Try.f122, callee := fun r i => find 0 [(1001, 76)] (r * 1000 + i) }
/- impl.isLift -/
noncomputable def I125 : Inst := { f := 125, nt := 5, params := [((.ro (.int .i64)), false)], res := [(.ro .bool)], slots := [.tmp 2], code := bd Try.f125, callee := fun r i => find 0 [(1001, 76)] (r * 1000 + i) }
/- impl.ValidCam$1 -/
noncomputable def I124 : Inst := { f := 124, nt := 7, params := [((.ro (.int .i16)), false)], res := [(.ro .bool)], slots := [.tmp 2], code := bd Try.f124, callee := fun r i => find 0 [(1002, 125)] (r * 1000 + i) }
/- impl.Cam,int16] -/
noncomputable def I157 : Inst := { f := 157, nt := 19, params := [((.ro (.slc (.int .i16))), false), ((.clo 124 (.ro .unit) (.ro .unit)), false)], res := [(.ro (.int .i64))], slots := [.tmp 4], code := bd Try.f157, callee := fun r i => find 0 [(4005, 124)] (r * 1000 + i), loops := fun b => find [] [(0, [.own 0 (.ro (.slc (.int .i16))), .own 1 (.clo 124 (.ro .unit) (.ro .unit)), .own 7 (.ro (.int .i64)), .own 8 (.ro (.int .i64))])] b }
/- impl.Cam,int16] -/
noncomputable def I123 : Inst := { f := 123, nt := 9, params := [((.ro (.slc (.int .i16))), false), ((.clo 124 (.ro .unit) (.ro .unit)), false)], res := [(.ro .bool)], slots := [.tmp 4], code := bd Try.f123, callee := fun r i => find 0 [(1002, 157)] (r * 1000 + i) }
/- impl.ValidCam -/
noncomputable def I69 : Inst := { f := 69, nt := 11, params := [((.ro (.slc (.int .i16))), false)], res := [(.ro .bool)], slots := [.tmp 2], code := bd Try.f69, callee := fun r i => find 0 [(1001, 78), (1002, 122), (1005, 123)] (r * 1000 + i) }
/- impl.floorDiv -/
noncomputable def I158 : Inst := { f := 158, nt := 16, params := [((.ro (.int .i64)), false), ((.ro (.int .i64)), false)], res := [(.ro (.int .i64))], slots := [.tmp 4], code := bd Try.f158 }
/- impl.mod -/
noncomputable def I128 : Inst := { f := 128, nt := 12, params := [((.ro (.int .i64)), false), ((.ro (.int .i64)), false)], res := [(.ro (.int .i64))], slots := [.tmp 4], code := bd Try.f128, callee := fun r i => find 0 [(1004, 158)] (r * 1000 + i) }
/- impl.Cam).at -/
noncomputable def I80 : Inst := { f := 80, nt := 13, params := [((.ro (.slc (.int .i16))), false), ((.ro (.int .i64)), false)], res := [(.ro (.int .i64))], slots := [.tmp 4], code := bd Try.f80, callee := fun r i => find 0 [(1003, 78), (1004, 128)] (r * 1000 + i) }
/- impl.Cam).change -/
noncomputable def I72 : Inst := { f := 72, nt := 13, params := [((.ro (.slc (.int .i16))), false), ((.ro (.int .i64)), false)], res := [(.ro (.int .i64))], slots := [.tmp 4], code := bd Try.f72, callee := fun r i => find 0 [(1003, 80), (1006, 80)] (r * 1000 + i) }
/- impl.kindOf -/
noncomputable def I163 : Inst := { f := 163, nt := 9, params := [((.ro (.int .i64)), false)], res := [(.ro (.int .i8))], slots := [.tmp 2], code := bd Try.f163 }
/- impl.Cam).runs$1 -/
noncomputable def I162 : Inst := { f := 162, nt := 8, params := [((.ro (.int .i64)), false), ((.box (.ro (.slc (.int .i16)))), true)], res := [(.ro (.int .i8))], slots := [.tmp 3], code := bd Try.f162, strict := true, callee := fun r i => find 0 [(1002, 72), (1003, 163)] (r * 1000 + i), pins := [1] }
/- impl.Cam).runs -/
noncomputable def I134 : Inst := { f := 134, nt := 78, params := [((.ro (.slc (.int .i16))), false)], res := [(.row false (.pair (.int .i8) (.pair (.int .i16) (.pair (.int .i16) .unit))))], slots := [.tmp 2], code := bd Try.f134, callee := fun r i => find 0 [(1001, 78), (4008, 162), (4010, 162), (7001, 162), (12008, 162), (12011, 162), (14003, 162), (14006, 128)] (r * 1000 + i), loops := fun b => find [] [(4, [.own 3 (.ro (.int .i64)), .own 4 (.clo 162 (.ro .unit) (.pr (.box (.ro (.slc (.int .i16)))) (.ro .unit))), .own 5 (.ro (.int .i64)), .own 6 (.row false (.pair (.int .i8) (.pair (.int .i16) (.pair (.int .i16) .unit)))), .own 7 (.ro (.int .i64)), .own 8 (.ro (.int .i64))]), (2, [.own 3 (.ro (.int .i64)), .own 4 (.clo 162 (.ro .unit) (.pr (.box (.ro (.slc (.int .i16)))) (.ro .unit))), .own 5 (.ro (.int .i64)), .own 6 (.row false (.pair (.int .i8) (.pair (.int .i16) (.pair (.int .i16) .unit)))), .own 7 (.ro (.int .i64))]), (0, [.own 3 (.ro (.int .i64)), .own 4 (.clo 162 (.ro .unit) (.pr (.box (.ro (.slc (.int .i16)))) (.ro .unit))), .own 5 (.ro (.int .i64))])] b, deep := fun r i => find false [(7005, true), (8000, true), (14013, true), (14014, true)] (r * 1000 + i) }
/- impl.Cam).stretches -/
noncomputable def I96 : Inst := { f := 96, nt := 44, params := [((.ro (.slc (.int .i16))), false)], res := [(.row false (.pair (.int .i8) (.pair (.int .i16) (.pair (.int .i16) .unit))))], slots := [.tmp 2], code := bd Try.f96, callee := fun r i => find 0 [(1001, 134)] (r * 1000 + i), deep := fun r i => find false [(6010, true), (6011, true)] (r * 1000 + i) }
/- impl.isLaw -/
noncomputable def I135 : Inst := { f := 135, nt := 5, params := [((.ro (.int .i64)), false)], res := [(.ro .bool)], slots := [.tmp 2], code := bd Try.f135, callee := fun r i => find 0 [(1001, 76)] (r * 1000 + i) }
/- impl.shape -/
noncomputable def I172 : Inst := { f := 172, nt := 90, params := [((.ro (.int .i64)), false), ((.ro (.int .i64)), false), ((.ro (.int .i64)), false)], res := [(.ro (.int .i64)), (.ro (.int .i64))], slots := [.tmp 6, .tmp 7], code := bd Try.f172 }
/- impl.nearest -/
noncomputable def I173 : Inst := { f := 173, nt := 12, params := [((.ro (.int .i64)), false), ((.ro (.int .i64)), false)], res := [(.ro (.int .i64))], slots := [.tmp 4], code := bd Try.f173, callee := fun r i => find 0 [(1006, 158)] (r * 1000 + i) }
/- impl.liftIn -/
noncomputable def I164 : Inst := { f := 164, nt := 31, params := [((.ro (.int .i64)), false), ((.ro (.int .i64)), false), ((.ro (.int .i64)), false), ((.ro (.int .i64)), false), ((.ro (.int .i64)), false)], res := [(.ro (.int .i64))], slots := [.tmp 10], code := bd Try.f164, callee := fun r i => find 0 [(1003, 172), (2010, 173)] (r * 1000 + i) }
/- impl.Cam).fits -/
noncomputable def I136 : Inst := { f := 136, nt := 37, params := [((.ro (.slc (.int .i16))), false), ((.ro (.int .i64)), false), ((.ro (.int .i64)), false), ((.ro (.int .i64)), false)], res := [(.ro .bool)], slots := [.tmp 8], code := bd Try.f136, callee := fun r i => find 0 [(1002, 80), (1007, 80), (5005, 164), (5010, 80)] (r * 1000 + i), loops := fun b => find [] [(0, [.own 0 (.ro (.slc (.int .i16))), .own 1 (.ro (.int .i64)), .own 2 (.ro (.int .i64)), .own 3 (.ro (.int .i64)), .own 9 (.ro (.int .i64)), .own 10 (.ro (.int .i64)), .own 11 (.ro (.int .i64))])] b }
/- impl.Cam).fitMotion -/
noncomputable def I97 : Inst := { f := 97, nt := 18, params := [((.ro (.slc (.int .i16))), false), ((.ro (.int .i64)), false), ((.ro (.int .i64)), false)], res := [(.ro (.int .i64))], slots := [.tmp 6], code := bd Try.f97, callee := fun r i => find 0 [(2001, 135), (4004, 136)] (r * 1000 + i), loops := fun b => find [] [(0, [.own 0 (.ro (.slc (.int .i16))), .own 1 (.ro (.int .i64)), .own 2 (.ro (.int .i64)), .own 7 (.ro (.int .i64))])] b }
/- impl.FitProgram -/
noncomputable def I44 : Inst := { f := 44, nt := 62, params := [((.ro (.slc (.int .i16))), false)], res := [(.pr (.ro (.int .i16)) (.pr (.row false (.pair (.int .i8) (.pair (.int .i16) (.pair (.int .i16) .unit)))) (.ro .unit))), (.ro (.int .i64))], slots := [.cell 2 66, .tmp 3], code := bd Try.f44, callee := fun r i => find 0 [(1001, 69), (3001, 96), (11003, 97), (14010, 80)] (r * 1000 + i), loops := fun b => find [] [(0, [.own 0 (.ro (.slc (.int .i16))), .own 2 (.box (.ro (.pair (.int .i16) (.pair (.slc (.pair (.int .i8) (.pair (.int .i16) (.pair (.int .i16) .unit)))) .unit)))), .own 5 (.box (.pr (.ro (.int .i16)) (.pr (.row false (.pair (.int .i8) (.pair (.int .i16) (.pair (.int .i16) .unit)))) (.ro .unit)))), .own 25 (.ro (.slc (.pair (.int .i8) (.pair (.int .i16) (.pair (.int .i16) .unit))))), .own 26 (.ro (.int .i64)), .own 27 (.ro (.int .i64))])] b, deep := fun r i => find false [(14013, true), (14014, true)] (r * 1000 + i) }
/- laws.eqMotion -/
noncomputable def I137 : Inst := { f := 137, nt := 20, params := [((.ro (.pair (.int .i8) (.pair (.int .i16) (.pair (.int .i16) .unit)))), false), ((.ro (.pair (.int .i8) (.pair (.int .i16) (.pair (.int .i16) .unit)))), false)], res := [(.ro .bool)], slots := [.tmp 4], code := bd Try.f137 }
/- laws.eqMotionS -/
noncomputable def I98 : Inst := { f := 98, nt := 27, params := [((.ro (.slc (.pair (.int .i8) (.pair (.int .i16) (.pair (.int .i16) .unit))))), false), ((.ro (.slc (.pair (.int .i8) (.pair (.int .i16) (.pair (.int .i16) .unit))))), false)], res := [(.ro .bool)], slots := [.tmp 4], code := bd Try.f98, callee := fun r i => find 0 [(6008, 137)] (r * 1000 + i), loops := fun b => find [] [(0, [.own 0 (.ro (.slc (.pair (.int .i8) (.pair (.int .i16) (.pair (.int .i16) .unit))))), .own 1 (.ro (.slc (.pair (.int .i8) (.pair (.int .i16) (.pair (.int .i16) .unit))))), .own 5 (.ro (.int .i64))])] b }
/- laws.eqProgram -/
noncomputable def I45 : Inst := { f := 45, nt := 16, params := [((.ro (.pair (.int .i16) (.pair (.slc (.pair (.int .i8) (.pair (.int .i16) (.pair (.int .i16) .unit)))) .unit))), false), ((.ro (.pair (.int .i16) (.pair (.slc (.pair (.int .i8) (.pair (.int .i16) (.pair (.int .i16) .unit)))) .unit))), false)], res := [(.ro .bool)], slots := [.tmp 4], code := bd Try.f45, callee := fun r i => find 0 [(3004, 98)] (r * 1000 + i) }
/- laws.eqCam -/
noncomputable def I23 : Inst := { f := 23, nt := 26, params := [((.ro (.slc (.int .i16))), false), ((.ro (.slc (.int .i16))), false)], res := [(.ro .bool)], slots := [.tmp 4], code := bd Try.f23, loops := fun b => find [] [(0, [.own 0 (.ro (.slc (.int .i16))), .own 1 (.ro (.slc (.int .i16))), .own 5 (.ro (.int .i64))])] b }
/- laws.markCam -/
noncomputable def I46 : Inst := { f := 46, nt := 20, params := [((.row false (.int .i16)), true), ((.ro (.int .i64)), false)], res := [(.ro (.int .i64))], slots := [.tmp 4], code := bd Try.f46, loops := fun b => find [] [(0, [.own 0 (.row false (.int .i16)), .own 1 (.ro (.int .i64)), .own 5 (.ro (.int .i64))])] b, pins := [0] }
/- laws.markMotionS -/
noncomputable def I99 : Inst := { f := 99, nt := 37, params := [((.row false (.pair (.int .i8) (.pair (.int .i16) (.pair (.int .i16) .unit)))), true), ((.ro (.int .i64)), false)], res := [(.ro (.int .i64))], slots := [.tmp 4], code := bd Try.f99, loops := fun b => find [] [(0, [.own 0 (.row false (.pair (.int .i8) (.pair (.int .i16) (.pair (.int .i16) .unit)))), .own 1 (.ro (.int .i64)), .own 5 (.ro (.int .i64))])] b, pins := [0] }
/- laws.markProgram -/
noncomputable def I47 : Inst := { f := 47, nt := 10, params := [((.pr (.ro (.int .i16)) (.pr (.row false (.pair (.int .i8) (.pair (.int .i16) (.pair (.int .i16) .unit)))) (.ro .unit))), true), ((.ro (.int .i64)), false)], res := [(.ro (.int .i64))], slots := [.tmp 4], code := bd Try.f47, callee := fun r i => find 0 [(1003, 99)] (r * 1000 + i), pins := [0] }
/- laws.heldMotionS -/
noncomputable def I100 : Inst := { f := 100, nt := 43, params := [((.ro (.slc (.pair (.int .i8) (.pair (.int .i16) (.pair (.int .i16) .unit))))), false), ((.ro (.int .i64)), false)], res := [(.ro (.int .i64))], slots := [.tmp 4], code := bd Try.f100, loops := fun b => find [] [(0, [.own 0 (.ro (.slc (.pair (.int .i8) (.pair (.int .i16) (.pair (.int .i16) .unit))))), .own 1 (.ro (.int .i64)), .own 5 (.ro (.int .i64))])] b }
/- laws.heldProgram -/
noncomputable def I48 : Inst := { f := 48, nt := 12, params := [((.ro (.pair (.int .i16) (.pair (.slc (.pair (.int .i8) (.pair (.int .i16) (.pair (.int .i16) .unit)))) .unit))), false), ((.ro (.int .i64)), false)], res := [(.ro (.int .i64))], slots := [.tmp 4], code := bd Try.f48, callee := fun r i => find 0 [(1003, 100)] (r * 1000 + i) }
/- laws.FnExactFitProgram -/
noncomputable def I6 : Inst := { f := 6, nt := 93, params := [((.ro (.slc (.int .i16))), false)], res := [(.ro .bool)], slots := [.tmp 2], code := bd Try.f6, callee := fun r i => find 0 [(3001, 19), (3002, 43), (4001, 19), (5001, 44), (6002, 45), (8002, 19), (8003, 23), (11002, 46), (12005, 45), (15002, 47), (17002, 48), (22001, 19), (22002, 44), (23002, 45), (26002, 48)] (r * 1000 + i) }
noncomputable def C : Nat → Inst := find I19 [(19, I19), (83, I83), (126, I126), (127, I127), (73, I73), (84, I84), (74, I74), (159, I159), (132, I132), (94, I94), (160, I160), (161, I161), (133, I133), (95, I95), (43, I43), (78, I78), (76, I76), (122, I122), (125, I125), (124, I124), (157, I157), (123, I123), (69, I69), (158, I158), (128, I128), (80, I80), (72, I72), (163, I163), (162, I162), (134, I134), (96, I96), (135, I135), (172, I172), (173, I173), (164, I164), (136, I136), (97, I97), (44, I44), (137, I137), (98, I98), (45, I45), (23, I23), (46, I46), (99, I99), (47, I47), (100, I100), (48, I48), (6, I6)]
theorem tsOk : TsOk Try.prog T := tsOkB_sound (by kernel_rfl)
theorem ok19 : InstOk Try.prog I19 := instOk_of Try.func19 (by kernel_rfl) (by kernel_rfl) (by kernel_rfl) (by kernel_rfl)
theorem ok83 : InstOk Try.prog I83 := instOk_of Try.func83 (by kernel_rfl) (by kernel_rfl) (by kernel_rfl) (by kernel_rfl)
theorem ok126 : InstOk Try.prog I126 := instOk_of Try.func126 (by kernel_rfl) (by kernel_rfl) (by kernel_rfl) (by kernel_rfl)
theorem ok127 : InstOk Try.prog I127 := instOk_of Try.func127 (by kernel_rfl) (by kernel_rfl) (by kernel_rfl) (by kernel_rfl)
theorem ok73 : InstOk Try.prog I73 := instOk_of Try.func73 (by kernel_rfl) (by kernel_rfl) (by kernel_rfl) (by kernel_rfl)
theorem ok84 : InstOk Try.prog I84 := instOk_of Try.func84 (by kernel_rfl) (by kernel_rfl) (by kernel_rfl) (by kernel_rfl)
theorem ok74 : InstOk Try.prog I74 := instOk_of Try.func74 (by kernel_rfl) (by kernel_rfl) (by kernel_rfl) (by kernel_rfl)
theorem ok159 : InstOk Try.prog I159 := instOk_of Try.func159 (by kernel_rfl) (by kernel_rfl) (by kernel_rfl) (by kernel_rfl)
theorem ok132 : InstOk Try.prog I132 := instOk_of Try.func132 (by kernel_rfl) (by kernel_rfl) (by kernel_rfl) (by kernel_rfl)
theorem ok94 : InstOk Try.prog I94 := instOk_of Try.func94 (by kernel_rfl) (by kernel_rfl) (by kernel_rfl) (by kernel_rfl)
theorem ok160 : InstOk Try.prog I160 := instOk_of Try.func160 (by kernel_rfl) (by kernel_rfl) (by kernel_rfl) (by kernel_rfl)
theorem ok161 : InstOk Try.prog I161 := instOk_of Try.func161 (by kernel_rfl) (by kernel_rfl) (by kernel_rfl) (by kernel_rfl)
theorem ok133 : InstOk Try.prog I133 := instOk_of Try.func133 (by kernel_rfl) (by kernel_rfl) (by kernel_rfl) (by kernel_rfl)
theorem ok95 : InstOk Try.prog I95 := instOk_of Try.func95 (by kernel_rfl) (by kernel_rfl) (by kernel_rfl) (by kernel_rfl)
theorem ok43 : InstOk Try.prog I43 := instOk_of Try.func43 (by kernel_rfl) (by kernel_rfl) (by kernel_rfl) (by kernel_rfl)
theorem ok78 : InstOk Try.prog I78 := instOk_of Try.func78 (by kernel_rfl) (by kernel_rfl) (by kernel_rfl) (by kernel_rfl)
theorem ok76 : InstOk Try.prog I76 := instOk_of Try.func76 (by kernel_rfl) (by kernel_rfl) (by kernel_rfl) (by kernel_rfl)
theorem ok122 : InstOk Try.prog I122 := instOk_of Try.func122 (by kernel_rfl) (by kernel_rfl) (by kernel_rfl) (by kernel_rfl)
theorem ok125 : InstOk Try.prog I125 := instOk_of Try.func125 (by kernel_rfl) (by kernel_rfl) (by kernel_rfl) (by kernel_rfl)
theorem ok124 : InstOk Try.prog I124 := instOk_of Try.func124 (by kernel_rfl) (by kernel_rfl) (by kernel_rfl) (by kernel_rfl)
theorem ok157 : InstOk Try.prog I157 := instOk_of Try.func157 (by kernel_rfl) (by kernel_rfl) (by kernel_rfl) (by kernel_rfl)
theorem ok123 : InstOk Try.prog I123 := instOk_of Try.func123 (by kernel_rfl) (by kernel_rfl) (by kernel_rfl) (by kernel_rfl)
theorem ok69 : InstOk Try.prog I69 := instOk_of Try.func69 (by kernel_rfl) (by kernel_rfl) (by kernel_rfl) (by kernel_rfl)
theorem ok158 : InstOk Try.prog I158 := instOk_of Try.func158 (by kernel_rfl) (by kernel_rfl) (by kernel_rfl) (by kernel_rfl)
theorem ok128 : InstOk Try.prog I128 := instOk_of Try.func128 (by kernel_rfl) (by kernel_rfl) (by kernel_rfl) (by kernel_rfl)
theorem ok80 : InstOk Try.prog I80 := instOk_of Try.func80 (by kernel_rfl) (by kernel_rfl) (by kernel_rfl) (by kernel_rfl)
theorem ok72 : InstOk Try.prog I72 := instOk_of Try.func72 (by kernel_rfl) (by kernel_rfl) (by kernel_rfl) (by kernel_rfl)
theorem ok163 : InstOk Try.prog I163 := instOk_of Try.func163 (by kernel_rfl) (by kernel_rfl) (by kernel_rfl) (by kernel_rfl)
theorem ok162 : InstOk Try.prog I162 := instOk_of Try.func162 (by kernel_rfl) (by kernel_rfl) (by kernel_rfl) (by kernel_rfl)
theorem ok134 : InstOk Try.prog I134 := instOk_of Try.func134 (by kernel_rfl) (by kernel_rfl) (by kernel_rfl) (by kernel_rfl)
theorem ok96 : InstOk Try.prog I96 := instOk_of Try.func96 (by kernel_rfl) (by kernel_rfl) (by kernel_rfl) (by kernel_rfl)
theorem ok135 : InstOk Try.prog I135 := instOk_of Try.func135 (by kernel_rfl) (by kernel_rfl) (by kernel_rfl) (by kernel_rfl)
theorem ok172 : InstOk Try.prog I172 := instOk_of Try.func172 (by kernel_rfl) (by kernel_rfl) (by kernel_rfl) (by kernel_rfl)
theorem ok173 : InstOk Try.prog I173 := instOk_of Try.func173 (by kernel_rfl) (by kernel_rfl) (by kernel_rfl) (by kernel_rfl)
theorem ok164 : InstOk Try.prog I164 := instOk_of Try.func164 (by kernel_rfl) (by kernel_rfl) (by kernel_rfl) (by kernel_rfl)
theorem ok136 : InstOk Try.prog I136 := instOk_of Try.func136 (by kernel_rfl) (by kernel_rfl) (by kernel_rfl) (by kernel_rfl)
theorem ok97 : InstOk Try.prog I97 := instOk_of Try.func97 (by kernel_rfl) (by kernel_rfl) (by kernel_rfl) (by kernel_rfl)
theorem ok44 : InstOk Try.prog I44 := instOk_of Try.func44 (by kernel_rfl) (by kernel_rfl) (by kernel_rfl) (by kernel_rfl)
theorem ok137 : InstOk Try.prog I137 := instOk_of Try.func137 (by kernel_rfl) (by kernel_rfl) (by kernel_rfl) (by kernel_rfl)
theorem ok98 : InstOk Try.prog I98 := instOk_of Try.func98 (by kernel_rfl) (by kernel_rfl) (by kernel_rfl) (by kernel_rfl)
theorem ok45 : InstOk Try.prog I45 := instOk_of Try.func45 (by kernel_rfl) (by kernel_rfl) (by kernel_rfl) (by kernel_rfl)
theorem ok23 : InstOk Try.prog I23 := instOk_of Try.func23 (by kernel_rfl) (by kernel_rfl) (by kernel_rfl) (by kernel_rfl)
theorem ok46 : InstOk Try.prog I46 := instOk_of Try.func46 (by kernel_rfl) (by kernel_rfl) (by kernel_rfl) (by kernel_rfl)
theorem ok99 : InstOk Try.prog I99 := instOk_of Try.func99 (by kernel_rfl) (by kernel_rfl) (by kernel_rfl) (by kernel_rfl)
theorem ok47 : InstOk Try.prog I47 := instOk_of Try.func47 (by kernel_rfl) (by kernel_rfl) (by kernel_rfl) (by kernel_rfl)
theorem ok100 : InstOk Try.prog I100 := instOk_of Try.func100 (by kernel_rfl) (by kernel_rfl) (by kernel_rfl) (by kernel_rfl)
theorem ok48 : InstOk Try.prog I48 := instOk_of Try.func48 (by kernel_rfl) (by kernel_rfl) (by kernel_rfl) (by kernel_rfl)
theorem ok6 : InstOk Try.prog I6 := instOk_of Try.func6 (by kernel_rfl) (by kernel_rfl) (by kernel_rfl) (by kernel_rfl)
theorem insts : ∀ j, InstOk Try.prog (C j) := find_all ok19 (List.forall_mem_cons.2 ⟨ok19, List.forall_mem_cons.2 ⟨ok83, List.forall_mem_cons.2 ⟨ok126, List.forall_mem_cons.2 ⟨ok127, List.forall_mem_cons.2 ⟨ok73, List.forall_mem_cons.2 ⟨ok84, List.forall_mem_cons.2 ⟨ok74, List.forall_mem_cons.2 ⟨ok159, List.forall_mem_cons.2 ⟨ok132, List.forall_mem_cons.2 ⟨ok94, List.forall_mem_cons.2 ⟨ok160, List.forall_mem_cons.2 ⟨ok161, List.forall_mem_cons.2 ⟨ok133, List.forall_mem_cons.2 ⟨ok95, List.forall_mem_cons.2 ⟨ok43, List.forall_mem_cons.2 ⟨ok78, List.forall_mem_cons.2 ⟨ok76, List.forall_mem_cons.2 ⟨ok122, List.forall_mem_cons.2 ⟨ok125, List.forall_mem_cons.2 ⟨ok124, List.forall_mem_cons.2 ⟨ok157, List.forall_mem_cons.2 ⟨ok123, List.forall_mem_cons.2 ⟨ok69, List.forall_mem_cons.2 ⟨ok158, List.forall_mem_cons.2 ⟨ok128, List.forall_mem_cons.2 ⟨ok80, List.forall_mem_cons.2 ⟨ok72, List.forall_mem_cons.2 ⟨ok163, List.forall_mem_cons.2 ⟨ok162, List.forall_mem_cons.2 ⟨ok134, List.forall_mem_cons.2 ⟨ok96, List.forall_mem_cons.2 ⟨ok135, List.forall_mem_cons.2 ⟨ok172, List.forall_mem_cons.2 ⟨ok173, List.forall_mem_cons.2 ⟨ok164, List.forall_mem_cons.2 ⟨ok136, List.forall_mem_cons.2 ⟨ok97, List.forall_mem_cons.2 ⟨ok44, List.forall_mem_cons.2 ⟨ok137, List.forall_mem_cons.2 ⟨ok98, List.forall_mem_cons.2 ⟨ok45, List.forall_mem_cons.2 ⟨ok23, List.forall_mem_cons.2 ⟨ok46, List.forall_mem_cons.2 ⟨ok99, List.forall_mem_cons.2 ⟨ok47, List.forall_mem_cons.2 ⟨ok100, List.forall_mem_cons.2 ⟨ok48, List.forall_mem_cons.2 ⟨ok6, fun _ h => absurd h List.not_mem_nil⟩⟩⟩⟩⟩⟩⟩⟩⟩⟩⟩⟩⟩⟩⟩⟩⟩⟩⟩⟩⟩⟩⟩⟩⟩⟩⟩⟩⟩⟩⟩⟩⟩⟩⟩⟩⟩⟩⟩⟩⟩⟩⟩⟩⟩⟩⟩⟩)
end Go.Proofs.Ytdgmghmbokkhlaa.LFitProgram
