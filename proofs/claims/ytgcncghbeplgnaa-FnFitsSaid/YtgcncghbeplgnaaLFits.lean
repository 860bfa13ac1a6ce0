/- The types and the functions that a law reaches, told for the reading (Fw). Written by a program (gen.py). -/
import Derived.Test.YtgcncghbeplgnaaFwC
import Derived.Test.YtgcncghbeplgnaaProg
namespace Go.Proofs.Ytgcncghbeplgnaa.LFits
open Go Go.Fw
open Go.Proofs
noncomputable def tyL : List (Nat × TI) := [(2, ⟨(.int .i64), 0, 8⟩),
  (3, ⟨(.int .i64), 0, 8⟩),
  (4, ⟨.bool, 0, 1⟩),
  (5, ⟨(.int .u8), 0, 1⟩),
  (22, ⟨(.slc (.int .u8)), 5, 24⟩),
  (25, ⟨(.slc (.int .i16)), 35, 24⟩),
  (35, ⟨(.int .i16), 0, 2⟩),
  (38, ⟨(.slc (.pair (.int .i8) (.pair (.int .i16) (.pair (.int .i16) .unit)))), 47, 24⟩),
  (41, ⟨(.slc (.int .i64)), 2, 24⟩),
  (45, ⟨(.int .i8), 0, 1⟩),
  (47, ⟨(.pair (.int .i8) (.pair (.int .i16) (.pair (.int .i16) .unit))), 0, 6⟩),
  (49, ⟨(.slc (.pair (.int .i8) (.pair (.int .i16) (.pair (.int .i16) .unit)))), 118, 24⟩),
  (51, ⟨(.pair (.int .i16) (.pair (.slc (.pair (.int .i8) (.pair (.int .i16) (.pair (.int .i16) .unit)))) .unit)), 0, 32⟩),
  (98, ⟨(.ptr (.pair (.slc (.int .u8)) (.pair (.int .i64) (.pair (.int .u64) .unit)))), 0, 8⟩),
  (116, ⟨(.ptr (.pair (.int .i16) (.pair (.slc (.pair (.int .i8) (.pair (.int .i16) (.pair (.int .i16) .unit)))) .unit))), 0, 8⟩),
  (118, ⟨(.pair (.int .i8) (.pair (.int .i16) (.pair (.int .i16) .unit))), 0, 6⟩),
  (123, ⟨.fn, 0, 8⟩),
  (158, ⟨(.int .u64), 0, 8⟩),
  (160, ⟨(.pair (.slc (.int .u8)) (.pair (.int .i64) (.pair (.int .u64) .unit))), 0, 40⟩),
  (162, ⟨.fn, 0, 8⟩)]
noncomputable def T : Nat → Option TI := findT tyL
/- laws.a2Long -/
noncomputable def I27 : Inst := { f := 27, nt := 13, params := [((.ro (.slc (.int .u8))), false), ((.ro (.slc (.int .u8))), false)], res := [(.ro .bool)], slots := [.tmp 4], code := bd Try.f27 }
/- spec.l00From -/
noncomputable def I75 : Inst := { f := 75, nt := 6, params := [((.ro (.slc (.int .u8))), false)], res := [(.box (.ro (.pair (.slc (.int .u8)) (.pair (.int .i64) (.pair (.int .u64) .unit)))))], slots := [.tmp 2], code := bd Try.f75, strict := true }
/- spec.l00Src).next -/
noncomputable def I165 : Inst := { f := 165, nt := 62, params := [((.box (.ro (.pair (.slc (.int .u8)) (.pair (.int .i64) (.pair (.int .u64) .unit))))), true)], res := [(.ro (.int .i64))], slots := [.tmp 2], code := bd Try.f165, strict := true, pins := [0] }
/- spec.l00Src).pick -/
noncomputable def I76 : Inst := { f := 76, nt := 20, params := [((.box (.ro (.pair (.slc (.int .u8)) (.pair (.int .i64) (.pair (.int .u64) .unit))))), true), ((.ro (.int .i64)), false)], res := [(.ro (.int .i64))], slots := [.tmp 4], code := bd Try.f76, strict := true, callee := fun r i => find 0 [(3001, 165), (5003, 165)] (r * 1000 + i), pins := [0] }
/- spec.l00Src).one -/
noncomputable def I146 : Inst := { f := 146, nt := 9, params := [((.box (.ro (.pair (.slc (.int .u8)) (.pair (.int .i64) (.pair (.int .u64) .unit))))), true), ((.ro (.int .i64)), false)], res := [(.ro .bool)], slots := [.tmp 4], code := bd Try.f146, strict := true, callee := fun r i => find 0 [(1002, 76)] (r * 1000 + i), pins := [0] }
/- spec.l02Drawn -/
noncomputable def I106 : Inst := { f := 106, nt := 84, params := [((.box (.ro (.pair (.slc (.int .u8)) (.pair (.int .i64) (.pair (.int .u64) .unit))))), true)], res := [(.pr (.ro (.int .i16)) (.pr (.row false (.pair (.int .i8) (.pair (.int .i16) (.pair (.int .i16) .unit)))) (.ro .unit)))], slots := [.cell 2 51], code := bd Try.f106, strict := true, callee := fun r i => find 0 [(1001, 76), (3001, 76), (6001, 76), (6004, 76), (6008, 76), (7001, 146)] (r * 1000 + i), loops := fun b => find [] [(0, [.own 0 (.box (.ro (.pair (.slc (.int .u8)) (.pair (.int .i64) (.pair (.int .u64) .unit))))), .own 2 (.box (.ro (.pair (.int .i16) (.pair (.slc (.pair (.int .i8) (.pair (.int .i16) (.pair (.int .i16) .unit)))) .unit)))), .own 3 (.box (.pr (.ro (.int .i16)) (.pr (.row false (.pair (.int .i8) (.pair (.int .i16) (.pair (.int .i16) .unit)))) (.ro .unit)))), .own 4 (.ro (.int .i64)), .own 5 (.ro (.int .i64))])] b, pins := [0], deep := fun r i => find false [(10003, true), (10004, true)] (r * 1000 + i) }
/- spec.l02Shape -/
noncomputable def I197 : Inst := { f := 197, nt := 90, params := [((.ro (.int .i64)), false), ((.ro (.int .i64)), false), ((.ro (.int .i64)), false)], res := [(.ro (.int .i64)), (.ro (.int .i64))], slots := [.tmp 6, .tmp 7], code := bd Try.f197 }
/- spec.l01Near -/
noncomputable def I88 : Inst := { f := 88, nt := 23, params := [((.ro (.int .i64)), false), ((.ro (.int .i64)), false)], res := [(.ro (.int .i64))], slots := [.tmp 4], code := bd Try.f88 }
/- spec.l02Lift -/
noncomputable def I173 : Inst := { f := 173, nt := 31, params := [((.ro (.int .i64)), false), ((.ro (.int .i64)), false), ((.ro (.int .i64)), false), ((.ro (.int .i64)), false), ((.ro (.int .i64)), false)], res := [(.ro (.int .i64))], slots := [.tmp 10], code := bd Try.f173, callee := fun r i => find 0 [(1003, 197), (2010, 88)] (r * 1000 + i) }
/- spec.l02Make -/
noncomputable def I107 : Inst := { f := 107, nt := 66, params := [((.ro (.ptr (.pair (.int .i16) (.pair (.slc (.pair (.int .i8) (.pair (.int .i16) (.pair (.int .i16) .unit)))) .unit)))), false)], res := [(.row false (.int .i16))], slots := [.tmp 2], code := bd Try.f107, callee := fun r i => find 0 [(10018, 173)] (r * 1000 + i), loops := fun b => find [] [(2, [.own 0 (.ro (.ptr (.pair (.int .i16) (.pair (.slc (.pair (.int .i8) (.pair (.int .i16) (.pair (.int .i16) .unit)))) .unit)))), .own 3 (.row false (.int .i16)), .own 4 (.ro (.int .i64)), .own 5 (.ro (.int .i64)), .own 6 (.ro (.ptr (.pair (.int .i8) (.pair (.int .i16) (.pair (.int .i16) .unit))))), .own 7 (.ro (.int .i64))]), (0, [.own 0 (.ro (.ptr (.pair (.int .i16) (.pair (.slc (.pair (.int .i8) (.pair (.int .i16) (.pair (.int .i16) .unit)))) .unit)))), .own 3 (.row false (.int .i16)), .own 4 (.ro (.int .i64)), .own 5 (.ro (.int .i64))])] b, deep := fun r i => find false [(1000, true), (10020, true), (10021, true)] (r * 1000 + i) }
/- spec.A2Cam -/
noncomputable def I28 : Inst := { f := 28, nt := 8, params := [((.ro (.slc (.int .u8))), false)], res := [(.row false (.int .i16))], slots := [.tmp 2], code := bd Try.f28, callee := fun r i => find 0 [(1001, 75), (1002, 106), (2000, 107)] (r * 1000 + i) }
/- impl.Cam).steps -/
noncomputable def I79 : Inst := { f := 79, nt := 5, params := [((.ro (.slc (.int .i16))), false)], res := [(.ro (.int .i64))], slots := [.tmp 2], code := bd Try.f79 }
/- impl.inRange -/
noncomputable def I84 : Inst := { f := 84, nt := 15, params := [((.ro (.int .i64)), false), ((.ro (.int .i64)), false), ((.ro (.int .i64)), false)], res := [(.ro .bool)], slots := [.tmp 6], code := bd Try.f84 }
/- impl.isSteps -/
noncomputable def I93 : Inst := { f := 93, nt := 5, params := [((.ro (.int .i64)), false)], res := [(.ro .bool)], slots := [.tmp 2], code := bd Try.f93, callee := fun r i => find 0 [(1001, 84)] (r * 1000 + i) }
/- impl.isLift -/
noncomputable def I114 : Inst := { f := 114, nt := 5, params := [((.ro (.int .i64)), false)], res := [(.ro .bool)], slots := [.tmp 2], code := bd Try.f114, callee := fun r i => find 0 [(1001, 84)] (r * 1000 + i) }
/- impl.ValidCam$1 -/
noncomputable def I169 : Inst := { f := 169, nt := 7, params := [((.ro (.int .i16)), false)], res := [(.ro .bool)], slots := [.tmp 2], code := bd Try.f169, callee := fun r i => find 0 [(1002, 114)] (r * 1000 + i) }
/- impl.Cam,int16] -/
noncomputable def I196 : Inst := { f := 196, nt := 19, params := [((.ro (.slc (.int .i16))), false), ((.clo 169 (.ro .unit) (.ro .unit)), false)], res := [(.ro (.int .i64))], slots := [.tmp 4], code := bd Try.f196, callee := fun r i => find 0 [(4005, 169)] (r * 1000 + i), loops := fun b => find [] [(0, [.own 0 (.ro (.slc (.int .i16))), .own 1 (.clo 169 (.ro .unit) (.ro .unit)), .own 7 (.ro (.int .i64)), .own 8 (.ro (.int .i64))])] b }
/- impl.Cam,int16] -/
noncomputable def I168 : Inst := { f := 168, nt := 9, params := [((.ro (.slc (.int .i16))), false), ((.clo 169 (.ro .unit) (.ro .unit)), false)], res := [(.ro .bool)], slots := [.tmp 4], code := bd Try.f168, callee := fun r i => find 0 [(1002, 196)] (r * 1000 + i) }
/- impl.ValidCam -/
noncomputable def I89 : Inst := { f := 89, nt := 11, params := [((.ro (.slc (.int .i16))), false)], res := [(.ro .bool)], slots := [.tmp 2], code := bd Try.f89, callee := fun r i => find 0 [(1001, 79), (1002, 93), (1005, 168)] (r * 1000 + i) }
/- impl.floorDiv -/
noncomputable def I167 : Inst := { f := 167, nt := 16, params := [((.ro (.int .i64)), false), ((.ro (.int .i64)), false)], res := [(.ro (.int .i64))], slots := [.tmp 4], code := bd Try.f167 }
/- impl.mod -/
noncomputable def I154 : Inst := { f := 154, nt := 12, params := [((.ro (.int .i64)), false), ((.ro (.int .i64)), false)], res := [(.ro (.int .i64))], slots := [.tmp 4], code := bd Try.f154, callee := fun r i => find 0 [(1004, 167)] (r * 1000 + i) }
/- impl.Cam).at -/
noncomputable def I81 : Inst := { f := 81, nt := 13, params := [((.ro (.slc (.int .i16))), false), ((.ro (.int .i64)), false)], res := [(.ro (.int .i64))], slots := [.tmp 4], code := bd Try.f81, callee := fun r i => find 0 [(1003, 79), (1004, 154)] (r * 1000 + i) }
/- impl.Cam).change -/
noncomputable def I102 : Inst := { f := 102, nt := 13, params := [((.ro (.slc (.int .i16))), false), ((.ro (.int .i64)), false)], res := [(.ro (.int .i64))], slots := [.tmp 4], code := bd Try.f102, callee := fun r i => find 0 [(1003, 81), (1006, 81)] (r * 1000 + i) }
/- impl.kindOf -/
noncomputable def I171 : Inst := { f := 171, nt := 9, params := [((.ro (.int .i64)), false)], res := [(.ro (.int .i8))], slots := [.tmp 2], code := bd Try.f171 }
/- impl.Cam).runs$1 -/
noncomputable def I170 : Inst := { f := 170, nt := 8, params := [((.ro (.int .i64)), false), ((.box (.ro (.slc (.int .i16)))), true)], res := [(.ro (.int .i8))], slots := [.tmp 3], code := bd Try.f170, strict := true, callee := fun r i => find 0 [(1002, 102), (1003, 171)] (r * 1000 + i), pins := [1] }
/- impl.Cam).runs -/
noncomputable def I103 : Inst := { f := 103, nt := 78, params := [((.ro (.slc (.int .i16))), false)], res := [(.row false (.pair (.int .i8) (.pair (.int .i16) (.pair (.int .i16) .unit))))], slots := [.tmp 2], code := bd Try.f103, callee := fun r i => find 0 [(1001, 79), (4008, 170), (4010, 170), (7001, 170), (12008, 170), (12011, 170), (14003, 170), (14006, 154)] (r * 1000 + i), loops := fun b => find [] [(4, [.own 3 (.ro (.int .i64)), .own 4 (.clo 170 (.ro .unit) (.pr (.box (.ro (.slc (.int .i16)))) (.ro .unit))), .own 5 (.ro (.int .i64)), .own 6 (.row false (.pair (.int .i8) (.pair (.int .i16) (.pair (.int .i16) .unit)))), .own 7 (.ro (.int .i64)), .own 8 (.ro (.int .i64))]), (2, [.own 3 (.ro (.int .i64)), .own 4 (.clo 170 (.ro .unit) (.pr (.box (.ro (.slc (.int .i16)))) (.ro .unit))), .own 5 (.ro (.int .i64)), .own 6 (.row false (.pair (.int .i8) (.pair (.int .i16) (.pair (.int .i16) .unit)))), .own 7 (.ro (.int .i64))]), (0, [.own 3 (.ro (.int .i64)), .own 4 (.clo 170 (.ro .unit) (.pr (.box (.ro (.slc (.int .i16)))) (.ro .unit))), .own 5 (.ro (.int .i64))])] b, deep := fun r i => find false [(7005, true), (8000, true), (14013, true), (14014, true)] (r * 1000 + i) }
/- impl.Cam).stretches -/
noncomputable def I108 : Inst := { f := 108, nt := 44, params := [((.ro (.slc (.int .i16))), false)], res := [(.row false (.pair (.int .i8) (.pair (.int .i16) (.pair (.int .i16) .unit))))], slots := [.tmp 2], code := bd Try.f108, callee := fun r i => find 0 [(1001, 103)] (r * 1000 + i), deep := fun r i => find false [(6010, true), (6011, true)] (r * 1000 + i) }
/- impl.isLaw -/
noncomputable def I117 : Inst := { f := 117, nt := 5, params := [((.ro (.int .i64)), false)], res := [(.ro .bool)], slots := [.tmp 2], code := bd Try.f117, callee := fun r i => find 0 [(1001, 84)] (r * 1000 + i) }
/- impl.shape -/
noncomputable def I176 : Inst := { f := 176, nt := 90, params := [((.ro (.int .i64)), false), ((.ro (.int .i64)), false), ((.ro (.int .i64)), false)], res := [(.ro (.int .i64)), (.ro (.int .i64))], slots := [.tmp 6, .tmp 7], code := bd Try.f176 }
/- impl.nearest -/
noncomputable def I86 : Inst := { f := 86, nt := 12, params := [((.ro (.int .i64)), false), ((.ro (.int .i64)), false)], res := [(.ro (.int .i64))], slots := [.tmp 4], code := bd Try.f86, callee := fun r i => find 0 [(1006, 167)] (r * 1000 + i) }
/- impl.liftIn -/
noncomputable def I123 : Inst := { f := 123, nt := 31, params := [((.ro (.int .i64)), false), ((.ro (.int .i64)), false), ((.ro (.int .i64)), false), ((.ro (.int .i64)), false), ((.ro (.int .i64)), false)], res := [(.ro (.int .i64))], slots := [.tmp 10], code := bd Try.f123, callee := fun r i => find 0 [(1003, 176), (2010, 86)] (r * 1000 + i) }
/- impl.Cam).fits -/
noncomputable def I174 : Inst := { f := 174, nt := 37, params := [((.ro (.slc (.int .i16))), false), ((.ro (.int .i64)), false), ((.ro (.int .i64)), false), ((.ro (.int .i64)), false)], res := [(.ro .bool)], slots := [.tmp 8], code := bd Try.f174, callee := fun r i => find 0 [(1002, 81), (1007, 81), (5005, 123), (5010, 81)] (r * 1000 + i), loops := fun b => find [] [(0, [.own 0 (.ro (.slc (.int .i16))), .own 1 (.ro (.int .i64)), .own 2 (.ro (.int .i64)), .own 3 (.ro (.int .i64)), .own 9 (.ro (.int .i64)), .own 10 (.ro (.int .i64)), .own 11 (.ro (.int .i64))])] b }
/- impl.Cam).fitMotion -/
noncomputable def I109 : Inst := { f := 109, nt := 18, params := [((.ro (.slc (.int .i16))), false), ((.ro (.int .i64)), false), ((.ro (.int .i64)), false)], res := [(.ro (.int .i64))], slots := [.tmp 6], code := bd Try.f109, callee := fun r i => find 0 [(2001, 117), (4004, 174)] (r * 1000 + i), loops := fun b => find [] [(0, [.own 0 (.ro (.slc (.int .i16))), .own 1 (.ro (.int .i64)), .own 2 (.ro (.int .i64)), .own 7 (.ro (.int .i64))])] b }
/- impl.FitProgram -/
noncomputable def I29 : Inst := { f := 29, nt := 62, params := [((.ro (.slc (.int .i16))), false)], res := [(.pr (.ro (.int .i16)) (.pr (.row false (.pair (.int .i8) (.pair (.int .i16) (.pair (.int .i16) .unit)))) (.ro .unit))), (.ro (.int .i64))], slots := [.cell 2 51, .tmp 3], code := bd Try.f29, callee := fun r i => find 0 [(1001, 89), (3001, 108), (11003, 109), (14010, 81)] (r * 1000 + i), loops := fun b => find [] [(0, [.own 0 (.ro (.slc (.int .i16))), .own 2 (.box (.ro (.pair (.int .i16) (.pair (.slc (.pair (.int .i8) (.pair (.int .i16) (.pair (.int .i16) .unit)))) .unit)))), .own 5 (.box (.pr (.ro (.int .i16)) (.pr (.row false (.pair (.int .i8) (.pair (.int .i16) (.pair (.int .i16) .unit)))) (.ro .unit)))), .own 25 (.ro (.slc (.pair (.int .i8) (.pair (.int .i16) (.pair (.int .i16) .unit))))), .own 26 (.ro (.int .i64)), .own 27 (.ro (.int .i64))])] b, deep := fun r i => find false [(14013, true), (14014, true)] (r * 1000 + i) }
/- spec.l00In -/
noncomputable def I87 : Inst := { f := 87, nt := 15, params := [((.ro (.int .i64)), false), ((.ro (.int .i64)), false), ((.ro (.int .i64)), false)], res := [(.ro .bool)], slots := [.tmp 6], code := bd Try.f87 }
/- spec.l01Steps -/
noncomputable def I97 : Inst := { f := 97, nt := 5, params := [((.ro (.int .i64)), false)], res := [(.ro .bool)], slots := [.tmp 2], code := bd Try.f97, callee := fun r i => find 0 [(1001, 87)] (r * 1000 + i) }
/- spec.l01Lift -/
noncomputable def I166 : Inst := { f := 166, nt := 5, params := [((.ro (.int .i64)), false)], res := [(.ro .bool)], slots := [.tmp 2], code := bd Try.f166, callee := fun r i => find 0 [(1001, 87)] (r * 1000 + i) }
/- spec.l01Ok -/
noncomputable def I95 : Inst := { f := 95, nt := 21, params := [((.ro (.slc (.int .i16))), false)], res := [(.ro .bool)], slots := [.tmp 2], code := bd Try.f95, callee := fun r i => find 0 [(1002, 97), (6005, 166)] (r * 1000 + i), loops := fun b => find [] [(0, [.own 0 (.ro (.slc (.int .i16))), .own 3 (.ro (.int .i64))])] b }
/- spec.l01At -/
noncomputable def I98 : Inst := { f := 98, nt := 19, params := [((.ro (.slc (.int .i16))), false), ((.ro (.int .i64)), false)], res := [(.ro (.int .i64))], slots := [.tmp 4], code := bd Try.f98 }
/- spec.l01Changes -/
noncomputable def I105 : Inst := { f := 105, nt := 24, params := [((.ro (.slc (.int .i16))), false)], res := [(.row false (.int .i64))], slots := [.tmp 2], code := bd Try.f105, callee := fun r i => find 0 [(5004, 98), (5007, 98)] (r * 1000 + i), loops := fun b => find [] [(0, [.own 0 (.ro (.slc (.int .i16))), .own 3 (.row false (.int .i64)), .own 4 (.ro (.int .i64))])] b, deep := fun r i => find false [(1000, true), (5009, true), (5010, true)] (r * 1000 + i) }
/- spec.l01Kind -/
noncomputable def I172 : Inst := { f := 172, nt := 9, params := [((.ro (.int .i64)), false)], res := [(.ro (.int .i8))], slots := [.tmp 2], code := bd Try.f172 }
/- spec.l01Runs -/
noncomputable def I104 : Inst := { f := 104, nt := 101, params := [((.ro (.slc (.int .i16))), false)], res := [(.row false (.pair (.int .i8) (.pair (.int .i16) (.pair (.int .i16) .unit))))], slots := [.tmp 2], code := bd Try.f104, callee := fun r i => find 0 [(1001, 105), (5014, 172), (5018, 172), (13012, 172), (13019, 172), (15007, 172)] (r * 1000 + i), loops := fun b => find [] [(4, [.own 3 (.ro (.slc (.int .i64))), .own 4 (.ro (.int .i64)), .own 7 (.row false (.pair (.int .i8) (.pair (.int .i16) (.pair (.int .i16) .unit)))), .own 8 (.ro (.int .i64)), .own 9 (.ro (.int .i64)), .own 10 (.ro (.int .i64))]), (2, [.own 3 (.ro (.slc (.int .i64))), .own 4 (.ro (.int .i64)), .own 7 (.row false (.pair (.int .i8) (.pair (.int .i16) (.pair (.int .i16) .unit)))), .own 8 (.ro (.int .i64)), .own 9 (.ro (.int .i64))]), (0, [.own 3 (.ro (.slc (.int .i64))), .own 4 (.ro (.int .i64)), .own 5 (.ro (.int .i64)), .own 6 (.ro (.int .i64))])] b, deep := fun r i => find false [(8000, true), (15015, true), (15016, true)] (r * 1000 + i) }
/- spec.l02Runs -/
noncomputable def I110 : Inst := { f := 110, nt := 52, params := [((.ro (.slc (.int .i16))), false)], res := [(.row false (.pair (.int .i8) (.pair (.int .i16) (.pair (.int .i16) .unit))))], slots := [.tmp 2], code := bd Try.f110, callee := fun r i => find 0 [(2001, 104)] (r * 1000 + i), deep := fun r i => find false [(7004, true), (8003, true), (9010, true), (9011, true)] (r * 1000 + i) }
/- spec.l02Fit -/
noncomputable def I111 : Inst := { f := 111, nt := 46, params := [((.ro (.slc (.int .i16))), false), ((.ro (.int .i64)), false), ((.ro (.int .i64)), false)], res := [(.ro (.int .i64))], slots := [.tmp 6], code := bd Try.f111, callee := fun r i => find 0 [(1002, 98), (2004, 98), (10006, 98), (10012, 173)] (r * 1000 + i), loops := fun b => find [] [(2, [.own 0 (.ro (.slc (.int .i16))), .own 1 (.ro (.int .i64)), .own 2 (.ro (.int .i64)), .own 7 (.ro (.int .i64)), .own 8 (.ro (.int .i64)), .own 9 (.ro (.int .i64)), .own 10 (.ro .bool), .own 11 (.ro (.int .i64))]), (0, [.own 0 (.ro (.slc (.int .i16))), .own 1 (.ro (.int .i64)), .own 2 (.ro (.int .i64)), .own 7 (.ro (.int .i64)), .own 8 (.ro (.int .i64)), .own 9 (.ro (.int .i64))])] b }
/- spec.FitProgram -/
noncomputable def I30 : Inst := { f := 30, nt := 69, params := [((.ro (.slc (.int .i16))), false)], res := [(.pr (.ro (.int .i16)) (.pr (.row false (.pair (.int .i8) (.pair (.int .i16) (.pair (.int .i16) .unit)))) (.ro .unit))), (.ro (.int .i64))], slots := [.cell 2 51, .tmp 3], code := bd Try.f30, callee := fun r i => find 0 [(1001, 95), (3001, 110), (12003, 111), (15013, 98)] (r * 1000 + i), loops := fun b => find [] [(0, [.own 0 (.ro (.slc (.int .i16))), .own 2 (.box (.ro (.pair (.int .i16) (.pair (.slc (.pair (.int .i8) (.pair (.int .i16) (.pair (.int .i16) .unit)))) .unit)))), .own 4 (.ro (.slc (.pair (.int .i8) (.pair (.int .i16) (.pair (.int .i16) .unit))))), .own 5 (.box (.pr (.ro (.int .i16)) (.pr (.row false (.pair (.int .i8) (.pair (.int .i16) (.pair (.int .i16) .unit)))) (.ro .unit)))), .own 6 (.ro (.int .i64))])] b, deep := fun r i => find false [(15016, true), (15017, true)] (r * 1000 + i) }
/- spec.l02Same -/
noncomputable def I112 : Inst := { f := 112, nt := 52, params := [((.ro (.ptr (.pair (.int .i16) (.pair (.slc (.pair (.int .i8) (.pair (.int .i16) (.pair (.int .i16) .unit)))) .unit)))), false), ((.ro (.ptr (.pair (.int .i16) (.pair (.slc (.pair (.int .i8) (.pair (.int .i16) (.pair (.int .i16) .unit)))) .unit)))), false)], res := [(.ro .bool)], slots := [.tmp 4], code := bd Try.f112, loops := fun b => find [] [(0, [.own 0 (.ro (.ptr (.pair (.int .i16) (.pair (.slc (.pair (.int .i8) (.pair (.int .i16) (.pair (.int .i16) .unit)))) .unit)))), .own 1 (.ro (.ptr (.pair (.int .i16) (.pair (.slc (.pair (.int .i8) (.pair (.int .i16) (.pair (.int .i16) .unit)))) .unit)))), .own 5 (.ro (.int .i64))])] b }
/- spec.SameProgram -/
noncomputable def I31 : Inst := { f := 31, nt := 6, params := [((.ro (.pair (.int .i16) (.pair (.slc (.pair (.int .i8) (.pair (.int .i16) (.pair (.int .i16) .unit)))) .unit))), false), ((.ro (.pair (.int .i16) (.pair (.slc (.pair (.int .i8) (.pair (.int .i16) (.pair (.int .i16) .unit)))) .unit))), false)], res := [(.ro .bool)], slots := [.tmp 4], code := bd Try.f31, callee := fun r i => find 0 [(1000, 112)] (r * 1000 + i) }
/- impl.ValidProgram$1 -/
noncomputable def I116 : Inst := { f := 116, nt := 20, params := [((.ro (.pair (.int .i8) (.pair (.int .i16) (.pair (.int .i16) .unit)))), false)], res := [(.ro .bool)], slots := [.tmp 2], code := bd Try.f116, callee := fun r i => find 0 [(1003, 117), (1014, 114)] (r * 1000 + i) }
/- impl.Motion] -/
noncomputable def I175 : Inst := { f := 175, nt := 19, params := [((.ro (.slc (.pair (.int .i8) (.pair (.int .i16) (.pair (.int .i16) .unit))))), false), ((.clo 116 (.ro .unit) (.ro .unit)), false)], res := [(.ro (.int .i64))], slots := [.tmp 4], code := bd Try.f175, callee := fun r i => find 0 [(4005, 116)] (r * 1000 + i), loops := fun b => find [] [(0, [.own 0 (.ro (.slc (.pair (.int .i8) (.pair (.int .i16) (.pair (.int .i16) .unit))))), .own 1 (.clo 116 (.ro .unit) (.ro .unit)), .own 7 (.ro (.int .i64)), .own 8 (.ro (.int .i64))])] b }
/- impl.Motion] -/
noncomputable def I115 : Inst := { f := 115, nt := 9, params := [((.ro (.slc (.pair (.int .i8) (.pair (.int .i16) (.pair (.int .i16) .unit))))), false), ((.clo 116 (.ro .unit) (.ro .unit)), false)], res := [(.ro .bool)], slots := [.tmp 4], code := bd Try.f115, callee := fun r i => find 0 [(1002, 175)] (r * 1000 + i) }
/- impl.Program).steps -/
noncomputable def I118 : Inst := { f := 118, nt := 20, params := [((.ro (.pair (.int .i16) (.pair (.slc (.pair (.int .i8) (.pair (.int .i16) (.pair (.int .i16) .unit)))) .unit))), false)], res := [(.ro (.int .i64))], slots := [.tmp 2], code := bd Try.f118, loops := fun b => find [] [(0, [.own 3 (.ro (.int .i64)), .own 7 (.ro (.slc (.pair (.int .i8) (.pair (.int .i16) (.pair (.int .i16) .unit))))), .own 8 (.ro (.int .i64)), .own 9 (.ro (.int .i64))])] b }
/- impl.ValidProgram -/
noncomputable def I33 : Inst := { f := 33, nt := 40, params := [((.ro (.pair (.int .i16) (.pair (.slc (.pair (.int .i8) (.pair (.int .i16) (.pair (.int .i16) .unit)))) .unit))), false)], res := [(.ro .bool)], slots := [.tmp 2], code := bd Try.f33, callee := fun r i => find 0 [(1003, 84), (1009, 114), (3002, 115), (4004, 118), (4005, 93)] (r * 1000 + i) }
/- impl.Program).profile -/
noncomputable def I113 : Inst := { f := 113, nt := 47, params := [((.ro (.pair (.int .i16) (.pair (.slc (.pair (.int .i8) (.pair (.int .i16) (.pair (.int .i16) .unit)))) .unit))), false)], res := [(.row false (.int .i16))], slots := [.tmp 2], code := bd Try.f113, callee := fun r i => find 0 [(8012, 123)] (r * 1000 + i), loops := fun b => find [] [(2, [.own 3 (.row false (.int .i16)), .own 4 (.ro (.int .i64)), .own 6 (.box (.ro (.pair (.int .i8) (.pair (.int .i16) (.pair (.int .i16) .unit))))), .own 13 (.ro (.slc (.pair (.int .i8) (.pair (.int .i16) (.pair (.int .i16) .unit))))), .own 14 (.ro (.int .i64)), .own 15 (.ro (.int .i64)), .own 21 (.ro (.int .i64)), .own 22 (.ro (.int .i64))]), (0, [.own 3 (.row false (.int .i16)), .own 4 (.ro (.int .i64)), .own 13 (.ro (.slc (.pair (.int .i8) (.pair (.int .i16) (.pair (.int .i16) .unit))))), .own 14 (.ro (.int .i64)), .own 15 (.ro (.int .i64))])] b, deep := fun r i => find false [(1000, true), (8014, true), (8015, true)] (r * 1000 + i) }
/- impl.MakeProfile -/
noncomputable def I32 : Inst := { f := 32, nt := 9, params := [((.ro (.pair (.int .i16) (.pair (.slc (.pair (.int .i8) (.pair (.int .i16) (.pair (.int .i16) .unit)))) .unit))), false)], res := [(.row false (.int .i16)), (.ro (.int .i64))], slots := [.tmp 2, .tmp 3], code := bd Try.f32, callee := fun r i => find 0 [(1001, 33), (3001, 113)] (r * 1000 + i) }
/- spec.l01Same -/
noncomputable def I92 : Inst := { f := 92, nt := 26, params := [((.ro (.slc (.int .i16))), false), ((.ro (.slc (.int .i16))), false)], res := [(.ro .bool)], slots := [.tmp 4], code := bd Try.f92, loops := fun b => find [] [(0, [.own 0 (.ro (.slc (.int .i16))), .own 1 (.ro (.slc (.int .i16))), .own 5 (.ro (.int .i64))])] b }
/- spec.SameCam -/
noncomputable def I18 : Inst := { f := 18, nt := 8, params := [((.ro (.slc (.int .i16))), false), ((.ro (.slc (.int .i16))), false)], res := [(.ro .bool)], slots := [.tmp 4], code := bd Try.f18, callee := fun r i => find 0 [(1002, 92)] (r * 1000 + i) }
/- laws.a2At -/
noncomputable def I34 : Inst := { f := 34, nt := 22, params := [((.ro (.slc (.int .u8))), false), ((.ro (.int .i64)), false), ((.ro (.int .i64)), false)], res := [(.ro (.int .i64))], slots := [.tmp 6], code := bd Try.f34 }
/- impl.isPlace -/
noncomputable def I119 : Inst := { f := 119, nt := 9, params := [((.ro (.int .i64)), false), ((.ro (.int .i64)), false)], res := [(.ro .bool)], slots := [.tmp 4], code := bd Try.f119, callee := fun r i => find 0 [(1003, 84)] (r * 1000 + i) }
/- impl.FitMotion -/
noncomputable def I35 : Inst := { f := 35, nt := 33, params := [((.ro (.slc (.int .i16))), false), ((.ro (.int .i64)), false), ((.ro (.int .i64)), false)], res := [(.ro (.int .i64)), (.ro (.int .i64))], slots := [.tmp 6, .tmp 7], code := bd Try.f35, callee := fun r i => find 0 [(1001, 89), (3003, 119), (3008, 79), (3009, 84), (5003, 109)] (r * 1000 + i) }
/- spec.FitMotion -/
noncomputable def I36 : Inst := { f := 36, nt := 33, params := [((.ro (.slc (.int .i16))), false), ((.ro (.int .i64)), false), ((.ro (.int .i64)), false)], res := [(.ro (.int .i64)), (.ro (.int .i64))], slots := [.tmp 6, .tmp 7], code := bd Try.f36, callee := fun r i => find 0 [(1001, 95), (4003, 87), (4008, 87), (6003, 111)] (r * 1000 + i) }
/- spec.l01Far -/
noncomputable def I120 : Inst := { f := 120, nt := 5, params := [((.ro (.int .i64)), false)], res := [(.ro .bool)], slots := [.tmp 2], code := bd Try.f120, callee := fun r i => find 0 [(1001, 87)] (r * 1000 + i) }
/- spec.LiftAt -/
noncomputable def I37 : Inst := { f := 37, nt := 15, params := [((.ro (.slc (.int .i16))), false), ((.ro (.int .i64)), false)], res := [(.ro (.int .i64)), (.ro (.int .i64))], slots := [.tmp 4, .tmp 5], code := bd Try.f37, callee := fun r i => find 0 [(1001, 95), (3001, 120), (5002, 98)] (r * 1000 + i) }
/- impl.isShift -/
noncomputable def I121 : Inst := { f := 121, nt := 5, params := [((.ro (.int .i64)), false)], res := [(.ro .bool)], slots := [.tmp 2], code := bd Try.f121, callee := fun r i => find 0 [(1001, 84)] (r * 1000 + i) }
/- impl.LiftAt -/
noncomputable def I38 : Inst := { f := 38, nt := 17, params := [((.ro (.slc (.int .i16))), false), ((.ro (.int .i64)), false)], res := [(.ro (.int .i64)), (.ro (.int .i64))], slots := [.tmp 4, .tmp 5], code := bd Try.f38, callee := fun r i => find 0 [(1001, 89), (3001, 121), (5002, 81)] (r * 1000 + i) }
/- impl.isShape -/
noncomputable def I122 : Inst := { f := 122, nt := 18, params := [((.ro (.int .i64)), false), ((.ro (.int .i64)), false), ((.ro (.int .i64)), false)], res := [(.ro .bool)], slots := [.tmp 6], code := bd Try.f122, callee := fun r i => find 0 [(1001, 117), (1004, 84), (1009, 84)] (r * 1000 + i) }
/- impl.LiftIn -/
noncomputable def I39 : Inst := { f := 39, nt := 33, params := [((.ro (.int .i64)), false), ((.ro (.int .i64)), false), ((.ro (.int .i64)), false), ((.ro (.int .i64)), false), ((.ro (.int .i64)), false)], res := [(.ro (.int .i64)), (.ro (.int .i64))], slots := [.tmp 10, .tmp 11], code := bd Try.f39, callee := fun r i => find 0 [(1003, 122), (1007, 114), (1012, 114), (3005, 123)] (r * 1000 + i) }
/- laws.FnFits -/
noncomputable def I4 : Inst := { f := 4, nt := 165, params := [((.ro (.slc (.int .u8))), false), ((.ro (.slc (.int .u8))), false)], res := [(.ro .bool)], slots := [.tmp 4], code := bd Try.f4, callee := fun r i => find 0 [(1002, 27), (3001, 28), (4001, 29), (5001, 30), (6006, 31), (9001, 32), (10005, 18), (10010, 33), (14003, 34), (15003, 34), (16003, 35), (17003, 36), (22002, 37), (23004, 37), (29004, 38), (30005, 39)] (r * 1000 + i), loops := fun b => find [] [(0, [.own 5 (.ro (.slc (.int .i16))), .own 12 (.ro (.int .i64)), .own 13 (.ro (.int .i64)), .own 16 (.ro (.int .i64)), .own 18 (.ro (.int .i64)), .own 20 (.ro (.int .i64)), .own 22 (.ro (.int .i64))])] b }
noncomputable def CL : List (Nat × Inst) := [(27, I27), (75, I75), (165, I165), (76, I76), (146, I146), (106, I106), (197, I197), (88, I88), (173, I173), (107, I107), (28, I28), (79, I79), (84, I84), (93, I93), (114, I114), (169, I169), (196, I196), (168, I168), (89, I89), (167, I167), (154, I154), (81, I81), (102, I102), (171, I171), (170, I170), (103, I103), (108, I108), (117, I117), (176, I176), (86, I86), (123, I123), (174, I174), (109, I109), (29, I29), (87, I87), (97, I97), (166, I166), (95, I95), (98, I98), (105, I105), (172, I172), (104, I104), (110, I110), (111, I111), (30, I30), (112, I112), (31, I31), (116, I116), (175, I175), (115, I115), (118, I118), (33, I33), (113, I113), (32, I32), (92, I92), (18, I18), (34, I34), (119, I119), (35, I35), (36, I36), (120, I120), (37, I37), (121, I121), (38, I38), (122, I122), (39, I39), (4, I4)]
noncomputable def C : Nat → Inst := find I27 CL
theorem tsOk : TsOk Try.prog T := tsOkB_sound (by kernel_rfl)
theorem ok27 : InstOk Try.prog I27 := instOk_of Try.func27 (by kernel_rfl) (by kernel_rfl) (by kernel_rfl) (by kernel_rfl)
theorem ok75 : InstOk Try.prog I75 := instOk_of Try.func75 (by kernel_rfl) (by kernel_rfl) (by kernel_rfl) (by kernel_rfl)
theorem ok165 : InstOk Try.prog I165 := instOk_of Try.func165 (by kernel_rfl) (by kernel_rfl) (by kernel_rfl) (by kernel_rfl)
theorem ok76 : InstOk Try.prog I76 := instOk_of Try.func76 (by kernel_rfl) (by kernel_rfl) (by kernel_rfl) (by kernel_rfl)
theorem ok146 : InstOk Try.prog I146 := instOk_of Try.func146 (by kernel_rfl) (by kernel_rfl) (by kernel_rfl) (by kernel_rfl)
theorem ok106 : InstOk Try.prog I106 := instOk_of Try.func106 (by kernel_rfl) (by kernel_rfl) (by kernel_rfl) (by kernel_rfl)
theorem ok197 : InstOk Try.prog I197 := instOk_of Try.func197 (by kernel_rfl) (by kernel_rfl) (by kernel_rfl) (by kernel_rfl)
theorem ok88 : InstOk Try.prog I88 := instOk_of Try.func88 (by kernel_rfl) (by kernel_rfl) (by kernel_rfl) (by kernel_rfl)
theorem ok173 : InstOk Try.prog I173 := instOk_of Try.func173 (by kernel_rfl) (by kernel_rfl) (by kernel_rfl) (by kernel_rfl)
theorem ok107 : InstOk Try.prog I107 := instOk_of Try.func107 (by kernel_rfl) (by kernel_rfl) (by kernel_rfl) (by kernel_rfl)
theorem ok28 : InstOk Try.prog I28 := instOk_of Try.func28 (by kernel_rfl) (by kernel_rfl) (by kernel_rfl) (by kernel_rfl)
theorem ok79 : InstOk Try.prog I79 := instOk_of Try.func79 (by kernel_rfl) (by kernel_rfl) (by kernel_rfl) (by kernel_rfl)
theorem ok84 : InstOk Try.prog I84 := instOk_of Try.func84 (by kernel_rfl) (by kernel_rfl) (by kernel_rfl) (by kernel_rfl)
theorem ok93 : InstOk Try.prog I93 := instOk_of Try.func93 (by kernel_rfl) (by kernel_rfl) (by kernel_rfl) (by kernel_rfl)
theorem ok114 : InstOk Try.prog I114 := instOk_of Try.func114 (by kernel_rfl) (by kernel_rfl) (by kernel_rfl) (by kernel_rfl)
theorem ok169 : InstOk Try.prog I169 := instOk_of Try.func169 (by kernel_rfl) (by kernel_rfl) (by kernel_rfl) (by kernel_rfl)
theorem ok196 : InstOk Try.prog I196 := instOk_of Try.func196 (by kernel_rfl) (by kernel_rfl) (by kernel_rfl) (by kernel_rfl)
theorem ok168 : InstOk Try.prog I168 := instOk_of Try.func168 (by kernel_rfl) (by kernel_rfl) (by kernel_rfl) (by kernel_rfl)
theorem ok89 : InstOk Try.prog I89 := instOk_of Try.func89 (by kernel_rfl) (by kernel_rfl) (by kernel_rfl) (by kernel_rfl)
theorem ok167 : InstOk Try.prog I167 := instOk_of Try.func167 (by kernel_rfl) (by kernel_rfl) (by kernel_rfl) (by kernel_rfl)
theorem ok154 : InstOk Try.prog I154 := instOk_of Try.func154 (by kernel_rfl) (by kernel_rfl) (by kernel_rfl) (by kernel_rfl)
theorem ok81 : InstOk Try.prog I81 := instOk_of Try.func81 (by kernel_rfl) (by kernel_rfl) (by kernel_rfl) (by kernel_rfl)
theorem ok102 : InstOk Try.prog I102 := instOk_of Try.func102 (by kernel_rfl) (by kernel_rfl) (by kernel_rfl) (by kernel_rfl)
theorem ok171 : InstOk Try.prog I171 := instOk_of Try.func171 (by kernel_rfl) (by kernel_rfl) (by kernel_rfl) (by kernel_rfl)
theorem ok170 : InstOk Try.prog I170 := instOk_of Try.func170 (by kernel_rfl) (by kernel_rfl) (by kernel_rfl) (by kernel_rfl)
theorem ok103 : InstOk Try.prog I103 := instOk_of Try.func103 (by kernel_rfl) (by kernel_rfl) (by kernel_rfl) (by kernel_rfl)
theorem ok108 : InstOk Try.prog I108 := instOk_of Try.func108 (by kernel_rfl) (by kernel_rfl) (by kernel_rfl) (by kernel_rfl)
theorem ok117 : InstOk Try.prog I117 := instOk_of Try.func117 (by kernel_rfl) (by kernel_rfl) (by kernel_rfl) (by kernel_rfl)
theorem ok176 : InstOk Try.prog I176 := instOk_of Try.func176 (by kernel_rfl) (by kernel_rfl) (by kernel_rfl) (by kernel_rfl)
theorem ok86 : InstOk Try.prog I86 := instOk_of Try.func86 (by kernel_rfl) (by kernel_rfl) (by kernel_rfl) (by kernel_rfl)
theorem ok123 : InstOk Try.prog I123 := instOk_of Try.func123 (by kernel_rfl) (by kernel_rfl) (by kernel_rfl) (by kernel_rfl)
theorem ok174 : InstOk Try.prog I174 := instOk_of Try.func174 (by kernel_rfl) (by kernel_rfl) (by kernel_rfl) (by kernel_rfl)
theorem ok109 : InstOk Try.prog I109 := instOk_of Try.func109 (by kernel_rfl) (by kernel_rfl) (by kernel_rfl) (by kernel_rfl)
theorem ok29 : InstOk Try.prog I29 := instOk_of Try.func29 (by kernel_rfl) (by kernel_rfl) (by kernel_rfl) (by kernel_rfl)
theorem ok87 : InstOk Try.prog I87 := instOk_of Try.func87 (by kernel_rfl) (by kernel_rfl) (by kernel_rfl) (by kernel_rfl)
theorem ok97 : InstOk Try.prog I97 := instOk_of Try.func97 (by kernel_rfl) (by kernel_rfl) (by kernel_rfl) (by kernel_rfl)
theorem ok166 : InstOk Try.prog I166 := instOk_of Try.func166 (by kernel_rfl) (by kernel_rfl) (by kernel_rfl) (by kernel_rfl)
theorem ok95 : InstOk Try.prog I95 := instOk_of Try.func95 (by kernel_rfl) (by kernel_rfl) (by kernel_rfl) (by kernel_rfl)
theorem ok98 : InstOk Try.prog I98 := instOk_of Try.func98 (by kernel_rfl) (by kernel_rfl) (by kernel_rfl) (by kernel_rfl)
theorem ok105 : InstOk Try.prog I105 := instOk_of Try.func105 (by kernel_rfl) (by kernel_rfl) (by kernel_rfl) (by kernel_rfl)
theorem ok172 : InstOk Try.prog I172 := instOk_of Try.func172 (by kernel_rfl) (by kernel_rfl) (by kernel_rfl) (by kernel_rfl)
theorem ok104 : InstOk Try.prog I104 := instOk_of Try.func104 (by kernel_rfl) (by kernel_rfl) (by kernel_rfl) (by kernel_rfl)
theorem ok110 : InstOk Try.prog I110 := instOk_of Try.func110 (by kernel_rfl) (by kernel_rfl) (by kernel_rfl) (by kernel_rfl)
theorem ok111 : InstOk Try.prog I111 := instOk_of Try.func111 (by kernel_rfl) (by kernel_rfl) (by kernel_rfl) (by kernel_rfl)
theorem ok30 : InstOk Try.prog I30 := instOk_of Try.func30 (by kernel_rfl) (by kernel_rfl) (by kernel_rfl) (by kernel_rfl)
theorem ok112 : InstOk Try.prog I112 := instOk_of Try.func112 (by kernel_rfl) (by kernel_rfl) (by kernel_rfl) (by kernel_rfl)
theorem ok31 : InstOk Try.prog I31 := instOk_of Try.func31 (by kernel_rfl) (by kernel_rfl) (by kernel_rfl) (by kernel_rfl)
theorem ok116 : InstOk Try.prog I116 := instOk_of Try.func116 (by kernel_rfl) (by kernel_rfl) (by kernel_rfl) (by kernel_rfl)
theorem ok175 : InstOk Try.prog I175 := instOk_of Try.func175 (by kernel_rfl) (by kernel_rfl) (by kernel_rfl) (by kernel_rfl)
theorem ok115 : InstOk Try.prog I115 := instOk_of Try.func115 (by kernel_rfl) (by kernel_rfl) (by kernel_rfl) (by kernel_rfl)
theorem ok118 : InstOk Try.prog I118 := instOk_of Try.func118 (by kernel_rfl) (by kernel_rfl) (by kernel_rfl) (by kernel_rfl)
theorem ok33 : InstOk Try.prog I33 := instOk_of Try.func33 (by kernel_rfl) (by kernel_rfl) (by kernel_rfl) (by kernel_rfl)
theorem ok113 : InstOk Try.prog I113 := instOk_of Try.func113 (by kernel_rfl) (by kernel_rfl) (by kernel_rfl) (by kernel_rfl)
theorem ok32 : InstOk Try.prog I32 := instOk_of Try.func32 (by kernel_rfl) (by kernel_rfl) (by kernel_rfl) (by kernel_rfl)
theorem ok92 : InstOk Try.prog I92 := instOk_of Try.func92 (by kernel_rfl) (by kernel_rfl) (by kernel_rfl) (by kernel_rfl)
theorem ok18 : InstOk Try.prog I18 := instOk_of Try.func18 (by kernel_rfl) (by kernel_rfl) (by kernel_rfl) (by kernel_rfl)
theorem ok34 : InstOk Try.prog I34 := instOk_of Try.func34 (by kernel_rfl) (by kernel_rfl) (by kernel_rfl) (by kernel_rfl)
theorem ok119 : InstOk Try.prog I119 := instOk_of Try.func119 (by kernel_rfl) (by kernel_rfl) (by kernel_rfl) (by kernel_rfl)
theorem ok35 : InstOk Try.prog I35 := instOk_of Try.func35 (by kernel_rfl) (by kernel_rfl) (by kernel_rfl) (by kernel_rfl)
theorem ok36 : InstOk Try.prog I36 := instOk_of Try.func36 (by kernel_rfl) (by kernel_rfl) (by kernel_rfl) (by kernel_rfl)
theorem ok120 : InstOk Try.prog I120 := instOk_of Try.func120 (by kernel_rfl) (by kernel_rfl) (by kernel_rfl) (by kernel_rfl)
theorem ok37 : InstOk Try.prog I37 := instOk_of Try.func37 (by kernel_rfl) (by kernel_rfl) (by kernel_rfl) (by kernel_rfl)
theorem ok121 : InstOk Try.prog I121 := instOk_of Try.func121 (by kernel_rfl) (by kernel_rfl) (by kernel_rfl) (by kernel_rfl)
theorem ok38 : InstOk Try.prog I38 := instOk_of Try.func38 (by kernel_rfl) (by kernel_rfl) (by kernel_rfl) (by kernel_rfl)
theorem ok122 : InstOk Try.prog I122 := instOk_of Try.func122 (by kernel_rfl) (by kernel_rfl) (by kernel_rfl) (by kernel_rfl)
theorem ok39 : InstOk Try.prog I39 := instOk_of Try.func39 (by kernel_rfl) (by kernel_rfl) (by kernel_rfl) (by kernel_rfl)
theorem ok4 : InstOk Try.prog I4 := instOk_of Try.func4 (by kernel_rfl) (by kernel_rfl) (by kernel_rfl) (by kernel_rfl)
theorem insts : ∀ j, InstOk Try.prog (C j) := find_all ok27 (List.forall_mem_cons.2 ⟨ok27, List.forall_mem_cons.2 ⟨ok75, List.forall_mem_cons.2 ⟨ok165, List.forall_mem_cons.2 ⟨ok76, List.forall_mem_cons.2 ⟨ok146, List.forall_mem_cons.2 ⟨ok106, List.forall_mem_cons.2 ⟨ok197, List.forall_mem_cons.2 ⟨ok88, List.forall_mem_cons.2 ⟨ok173, List.forall_mem_cons.2 ⟨ok107, List.forall_mem_cons.2 ⟨ok28, List.forall_mem_cons.2 ⟨ok79, List.forall_mem_cons.2 ⟨ok84, List.forall_mem_cons.2 ⟨ok93, List.forall_mem_cons.2 ⟨ok114, List.forall_mem_cons.2 ⟨ok169, List.forall_mem_cons.2 ⟨ok196, List.forall_mem_cons.2 ⟨ok168, List.forall_mem_cons.2 ⟨ok89, List.forall_mem_cons.2 ⟨ok167, List.forall_mem_cons.2 ⟨ok154, List.forall_mem_cons.2 ⟨ok81, List.forall_mem_cons.2 ⟨ok102, List.forall_mem_cons.2 ⟨ok171, List.forall_mem_cons.2 ⟨ok170, List.forall_mem_cons.2 ⟨ok103, List.forall_mem_cons.2 ⟨ok108, List.forall_mem_cons.2 ⟨ok117, List.forall_mem_cons.2 ⟨ok176, List.forall_mem_cons.2 ⟨ok86, List.forall_mem_cons.2 ⟨ok123, List.forall_mem_cons.2 ⟨ok174, List.forall_mem_cons.2 ⟨ok109, List.forall_mem_cons.2 ⟨ok29, List.forall_mem_cons.2 ⟨ok87, List.forall_mem_cons.2 ⟨ok97, List.forall_mem_cons.2 ⟨ok166, List.forall_mem_cons.2 ⟨ok95, List.forall_mem_cons.2 ⟨ok98, List.forall_mem_cons.2 ⟨ok105, List.forall_mem_cons.2 ⟨ok172, List.forall_mem_cons.2 ⟨ok104, List.forall_mem_cons.2 ⟨ok110, List.forall_mem_cons.2 ⟨ok111, List.forall_mem_cons.2 ⟨ok30, List.forall_mem_cons.2 ⟨ok112, List.forall_mem_cons.2 ⟨ok31, List.forall_mem_cons.2 ⟨ok116, List.forall_mem_cons.2 ⟨ok175, List.forall_mem_cons.2 ⟨ok115, List.forall_mem_cons.2 ⟨ok118, List.forall_mem_cons.2 ⟨ok33, List.forall_mem_cons.2 ⟨ok113, List.forall_mem_cons.2 ⟨ok32, List.forall_mem_cons.2 ⟨ok92, List.forall_mem_cons.2 ⟨ok18, List.forall_mem_cons.2 ⟨ok34, List.forall_mem_cons.2 ⟨ok119, List.forall_mem_cons.2 ⟨ok35, List.forall_mem_cons.2 ⟨ok36, List.forall_mem_cons.2 ⟨ok120, List.forall_mem_cons.2 ⟨ok37, List.forall_mem_cons.2 ⟨ok121, List.forall_mem_cons.2 ⟨ok38, List.forall_mem_cons.2 ⟨ok122, List.forall_mem_cons.2 ⟨ok39, List.forall_mem_cons.2 ⟨ok4, fun _ h => absurd h List.not_mem_nil⟩⟩⟩⟩⟩⟩⟩⟩⟩⟩⟩⟩⟩⟩⟩⟩⟩⟩⟩⟩⟩⟩⟩⟩⟩⟩⟩⟩⟩⟩⟩⟩⟩⟩⟩⟩⟩⟩⟩⟩⟩⟩⟩⟩⟩⟩⟩⟩⟩⟩⟩⟩⟩⟩⟩⟩⟩⟩⟩⟩⟩⟩⟩⟩⟩⟩⟩)
theorem noExt : ∀ j, (C j).ext = none := by
  have hC : C = find I27 CL := by delta C; with_reducible rfl
  exact fun j => noExt_of (C := C) _ _ hC (by kernel_rfl) (by kernel_rfl) j
end Go.Proofs.Ytgcncghbeplgnaa.LFits
