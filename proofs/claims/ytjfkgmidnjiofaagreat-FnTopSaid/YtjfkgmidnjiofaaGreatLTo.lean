/- The types and the functions that a law reaches, told for the reading (Fw). Written by a program (gen.py). -/
import Derived.Test.YtjfkgmidnjiofaaGreatFwC
import Derived.Test.YtjfkgmidnjiofaaGreatProg
namespace Go.Proofs.YtjfkgmidnjiofaaGreat.LTo
open Go Go.Fw
open Go.Proofs
noncomputable def tyL : List (Nat × TI) := [(2, ⟨(.int .i64), 0, 8⟩),
  (3, ⟨(.int .i64), 0, 8⟩),
  (4, ⟨.bool, 0, 1⟩),
  (5, ⟨(.int .u8), 0, 1⟩),
  (22, ⟨(.slc (.int .u8)), 5, 24⟩),
  (24, ⟨(.int .i16), 0, 2⟩),
  (25, ⟨(.slc (.pair (.int .i8) (.pair (.int .i16) (.pair (.int .i16) .unit)))), 119, 24⟩),
  (27, ⟨(.pair (.int .i16) (.pair (.slc (.pair (.int .i8) (.pair (.int .i16) (.pair (.int .i16) .unit)))) .unit)), 0, 32⟩),
  (30, ⟨(.slc (.int .i16)), 24, 24⟩),
  (38, ⟨(.pair (.int .i64) (.pair (.int .i64) .unit)), 0, 16⟩),
  (40, ⟨(.slc (.int .i16)), 24, 24⟩),
  (45, ⟨(.slc (.slc (.arr 2 (.int .i16)))), 101, 24⟩),
  (48, ⟨(.pair (.slc (.int .i16)) (.pair (.slc (.int .i16)) (.pair (.slc (.int .i16)) .unit))), 0, 72⟩),
  (51, ⟨(.int .u64), 0, 8⟩),
  (53, ⟨(.arr 64 (.int .u64)), 51, 512⟩),
  (58, ⟨(.slc (.pair (.arr 2 (.int .i16)) (.pair .bool .unit))), 71, 24⟩),
  (62, ⟨(.pair (.int .i16) (.pair (.int .i16) (.pair (.int .i16) (.pair (.slc (.int .i16)) .unit)))), 0, 32⟩),
  (63, ⟨(.slc (.pair (.int .i16) (.pair (.int .i16) (.pair (.int .i16) (.pair (.slc (.int .i16)) .unit))))), 62, 24⟩),
  (65, ⟨(.slc (.int .i64)), 2, 24⟩),
  (69, ⟨(.arr 2 (.int .i16)), 24, 4⟩),
  (71, ⟨(.pair (.arr 2 (.int .i16)) (.pair .bool .unit)), 0, 6⟩),
  (73, ⟨(.ptr (.pair (.slc (.int .u8)) (.pair (.int .i64) (.pair (.int .u64) .unit)))), 0, 8⟩),
  (78, ⟨(.ptr (.pair (.int .i16) (.pair (.slc (.pair (.int .i8) (.pair (.int .i16) (.pair (.int .i16) .unit)))) .unit))), 0, 8⟩),
  (83, ⟨.fn, 0, 8⟩),
  (85, ⟨.fn, 0, 8⟩),
  (88, ⟨(.slc (.pair (.int .i64) (.pair (.int .i64) (.pair .bool .unit)))), 90, 24⟩),
  (90, ⟨(.pair (.int .i64) (.pair (.int .i64) (.pair .bool .unit))), 0, 24⟩),
  (93, ⟨.fn, 0, 8⟩),
  (100, ⟨(.slc (.arr 2 (.int .i16))), 69, 24⟩),
  (101, ⟨(.slc (.arr 2 (.int .i16))), 69, 24⟩),
  (106, ⟨(.ptr (.arr 64 (.int .u64))), 0, 8⟩),
  (110, ⟨(.ptr (.pair (.slc (.int .i16)) (.pair (.slc (.int .i16)) (.pair (.slc (.int .i16)) .unit)))), 0, 8⟩),
  (117, ⟨(.int .i8), 0, 1⟩),
  (119, ⟨(.pair (.int .i8) (.pair (.int .i16) (.pair (.int .i16) .unit))), 0, 6⟩),
  (123, ⟨(.pair (.slc (.int .u8)) (.pair (.int .i64) (.pair (.int .u64) .unit))), 0, 40⟩),
  (125, ⟨.fn, 0, 8⟩),
  (128, ⟨.fn, 0, 8⟩),
  (135, ⟨.fn, 0, 8⟩),
  (138, ⟨(.ptr (.pair (.int .i64) (.pair (.arr 2 (.int .i16)) (.pair (.slc (.pair (.arr 2 (.int .i16)) (.pair .bool .unit))) .unit)))), 0, 8⟩),
  (140, ⟨(.pair (.int .i64) (.pair (.arr 2 (.int .i16)) (.pair (.slc (.pair (.arr 2 (.int .i16)) (.pair .bool .unit))) .unit))), 0, 40⟩),
  (146, ⟨.fn, 0, 8⟩),
  (148, ⟨(.int .u64), 0, 8⟩),
  (149, ⟨(.arr 2 (.slc (.int .i16))), 30, 48⟩),
  (156, ⟨.fn, 0, 8⟩),
  (162, ⟨.fn, 0, 8⟩),
  (164, ⟨(.ptr (.pair (.arr 2 (.int .i16)) (.pair (.slc (.pair (.arr 2 (.int .i16)) (.pair .bool .unit))) (.pair (.int .i64) .unit)))), 0, 8⟩),
  (166, ⟨(.pair (.arr 2 (.int .i16)) (.pair (.slc (.pair (.arr 2 (.int .i16)) (.pair .bool .unit))) (.pair (.int .i64) .unit))), 0, 40⟩)]
noncomputable def T : Nat → Option TI := findT tyL
/- laws.a2Long -/
noncomputable def I4 : Inst := { f := 4, nt := 13, params := [((.ro (.slc (.int .u8))), false), ((.ro (.slc (.int .u8))), false)], res := [(.ro .bool)], slots := [.tmp 4], code := bd Tryz.f4 }
/- spec.l00From -/
noncomputable def I27 : Inst := { f := 27, nt := 6, params := [((.ro (.slc (.int .u8))), false)], res := [(.box (.ro (.pair (.slc (.int .u8)) (.pair (.int .i64) (.pair (.int .u64) .unit)))))], slots := [.tmp 2], code := bd Tryz.f27, strict := true }
/- spec.l00Src).next -/
noncomputable def I99 : Inst := { f := 99, nt := 62, params := [((.box (.ro (.pair (.slc (.int .u8)) (.pair (.int .i64) (.pair (.int .u64) .unit))))), true)], res := [(.ro (.int .i64))], slots := [.tmp 2], code := bd Tryz.f99, strict := true, pins := [0] }
/- spec.l00Src).pick -/
noncomputable def I52 : Inst := { f := 52, nt := 20, params := [((.box (.ro (.pair (.slc (.int .u8)) (.pair (.int .i64) (.pair (.int .u64) .unit))))), true), ((.ro (.int .i64)), false)], res := [(.ro (.int .i64))], slots := [.tmp 4], code := bd Tryz.f52, strict := true, callee := fun r i => find 0 [(3001, 99), (5003, 99)] (r * 1000 + i), pins := [0] }
/- spec.l00Src).one -/
noncomputable def I68 : Inst := { f := 68, nt := 9, params := [((.box (.ro (.pair (.slc (.int .u8)) (.pair (.int .i64) (.pair (.int .u64) .unit))))), true), ((.ro (.int .i64)), false)], res := [(.ro .bool)], slots := [.tmp 4], code := bd Tryz.f68, strict := true, callee := fun r i => find 0 [(1002, 52)] (r * 1000 + i), pins := [0] }
/- spec.l02Drawn -/
noncomputable def I26 : Inst := { f := 26, nt := 84, params := [((.box (.ro (.pair (.slc (.int .u8)) (.pair (.int .i64) (.pair (.int .u64) .unit))))), true)], res := [(.pr (.ro (.int .i16)) (.pr (.row false (.pair (.int .i8) (.pair (.int .i16) (.pair (.int .i16) .unit)))) (.ro .unit)))], slots := [.cell 2 27], code := bd Tryz.f26, strict := true, callee := fun r i => find 0 [(1001, 52), (3001, 52), (6001, 52), (6004, 52), (6008, 52), (7001, 68)] (r * 1000 + i), loops := fun b => find [] [(0, [.own 0 (.box (.ro (.pair (.slc (.int .u8)) (.pair (.int .i64) (.pair (.int .u64) .unit))))), .own 2 (.box (.ro (.pair (.int .i16) (.pair (.slc (.pair (.int .i8) (.pair (.int .i16) (.pair (.int .i16) .unit)))) .unit)))), .own 3 (.box (.pr (.ro (.int .i16)) (.pr (.row false (.pair (.int .i8) (.pair (.int .i16) (.pair (.int .i16) .unit)))) (.ro .unit)))), .own 4 (.ro (.int .i64)), .own 5 (.ro (.int .i64))])] b, pins := [0], deep := fun r i => find false [(10003, true), (10004, true)] (r * 1000 + i) }
/- spec.A2Program -/
noncomputable def I5 : Inst := { f := 5, nt := 6, params := [((.ro (.slc (.int .u8))), false)], res := [(.pr (.ro (.int .i16)) (.pr (.row false (.pair (.int .i8) (.pair (.int .i16) (.pair (.int .i16) .unit)))) (.ro .unit)))], slots := [.cell 2 27], code := bd Tryz.f5, callee := fun r i => find 0 [(1001, 27), (1002, 26)] (r * 1000 + i) }
/- impl.inRange -/
noncomputable def I45 : Inst := { f := 45, nt := 15, params := [((.ro (.int .i64)), false), ((.ro (.int .i64)), false), ((.ro (.int .i64)), false)], res := [(.ro .bool)], slots := [.tmp 6], code := bd Tryz.f45 }
/- impl.isLift -/
noncomputable def I69 : Inst := { f := 69, nt := 5, params := [((.ro (.int .i64)), false)], res := [(.ro .bool)], slots := [.tmp 2], code := bd Tryz.f69, callee := fun r i => find 0 [(1001, 45)] (r * 1000 + i) }
/- impl.isLaw -/
noncomputable def I72 : Inst := { f := 72, nt := 5, params := [((.ro (.int .i64)), false)], res := [(.ro .bool)], slots := [.tmp 2], code := bd Tryz.f72, callee := fun r i => find 0 [(1001, 45)] (r * 1000 + i) }
/- impl.ValidProgram$1 -/
noncomputable def I71 : Inst := { f := 71, nt := 20, params := [((.ro (.pair (.int .i8) (.pair (.int .i16) (.pair (.int .i16) .unit)))), false)], res := [(.ro .bool)], slots := [.tmp 2], code := bd Tryz.f71, callee := fun r i => find 0 [(1003, 72), (1014, 69)] (r * 1000 + i) }
/- impl.Motion] -/
noncomputable def I118 : Inst := { f := 118, nt := 19, params := [((.ro (.slc (.pair (.int .i8) (.pair (.int .i16) (.pair (.int .i16) .unit))))), false), ((.clo 71 (.ro .unit) (.ro .unit)), false)], res := [(.ro (.int .i64))], slots := [.tmp 4], code := bd Tryz.f118, callee := fun r i => find 0 [(4005, 71)] (r * 1000 + i), loops := fun b => find [] [(0, [.own 0 (.ro (.slc (.pair (.int .i8) (.pair (.int .i16) (.pair (.int .i16) .unit))))), .own 1 (.clo 71 (.ro .unit) (.ro .unit)), .own 7 (.ro (.int .i64)), .own 8 (.ro (.int .i64))])] b }
/- impl.Motion] -/
noncomputable def I70 : Inst := { f := 70, nt := 9, params := [((.ro (.slc (.pair (.int .i8) (.pair (.int .i16) (.pair (.int .i16) .unit))))), false), ((.clo 71 (.ro .unit) (.ro .unit)), false)], res := [(.ro .bool)], slots := [.tmp 4], code := bd Tryz.f70, callee := fun r i => find 0 [(1002, 118)] (r * 1000 + i) }
/- impl.Program).steps -/
noncomputable def I74 : Inst := { f := 74, nt := 20, params := [((.ro (.pair (.int .i16) (.pair (.slc (.pair (.int .i8) (.pair (.int .i16) (.pair (.int .i16) .unit)))) .unit))), false)], res := [(.ro (.int .i64))], slots := [.tmp 2], code := bd Tryz.f74, loops := fun b => find [] [(0, [.own 3 (.ro (.int .i64)), .own 7 (.ro (.slc (.pair (.int .i8) (.pair (.int .i16) (.pair (.int .i16) .unit))))), .own 8 (.ro (.int .i64)), .own 9 (.ro (.int .i64))])] b }
/- impl.isSteps -/
noncomputable def I73 : Inst := { f := 73, nt := 5, params := [((.ro (.int .i64)), false)], res := [(.ro .bool)], slots := [.tmp 2], code := bd Tryz.f73, callee := fun r i => find 0 [(1001, 45)] (r * 1000 + i) }
/- impl.ValidProgram -/
noncomputable def I28 : Inst := { f := 28, nt := 40, params := [((.ro (.pair (.int .i16) (.pair (.slc (.pair (.int .i8) (.pair (.int .i16) (.pair (.int .i16) .unit)))) .unit))), false)], res := [(.ro .bool)], slots := [.tmp 2], code := bd Tryz.f28, callee := fun r i => find 0 [(1003, 45), (1009, 69), (3002, 70), (4004, 74), (4005, 73)] (r * 1000 + i) }
/- impl.shape -/
noncomputable def I119 : Inst := { f := 119, nt := 90, params := [((.ro (.int .i64)), false), ((.ro (.int .i64)), false), ((.ro (.int .i64)), false)], res := [(.ro (.int .i64)), (.ro (.int .i64))], slots := [.tmp 6, .tmp 7], code := bd Tryz.f119 }
/- impl.floorDiv -/
noncomputable def I127 : Inst := { f := 127, nt := 16, params := [((.ro (.int .i64)), false), ((.ro (.int .i64)), false)], res := [(.ro (.int .i64))], slots := [.tmp 4], code := bd Tryz.f127 }
/- impl.nearest -/
noncomputable def I120 : Inst := { f := 120, nt := 12, params := [((.ro (.int .i64)), false), ((.ro (.int .i64)), false)], res := [(.ro (.int .i64))], slots := [.tmp 4], code := bd Tryz.f120, callee := fun r i => find 0 [(1006, 127)] (r * 1000 + i) }
/- impl.liftIn -/
noncomputable def I75 : Inst := { f := 75, nt := 31, params := [((.ro (.int .i64)), false), ((.ro (.int .i64)), false), ((.ro (.int .i64)), false), ((.ro (.int .i64)), false), ((.ro (.int .i64)), false)], res := [(.ro (.int .i64))], slots := [.tmp 10], code := bd Tryz.f75, callee := fun r i => find 0 [(1003, 119), (2010, 120)] (r * 1000 + i) }
/- impl.Program).profile -/
noncomputable def I29 : Inst := { f := 29, nt := 47, params := [((.ro (.pair (.int .i16) (.pair (.slc (.pair (.int .i8) (.pair (.int .i16) (.pair (.int .i16) .unit)))) .unit))), false)], res := [(.row false (.int .i16))], slots := [.tmp 2], code := bd Tryz.f29, callee := fun r i => find 0 [(8012, 75)] (r * 1000 + i), loops := fun b => find [] [(2, [.own 3 (.row false (.int .i16)), .own 4 (.ro (.int .i64)), .own 6 (.box (.ro (.pair (.int .i8) (.pair (.int .i16) (.pair (.int .i16) .unit))))), .own 13 (.ro (.slc (.pair (.int .i8) (.pair (.int .i16) (.pair (.int .i16) .unit))))), .own 14 (.ro (.int .i64)), .own 15 (.ro (.int .i64)), .own 21 (.ro (.int .i64)), .own 22 (.ro (.int .i64))]), (0, [.own 3 (.row false (.int .i16)), .own 4 (.ro (.int .i64)), .own 13 (.ro (.slc (.pair (.int .i8) (.pair (.int .i16) (.pair (.int .i16) .unit))))), .own 14 (.ro (.int .i64)), .own 15 (.ro (.int .i64))])] b, deep := fun r i => find false [(1000, true), (8014, true), (8015, true)] (r * 1000 + i) }
/- impl.MakeProfile -/
noncomputable def I6 : Inst := { f := 6, nt := 9, params := [((.ro (.pair (.int .i16) (.pair (.slc (.pair (.int .i8) (.pair (.int .i16) (.pair (.int .i16) .unit)))) .unit))), false)], res := [(.row false (.int .i16)), (.ro (.int .i64))], slots := [.tmp 2, .tmp 3], code := bd Tryz.f6, callee := fun r i => find 0 [(1001, 28), (3001, 29)] (r * 1000 + i) }
/- spec.l00In -/
noncomputable def I76 : Inst := { f := 76, nt := 15, params := [((.ro (.int .i64)), false), ((.ro (.int .i64)), false), ((.ro (.int .i64)), false)], res := [(.ro .bool)], slots := [.tmp 6], code := bd Tryz.f76 }
/- spec.l01Lift -/
noncomputable def I77 : Inst := { f := 77, nt := 5, params := [((.ro (.int .i64)), false)], res := [(.ro .bool)], slots := [.tmp 2], code := bd Tryz.f77, callee := fun r i => find 0 [(1001, 76)] (r * 1000 + i) }
/- spec.l02Law -/
noncomputable def I78 : Inst := { f := 78, nt := 5, params := [((.ro (.int .i64)), false)], res := [(.ro .bool)], slots := [.tmp 2], code := bd Tryz.f78, callee := fun r i => find 0 [(1001, 76)] (r * 1000 + i) }
/- spec.l01Steps -/
noncomputable def I79 : Inst := { f := 79, nt := 5, params := [((.ro (.int .i64)), false)], res := [(.ro .bool)], slots := [.tmp 2], code := bd Tryz.f79, callee := fun r i => find 0 [(1001, 76)] (r * 1000 + i) }
/- spec.l02Ok -/
noncomputable def I30 : Inst := { f := 30, nt := 83, params := [((.ro (.ptr (.pair (.int .i16) (.pair (.slc (.pair (.int .i8) (.pair (.int .i16) (.pair (.int .i16) .unit)))) .unit)))), false)], res := [(.ro .bool)], slots := [.tmp 2], code := bd Tryz.f30, callee := fun r i => find 0 [(2001, 76), (2009, 77), (9005, 78), (9020, 77), (12001, 79)] (r * 1000 + i), loops := fun b => find [] [(0, [.own 0 (.ro (.ptr (.pair (.int .i16) (.pair (.slc (.pair (.int .i8) (.pair (.int .i16) (.pair (.int .i16) .unit)))) .unit)))), .own 3 (.ro (.int .i64)), .own 4 (.ro (.int .i64)), .own 5 (.ro (.int .i64))])] b }
/- spec.l02Shape -/
noncomputable def I121 : Inst := { f := 121, nt := 90, params := [((.ro (.int .i64)), false), ((.ro (.int .i64)), false), ((.ro (.int .i64)), false)], res := [(.ro (.int .i64)), (.ro (.int .i64))], slots := [.tmp 6, .tmp 7], code := bd Tryz.f121 }
/- spec.l01Near -/
noncomputable def I122 : Inst := { f := 122, nt := 23, params := [((.ro (.int .i64)), false), ((.ro (.int .i64)), false)], res := [(.ro (.int .i64))], slots := [.tmp 4], code := bd Tryz.f122 }
/- spec.l02Lift -/
noncomputable def I80 : Inst := { f := 80, nt := 31, params := [((.ro (.int .i64)), false), ((.ro (.int .i64)), false), ((.ro (.int .i64)), false), ((.ro (.int .i64)), false), ((.ro (.int .i64)), false)], res := [(.ro (.int .i64))], slots := [.tmp 10], code := bd Tryz.f80, callee := fun r i => find 0 [(1003, 121), (2010, 122)] (r * 1000 + i) }
/- spec.l02Make -/
noncomputable def I31 : Inst := { f := 31, nt := 66, params := [((.ro (.ptr (.pair (.int .i16) (.pair (.slc (.pair (.int .i8) (.pair (.int .i16) (.pair (.int .i16) .unit)))) .unit)))), false)], res := [(.row false (.int .i16))], slots := [.tmp 2], code := bd Tryz.f31, callee := fun r i => find 0 [(10018, 80)] (r * 1000 + i), loops := fun b => find [] [(2, [.own 0 (.ro (.ptr (.pair (.int .i16) (.pair (.slc (.pair (.int .i8) (.pair (.int .i16) (.pair (.int .i16) .unit)))) .unit)))), .own 3 (.row false (.int .i16)), .own 4 (.ro (.int .i64)), .own 5 (.ro (.int .i64)), .own 6 (.ro (.ptr (.pair (.int .i8) (.pair (.int .i16) (.pair (.int .i16) .unit))))), .own 7 (.ro (.int .i64))]), (0, [.own 0 (.ro (.ptr (.pair (.int .i16) (.pair (.slc (.pair (.int .i8) (.pair (.int .i16) (.pair (.int .i16) .unit)))) .unit)))), .own 3 (.row false (.int .i16)), .own 4 (.ro (.int .i64)), .own 5 (.ro (.int .i64))])] b, deep := fun r i => find false [(1000, true), (10020, true), (10021, true)] (r * 1000 + i) }
/- spec.MakeProfile -/
noncomputable def I7 : Inst := { f := 7, nt := 8, params := [((.ro (.pair (.int .i16) (.pair (.slc (.pair (.int .i8) (.pair (.int .i16) (.pair (.int .i16) .unit)))) .unit))), false)], res := [(.row false (.int .i16)), (.ro (.int .i64))], slots := [.tmp 2, .tmp 3], code := bd Tryz.f7, callee := fun r i => find 0 [(1000, 30), (3000, 31)] (r * 1000 + i), deep := fun r i => find false [(2000, true)] (r * 1000 + i) }
/- impl.Cam).steps -/
noncomputable def I43 : Inst := { f := 43, nt := 5, params := [((.ro (.slc (.int .i16))), false)], res := [(.ro (.int .i64))], slots := [.tmp 2], code := bd Tryz.f43 }
/- impl.ValidCam$1 -/
noncomputable def I82 : Inst := { f := 82, nt := 7, params := [((.ro (.int .i16)), false)], res := [(.ro .bool)], slots := [.tmp 2], code := bd Tryz.f82, callee := fun r i => find 0 [(1002, 69)] (r * 1000 + i) }
/- impl.Cam,int16] -/
noncomputable def I123 : Inst := { f := 123, nt := 19, params := [((.ro (.slc (.int .i16))), false), ((.clo 82 (.ro .unit) (.ro .unit)), false)], res := [(.ro (.int .i64))], slots := [.tmp 4], code := bd Tryz.f123, callee := fun r i => find 0 [(4005, 82)] (r * 1000 + i), loops := fun b => find [] [(0, [.own 0 (.ro (.slc (.int .i16))), .own 1 (.clo 82 (.ro .unit) (.ro .unit)), .own 7 (.ro (.int .i64)), .own 8 (.ro (.int .i64))])] b }
/- impl.Cam,int16] -/
noncomputable def I81 : Inst := { f := 81, nt := 9, params := [((.ro (.slc (.int .i16))), false), ((.clo 82 (.ro .unit) (.ro .unit)), false)], res := [(.ro .bool)], slots := [.tmp 4], code := bd Tryz.f81, callee := fun r i => find 0 [(1002, 123)] (r * 1000 + i) }
/- impl.ValidCam -/
noncomputable def I32 : Inst := { f := 32, nt := 11, params := [((.ro (.slc (.int .i16))), false)], res := [(.ro .bool)], slots := [.tmp 2], code := bd Tryz.f32, callee := fun r i => find 0 [(1001, 43), (1002, 73), (1005, 81)] (r * 1000 + i) }
/- impl.mod -/
noncomputable def I94 : Inst := { f := 94, nt := 12, params := [((.ro (.int .i64)), false), ((.ro (.int .i64)), false)], res := [(.ro (.int .i64))], slots := [.tmp 4], code := bd Tryz.f94, callee := fun r i => find 0 [(1004, 127)] (r * 1000 + i) }
/- impl.Cam).at -/
noncomputable def I86 : Inst := { f := 86, nt := 13, params := [((.ro (.slc (.int .i16))), false), ((.ro (.int .i64)), false)], res := [(.ro (.int .i64))], slots := [.tmp 4], code := bd Tryz.f86, callee := fun r i => find 0 [(1003, 43), (1004, 94)] (r * 1000 + i) }
/- impl.Cam).change -/
noncomputable def I83 : Inst := { f := 83, nt := 13, params := [((.ro (.slc (.int .i16))), false), ((.ro (.int .i64)), false)], res := [(.ro (.int .i64))], slots := [.tmp 4], code := bd Tryz.f83, callee := fun r i => find 0 [(1003, 86), (1006, 86)] (r * 1000 + i) }
/- impl.Cam).bend -/
noncomputable def I35 : Inst := { f := 35, nt := 13, params := [((.ro (.slc (.int .i16))), false), ((.ro (.int .i64)), false)], res := [(.ro (.int .i64))], slots := [.tmp 4], code := bd Tryz.f35, callee := fun r i => find 0 [(1002, 83), (1006, 83)] (r * 1000 + i) }
/- impl.Cam).numbers -/
noncomputable def I34 : Inst := { f := 34, nt := 21, params := [((.ro (.slc (.int .i16))), false), ((.clo 35 (.pr (.ro (.slc (.int .i16))) (.ro .unit)) (.ro .unit)), true)], res := [(.row false (.int .i64))], slots := [.tmp 4], code := bd Tryz.f34, strict := true, callee := fun r i => find 0 [(2001, 43), (5003, 35)] (r * 1000 + i), loops := fun b => find [] [(0, [.own 1 (.clo 35 (.pr (.ro (.slc (.int .i16))) (.ro .unit)) (.ro .unit)), .own 5 (.row false (.int .i64)), .own 9 (.ro (.int .i64)), .own 10 (.ro (.int .i64))])] b, pins := [1], deep := fun r i => find false [(1000, true), (5004, true), (5005, true)] (r * 1000 + i) }
/- slices.Min[[]int64,int64] -/
noncomputable def I33 : Inst := { f := 33, nt := 25, params := [((.ro (.slc (.int .i64))), false)], res := [(.ro (.int .i64))], slots := [.tmp 2], code := bd Tryz.f33, loops := fun b => find [] [(0, [.own 0 (.ro (.slc (.int .i64))), .own 3 (.ro (.int .i64)), .own 4 (.ro (.int .i64))])] b }
/- impl.LeastSpring -/
noncomputable def I8 : Inst := { f := 8, nt := 14, params := [((.ro (.slc (.int .i16))), false)], res := [(.ro (.int .i64)), (.ro (.int .i64))], slots := [.tmp 2, .tmp 3], code := bd Tryz.f8, callee := fun r i => find 0 [(1001, 32), (3003, 34), (3004, 33)] (r * 1000 + i) }
/- spec.l01Ok -/
noncomputable def I36 : Inst := { f := 36, nt := 21, params := [((.ro (.slc (.int .i16))), false)], res := [(.ro .bool)], slots := [.tmp 2], code := bd Tryz.f36, callee := fun r i => find 0 [(1002, 79), (6005, 77)] (r * 1000 + i), loops := fun b => find [] [(0, [.own 0 (.ro (.slc (.int .i16))), .own 3 (.ro (.int .i64))])] b }
/- spec.l01At -/
noncomputable def I84 : Inst := { f := 84, nt := 19, params := [((.ro (.slc (.int .i16))), false), ((.ro (.int .i64)), false)], res := [(.ro (.int .i64))], slots := [.tmp 4], code := bd Tryz.f84 }
/- spec.l01Bends -/
noncomputable def I37 : Inst := { f := 37, nt := 30, params := [((.ro (.slc (.int .i16))), false)], res := [(.row false (.int .i64))], slots := [.tmp 2], code := bd Tryz.f37, callee := fun r i => find 0 [(5004, 84), (5007, 84), (5013, 84)] (r * 1000 + i), loops := fun b => find [] [(0, [.own 0 (.ro (.slc (.int .i16))), .own 3 (.row false (.int .i64)), .own 4 (.ro (.int .i64))])] b, deep := fun r i => find false [(1000, true), (5015, true), (5016, true)] (r * 1000 + i) }
/- spec.l00Max -/
noncomputable def I38 : Inst := { f := 38, nt := 10, params := [((.ro (.int .i64)), false), ((.ro (.int .i64)), false)], res := [(.ro (.int .i64))], slots := [.tmp 4], code := bd Tryz.f38 }
/- spec.LeastSpring -/
noncomputable def I9 : Inst := { f := 9, nt := 26, params := [((.ro (.slc (.int .i16))), false)], res := [(.ro (.int .i64)), (.ro (.int .i64))], slots := [.tmp 2, .tmp 3], code := bd Tryz.f9, callee := fun r i => find 0 [(1001, 36), (3001, 37), (8006, 38)] (r * 1000 + i), loops := fun b => find [] [(0, [.own 4 (.ro (.slc (.int .i64))), .own 5 (.ro (.int .i64)), .own 6 (.ro (.int .i64))])] b }
/- spec.l01Same -/
noncomputable def I39 : Inst := { f := 39, nt := 26, params := [((.ro (.slc (.int .i16))), false), ((.ro (.slc (.int .i16))), false)], res := [(.ro .bool)], slots := [.tmp 4], code := bd Tryz.f39, loops := fun b => find [] [(0, [.own 0 (.ro (.slc (.int .i16))), .own 1 (.ro (.slc (.int .i16))), .own 5 (.ro (.int .i64))])] b }
/- spec.SameCam -/
noncomputable def I10 : Inst := { f := 10, nt := 8, params := [((.ro (.slc (.int .i16))), false), ((.ro (.slc (.int .i16))), false)], res := [(.ro .bool)], slots := [.tmp 4], code := bd Tryz.f10, callee := fun r i => find 0 [(1002, 39)] (r * 1000 + i) }
/- impl.isSpring -/
noncomputable def I124 : Inst := { f := 124, nt := 5, params := [((.ro (.int .i64)), false)], res := [(.ro .bool)], slots := [.tmp 2], code := bd Tryz.f124, callee := fun r i => find 0 [(1001, 45)] (r * 1000 + i) }
/- impl.ValidFollower -/
noncomputable def I85 : Inst := { f := 85, nt := 11, params := [((.ro (.pair (.int .i64) (.pair (.int .i64) .unit))), false)], res := [(.ro .bool)], slots := [.tmp 2], code := bd Tryz.f85, callee := fun r i => find 0 [(1002, 45), (1006, 124)] (r * 1000 + i) }
/- impl.camCode -/
noncomputable def I40 : Inst := { f := 40, nt := 13, params := [((.ro (.slc (.int .i16))), false), ((.ro (.pair (.int .i64) (.pair (.int .i64) .unit))), false)], res := [(.ro (.int .i64))], slots := [.tmp 4], code := bd Tryz.f40, callee := fun r i => find 0 [(1001, 32), (1005, 85)] (r * 1000 + i) }
/- impl.Track).next -/
noncomputable def I87 : Inst := { f := 87, nt := 29, params := [((.ro (.pair (.int .i64) (.pair (.int .i64) (.pair .bool .unit)))), false), ((.ro (.int .i64)), false), ((.ro (.int .i64)), false)], res := [(.ro (.pair (.int .i64) (.pair (.int .i64) (.pair .bool .unit))))], slots := [.cell 6 90], code := bd Tryz.f87 }
/- impl.Cam).follow -/
noncomputable def I42 : Inst := { f := 42, nt := 33, params := [((.ro (.slc (.int .i16))), false), ((.ro (.int .i64)), false), ((.ro (.int .i64)), false)], res := [(.row false (.pair (.int .i64) (.pair (.int .i64) (.pair .bool .unit))))], slots := [.tmp 6], code := bd Tryz.f42, callee := fun r i => find 0 [(1001, 86), (1003, 83), (6003, 86), (6005, 87)] (r * 1000 + i), loops := fun b => find [] [(0, [.own 0 (.ro (.slc (.int .i16))), .own 1 (.ro (.int .i64)), .own 2 (.ro (.int .i64)), .own 7 (.box (.ro (.pair (.int .i64) (.pair (.int .i64) (.pair .bool .unit))))), .own 8 (.row false (.pair (.int .i64) (.pair (.int .i64) (.pair .bool .unit)))), .own 9 (.ro (.int .i64))])] b, deep := fun r i => find false [(2001, true), (7002, true), (7003, true)] (r * 1000 + i) }
/- impl.LetsGoAt$1 -/
noncomputable def I44 : Inst := { f := 44, nt := 6, params := [((.ro (.pair (.int .i64) (.pair (.int .i64) (.pair .bool .unit)))), false)], res := [(.ro .bool)], slots := [.tmp 2], code := bd Tryz.f44 }
/- impl.Track] -/
noncomputable def I41 : Inst := { f := 41, nt := 19, params := [((.ro (.slc (.pair (.int .i64) (.pair (.int .i64) (.pair .bool .unit))))), false), ((.clo 44 (.ro .unit) (.ro .unit)), false)], res := [(.ro (.int .i64))], slots := [.tmp 4], code := bd Tryz.f41, callee := fun r i => find 0 [(4005, 44)] (r * 1000 + i), loops := fun b => find [] [(0, [.own 0 (.ro (.slc (.pair (.int .i64) (.pair (.int .i64) (.pair .bool .unit))))), .own 1 (.clo 44 (.ro .unit) (.ro .unit)), .own 7 (.ro (.int .i64)), .own 8 (.ro (.int .i64))])] b }
/- impl.LetsGoAt -/
noncomputable def I11 : Inst := { f := 11, nt := 21, params := [((.ro (.slc (.int .i16))), false), ((.ro (.pair (.int .i64) (.pair (.int .i64) .unit))), false)], res := [(.ro (.int .i64)), (.ro (.int .i64))], slots := [.tmp 4, .tmp 5], code := bd Tryz.f11, callee := fun r i => find 0 [(1002, 40), (3004, 43), (3005, 42), (3006, 41)] (r * 1000 + i) }
/- laws.a2At -/
noncomputable def I12 : Inst := { f := 12, nt := 22, params := [((.ro (.slc (.int .u8))), false), ((.ro (.int .i64)), false), ((.ro (.int .i64)), false)], res := [(.ro (.int .i64))], slots := [.tmp 6], code := bd Tryz.f12 }
/- impl.FlatCutter -/
noncomputable def I13 : Inst := { f := 13, nt := 14, params := [((.ro (.int .i64)), false)], res := [(.row false (.int .i16)), (.ro (.int .i64))], slots := [.tmp 2, .tmp 3], code := bd Tryz.f13, callee := fun r i => find 0 [(1005, 45)] (r * 1000 + i), deep := fun r i => find false [(3001, true)] (r * 1000 + i) }
/- impl.ValidCutter -/
noncomputable def I88 : Inst := { f := 88, nt := 61, params := [((.ro (.slc (.int .i16))), false)], res := [(.ro .bool)], slots := [.tmp 2], code := bd Tryz.f88, callee := fun r i => find 0 [(7002, 69)] (r * 1000 + i), loops := fun b => find [] [(0, [.own 0 (.ro (.slc (.int .i16))), .own 3 (.ro (.int .i64)), .own 23 (.ro (.slc (.int .i16))), .own 24 (.ro (.int .i64)), .own 25 (.ro (.int .i64))])] b }
/- impl.codeIf -/
noncomputable def I65 : Inst := { f := 65, nt := 7, params := [((.ro .bool), false), ((.ro (.int .i64)), false)], res := [(.ro (.int .i64))], slots := [.tmp 4], code := bd Tryz.f65 }
/- impl.cutterCode -/
noncomputable def I46 : Inst := { f := 46, nt := 14, params := [((.ro (.slc (.int .i16))), false), ((.ro (.slc (.int .i16))), false)], res := [(.ro (.int .i64))], slots := [.tmp 4], code := bd Tryz.f46, callee := fun r i => find 0 [(1001, 32), (1005, 88), (1008, 65)] (r * 1000 + i) }
/- impl.Cam).tips$1$1 -/
noncomputable def I126 : Inst := { f := 126, nt := 13, params := [((.ro (.int .i64)), false), ((.ro (.int .i64)), false), ((.box (.ro (.int .i64))), true), ((.box (.ro (.slc (.int .i16)))), true)], res := [], slots := [], code := bd Tryz.f126, strict := true, callee := fun r i => find 0 [(3, 86)] (r * 1000 + i), pins := [2, 3] }
/- impl.Cutter).each -/
noncomputable def I92 : Inst := { f := 92, nt := 29, params := [((.ro (.slc (.int .i16))), false), ((.ro (.int .i64)), false), ((.clo 126 (.ro .unit) (.pr (.box (.ro (.int .i64))) (.pr (.box (.ro (.slc (.int .i16)))) (.ro .unit)))), true)], res := [], slots := [], code := bd Tryz.f92, strict := true, callee := fun r i => find 0 [(4008, 126)] (r * 1000 + i), loops := fun b => find [] [(0, [.own 1 (.ro (.int .i64)), .own 2 (.clo 126 (.ro .unit) (.pr (.box (.ro (.int .i64))) (.pr (.box (.ro (.slc (.int .i16)))) (.ro .unit)))), .own 6 (.ro (.int .i64)), .own 12 (.ro (.slc (.int .i16))), .own 13 (.ro (.int .i64)), .own 14 (.ro (.int .i64))])] b, pins := [2] }
/- impl.Cam).tips$1 -/
noncomputable def I125 : Inst := { f := 125, nt := 11, params := [((.ro (.int .i64)), false), ((.box (.ro (.slc (.int .i16)))), true), ((.box (.ro (.slc (.int .i16)))), true)], res := [(.ro (.int .i64))], slots := [.tmp 4], code := bd Tryz.f125, strict := true, callee := fun r i => find 0 [(2003, 92)] (r * 1000 + i), pins := [1, 2] }
/- impl.Cam).numbers -/
noncomputable def I1034 : Inst := { f := 34, nt := 21, params := [((.ro (.slc (.int .i16))), false), ((.clo 125 (.ro .unit) (.pr (.box (.ro (.slc (.int .i16)))) (.pr (.box (.ro (.slc (.int .i16)))) (.ro .unit)))), true)], res := [(.row false (.int .i64))], slots := [.tmp 4], code := bd Tryz.f34, strict := true, callee := fun r i => find 0 [(2001, 43), (5003, 125)] (r * 1000 + i), loops := fun b => find [] [(0, [.own 1 (.clo 125 (.ro .unit) (.pr (.box (.ro (.slc (.int .i16)))) (.pr (.box (.ro (.slc (.int .i16)))) (.ro .unit)))), .own 5 (.row false (.int .i64)), .own 9 (.ro (.int .i64)), .own 10 (.ro (.int .i64))])] b, pins := [1], deep := fun r i => find false [(1000, true), (5004, true), (5005, true)] (r * 1000 + i) }
/- impl.Cam).tips -/
noncomputable def I89 : Inst := { f := 89, nt := 8, params := [((.ro (.slc (.int .i16))), false), ((.ro (.slc (.int .i16))), false)], res := [(.row false (.int .i64))], slots := [.tmp 4], code := bd Tryz.f89, callee := fun r i => find 0 [(1002, 1034)] (r * 1000 + i) }
/- impl.Cam).left$1$1 -/
noncomputable def I93 : Inst := { f := 93, nt := 18, params := [((.ro (.int .i64)), false), ((.ro (.int .i64)), false), ((.box (.ro (.int .i64))), true), ((.box (.ro (.slc (.int .i64)))), true), ((.box (.ro (.slc (.int .i16)))), true)], res := [], slots := [], code := bd Tryz.f93, strict := true, callee := fun r i => find 0 [(4, 43), (5, 94)] (r * 1000 + i), pins := [2, 3, 4] }
/- impl.Cutter).each -/
noncomputable def I1092 : Inst := { f := 92, nt := 29, params := [((.ro (.slc (.int .i16))), false), ((.ro (.int .i64)), false), ((.clo 93 (.ro .unit) (.pr (.box (.ro (.int .i64))) (.pr (.box (.ro (.slc (.int .i64)))) (.pr (.box (.ro (.slc (.int .i16)))) (.ro .unit))))), true)], res := [], slots := [], code := bd Tryz.f92, strict := true, callee := fun r i => find 0 [(4008, 93)] (r * 1000 + i), loops := fun b => find [] [(0, [.own 1 (.ro (.int .i64)), .own 2 (.clo 93 (.ro .unit) (.pr (.box (.ro (.int .i64))) (.pr (.box (.ro (.slc (.int .i64)))) (.pr (.box (.ro (.slc (.int .i16)))) (.ro .unit))))), .own 6 (.ro (.int .i64)), .own 12 (.ro (.slc (.int .i16))), .own 13 (.ro (.int .i64)), .own 14 (.ro (.int .i64))])] b, pins := [2] }
/- impl.Cam).left$1 -/
noncomputable def I91 : Inst := { f := 91, nt := 16, params := [((.ro (.int .i64)), false), ((.box (.ro (.slc (.int .i64)))), true), ((.box (.ro (.slc (.int .i16)))), true), ((.box (.ro (.slc (.int .i16)))), true)], res := [(.ro (.int .i64))], slots := [.tmp 5], code := bd Tryz.f91, strict := true, callee := fun r i => find 0 [(2003, 1092)] (r * 1000 + i), pins := [1, 2, 3] }
/- impl.camOf -/
noncomputable def I90 : Inst := { f := 90, nt := 27, params := [((.ro (.int .i64)), false), ((.clo 91 (.ro .unit) (.pr (.box (.ro (.slc (.int .i64)))) (.pr (.box (.ro (.slc (.int .i16)))) (.pr (.box (.ro (.slc (.int .i16)))) (.ro .unit))))), true)], res := [(.row false (.int .i16)), (.ro (.int .i64))], slots := [.tmp 4, .tmp 5], code := bd Tryz.f90, strict := true, callee := fun r i => find 0 [(5002, 91), (6001, 69)] (r * 1000 + i), loops := fun b => find [] [(0, [.own 1 (.clo 91 (.ro .unit) (.pr (.box (.ro (.slc (.int .i64)))) (.pr (.box (.ro (.slc (.int .i16)))) (.pr (.box (.ro (.slc (.int .i16)))) (.ro .unit))))), .own 6 (.row false (.int .i16)), .own 10 (.ro (.int .i64)), .own 11 (.ro (.int .i64))])] b, pins := [1], deep := fun r i => find false [(1000, true), (8003, true), (8004, true)] (r * 1000 + i) }
/- impl.Cam).left -/
noncomputable def I47 : Inst := { f := 47, nt := 19, params := [((.ro (.slc (.int .i16))), false), ((.ro (.slc (.int .i16))), false)], res := [(.row false (.int .i16))], slots := [.tmp 4], code := bd Tryz.f47, callee := fun r i => find 0 [(1002, 89), (2001, 43), (2003, 90)] (r * 1000 + i) }
/- impl.LeftBy -/
noncomputable def I14 : Inst := { f := 14, nt := 16, params := [((.ro (.slc (.int .i16))), false), ((.ro (.slc (.int .i16))), false)], res := [(.row false (.int .i16)), (.ro (.int .i64))], slots := [.tmp 4, .tmp 5], code := bd Tryz.f14, callee := fun r i => find 0 [(1002, 46), (4002, 47)] (r * 1000 + i) }
/- impl.footCode -/
noncomputable def I48 : Inst := { f := 48, nt := 13, params := [((.ro (.slc (.int .i16))), false), ((.ro (.int .i64)), false)], res := [(.ro (.int .i64))], slots := [.tmp 4], code := bd Tryz.f48, callee := fun r i => find 0 [(1001, 32), (3001, 45)] (r * 1000 + i) }
/- impl.greater -/
noncomputable def I96 : Inst := { f := 96, nt := 8, params := [((.ro (.int .i64)), false), ((.ro (.int .i64)), false)], res := [(.ro (.int .i64))], slots := [.tmp 4], code := bd Tryz.f96 }
/- impl.Cam).beside$1 -/
noncomputable def I128 : Inst := { f := 128, nt := 27, params := [((.ro (.int .i64)), false), ((.box (.ro (.slc (.int .i16)))), true), ((.box (.ro (.int .i64))), true), ((.box (.clo 96 (.ro .unit) (.ro .unit))), true)], res := [(.ro (.int .i64))], slots := [.tmp 5], code := bd Tryz.f128, strict := true, callee := fun r i => find 0 [(1002, 86), (5006, 86), (5007, 96)] (r * 1000 + i), loops := fun b => find [] [(0, [.own 0 (.ro (.int .i64)), .own 1 (.box (.ro (.slc (.int .i16)))), .own 2 (.box (.ro (.int .i64))), .own 3 (.box (.clo 96 (.ro .unit) (.ro .unit))), .own 6 (.ro (.int .i64)), .own 7 (.ro (.int .i64))])] b, pins := [1, 2, 3] }
/- impl.camOf -/
noncomputable def I1090 : Inst := { f := 90, nt := 27, params := [((.ro (.int .i64)), false), ((.clo 128 (.ro .unit) (.pr (.box (.ro (.slc (.int .i16)))) (.pr (.box (.ro (.int .i64))) (.pr (.box (.clo 96 (.ro .unit) (.ro .unit))) (.ro .unit))))), true)], res := [(.row false (.int .i16)), (.ro (.int .i64))], slots := [.tmp 4, .tmp 5], code := bd Tryz.f90, strict := true, callee := fun r i => find 0 [(5002, 128), (6001, 69)] (r * 1000 + i), loops := fun b => find [] [(0, [.own 1 (.clo 128 (.ro .unit) (.pr (.box (.ro (.slc (.int .i16)))) (.pr (.box (.ro (.int .i64))) (.pr (.box (.clo 96 (.ro .unit) (.ro .unit))) (.ro .unit))))), .own 6 (.row false (.int .i16)), .own 10 (.ro (.int .i64)), .own 11 (.ro (.int .i64))])] b, pins := [1], deep := fun r i => find false [(1000, true), (8003, true), (8004, true)] (r * 1000 + i) }
/- impl.Cam).beside -/
noncomputable def I95 : Inst := { f := 95, nt := 17, params := [((.ro (.slc (.int .i16))), false), ((.ro (.int .i64)), false), ((.clo 96 (.ro .unit) (.ro .unit)), false)], res := [(.row false (.int .i16))], slots := [.tmp 6], code := bd Tryz.f95, callee := fun r i => find 0 [(1001, 43), (1003, 1090)] (r * 1000 + i) }
/- impl.lesser -/
noncomputable def I97 : Inst := { f := 97, nt := 8, params := [((.ro (.int .i64)), false), ((.ro (.int .i64)), false)], res := [(.ro (.int .i64))], slots := [.tmp 4], code := bd Tryz.f97 }
/- impl.Cam).beside$1 -/
noncomputable def I1128 : Inst := { f := 128, nt := 27, params := [((.ro (.int .i64)), false), ((.box (.ro (.slc (.int .i16)))), true), ((.box (.ro (.int .i64))), true), ((.box (.clo 97 (.ro .unit) (.ro .unit))), true)], res := [(.ro (.int .i64))], slots := [.tmp 5], code := bd Tryz.f128, strict := true, callee := fun r i => find 0 [(1002, 86), (5006, 86), (5007, 97)] (r * 1000 + i), loops := fun b => find [] [(0, [.own 0 (.ro (.int .i64)), .own 1 (.box (.ro (.slc (.int .i16)))), .own 2 (.box (.ro (.int .i64))), .own 3 (.box (.clo 97 (.ro .unit) (.ro .unit))), .own 6 (.ro (.int .i64)), .own 7 (.ro (.int .i64))])] b, pins := [1, 2, 3] }
/- impl.camOf -/
noncomputable def I2090 : Inst := { f := 90, nt := 27, params := [((.ro (.int .i64)), false), ((.clo 128 (.ro .unit) (.pr (.box (.ro (.slc (.int .i16)))) (.pr (.box (.ro (.int .i64))) (.pr (.box (.clo 97 (.ro .unit) (.ro .unit))) (.ro .unit))))), true)], res := [(.row false (.int .i16)), (.ro (.int .i64))], slots := [.tmp 4, .tmp 5], code := bd Tryz.f90, strict := true, callee := fun r i => find 0 [(5002, 1128), (6001, 69)] (r * 1000 + i), loops := fun b => find [] [(0, [.own 1 (.clo 128 (.ro .unit) (.pr (.box (.ro (.slc (.int .i16)))) (.pr (.box (.ro (.int .i64))) (.pr (.box (.clo 97 (.ro .unit) (.ro .unit))) (.ro .unit))))), .own 6 (.row false (.int .i16)), .own 10 (.ro (.int .i64)), .own 11 (.ro (.int .i64))])] b, pins := [1], deep := fun r i => find false [(1000, true), (8003, true), (8004, true)] (r * 1000 + i) }
/- impl.Cam).beside -/
noncomputable def I1095 : Inst := { f := 95, nt := 17, params := [((.ro (.slc (.int .i16))), false), ((.ro (.int .i64)), false), ((.clo 97 (.ro .unit) (.ro .unit)), false)], res := [(.row false (.int .i16))], slots := [.tmp 6], code := bd Tryz.f95, callee := fun r i => find 0 [(1001, 43), (1003, 2090)] (r * 1000 + i) }
/- impl.Cam).reached -/
noncomputable def I49 : Inst := { f := 49, nt := 10, params := [((.ro (.slc (.int .i16))), false), ((.ro (.int .i64)), false)], res := [(.row false (.int .i16))], slots := [.tmp 4], code := bd Tryz.f49, callee := fun r i => find 0 [(1002, 95), (1004, 1095)] (r * 1000 + i) }
/- impl.ReachedCam -/
noncomputable def I15 : Inst := { f := 15, nt := 16, params := [((.ro (.slc (.int .i16))), false), ((.ro (.int .i64)), false)], res := [(.row false (.int .i16)), (.ro (.int .i64))], slots := [.tmp 4, .tmp 5], code := bd Tryz.f15, callee := fun r i => find 0 [(1002, 48), (4002, 49)] (r * 1000 + i) }
/- spec.l03Footed -/
noncomputable def I50 : Inst := { f := 50, nt := 11, params := [((.ro (.slc (.int .i16))), false), ((.ro (.int .i64)), false)], res := [(.ro (.int .i64))], slots := [.tmp 4], code := bd Tryz.f50, callee := fun r i => find 0 [(1001, 36), (3001, 76)] (r * 1000 + i) }
/- spec.l00Min -/
noncomputable def I129 : Inst := { f := 129, nt := 10, params := [((.ro (.int .i64)), false), ((.ro (.int .i64)), false)], res := [(.ro (.int .i64))], slots := [.tmp 4], code := bd Tryz.f129 }
/- spec.l03Foot -/
noncomputable def I98 : Inst := { f := 98, nt := 47, params := [((.ro (.slc (.int .i16))), false), ((.ro (.int .i64)), false), ((.ro .bool), false)], res := [(.row false (.int .i16))], slots := [.tmp 6], code := bd Tryz.f98, callee := fun r i => find 0 [(5002, 84), (9004, 84), (11002, 38), (12002, 129)] (r * 1000 + i), loops := fun b => find [] [(2, [.own 0 (.ro (.slc (.int .i16))), .own 1 (.ro (.int .i64)), .own 2 (.ro .bool), .own 7 (.row false (.int .i16)), .own 8 (.ro (.int .i64)), .own 9 (.ro (.int .i64)), .own 10 (.ro (.int .i64))]), (0, [.own 0 (.ro (.slc (.int .i16))), .own 1 (.ro (.int .i64)), .own 2 (.ro .bool), .own 7 (.row false (.int .i16)), .own 8 (.ro (.int .i64))])] b, deep := fun r i => find false [(1000, true), (13003, true), (13004, true)] (r * 1000 + i) }
/- spec.l03Reached -/
noncomputable def I51 : Inst := { f := 51, nt := 10, params := [((.ro (.slc (.int .i16))), false), ((.ro (.int .i64)), false)], res := [(.row false (.int .i16))], slots := [.tmp 4], code := bd Tryz.f51, callee := fun r i => find 0 [(1002, 98), (1004, 98)] (r * 1000 + i) }
/- spec.ReachedCam -/
noncomputable def I16 : Inst := { f := 16, nt := 17, params := [((.ro (.slc (.int .i16))), false), ((.ro (.int .i64)), false)], res := [(.row false (.int .i16)), (.ro (.int .i64))], slots := [.tmp 4, .tmp 5], code := bd Tryz.f16, callee := fun r i => find 0 [(1002, 50), (4002, 51)] (r * 1000 + i), deep := fun r i => find false [(3000, true)] (r * 1000 + i) }
/- spec.P6Strokes -/
noncomputable def I17 : Inst := { f := 17, nt := 40, params := [((.ro (.slc (.int .u8))), false)], res := [(.row true (.slc (.arr 2 (.int .i16))))], slots := [.tmp 2], code := bd Tryz.f17, callee := fun r i => find 0 [(1001, 27), (3001, 52), (7001, 52), (10002, 52), (10005, 52)] (r * 1000 + i), loops := fun b => find [] [(2, [.own 3 (.box (.ro (.pair (.slc (.int .u8)) (.pair (.int .i64) (.pair (.int .u64) .unit))))), .own 4 (.row true (.slc (.arr 2 (.int .i16)))), .own 5 (.ro (.int .i64)), .own 6 (.row false (.arr 2 (.int .i16))), .own 7 (.ro (.int .i64))]), (0, [.own 3 (.box (.ro (.pair (.slc (.int .u8)) (.pair (.int .i64) (.pair (.int .u64) .unit))))), .own 4 (.row true (.slc (.arr 2 (.int .i16)))), .own 5 (.ro (.int .i64))])] b, deep := fun r i => find false [(2000, true), (6000, true), (10008, true), (10009, true), (11002, true), (11003, true)] (r * 1000 + i) }
/- impl.ValidMark -/
noncomputable def I134 : Inst := { f := 134, nt := 13, params := [((.ro (.arr 2 (.int .i16))), false)], res := [(.ro .bool)], slots := [.tmp 2], code := bd Tryz.f134, callee := fun r i => find 0 [(1003, 45), (1008, 45)] (r * 1000 + i) }
/- impl.strokesCode$1$1 -/
noncomputable def I133 : Inst := { f := 133, nt := 6, params := [((.ro (.arr 2 (.int .i16))), false)], res := [(.ro .bool)], slots := [.tmp 2], code := bd Tryz.f133, callee := fun r i => find 0 [(1001, 134)] (r * 1000 + i) }
/- impl.Mark] -/
noncomputable def I148 : Inst := { f := 148, nt := 19, params := [((.ro (.slc (.arr 2 (.int .i16)))), false), ((.clo 133 (.ro .unit) (.ro .unit)), false)], res := [(.ro (.int .i64))], slots := [.tmp 4], code := bd Tryz.f148, callee := fun r i => find 0 [(4005, 133)] (r * 1000 + i), loops := fun b => find [] [(0, [.own 0 (.ro (.slc (.arr 2 (.int .i16)))), .own 1 (.clo 133 (.ro .unit) (.ro .unit)), .own 7 (.ro (.int .i64)), .own 8 (.ro (.int .i64))])] b }
/- impl.Mark] -/
noncomputable def I132 : Inst := { f := 132, nt := 9, params := [((.ro (.slc (.arr 2 (.int .i16)))), false), ((.clo 133 (.ro .unit) (.ro .unit)), false)], res := [(.ro .bool)], slots := [.tmp 4], code := bd Tryz.f132, callee := fun r i => find 0 [(1002, 148)] (r * 1000 + i) }
/- impl.strokesCode$1 -/
noncomputable def I131 : Inst := { f := 131, nt := 11, params := [((.ro (.slc (.arr 2 (.int .i16)))), false)], res := [(.ro .bool)], slots := [.tmp 2], code := bd Tryz.f131, callee := fun r i => find 0 [(1002, 45), (1006, 132)] (r * 1000 + i) }
/- impl.Stroke] -/
noncomputable def I147 : Inst := { f := 147, nt := 19, params := [((.ro (.slc (.slc (.arr 2 (.int .i16))))), false), ((.clo 131 (.ro .unit) (.ro .unit)), false)], res := [(.ro (.int .i64))], slots := [.tmp 4], code := bd Tryz.f147, callee := fun r i => find 0 [(4005, 131)] (r * 1000 + i), loops := fun b => find [] [(0, [.own 0 (.ro (.slc (.slc (.arr 2 (.int .i16))))), .own 1 (.clo 131 (.ro .unit) (.ro .unit)), .own 7 (.ro (.int .i64)), .own 8 (.ro (.int .i64))])] b }
/- impl.Stroke] -/
noncomputable def I130 : Inst := { f := 130, nt := 9, params := [((.ro (.slc (.slc (.arr 2 (.int .i16))))), false), ((.clo 131 (.ro .unit) (.ro .unit)), false)], res := [(.ro .bool)], slots := [.tmp 4], code := bd Tryz.f130, callee := fun r i => find 0 [(1002, 147)] (r * 1000 + i) }
/- impl.firstCode -/
noncomputable def I64 : Inst := { f := 64, nt := 15, params := [((.ro (.slc (.int .i64))), false)], res := [(.ro (.int .i64))], slots := [.tmp 2], code := bd Tryz.f64, loops := fun b => find [] [(0, [.own 5 (.ro (.slc (.int .i64))), .own 6 (.ro (.int .i64)), .own 7 (.ro (.int .i64))])] b }
/- impl.strokesCode -/
noncomputable def I100 : Inst := { f := 100, nt := 14, params := [((.ro (.slc (.slc (.arr 2 (.int .i16))))), false)], res := [(.ro (.int .i64))], slots := [.tmp 2], code := bd Tryz.f100, callee := fun r i => find 0 [(1001, 130), (2001, 65), (2005, 65), (2007, 64)] (r * 1000 + i), deep := fun r i => find false [(2006, true)] (r * 1000 + i), frz := fun r i => find false [(2006, true)] (r * 1000 + i) }
/- impl.abs -/
noncomputable def I153 : Inst := { f := 153, nt := 7, params := [((.ro (.int .i64)), false)], res := [(.ro (.int .i64))], slots := [.tmp 2], code := bd Tryz.f153 }
/- impl.between -/
noncomputable def I149 : Inst := { f := 149, nt := 22, params := [((.ro (.arr 2 (.int .i16))), false), ((.ro (.arr 2 (.int .i16))), false)], res := [(.ro (.int .i64))], slots := [.tmp 4], code := bd Tryz.f149, callee := fun r i => find 0 [(1007, 153), (1015, 153)] (r * 1000 + i) }
/- impl.lineOf -/
noncomputable def I135 : Inst := { f := 135, nt := 57, params := [((.ro (.arr 2 (.int .i16))), false), ((.ro (.arr 2 (.int .i16))), false)], res := [(.row false (.arr 2 (.int .i16)))], slots := [.tmp 4], code := bd Tryz.f135, callee := fun r i => find 0 [(1004, 149), (10009, 120)] (r * 1000 + i), loops := fun b => find [] [(2, [.own 2 (.box (.ro (.arr 2 (.int .i16)))), .own 3 (.box (.ro (.arr 2 (.int .i16)))), .own 5 (.row false (.arr 2 (.int .i16))), .own 6 (.ro (.int .i64)), .own 7 (.ro (.int .i64)), .own 8 (.box (.ro (.arr 2 (.int .i16)))), .own 23 (.ro (.int .i64))]), (0, [.own 2 (.box (.ro (.arr 2 (.int .i16)))), .own 3 (.box (.ro (.arr 2 (.int .i16)))), .own 5 (.row false (.arr 2 (.int .i16))), .own 6 (.ro (.int .i64)), .own 7 (.ro (.int .i64))])] b, deep := fun r i => find false [(1001, true), (12002, true), (12003, true)] (r * 1000 + i) }
/- impl.planner).stand -/
noncomputable def I102 : Inst := { f := 102, nt := 22, params := [((.box (.pr (.ro (.int .i64)) (.pr (.ro (.arr 2 (.int .i16))) (.pr (.row false (.pair (.arr 2 (.int .i16)) (.pair .bool .unit))) (.ro .unit))))), true), ((.ro (.arr 2 (.int .i16))), false), ((.ro .bool), false)], res := [], slots := [], code := bd Tryz.f102, pins := [0] }
/- impl.planner).goUp -/
noncomputable def I101 : Inst := { f := 101, nt := 40, params := [((.box (.pr (.ro (.int .i64)) (.pr (.ro (.arr 2 (.int .i16))) (.pr (.row false (.pair (.arr 2 (.int .i16)) (.pair .bool .unit))) (.ro .unit))))), true), ((.ro (.arr 2 (.int .i16))), false)], res := [], slots := [], code := bd Tryz.f101, callee := fun r i => find 0 [(1005, 135), (7005, 102), (8002, 102)] (r * 1000 + i), loops := fun b => find [] [(0, [.own 0 (.box (.pr (.ro (.int .i64)) (.pr (.ro (.arr 2 (.int .i16))) (.pr (.row false (.pair (.arr 2 (.int .i16)) (.pair .bool .unit))) (.ro .unit))))), .own 3 (.box (.ro (.arr 2 (.int .i16)))), .own 4 (.ro (.slc (.arr 2 (.int .i16)))), .own 5 (.ro (.int .i64)), .own 6 (.ro (.int .i64))])] b, pins := [0] }
/- impl.Mark] -/
noncomputable def I136 : Inst := { f := 136, nt := 26, params := [((.ro (.slc (.arr 2 (.int .i16)))), false), ((.ro (.slc (.arr 2 (.int .i16)))), false)], res := [(.ro .bool)], slots := [.tmp 4], code := bd Tryz.f136, loops := fun b => find [] [(0, [.own 0 (.ro (.slc (.arr 2 (.int .i16)))), .own 1 (.ro (.slc (.arr 2 (.int .i16)))), .own 12 (.ro (.int .i64)), .own 13 (.ro (.int .i64))])] b }
/- impl.planner).goDown -/
noncomputable def I103 : Inst := { f := 103, nt := 53, params := [((.box (.pr (.ro (.int .i64)) (.pr (.ro (.arr 2 (.int .i16))) (.pr (.row false (.pair (.arr 2 (.int .i16)) (.pair .bool .unit))) (.ro .unit))))), true), ((.ro (.arr 2 (.int .i16))), false)], res := [], slots := [], code := bd Tryz.f103, callee := fun r i => find 0 [(1005, 135), (5008, 135), (5014, 136), (7005, 102)] (r * 1000 + i), loops := fun b => find [] [(2, [.own 0 (.box (.pr (.ro (.int .i64)) (.pr (.ro (.arr 2 (.int .i16))) (.pr (.row false (.pair (.arr 2 (.int .i16)) (.pair .bool .unit))) (.ro .unit))))), .own 4 (.ro (.slc (.arr 2 (.int .i16)))), .own 5 (.ro (.int .i64)), .own 6 (.ro (.int .i64))]), (0, [.own 0 (.box (.pr (.ro (.int .i64)) (.pr (.ro (.arr 2 (.int .i16))) (.pr (.row false (.pair (.arr 2 (.int .i16)) (.pair .bool .unit))) (.ro .unit))))), .own 4 (.ro (.slc (.arr 2 (.int .i16)))), .own 5 (.ro (.int .i64))])] b, pins := [0] }
/- impl.Stop] -/
noncomputable def I104 : Inst := { f := 104, nt := 8, params := [((.ro (.slc (.pair (.arr 2 (.int .i16)) (.pair .bool .unit)))), false)], res := [(.row false (.pair (.arr 2 (.int .i16)) (.pair .bool .unit)))], slots := [.tmp 2], code := bd Tryz.f104 }
/- impl.PlanStops -/
noncomputable def I53 : Inst := { f := 53, nt := 68, params := [((.ro (.slc (.slc (.arr 2 (.int .i16))))), false), ((.ro (.int .i64)), false)], res := [(.row false (.pair (.arr 2 (.int .i16)) (.pair .bool .unit))), (.ro (.int .i64))], slots := [.tmp 4, .tmp 5], code := bd Tryz.f53, callee := fun r i => find 0 [(1001, 100), (1003, 45), (1005, 65), (1007, 64), (8004, 101), (9004, 102), (13002, 103), (16002, 101), (19004, 104)] (r * 1000 + i), loops := fun b => find [] [(2, [.own 7 (.box (.pr (.ro (.int .i64)) (.pr (.ro (.arr 2 (.int .i16))) (.pr (.row false (.pair (.arr 2 (.int .i16)) (.pair .bool .unit))) (.ro .unit))))), .own 26 (.ro (.slc (.slc (.arr 2 (.int .i16))))), .own 27 (.ro (.int .i64)), .own 28 (.ro (.int .i64)), .own 43 (.ro (.slc (.arr 2 (.int .i16)))), .own 44 (.ro (.int .i64)), .own 45 (.ro (.int .i64))]), (0, [.own 7 (.box (.pr (.ro (.int .i64)) (.pr (.ro (.arr 2 (.int .i16))) (.pr (.row false (.pair (.arr 2 (.int .i16)) (.pair .bool .unit))) (.ro .unit))))), .own 26 (.ro (.slc (.slc (.arr 2 (.int .i16))))), .own 27 (.ro (.int .i64)), .own 28 (.ro (.int .i64))])] b, deep := fun r i => find false [(1006, true)] (r * 1000 + i), frz := fun r i => find false [(1006, true)] (r * 1000 + i) }
/- impl.isPlace -/
noncomputable def I105 : Inst := { f := 105, nt := 9, params := [((.ro (.int .i64)), false), ((.ro (.int .i64)), false)], res := [(.ro .bool)], slots := [.tmp 4], code := bd Tryz.f105, callee := fun r i => find 0 [(1003, 45)] (r * 1000 + i) }
/- impl.machineFor -/
noncomputable def I54 : Inst := { f := 54, nt := 49, params := [((.ro (.slc (.pair (.arr 2 (.int .i16)) (.pair .bool .unit)))), false), ((.ro (.int .i64)), false)], res := [(.pr (.row false (.int .i16)) (.pr (.row false (.int .i16)) (.pr (.row false (.int .i16)) (.ro .unit))))], slots := [.cell 4 48], code := bd Tryz.f54, callee := fun r i => find 0 [(6003, 105)] (r * 1000 + i), loops := fun b => find [] [(0, [.own 0 (.ro (.slc (.pair (.arr 2 (.int .i16)) (.pair .bool .unit)))), .own 4 (.box (.ro (.pair (.slc (.int .i16)) (.pair (.slc (.int .i16)) (.pair (.slc (.int .i16)) .unit))))), .own 5 (.box (.pr (.row false (.int .i16)) (.pr (.row false (.int .i16)) (.pr (.row false (.int .i16)) (.ro .unit))))), .own 10 (.ro (.int .i64)), .own 11 (.ro (.int .i64))])] b, deep := fun r i => find false [(11005, true), (11006, true), (11012, true), (11013, true), (11017, true), (11018, true)] (r * 1000 + i) }
/- impl.CompileStrokes -/
noncomputable def I18 : Inst := { f := 18, nt := 23, params := [((.ro (.slc (.slc (.arr 2 (.int .i16))))), false), ((.ro (.int .i64)), false)], res := [(.pr (.row false (.int .i16)) (.pr (.row false (.int .i16)) (.pr (.row false (.int .i16)) (.ro .unit)))), (.ro (.int .i64))], slots := [.cell 4 48, .tmp 5], code := bd Tryz.f18, callee := fun r i => find 0 [(1002, 53), (4004, 54)] (r * 1000 + i) }
/- spec.l07Mark -/
noncomputable def I107 : Inst := { f := 107, nt := 13, params := [((.ro (.arr 2 (.int .i16))), false)], res := [(.ro .bool)], slots := [.tmp 2], code := bd Tryz.f107, callee := fun r i => find 0 [(1003, 76), (1008, 76)] (r * 1000 + i) }
/- spec.l07Strokes -/
noncomputable def I57 : Inst := { f := 57, nt := 39, params := [((.ro (.slc (.slc (.arr 2 (.int .i16))))), false)], res := [(.ro (.int .i64))], slots := [.tmp 2], code := bd Tryz.f57, callee := fun r i => find 0 [(4005, 76), (9007, 107)] (r * 1000 + i), loops := fun b => find [] [(2, [.own 0 (.ro (.slc (.slc (.arr 2 (.int .i16))))), .own 3 (.ro (.int .i64)), .own 4 (.ro (.int .i64))]), (0, [.own 0 (.ro (.slc (.slc (.arr 2 (.int .i16))))), .own 3 (.ro (.int .i64))])] b }
/- spec.l01Size -/
noncomputable def I151 : Inst := { f := 151, nt := 8, params := [((.ro (.int .i64)), false)], res := [(.ro (.int .i64))], slots := [.tmp 2], code := bd Tryz.f151 }
/- spec.l07Far -/
noncomputable def I139 : Inst := { f := 139, nt := 22, params := [((.ro (.arr 2 (.int .i16))), false), ((.ro (.arr 2 (.int .i16))), false)], res := [(.ro (.int .i64))], slots := [.tmp 4], code := bd Tryz.f139, callee := fun r i => find 0 [(1007, 151), (1015, 151), (1016, 38)] (r * 1000 + i) }
/- spec.l07Line -/
noncomputable def I108 : Inst := { f := 108, nt := 54, params := [((.ro (.arr 2 (.int .i16))), false), ((.ro (.arr 2 (.int .i16))), false)], res := [(.row false (.arr 2 (.int .i16)))], slots := [.tmp 4], code := bd Tryz.f108, callee := fun r i => find 0 [(1002, 139), (12017, 122)] (r * 1000 + i), loops := fun b => find [] [(2, [.own 2 (.box (.ro (.arr 2 (.int .i16)))), .own 3 (.box (.ro (.arr 2 (.int .i16)))), .own 5 (.ro (.int .i64)), .own 6 (.row false (.arr 2 (.int .i16))), .own 7 (.ro (.int .i64)), .own 8 (.box (.ro (.arr 2 (.int .i16)))), .own 9 (.ro (.int .i64))]), (0, [.own 2 (.box (.ro (.arr 2 (.int .i16)))), .own 3 (.box (.ro (.arr 2 (.int .i16)))), .own 5 (.ro (.int .i64)), .own 6 (.row false (.arr 2 (.int .i16))), .own 7 (.ro (.int .i64))])] b, deep := fun r i => find false [(3001, true), (4000, true), (13002, true), (13003, true)] (r * 1000 + i) }
/- spec.l07Marks -/
noncomputable def I150 : Inst := { f := 150, nt := 26, params := [((.ro (.slc (.arr 2 (.int .i16)))), false), ((.ro (.slc (.arr 2 (.int .i16)))), false)], res := [(.ro .bool)], slots := [.tmp 4], code := bd Tryz.f150, loops := fun b => find [] [(0, [.own 0 (.ro (.slc (.arr 2 (.int .i16)))), .own 1 (.ro (.slc (.arr 2 (.int .i16)))), .own 5 (.ro (.int .i64))])] b }
/- spec.l07Plan).stop -/
noncomputable def I138 : Inst := { f := 138, nt := 22, params := [((.box (.pr (.ro (.arr 2 (.int .i16))) (.pr (.row false (.pair (.arr 2 (.int .i16)) (.pair .bool .unit))) (.pr (.ro (.int .i64)) (.ro .unit))))), true), ((.ro (.arr 2 (.int .i16))), false), ((.ro .bool), false)], res := [], slots := [], code := bd Tryz.f138, pins := [0] }
/- spec.l07Plan).goTo -/
noncomputable def I137 : Inst := { f := 137, nt := 59, params := [((.box (.pr (.ro (.arr 2 (.int .i16))) (.pr (.row false (.pair (.arr 2 (.int .i16)) (.pair .bool .unit))) (.pr (.ro (.int .i64)) (.ro .unit))))), true), ((.ro (.arr 2 (.int .i16))), false), ((.ro .bool), false)], res := [], slots := [], code := bd Tryz.f137, callee := fun r i => find 0 [(1005, 108), (5007, 129), (6010, 108), (6016, 150), (8006, 138)] (r * 1000 + i), loops := fun b => find [] [(2, [.own 0 (.box (.pr (.ro (.arr 2 (.int .i16))) (.pr (.row false (.pair (.arr 2 (.int .i16)) (.pair .bool .unit))) (.pr (.ro (.int .i64)) (.ro .unit))))), .own 2 (.ro .bool), .own 6 (.ro (.slc (.arr 2 (.int .i16)))), .own 7 (.ro (.int .i64)), .own 8 (.ro (.int .i64)), .own 9 (.ro (.int .i64))]), (0, [.own 0 (.box (.pr (.ro (.arr 2 (.int .i16))) (.pr (.row false (.pair (.arr 2 (.int .i16)) (.pair .bool .unit))) (.pr (.ro (.int .i64)) (.ro .unit))))), .own 2 (.ro .bool), .own 6 (.ro (.slc (.arr 2 (.int .i16)))), .own 7 (.ro (.int .i64)), .own 8 (.ro (.int .i64))])] b, pins := [0] }
/- spec.l07Planned -/
noncomputable def I106 : Inst := { f := 106, nt := 59, params := [((.ro (.slc (.slc (.arr 2 (.int .i16))))), false), ((.ro (.int .i64)), false)], res := [(.row false (.pair (.arr 2 (.int .i16)) (.pair .bool .unit)))], slots := [.tmp 4], code := bd Tryz.f106, callee := fun r i => find 0 [(5007, 137), (6007, 138), (10008, 137), (11002, 137)] (r * 1000 + i), loops := fun b => find [] [(2, [.own 0 (.ro (.slc (.slc (.arr 2 (.int .i16))))), .own 5 (.box (.pr (.ro (.arr 2 (.int .i16))) (.pr (.row false (.pair (.arr 2 (.int .i16)) (.pair .bool .unit))) (.pr (.ro (.int .i64)) (.ro .unit))))), .own 6 (.ro (.int .i64)), .own 7 (.ro (.int .i64))]), (0, [.own 0 (.ro (.slc (.slc (.arr 2 (.int .i16))))), .own 5 (.box (.pr (.ro (.arr 2 (.int .i16))) (.pr (.row false (.pair (.arr 2 (.int .i16)) (.pair .bool .unit))) (.pr (.ro (.int .i64)) (.ro .unit))))), .own 6 (.ro (.int .i64))])] b, deep := fun r i => find false [(1000, true)] (r * 1000 + i) }
/- spec.PlanStops -/
noncomputable def I55 : Inst := { f := 55, nt := 29, params := [((.ro (.slc (.slc (.arr 2 (.int .i16))))), false), ((.ro (.int .i64)), false)], res := [(.row false (.pair (.arr 2 (.int .i16)) (.pair .bool .unit))), (.ro (.int .i64))], slots := [.tmp 4, .tmp 5], code := bd Tryz.f55, callee := fun r i => find 0 [(1001, 57), (2004, 76), (6002, 106)] (r * 1000 + i), deep := fun r i => find false [(5000, true), (8000, true)] (r * 1000 + i) }
/- spec.l07For -/
noncomputable def I56 : Inst := { f := 56, nt := 51, params := [((.ro (.slc (.pair (.arr 2 (.int .i16)) (.pair .bool .unit)))), false), ((.ro (.int .i64)), false)], res := [(.pr (.row false (.int .i16)) (.pr (.row false (.int .i16)) (.pr (.row false (.int .i16)) (.ro .unit))))], slots := [.cell 4 48], code := bd Tryz.f56, loops := fun b => find [] [(0, [.own 0 (.ro (.slc (.pair (.arr 2 (.int .i16)) (.pair .bool .unit)))), .own 1 (.ro (.int .i64)), .own 4 (.box (.ro (.pair (.slc (.int .i16)) (.pair (.slc (.int .i16)) (.pair (.slc (.int .i16)) .unit))))), .own 5 (.box (.pr (.row false (.int .i16)) (.pr (.row false (.int .i16)) (.pr (.row false (.int .i16)) (.ro .unit))))), .own 6 (.ro (.int .i64))])] b, deep := fun r i => find false [(11004, true), (11005, true), (12004, true), (12005, true), (13003, true), (13004, true)] (r * 1000 + i) }
/- spec.CompileStrokes -/
noncomputable def I19 : Inst := { f := 19, nt := 23, params := [((.ro (.slc (.slc (.arr 2 (.int .i16))))), false), ((.ro (.int .i64)), false)], res := [(.pr (.row false (.int .i16)) (.pr (.row false (.int .i16)) (.pr (.row false (.int .i16)) (.ro .unit)))), (.ro (.int .i64))], slots := [.cell 4 48, .tmp 5], code := bd Tryz.f19, callee := fun r i => find 0 [(1002, 55), (4003, 38), (4004, 56)] (r * 1000 + i) }
/- spec.l07Ink -/
noncomputable def I58 : Inst := { f := 58, nt := 36, params := [((.box (.ro (.arr 64 (.int .u64)))), true), ((.ro (.arr 2 (.int .i16))), false), ((.ro (.arr 2 (.int .i16))), false)], res := [], slots := [], code := bd Tryz.f58, callee := fun r i => find 0 [(1002, 108)] (r * 1000 + i), loops := fun b => find [] [(0, [.own 0 (.box (.ro (.arr 64 (.int .u64)))), .own 6 (.ro (.slc (.arr 2 (.int .i16)))), .own 7 (.ro (.int .i64))])] b, pins := [0] }
/- spec.DrawStrokes -/
noncomputable def I20 : Inst := { f := 20, nt := 64, params := [((.ro (.slc (.slc (.arr 2 (.int .i16))))), false)], res := [(.ro (.arr 64 (.int .u64))), (.ro (.int .i64))], slots := [.cell 2 53, .tmp 3], code := bd Tryz.f20, callee := fun r i => find 0 [(1001, 57), (11014, 58), (13015, 58)] (r * 1000 + i), loops := fun b => find [] [(2, [.own 0 (.ro (.slc (.slc (.arr 2 (.int .i16))))), .own 2 (.box (.ro (.arr 64 (.int .u64)))), .own 5 (.box (.ro (.arr 64 (.int .u64)))), .own 6 (.ro (.int .i64)), .own 7 (.ro (.int .i64))]), (0, [.own 0 (.ro (.slc (.slc (.arr 2 (.int .i16))))), .own 2 (.box (.ro (.arr 64 (.int .u64)))), .own 5 (.box (.ro (.arr 64 (.int .u64)))), .own 6 (.ro (.int .i64))])] b }
/- spec.SameMachine -/
noncomputable def I21 : Inst := { f := 21, nt := 24, params := [((.ro (.pair (.slc (.int .i16)) (.pair (.slc (.int .i16)) (.pair (.slc (.int .i16)) .unit)))), false), ((.ro (.pair (.slc (.int .i16)) (.pair (.slc (.int .i16)) (.pair (.slc (.int .i16)) .unit)))), false)], res := [(.ro .bool)], slots := [.tmp 4], code := bd Tryz.f21, callee := fun r i => find 0 [(1004, 39), (1010, 39), (1017, 39)] (r * 1000 + i) }
/- impl.Cam,int16] -/
noncomputable def I109 : Inst := { f := 109, nt := 25, params := [((.ro (.slc (.int .i16))), false)], res := [(.ro (.int .i16))], slots := [.tmp 2], code := bd Tryz.f109, loops := fun b => find [] [(0, [.own 0 (.ro (.slc (.int .i16))), .own 3 (.ro (.int .i16)), .own 4 (.ro (.int .i64))])] b }
/- impl.ValidMachine -/
noncomputable def I59 : Inst := { f := 59, nt := 33, params := [((.ro (.pair (.slc (.int .i16)) (.pair (.slc (.int .i16)) (.pair (.slc (.int .i16)) .unit)))), false)], res := [(.ro .bool)], slots := [.tmp 2], code := bd Tryz.f59, callee := fun r i => find 0 [(4001, 32), (4013, 109), (7002, 32)] (r * 1000 + i), loops := fun b => find [] [(0, [.own 1 (.box (.ro (.pair (.slc (.int .i16)) (.pair (.slc (.int .i16)) (.pair (.slc (.int .i16)) .unit))))), .own 9 (.ro (.arr 2 (.slc (.int .i16)))), .own 10 (.ro (.int .i64))])] b }
/- impl.Machine).steps -/
noncomputable def I140 : Inst := { f := 140, nt := 6, params := [((.ro (.pair (.slc (.int .i16)) (.pair (.slc (.int .i16)) (.pair (.slc (.int .i16)) .unit)))), false)], res := [(.ro (.int .i64))], slots := [.tmp 2], code := bd Tryz.f140, callee := fun r i => find 0 [(1002, 43)] (r * 1000 + i) }
/- impl.Machine).stop -/
noncomputable def I141 : Inst := { f := 141, nt := 22, params := [((.ro (.pair (.slc (.int .i16)) (.pair (.slc (.int .i16)) (.pair (.slc (.int .i16)) .unit)))), false), ((.ro (.int .i64)), false)], res := [(.ro (.pair (.arr 2 (.int .i16)) (.pair .bool .unit)))], slots := [.cell 4 71], code := bd Tryz.f141, callee := fun r i => find 0 [(1003, 86), (1008, 86), (1014, 86)] (r * 1000 + i) }
/- impl.Machine).stops -/
noncomputable def I110 : Inst := { f := 110, nt := 19, params := [((.ro (.pair (.slc (.int .i16)) (.pair (.slc (.int .i16)) (.pair (.slc (.int .i16)) .unit)))), false)], res := [(.ro (.slc (.pair (.arr 2 (.int .i16)) (.pair .bool .unit))))], slots := [.tmp 2], code := bd Tryz.f110, strict := true, callee := fun r i => find 0 [(2001, 140), (5003, 141)] (r * 1000 + i), loops := fun b => find [] [(0, [.own 1 (.box (.ro (.pair (.slc (.int .i16)) (.pair (.slc (.int .i16)) (.pair (.slc (.int .i16)) .unit))))), .own 3 (.row false (.pair (.arr 2 (.int .i16)) (.pair .bool .unit))), .own 7 (.ro (.int .i64)), .own 8 (.ro (.int .i64))])] b }
/- impl.Plate).ink -/
noncomputable def I111 : Inst := { f := 111, nt := 16, params := [((.box (.ro (.arr 64 (.int .u64)))), true), ((.ro (.arr 2 (.int .i16))), false)], res := [], slots := [], code := bd Tryz.f111, pins := [0] }
/- impl.Plate).line -/
noncomputable def I112 : Inst := { f := 112, nt := 20, params := [((.box (.ro (.arr 64 (.int .u64)))), true), ((.ro (.arr 2 (.int .i16))), false), ((.ro (.arr 2 (.int .i16))), false)], res := [], slots := [], code := bd Tryz.f112, callee := fun r i => find 0 [(1002, 135), (4002, 111)] (r * 1000 + i), loops := fun b => find [] [(0, [.own 0 (.box (.ro (.arr 64 (.int .u64)))), .own 10 (.ro (.slc (.arr 2 (.int .i16)))), .own 11 (.ro (.int .i64)), .own 12 (.ro (.int .i64))])] b, pins := [0] }
/- impl.Machine).draw -/
noncomputable def I60 : Inst := { f := 60, nt := 41, params := [((.ro (.pair (.slc (.int .i16)) (.pair (.slc (.int .i16)) (.pair (.slc (.int .i16)) .unit)))), false)], res := [(.ro (.arr 64 (.int .u64)))], slots := [.cell 2 53], code := bd Tryz.f60, callee := fun r i => find 0 [(1002, 110), (6002, 111), (9004, 112)] (r * 1000 + i), loops := fun b => find [] [(0, [.own 2 (.box (.ro (.arr 64 (.int .u64)))), .own 3 (.box (.ro (.arr 64 (.int .u64)))), .own 4 (.ro (.slc (.pair (.arr 2 (.int .i16)) (.pair .bool .unit)))), .own 11 (.ro (.slc (.pair (.arr 2 (.int .i16)) (.pair .bool .unit)))), .own 12 (.ro (.int .i64)), .own 13 (.ro (.int .i64))])] b }
/- impl.DrawMachine -/
noncomputable def I22 : Inst := { f := 22, nt := 10, params := [((.ro (.pair (.slc (.int .i16)) (.pair (.slc (.int .i16)) (.pair (.slc (.int .i16)) .unit)))), false)], res := [(.ro (.arr 64 (.int .u64))), (.ro (.int .i64))], slots := [.cell 2 53, .tmp 3], code := bd Tryz.f22, callee := fun r i => find 0 [(1001, 59), (3001, 60)] (r * 1000 + i) }
/- spec.l01Range -/
noncomputable def I142 : Inst := { f := 142, nt := 34, params := [((.ro (.slc (.int .i16))), false)], res := [(.ro (.int .i64)), (.ro (.int .i64))], slots := [.tmp 2, .tmp 3], code := bd Tryz.f142, callee := fun r i => find 0 [(6006, 129), (7006, 38)] (r * 1000 + i), loops := fun b => find [] [(0, [.own 0 (.ro (.slc (.int .i16))), .own 4 (.ro (.int .i64)), .own 5 (.ro (.int .i64)), .own 6 (.ro (.int .i64))])] b }
/- spec.l07Moves -/
noncomputable def I113 : Inst := { f := 113, nt := 15, params := [((.ro (.slc (.int .i16))), false)], res := [(.ro .bool)], slots := [.tmp 2], code := bd Tryz.f113, callee := fun r i => find 0 [(1001, 36), (3001, 142)] (r * 1000 + i) }
/- spec.l07Ok -/
noncomputable def I61 : Inst := { f := 61, nt := 48, params := [((.ro (.ptr (.pair (.slc (.int .i16)) (.pair (.slc (.int .i16)) (.pair (.slc (.int .i16)) .unit))))), false)], res := [(.ro .bool)], slots := [.tmp 2], code := bd Tryz.f61, callee := fun r i => find 0 [(1004, 113), (1010, 113), (1017, 36)] (r * 1000 + i) }
/- spec.l07Stops -/
noncomputable def I62 : Inst := { f := 62, nt := 43, params := [((.ro (.ptr (.pair (.slc (.int .i16)) (.pair (.slc (.int .i16)) (.pair (.slc (.int .i16)) .unit))))), false)], res := [(.row false (.pair (.arr 2 (.int .i16)) (.pair .bool .unit)))], slots := [.tmp 2], code := bd Tryz.f62, loops := fun b => find [] [(0, [.own 0 (.ro (.ptr (.pair (.slc (.int .i16)) (.pair (.slc (.int .i16)) (.pair (.slc (.int .i16)) .unit))))), .own 3 (.row false (.pair (.arr 2 (.int .i16)) (.pair .bool .unit))), .own 4 (.ro (.int .i64))])] b, deep := fun r i => find false [(1000, true), (5025, true), (5026, true)] (r * 1000 + i) }
/- spec.StopsOf -/
noncomputable def I23 : Inst := { f := 23, nt := 8, params := [((.ro (.pair (.slc (.int .i16)) (.pair (.slc (.int .i16)) (.pair (.slc (.int .i16)) .unit)))), false)], res := [(.row false (.pair (.arr 2 (.int .i16)) (.pair .bool .unit))), (.ro (.int .i64))], slots := [.tmp 2, .tmp 3], code := bd Tryz.f23, callee := fun r i => find 0 [(1000, 61), (3000, 62)] (r * 1000 + i), deep := fun r i => find false [(2000, true)] (r * 1000 + i) }
/- impl.ValidShafts$1 -/
noncomputable def I116 : Inst := { f := 116, nt := 31, params := [((.ro (.pair (.int .i16) (.pair (.int .i16) (.pair (.int .i16) (.pair (.slc (.int .i16)) .unit))))), false)], res := [(.ro .bool)], slots := [.tmp 2], code := bd Tryz.f116, callee := fun r i => find 0 [(1003, 45), (1009, 45), (1015, 32), (1025, 105)] (r * 1000 + i) }
/- impl.Shaft] -/
noncomputable def I145 : Inst := { f := 145, nt := 19, params := [((.ro (.slc (.pair (.int .i16) (.pair (.int .i16) (.pair (.int .i16) (.pair (.slc (.int .i16)) .unit)))))), false), ((.clo 116 (.ro .unit) (.ro .unit)), false)], res := [(.ro (.int .i64))], slots := [.tmp 4], code := bd Tryz.f145, callee := fun r i => find 0 [(4005, 116)] (r * 1000 + i), loops := fun b => find [] [(0, [.own 0 (.ro (.slc (.pair (.int .i16) (.pair (.int .i16) (.pair (.int .i16) (.pair (.slc (.int .i16)) .unit)))))), .own 1 (.clo 116 (.ro .unit) (.ro .unit)), .own 7 (.ro (.int .i64)), .own 8 (.ro (.int .i64))])] b }
/- impl.Shaft] -/
noncomputable def I115 : Inst := { f := 115, nt := 9, params := [((.ro (.slc (.pair (.int .i16) (.pair (.int .i16) (.pair (.int .i16) (.pair (.slc (.int .i16)) .unit)))))), false), ((.clo 116 (.ro .unit) (.ro .unit)), false)], res := [(.ro .bool)], slots := [.tmp 4], code := bd Tryz.f115, callee := fun r i => find 0 [(1002, 145)] (r * 1000 + i) }
/- impl.ValidShafts -/
noncomputable def I66 : Inst := { f := 66, nt := 11, params := [((.ro (.slc (.pair (.int .i16) (.pair (.int .i16) (.pair (.int .i16) (.pair (.slc (.int .i16)) .unit)))))), false)], res := [(.ro .bool)], slots := [.tmp 2], code := bd Tryz.f66, callee := fun r i => find 0 [(1002, 45), (1005, 115)] (r * 1000 + i) }
/- impl.common -/
noncomputable def I144 : Inst := { f := 144, nt := 12, params := [((.ro (.int .i64)), false), ((.ro (.int .i64)), false)], res := [(.ro (.int .i64))], slots := [.tmp 4], code := bd Tryz.f144, loops := fun b => find [] [(0, [.own 0 (.ro (.int .i64)), .own 1 (.ro (.int .i64))])] b }
/- impl.Shaft).period -/
noncomputable def I143 : Inst := { f := 143, nt := 18, params := [((.ro (.pair (.int .i16) (.pair (.int .i16) (.pair (.int .i16) (.pair (.slc (.int .i16)) .unit))))), false)], res := [(.ro (.int .i64))], slots := [.tmp 2], code := bd Tryz.f143, callee := fun r i => find 0 [(1005, 43), (2005, 144)] (r * 1000 + i) }
/- impl.periodOf -/
noncomputable def I114 : Inst := { f := 114, nt := 27, params := [((.ro (.slc (.pair (.int .i16) (.pair (.int .i16) (.pair (.int .i16) (.pair (.slc (.int .i16)) .unit)))))), false)], res := [(.ro (.int .i64)), (.ro .bool)], slots := [.tmp 2, .tmp 3], code := bd Tryz.f114, callee := fun r i => find 0 [(5001, 143), (6003, 144)] (r * 1000 + i), loops := fun b => find [] [(0, [.own 4 (.ro (.int .i64)), .own 8 (.ro (.slc (.pair (.int .i16) (.pair (.int .i16) (.pair (.int .i16) (.pair (.slc (.int .i16)) .unit)))))), .own 9 (.ro (.int .i64)), .own 10 (.ro (.int .i64))])] b }
/- impl.shaftsCode -/
noncomputable def I63 : Inst := { f := 63, nt := 30, params := [((.ro (.slc (.pair (.int .i16) (.pair (.int .i16) (.pair (.int .i16) (.pair (.slc (.int .i16)) .unit)))))), false), ((.ro .bool), false)], res := [(.ro (.int .i64)), (.ro (.int .i64))], slots := [.tmp 4, .tmp 5], code := bd Tryz.f63, callee := fun r i => find 0 [(1001, 66), (1003, 65), (1006, 65), (1008, 64), (4001, 114), (5003, 65)] (r * 1000 + i), deep := fun r i => find false [(1007, true)] (r * 1000 + i), frz := fun r i => find false [(1007, true)] (r * 1000 + i) }
/- impl.PeriodOfAll -/
noncomputable def I24 : Inst := { f := 24, nt := 15, params := [((.ro (.slc (.pair (.int .i16) (.pair (.int .i16) (.pair (.int .i16) (.pair (.slc (.int .i16)) .unit)))))), false)], res := [(.ro (.int .i64)), (.ro (.int .i64))], slots := [.tmp 2, .tmp 3], code := bd Tryz.f24, callee := fun r i => find 0 [(1001, 63)] (r * 1000 + i) }
/- impl.Shaft).step -/
noncomputable def I152 : Inst := { f := 152, nt := 22, params := [((.ro (.pair (.int .i16) (.pair (.int .i16) (.pair (.int .i16) (.pair (.slc (.int .i16)) .unit))))), false), ((.ro (.int .i64)), false), ((.ro (.int .i64)), false)], res := [(.ro (.int .i64))], slots := [.tmp 6], code := bd Tryz.f152, callee := fun r i => find 0 [(1013, 43)] (r * 1000 + i) }
/- impl.Shaft).lift -/
noncomputable def I146 : Inst := { f := 146, nt := 16, params := [((.ro (.pair (.int .i16) (.pair (.int .i16) (.pair (.int .i16) (.pair (.slc (.int .i16)) .unit))))), false), ((.ro (.int .i64)), false), ((.ro (.int .i64)), false)], res := [(.ro (.int .i64))], slots := [.tmp 6], code := bd Tryz.f146, callee := fun r i => find 0 [(1005, 152)] (r * 1000 + i) }
/- impl.Shaft).now -/
noncomputable def I117 : Inst := { f := 117, nt := 11, params := [((.ro (.pair (.int .i16) (.pair (.int .i16) (.pair (.int .i16) (.pair (.slc (.int .i16)) .unit))))), false), ((.ro (.int .i64)), false)], res := [(.ro (.int .i64))], slots := [.tmp 4], code := bd Tryz.f117, callee := fun r i => find 0 [(1005, 146)] (r * 1000 + i) }
/- impl.liftsOn -/
noncomputable def I67 : Inst := { f := 67, nt := 23, params := [((.ro (.slc (.pair (.int .i16) (.pair (.int .i16) (.pair (.int .i16) (.pair (.slc (.int .i16)) .unit)))))), false), ((.ro (.int .i64)), false)], res := [(.row false (.int .i64))], slots := [.tmp 4], code := bd Tryz.f67, callee := fun r i => find 0 [(5003, 117)] (r * 1000 + i), loops := fun b => find [] [(0, [.own 1 (.ro (.int .i64)), .own 5 (.row false (.int .i64)), .own 9 (.ro (.slc (.pair (.int .i16) (.pair (.int .i16) (.pair (.int .i16) (.pair (.slc (.int .i16)) .unit)))))), .own 10 (.ro (.int .i64)), .own 11 (.ro (.int .i64))])] b, deep := fun r i => find false [(1000, true), (5004, true), (5005, true)] (r * 1000 + i) }
/- impl.LiftsOn -/
noncomputable def I25 : Inst := { f := 25, nt := 23, params := [((.ro (.slc (.pair (.int .i16) (.pair (.int .i16) (.pair (.int .i16) (.pair (.slc (.int .i16)) .unit)))))), false), ((.ro (.int .i64)), false)], res := [(.row false (.int .i64)), (.ro (.int .i64))], slots := [.tmp 4, .tmp 5], code := bd Tryz.f25, callee := fun r i => find 0 [(1001, 66), (1003, 65), (1005, 45), (1007, 65), (1009, 64), (4002, 67)] (r * 1000 + i), deep := fun r i => find false [(1008, true)] (r * 1000 + i), frz := fun r i => find false [(1008, true)] (r * 1000 + i) }
/- laws.FnTop -/
noncomputable def I3 : Inst := { f := 3, nt := 298, params := [((.ro (.slc (.int .u8))), false), ((.ro (.slc (.int .u8))), false)], res := [(.ro .bool)], slots := [.tmp 4], code := bd Tryz.f3, callee := fun r i => find 0 [(1002, 4), (3001, 5), (4001, 6), (5001, 7), (6001, 8), (7001, 9), (8010, 10), (10003, 11), (11001, 12), (12003, 13), (13002, 14), (14002, 15), (15002, 16), (16022, 10), (16028, 10), (18001, 17), (19001, 18), (20001, 19), (21001, 20), (22006, 21), (26001, 22), (27001, 23), (29001, 24), (35004, 25)] (r * 1000 + i), loops := fun b => find [] [(0, [.own 34 (.ro (.slc (.pair (.arr 2 (.int .i16)) (.pair .bool .unit)))), .own 36 (.ro (.slc (.pair (.int .i16) (.pair (.int .i16) (.pair (.int .i16) (.pair (.slc (.int .i16)) .unit)))))), .own 37 (.ro (.int .i64)), .own 39 (.ro (.int .i64))])] b }
noncomputable def CL : List (Nat × Inst) := [(4, I4), (27, I27), (99, I99), (52, I52), (68, I68), (26, I26), (5, I5), (45, I45), (69, I69), (72, I72), (71, I71), (118, I118), (70, I70), (74, I74), (73, I73), (28, I28), (119, I119), (127, I127), (120, I120), (75, I75), (29, I29), (6, I6), (76, I76), (77, I77), (78, I78), (79, I79), (30, I30), (121, I121), (122, I122), (80, I80), (31, I31), (7, I7), (43, I43), (82, I82), (123, I123), (81, I81), (32, I32), (94, I94), (86, I86), (83, I83), (35, I35), (34, I34), (33, I33), (8, I8), (36, I36), (84, I84), (37, I37), (38, I38), (9, I9), (39, I39), (10, I10), (124, I124), (85, I85), (40, I40), (87, I87), (42, I42), (44, I44), (41, I41), (11, I11), (12, I12), (13, I13), (88, I88), (65, I65), (46, I46), (126, I126), (92, I92), (125, I125), (1034, I1034), (89, I89), (93, I93), (1092, I1092), (91, I91), (90, I90), (47, I47), (14, I14), (48, I48), (96, I96), (128, I128), (1090, I1090), (95, I95), (97, I97), (1128, I1128), (2090, I2090), (1095, I1095), (49, I49), (15, I15), (50, I50), (129, I129), (98, I98), (51, I51), (16, I16), (17, I17), (134, I134), (133, I133), (148, I148), (132, I132), (131, I131), (147, I147), (130, I130), (64, I64), (100, I100), (153, I153), (149, I149), (135, I135), (102, I102), (101, I101), (136, I136), (103, I103), (104, I104), (53, I53), (105, I105), (54, I54), (18, I18), (107, I107), (57, I57), (151, I151), (139, I139), (108, I108), (150, I150), (138, I138), (137, I137), (106, I106), (55, I55), (56, I56), (19, I19), (58, I58), (20, I20), (21, I21), (109, I109), (59, I59), (140, I140), (141, I141), (110, I110), (111, I111), (112, I112), (60, I60), (22, I22), (142, I142), (113, I113), (61, I61), (62, I62), (23, I23), (116, I116), (145, I145), (115, I115), (66, I66), (144, I144), (143, I143), (114, I114), (63, I63), (24, I24), (152, I152), (146, I146), (117, I117), (67, I67), (25, I25), (3, I3)]
noncomputable def C : Nat → Inst := find I4 CL
theorem tsOk : TsOk Tryz.prog T := tsOkB_sound (by kernel_rfl)
theorem ok4 : InstOk Tryz.prog I4 := instOk_of Tryz.func4 (by kernel_rfl) (by kernel_rfl) (by kernel_rfl) (by kernel_rfl)
theorem ok27 : InstOk Tryz.prog I27 := instOk_of Tryz.func27 (by kernel_rfl) (by kernel_rfl) (by kernel_rfl) (by kernel_rfl)
theorem ok99 : InstOk Tryz.prog I99 := instOk_of Tryz.func99 (by kernel_rfl) (by kernel_rfl) (by kernel_rfl) (by kernel_rfl)
theorem ok52 : InstOk Tryz.prog I52 := instOk_of Tryz.func52 (by kernel_rfl) (by kernel_rfl) (by kernel_rfl) (by kernel_rfl)
theorem ok68 : InstOk Tryz.prog I68 := instOk_of Tryz.func68 (by kernel_rfl) (by kernel_rfl) (by kernel_rfl) (by kernel_rfl)
theorem ok26 : InstOk Tryz.prog I26 := instOk_of Tryz.func26 (by kernel_rfl) (by kernel_rfl) (by kernel_rfl) (by kernel_rfl)
theorem ok5 : InstOk Tryz.prog I5 := instOk_of Tryz.func5 (by kernel_rfl) (by kernel_rfl) (by kernel_rfl) (by kernel_rfl)
theorem ok45 : InstOk Tryz.prog I45 := instOk_of Tryz.func45 (by kernel_rfl) (by kernel_rfl) (by kernel_rfl) (by kernel_rfl)
theorem ok69 : InstOk Tryz.prog I69 := instOk_of Tryz.func69 (by kernel_rfl) (by kernel_rfl) (by kernel_rfl) (by kernel_rfl)
theorem ok72 : InstOk Tryz.prog I72 := instOk_of Tryz.func72 (by kernel_rfl) (by kernel_rfl) (by kernel_rfl) (by kernel_rfl)
theorem ok71 : InstOk Tryz.prog I71 := instOk_of Tryz.func71 (by kernel_rfl) (by kernel_rfl) (by kernel_rfl) (by kernel_rfl)
theorem ok118 : InstOk Tryz.prog I118 := instOk_of Tryz.func118 (by kernel_rfl) (by kernel_rfl) (by kernel_rfl) (by kernel_rfl)
theorem ok70 : InstOk Tryz.prog I70 := instOk_of Tryz.func70 (by kernel_rfl) (by kernel_rfl) (by kernel_rfl) (by kernel_rfl)
theorem ok74 : InstOk Tryz.prog I74 := instOk_of Tryz.func74 (by kernel_rfl) (by kernel_rfl) (by kernel_rfl) (by kernel_rfl)
theorem ok73 : InstOk Tryz.prog I73 := instOk_of Tryz.func73 (by kernel_rfl) (by kernel_rfl) (by kernel_rfl) (by kernel_rfl)
theorem ok28 : InstOk Tryz.prog I28 := instOk_of Tryz.func28 (by kernel_rfl) (by kernel_rfl) (by kernel_rfl) (by kernel_rfl)
theorem ok119 : InstOk Tryz.prog I119 := instOk_of Tryz.func119 (by kernel_rfl) (by kernel_rfl) (by kernel_rfl) (by kernel_rfl)
theorem ok127 : InstOk Tryz.prog I127 := instOk_of Tryz.func127 (by kernel_rfl) (by kernel_rfl) (by kernel_rfl) (by kernel_rfl)
theorem ok120 : InstOk Tryz.prog I120 := instOk_of Tryz.func120 (by kernel_rfl) (by kernel_rfl) (by kernel_rfl) (by kernel_rfl)
theorem ok75 : InstOk Tryz.prog I75 := instOk_of Tryz.func75 (by kernel_rfl) (by kernel_rfl) (by kernel_rfl) (by kernel_rfl)
theorem ok29 : InstOk Tryz.prog I29 := instOk_of Tryz.func29 (by kernel_rfl) (by kernel_rfl) (by kernel_rfl) (by kernel_rfl)
theorem ok6 : InstOk Tryz.prog I6 := instOk_of Tryz.func6 (by kernel_rfl) (by kernel_rfl) (by kernel_rfl) (by kernel_rfl)
theorem ok76 : InstOk Tryz.prog I76 := instOk_of Tryz.func76 (by kernel_rfl) (by kernel_rfl) (by kernel_rfl) (by kernel_rfl)
theorem ok77 : InstOk Tryz.prog I77 := instOk_of Tryz.func77 (by kernel_rfl) (by kernel_rfl) (by kernel_rfl) (by kernel_rfl)
theorem ok78 : InstOk Tryz.prog I78 := instOk_of Tryz.func78 (by kernel_rfl) (by kernel_rfl) (by kernel_rfl) (by kernel_rfl)
theorem ok79 : InstOk Tryz.prog I79 := instOk_of Tryz.func79 (by kernel_rfl) (by kernel_rfl) (by kernel_rfl) (by kernel_rfl)
theorem ok30 : InstOk Tryz.prog I30 := instOk_of Tryz.func30 (by kernel_rfl) (by kernel_rfl) (by kernel_rfl) (by kernel_rfl)
theorem ok121 : InstOk Tryz.prog I121 := instOk_of Tryz.func121 (by kernel_rfl) (by kernel_rfl) (by kernel_rfl) (by kernel_rfl)
theorem ok122 : InstOk Tryz.prog I122 := instOk_of Tryz.func122 (by kernel_rfl) (by kernel_rfl) (by kernel_rfl) (by kernel_rfl)
theorem ok80 : InstOk Tryz.prog I80 := instOk_of Tryz.func80 (by kernel_rfl) (by kernel_rfl) (by kernel_rfl) (by kernel_rfl)
theorem ok31 : InstOk Tryz.prog I31 := instOk_of Tryz.func31 (by kernel_rfl) (by kernel_rfl) (by kernel_rfl) (by kernel_rfl)
theorem ok7 : InstOk Tryz.prog I7 := instOk_of Tryz.func7 (by kernel_rfl) (by kernel_rfl) (by kernel_rfl) (by kernel_rfl)
theorem ok43 : InstOk Tryz.prog I43 := instOk_of Tryz.func43 (by kernel_rfl) (by kernel_rfl) (by kernel_rfl) (by kernel_rfl)
theorem ok82 : InstOk Tryz.prog I82 := instOk_of Tryz.func82 (by kernel_rfl) (by kernel_rfl) (by kernel_rfl) (by kernel_rfl)
theorem ok123 : InstOk Tryz.prog I123 := instOk_of Tryz.func123 (by kernel_rfl) (by kernel_rfl) (by kernel_rfl) (by kernel_rfl)
theorem ok81 : InstOk Tryz.prog I81 := instOk_of Tryz.func81 (by kernel_rfl) (by kernel_rfl) (by kernel_rfl) (by kernel_rfl)
theorem ok32 : InstOk Tryz.prog I32 := instOk_of Tryz.func32 (by kernel_rfl) (by kernel_rfl) (by kernel_rfl) (by kernel_rfl)
theorem ok94 : InstOk Tryz.prog I94 := instOk_of Tryz.func94 (by kernel_rfl) (by kernel_rfl) (by kernel_rfl) (by kernel_rfl)
theorem ok86 : InstOk Tryz.prog I86 := instOk_of Tryz.func86 (by kernel_rfl) (by kernel_rfl) (by kernel_rfl) (by kernel_rfl)
theorem ok83 : InstOk Tryz.prog I83 := instOk_of Tryz.func83 (by kernel_rfl) (by kernel_rfl) (by kernel_rfl) (by kernel_rfl)
theorem ok35 : InstOk Tryz.prog I35 := instOk_of Tryz.func35 (by kernel_rfl) (by kernel_rfl) (by kernel_rfl) (by kernel_rfl)
theorem ok34 : InstOk Tryz.prog I34 := instOk_of Tryz.func34 (by kernel_rfl) (by kernel_rfl) (by kernel_rfl) (by kernel_rfl)
theorem ok33 : InstOk Tryz.prog I33 := instOk_of Tryz.func33 (by kernel_rfl) (by kernel_rfl) (by kernel_rfl) (by kernel_rfl)
theorem ok8 : InstOk Tryz.prog I8 := instOk_of Tryz.func8 (by kernel_rfl) (by kernel_rfl) (by kernel_rfl) (by kernel_rfl)
theorem ok36 : InstOk Tryz.prog I36 := instOk_of Tryz.func36 (by kernel_rfl) (by kernel_rfl) (by kernel_rfl) (by kernel_rfl)
theorem ok84 : InstOk Tryz.prog I84 := instOk_of Tryz.func84 (by kernel_rfl) (by kernel_rfl) (by kernel_rfl) (by kernel_rfl)
theorem ok37 : InstOk Tryz.prog I37 := instOk_of Tryz.func37 (by kernel_rfl) (by kernel_rfl) (by kernel_rfl) (by kernel_rfl)
theorem ok38 : InstOk Tryz.prog I38 := instOk_of Tryz.func38 (by kernel_rfl) (by kernel_rfl) (by kernel_rfl) (by kernel_rfl)
theorem ok9 : InstOk Tryz.prog I9 := instOk_of Tryz.func9 (by kernel_rfl) (by kernel_rfl) (by kernel_rfl) (by kernel_rfl)
theorem ok39 : InstOk Tryz.prog I39 := instOk_of Tryz.func39 (by kernel_rfl) (by kernel_rfl) (by kernel_rfl) (by kernel_rfl)
theorem ok10 : InstOk Tryz.prog I10 := instOk_of Tryz.func10 (by kernel_rfl) (by kernel_rfl) (by kernel_rfl) (by kernel_rfl)
theorem ok124 : InstOk Tryz.prog I124 := instOk_of Tryz.func124 (by kernel_rfl) (by kernel_rfl) (by kernel_rfl) (by kernel_rfl)
theorem ok85 : InstOk Tryz.prog I85 := instOk_of Tryz.func85 (by kernel_rfl) (by kernel_rfl) (by kernel_rfl) (by kernel_rfl)
theorem ok40 : InstOk Tryz.prog I40 := instOk_of Tryz.func40 (by kernel_rfl) (by kernel_rfl) (by kernel_rfl) (by kernel_rfl)
theorem ok87 : InstOk Tryz.prog I87 := instOk_of Tryz.func87 (by kernel_rfl) (by kernel_rfl) (by kernel_rfl) (by kernel_rfl)
theorem ok42 : InstOk Tryz.prog I42 := instOk_of Tryz.func42 (by kernel_rfl) (by kernel_rfl) (by kernel_rfl) (by kernel_rfl)
theorem ok44 : InstOk Tryz.prog I44 := instOk_of Tryz.func44 (by kernel_rfl) (by kernel_rfl) (by kernel_rfl) (by kernel_rfl)
theorem ok41 : InstOk Tryz.prog I41 := instOk_of Tryz.func41 (by kernel_rfl) (by kernel_rfl) (by kernel_rfl) (by kernel_rfl)
theorem ok11 : InstOk Tryz.prog I11 := instOk_of Tryz.func11 (by kernel_rfl) (by kernel_rfl) (by kernel_rfl) (by kernel_rfl)
theorem ok12 : InstOk Tryz.prog I12 := instOk_of Tryz.func12 (by kernel_rfl) (by kernel_rfl) (by kernel_rfl) (by kernel_rfl)
theorem ok13 : InstOk Tryz.prog I13 := instOk_of Tryz.func13 (by kernel_rfl) (by kernel_rfl) (by kernel_rfl) (by kernel_rfl)
theorem ok88 : InstOk Tryz.prog I88 := instOk_of Tryz.func88 (by kernel_rfl) (by kernel_rfl) (by kernel_rfl) (by kernel_rfl)
theorem ok65 : InstOk Tryz.prog I65 := instOk_of Tryz.func65 (by kernel_rfl) (by kernel_rfl) (by kernel_rfl) (by kernel_rfl)
theorem ok46 : InstOk Tryz.prog I46 := instOk_of Tryz.func46 (by kernel_rfl) (by kernel_rfl) (by kernel_rfl) (by kernel_rfl)
theorem ok126 : InstOk Tryz.prog I126 := instOk_of Tryz.func126 (by kernel_rfl) (by kernel_rfl) (by kernel_rfl) (by kernel_rfl)
theorem ok92 : InstOk Tryz.prog I92 := instOk_of Tryz.func92 (by kernel_rfl) (by kernel_rfl) (by kernel_rfl) (by kernel_rfl)
theorem ok125 : InstOk Tryz.prog I125 := instOk_of Tryz.func125 (by kernel_rfl) (by kernel_rfl) (by kernel_rfl) (by kernel_rfl)
theorem ok1034 : InstOk Tryz.prog I1034 := instOk_of Tryz.func34 (by kernel_rfl) (by kernel_rfl) (by kernel_rfl) (by kernel_rfl)
theorem ok89 : InstOk Tryz.prog I89 := instOk_of Tryz.func89 (by kernel_rfl) (by kernel_rfl) (by kernel_rfl) (by kernel_rfl)
theorem ok93 : InstOk Tryz.prog I93 := instOk_of Tryz.func93 (by kernel_rfl) (by kernel_rfl) (by kernel_rfl) (by kernel_rfl)
theorem ok1092 : InstOk Tryz.prog I1092 := instOk_of Tryz.func92 (by kernel_rfl) (by kernel_rfl) (by kernel_rfl) (by kernel_rfl)
theorem ok91 : InstOk Tryz.prog I91 := instOk_of Tryz.func91 (by kernel_rfl) (by kernel_rfl) (by kernel_rfl) (by kernel_rfl)
theorem ok90 : InstOk Tryz.prog I90 := instOk_of Tryz.func90 (by kernel_rfl) (by kernel_rfl) (by kernel_rfl) (by kernel_rfl)
theorem ok47 : InstOk Tryz.prog I47 := instOk_of Tryz.func47 (by kernel_rfl) (by kernel_rfl) (by kernel_rfl) (by kernel_rfl)
theorem ok14 : InstOk Tryz.prog I14 := instOk_of Tryz.func14 (by kernel_rfl) (by kernel_rfl) (by kernel_rfl) (by kernel_rfl)
theorem ok48 : InstOk Tryz.prog I48 := instOk_of Tryz.func48 (by kernel_rfl) (by kernel_rfl) (by kernel_rfl) (by kernel_rfl)
theorem ok96 : InstOk Tryz.prog I96 := instOk_of Tryz.func96 (by kernel_rfl) (by kernel_rfl) (by kernel_rfl) (by kernel_rfl)
theorem ok128 : InstOk Tryz.prog I128 := instOk_of Tryz.func128 (by kernel_rfl) (by kernel_rfl) (by kernel_rfl) (by kernel_rfl)
theorem ok1090 : InstOk Tryz.prog I1090 := instOk_of Tryz.func90 (by kernel_rfl) (by kernel_rfl) (by kernel_rfl) (by kernel_rfl)
theorem ok95 : InstOk Tryz.prog I95 := instOk_of Tryz.func95 (by kernel_rfl) (by kernel_rfl) (by kernel_rfl) (by kernel_rfl)
theorem ok97 : InstOk Tryz.prog I97 := instOk_of Tryz.func97 (by kernel_rfl) (by kernel_rfl) (by kernel_rfl) (by kernel_rfl)
theorem ok1128 : InstOk Tryz.prog I1128 := instOk_of Tryz.func128 (by kernel_rfl) (by kernel_rfl) (by kernel_rfl) (by kernel_rfl)
theorem ok2090 : InstOk Tryz.prog I2090 := instOk_of Tryz.func90 (by kernel_rfl) (by kernel_rfl) (by kernel_rfl) (by kernel_rfl)
theorem ok1095 : InstOk Tryz.prog I1095 := instOk_of Tryz.func95 (by kernel_rfl) (by kernel_rfl) (by kernel_rfl) (by kernel_rfl)
theorem ok49 : InstOk Tryz.prog I49 := instOk_of Tryz.func49 (by kernel_rfl) (by kernel_rfl) (by kernel_rfl) (by kernel_rfl)
theorem ok15 : InstOk Tryz.prog I15 := instOk_of Tryz.func15 (by kernel_rfl) (by kernel_rfl) (by kernel_rfl) (by kernel_rfl)
theorem ok50 : InstOk Tryz.prog I50 := instOk_of Tryz.func50 (by kernel_rfl) (by kernel_rfl) (by kernel_rfl) (by kernel_rfl)
theorem ok129 : InstOk Tryz.prog I129 := instOk_of Tryz.func129 (by kernel_rfl) (by kernel_rfl) (by kernel_rfl) (by kernel_rfl)
theorem ok98 : InstOk Tryz.prog I98 := instOk_of Tryz.func98 (by kernel_rfl) (by kernel_rfl) (by kernel_rfl) (by kernel_rfl)
theorem ok51 : InstOk Tryz.prog I51 := instOk_of Tryz.func51 (by kernel_rfl) (by kernel_rfl) (by kernel_rfl) (by kernel_rfl)
theorem ok16 : InstOk Tryz.prog I16 := instOk_of Tryz.func16 (by kernel_rfl) (by kernel_rfl) (by kernel_rfl) (by kernel_rfl)
theorem ok17 : InstOk Tryz.prog I17 := instOk_of Tryz.func17 (by kernel_rfl) (by kernel_rfl) (by kernel_rfl) (by kernel_rfl)
theorem ok134 : InstOk Tryz.prog I134 := instOk_of Tryz.func134 (by kernel_rfl) (by kernel_rfl) (by kernel_rfl) (by kernel_rfl)
theorem ok133 : InstOk Tryz.prog I133 := instOk_of Tryz.func133 (by kernel_rfl) (by kernel_rfl) (by kernel_rfl) (by kernel_rfl)
theorem ok148 : InstOk Tryz.prog I148 := instOk_of Tryz.func148 (by kernel_rfl) (by kernel_rfl) (by kernel_rfl) (by kernel_rfl)
theorem ok132 : InstOk Tryz.prog I132 := instOk_of Tryz.func132 (by kernel_rfl) (by kernel_rfl) (by kernel_rfl) (by kernel_rfl)
theorem ok131 : InstOk Tryz.prog I131 := instOk_of Tryz.func131 (by kernel_rfl) (by kernel_rfl) (by kernel_rfl) (by kernel_rfl)
theorem ok147 : InstOk Tryz.prog I147 := instOk_of Tryz.func147 (by kernel_rfl) (by kernel_rfl) (by kernel_rfl) (by kernel_rfl)
theorem ok130 : InstOk Tryz.prog I130 := instOk_of Tryz.func130 (by kernel_rfl) (by kernel_rfl) (by kernel_rfl) (by kernel_rfl)
theorem ok64 : InstOk Tryz.prog I64 := instOk_of Tryz.func64 (by kernel_rfl) (by kernel_rfl) (by kernel_rfl) (by kernel_rfl)
theorem ok100 : InstOk Tryz.prog I100 := instOk_of Tryz.func100 (by kernel_rfl) (by kernel_rfl) (by kernel_rfl) (by kernel_rfl)
theorem ok153 : InstOk Tryz.prog I153 := instOk_of Tryz.func153 (by kernel_rfl) (by kernel_rfl) (by kernel_rfl) (by kernel_rfl)
theorem ok149 : InstOk Tryz.prog I149 := instOk_of Tryz.func149 (by kernel_rfl) (by kernel_rfl) (by kernel_rfl) (by kernel_rfl)
theorem ok135 : InstOk Tryz.prog I135 := instOk_of Tryz.func135 (by kernel_rfl) (by kernel_rfl) (by kernel_rfl) (by kernel_rfl)
theorem ok102 : InstOk Tryz.prog I102 := instOk_of Tryz.func102 (by kernel_rfl) (by kernel_rfl) (by kernel_rfl) (by kernel_rfl)
theorem ok101 : InstOk Tryz.prog I101 := instOk_of Tryz.func101 (by kernel_rfl) (by kernel_rfl) (by kernel_rfl) (by kernel_rfl)
theorem ok136 : InstOk Tryz.prog I136 := instOk_of Tryz.func136 (by kernel_rfl) (by kernel_rfl) (by kernel_rfl) (by kernel_rfl)
theorem ok103 : InstOk Tryz.prog I103 := instOk_of Tryz.func103 (by kernel_rfl) (by kernel_rfl) (by kernel_rfl) (by kernel_rfl)
theorem ok104 : InstOk Tryz.prog I104 := instOk_of Tryz.func104 (by kernel_rfl) (by kernel_rfl) (by kernel_rfl) (by kernel_rfl)
theorem ok53 : InstOk Tryz.prog I53 := instOk_of Tryz.func53 (by kernel_rfl) (by kernel_rfl) (by kernel_rfl) (by kernel_rfl)
theorem ok105 : InstOk Tryz.prog I105 := instOk_of Tryz.func105 (by kernel_rfl) (by kernel_rfl) (by kernel_rfl) (by kernel_rfl)
theorem ok54 : InstOk Tryz.prog I54 := instOk_of Tryz.func54 (by kernel_rfl) (by kernel_rfl) (by kernel_rfl) (by kernel_rfl)
theorem ok18 : InstOk Tryz.prog I18 := instOk_of Tryz.func18 (by kernel_rfl) (by kernel_rfl) (by kernel_rfl) (by kernel_rfl)
theorem ok107 : InstOk Tryz.prog I107 := instOk_of Tryz.func107 (by kernel_rfl) (by kernel_rfl) (by kernel_rfl) (by kernel_rfl)
theorem ok57 : InstOk Tryz.prog I57 := instOk_of Tryz.func57 (by kernel_rfl) (by kernel_rfl) (by kernel_rfl) (by kernel_rfl)
theorem ok151 : InstOk Tryz.prog I151 := instOk_of Tryz.func151 (by kernel_rfl) (by kernel_rfl) (by kernel_rfl) (by kernel_rfl)
theorem ok139 : InstOk Tryz.prog I139 := instOk_of Tryz.func139 (by kernel_rfl) (by kernel_rfl) (by kernel_rfl) (by kernel_rfl)
theorem ok108 : InstOk Tryz.prog I108 := instOk_of Tryz.func108 (by kernel_rfl) (by kernel_rfl) (by kernel_rfl) (by kernel_rfl)
theorem ok150 : InstOk Tryz.prog I150 := instOk_of Tryz.func150 (by kernel_rfl) (by kernel_rfl) (by kernel_rfl) (by kernel_rfl)
theorem ok138 : InstOk Tryz.prog I138 := instOk_of Tryz.func138 (by kernel_rfl) (by kernel_rfl) (by kernel_rfl) (by kernel_rfl)
theorem ok137 : InstOk Tryz.prog I137 := instOk_of Tryz.func137 (by kernel_rfl) (by kernel_rfl) (by kernel_rfl) (by kernel_rfl)
theorem ok106 : InstOk Tryz.prog I106 := instOk_of Tryz.func106 (by kernel_rfl) (by kernel_rfl) (by kernel_rfl) (by kernel_rfl)
theorem ok55 : InstOk Tryz.prog I55 := instOk_of Tryz.func55 (by kernel_rfl) (by kernel_rfl) (by kernel_rfl) (by kernel_rfl)
theorem ok56 : InstOk Tryz.prog I56 := instOk_of Tryz.func56 (by kernel_rfl) (by kernel_rfl) (by kernel_rfl) (by kernel_rfl)
theorem ok19 : InstOk Tryz.prog I19 := instOk_of Tryz.func19 (by kernel_rfl) (by kernel_rfl) (by kernel_rfl) (by kernel_rfl)
theorem ok58 : InstOk Tryz.prog I58 := instOk_of Tryz.func58 (by kernel_rfl) (by kernel_rfl) (by kernel_rfl) (by kernel_rfl)
theorem ok20 : InstOk Tryz.prog I20 := instOk_of Tryz.func20 (by kernel_rfl) (by kernel_rfl) (by kernel_rfl) (by kernel_rfl)
theorem ok21 : InstOk Tryz.prog I21 := instOk_of Tryz.func21 (by kernel_rfl) (by kernel_rfl) (by kernel_rfl) (by kernel_rfl)
theorem ok109 : InstOk Tryz.prog I109 := instOk_of Tryz.func109 (by kernel_rfl) (by kernel_rfl) (by kernel_rfl) (by kernel_rfl)
theorem ok59 : InstOk Tryz.prog I59 := instOk_of Tryz.func59 (by kernel_rfl) (by kernel_rfl) (by kernel_rfl) (by kernel_rfl)
theorem ok140 : InstOk Tryz.prog I140 := instOk_of Tryz.func140 (by kernel_rfl) (by kernel_rfl) (by kernel_rfl) (by kernel_rfl)
theorem ok141 : InstOk Tryz.prog I141 := instOk_of Tryz.func141 (by kernel_rfl) (by kernel_rfl) (by kernel_rfl) (by kernel_rfl)
theorem ok110 : InstOk Tryz.prog I110 := instOk_of Tryz.func110 (by kernel_rfl) (by kernel_rfl) (by kernel_rfl) (by kernel_rfl)
theorem ok111 : InstOk Tryz.prog I111 := instOk_of Tryz.func111 (by kernel_rfl) (by kernel_rfl) (by kernel_rfl) (by kernel_rfl)
theorem ok112 : InstOk Tryz.prog I112 := instOk_of Tryz.func112 (by kernel_rfl) (by kernel_rfl) (by kernel_rfl) (by kernel_rfl)
theorem ok60 : InstOk Tryz.prog I60 := instOk_of Tryz.func60 (by kernel_rfl) (by kernel_rfl) (by kernel_rfl) (by kernel_rfl)
theorem ok22 : InstOk Tryz.prog I22 := instOk_of Tryz.func22 (by kernel_rfl) (by kernel_rfl) (by kernel_rfl) (by kernel_rfl)
theorem ok142 : InstOk Tryz.prog I142 := instOk_of Tryz.func142 (by kernel_rfl) (by kernel_rfl) (by kernel_rfl) (by kernel_rfl)
theorem ok113 : InstOk Tryz.prog I113 := instOk_of Tryz.func113 (by kernel_rfl) (by kernel_rfl) (by kernel_rfl) (by kernel_rfl)
theorem ok61 : InstOk Tryz.prog I61 := instOk_of Tryz.func61 (by kernel_rfl) (by kernel_rfl) (by kernel_rfl) (by kernel_rfl)
theorem ok62 : InstOk Tryz.prog I62 := instOk_of Tryz.func62 (by kernel_rfl) (by kernel_rfl) (by kernel_rfl) (by kernel_rfl)
theorem ok23 : InstOk Tryz.prog I23 := instOk_of Tryz.func23 (by kernel_rfl) (by kernel_rfl) (by kernel_rfl) (by kernel_rfl)
theorem ok116 : InstOk Tryz.prog I116 := instOk_of Tryz.func116 (by kernel_rfl) (by kernel_rfl) (by kernel_rfl) (by kernel_rfl)
theorem ok145 : InstOk Tryz.prog I145 := instOk_of Tryz.func145 (by kernel_rfl) (by kernel_rfl) (by kernel_rfl) (by kernel_rfl)
theorem ok115 : InstOk Tryz.prog I115 := instOk_of Tryz.func115 (by kernel_rfl) (by kernel_rfl) (by kernel_rfl) (by kernel_rfl)
theorem ok66 : InstOk Tryz.prog I66 := instOk_of Tryz.func66 (by kernel_rfl) (by kernel_rfl) (by kernel_rfl) (by kernel_rfl)
theorem ok144 : InstOk Tryz.prog I144 := instOk_of Tryz.func144 (by kernel_rfl) (by kernel_rfl) (by kernel_rfl) (by kernel_rfl)
theorem ok143 : InstOk Tryz.prog I143 := instOk_of Tryz.func143 (by kernel_rfl) (by kernel_rfl) (by kernel_rfl) (by kernel_rfl)
theorem ok114 : InstOk Tryz.prog I114 := instOk_of Tryz.func114 (by kernel_rfl) (by kernel_rfl) (by kernel_rfl) (by kernel_rfl)
theorem ok63 : InstOk Tryz.prog I63 := instOk_of Tryz.func63 (by kernel_rfl) (by kernel_rfl) (by kernel_rfl) (by kernel_rfl)
theorem ok24 : InstOk Tryz.prog I24 := instOk_of Tryz.func24 (by kernel_rfl) (by kernel_rfl) (by kernel_rfl) (by kernel_rfl)
theorem ok152 : InstOk Tryz.prog I152 := instOk_of Tryz.func152 (by kernel_rfl) (by kernel_rfl) (by kernel_rfl) (by kernel_rfl)
theorem ok146 : InstOk Tryz.prog I146 := instOk_of Tryz.func146 (by kernel_rfl) (by kernel_rfl) (by kernel_rfl) (by kernel_rfl)
theorem ok117 : InstOk Tryz.prog I117 := instOk_of Tryz.func117 (by kernel_rfl) (by kernel_rfl) (by kernel_rfl) (by kernel_rfl)
theorem ok67 : InstOk Tryz.prog I67 := instOk_of Tryz.func67 (by kernel_rfl) (by kernel_rfl) (by kernel_rfl) (by kernel_rfl)
theorem ok25 : InstOk Tryz.prog I25 := instOk_of Tryz.func25 (by kernel_rfl) (by kernel_rfl) (by kernel_rfl) (by kernel_rfl)
theorem ok3 : InstOk Tryz.prog I3 := instOk_of Tryz.func3 (by kernel_rfl) (by kernel_rfl) (by kernel_rfl) (by kernel_rfl)
theorem insts : ∀ j, InstOk Tryz.prog (C j) := find_all ok4 (List.forall_mem_cons.2 ⟨ok4, List.forall_mem_cons.2 ⟨ok27, List.forall_mem_cons.2 ⟨ok99, List.forall_mem_cons.2 ⟨ok52, List.forall_mem_cons.2 ⟨ok68, List.forall_mem_cons.2 ⟨ok26, List.forall_mem_cons.2 ⟨ok5, List.forall_mem_cons.2 ⟨ok45, List.forall_mem_cons.2 ⟨ok69, List.forall_mem_cons.2 ⟨ok72, List.forall_mem_cons.2 ⟨ok71, List.forall_mem_cons.2 ⟨ok118, List.forall_mem_cons.2 ⟨ok70, List.forall_mem_cons.2 ⟨ok74, List.forall_mem_cons.2 ⟨ok73, List.forall_mem_cons.2 ⟨ok28, List.forall_mem_cons.2 ⟨ok119, List.forall_mem_cons.2 ⟨ok127, List.forall_mem_cons.2 ⟨ok120, List.forall_mem_cons.2 ⟨ok75, List.forall_mem_cons.2 ⟨ok29, List.forall_mem_cons.2 ⟨ok6, List.forall_mem_cons.2 ⟨ok76, List.forall_mem_cons.2 ⟨ok77, List.forall_mem_cons.2 ⟨ok78, List.forall_mem_cons.2 ⟨ok79, List.forall_mem_cons.2 ⟨ok30, List.forall_mem_cons.2 ⟨ok121, List.forall_mem_cons.2 ⟨ok122, List.forall_mem_cons.2 ⟨ok80, List.forall_mem_cons.2 ⟨ok31, List.forall_mem_cons.2 ⟨ok7, List.forall_mem_cons.2 ⟨ok43, List.forall_mem_cons.2 ⟨ok82, List.forall_mem_cons.2 ⟨ok123, List.forall_mem_cons.2 ⟨ok81, List.forall_mem_cons.2 ⟨ok32, List.forall_mem_cons.2 ⟨ok94, List.forall_mem_cons.2 ⟨ok86, List.forall_mem_cons.2 ⟨ok83, List.forall_mem_cons.2 ⟨ok35, List.forall_mem_cons.2 ⟨ok34, List.forall_mem_cons.2 ⟨ok33, List.forall_mem_cons.2 ⟨ok8, List.forall_mem_cons.2 ⟨ok36, List.forall_mem_cons.2 ⟨ok84, List.forall_mem_cons.2 ⟨ok37, List.forall_mem_cons.2 ⟨ok38, List.forall_mem_cons.2 ⟨ok9, List.forall_mem_cons.2 ⟨ok39, List.forall_mem_cons.2 ⟨ok10, List.forall_mem_cons.2 ⟨ok124, List.forall_mem_cons.2 ⟨ok85, List.forall_mem_cons.2 ⟨ok40, List.forall_mem_cons.2 ⟨ok87, List.forall_mem_cons.2 ⟨ok42, List.forall_mem_cons.2 ⟨ok44, List.forall_mem_cons.2 ⟨ok41, List.forall_mem_cons.2 ⟨ok11, List.forall_mem_cons.2 ⟨ok12, List.forall_mem_cons.2 ⟨ok13, List.forall_mem_cons.2 ⟨ok88, List.forall_mem_cons.2 ⟨ok65, List.forall_mem_cons.2 ⟨ok46, List.forall_mem_cons.2 ⟨ok126, List.forall_mem_cons.2 ⟨ok92, List.forall_mem_cons.2 ⟨ok125, List.forall_mem_cons.2 ⟨ok1034, List.forall_mem_cons.2 ⟨ok89, List.forall_mem_cons.2 ⟨ok93, List.forall_mem_cons.2 ⟨ok1092, List.forall_mem_cons.2 ⟨ok91, List.forall_mem_cons.2 ⟨ok90, List.forall_mem_cons.2 ⟨ok47, List.forall_mem_cons.2 ⟨ok14, List.forall_mem_cons.2 ⟨ok48, List.forall_mem_cons.2 ⟨ok96, List.forall_mem_cons.2 ⟨ok128, List.forall_mem_cons.2 ⟨ok1090, List.forall_mem_cons.2 ⟨ok95, List.forall_mem_cons.2 ⟨ok97, List.forall_mem_cons.2 ⟨ok1128, List.forall_mem_cons.2 ⟨ok2090, List.forall_mem_cons.2 ⟨ok1095, List.forall_mem_cons.2 ⟨ok49, List.forall_mem_cons.2 ⟨ok15, List.forall_mem_cons.2 ⟨ok50, List.forall_mem_cons.2 ⟨ok129, List.forall_mem_cons.2 ⟨ok98, List.forall_mem_cons.2 ⟨ok51, List.forall_mem_cons.2 ⟨ok16, List.forall_mem_cons.2 ⟨ok17, List.forall_mem_cons.2 ⟨ok134, List.forall_mem_cons.2 ⟨ok133, List.forall_mem_cons.2 ⟨ok148, List.forall_mem_cons.2 ⟨ok132, List.forall_mem_cons.2 ⟨ok131, List.forall_mem_cons.2 ⟨ok147, List.forall_mem_cons.2 ⟨ok130, List.forall_mem_cons.2 ⟨ok64, List.forall_mem_cons.2 ⟨ok100, List.forall_mem_cons.2 ⟨ok153, List.forall_mem_cons.2 ⟨ok149, List.forall_mem_cons.2 ⟨ok135, List.forall_mem_cons.2 ⟨ok102, List.forall_mem_cons.2 ⟨ok101, List.forall_mem_cons.2 ⟨ok136, List.forall_mem_cons.2 ⟨ok103, List.forall_mem_cons.2 ⟨ok104, List.forall_mem_cons.2 ⟨ok53, List.forall_mem_cons.2 ⟨ok105, List.forall_mem_cons.2 ⟨ok54, List.forall_mem_cons.2 ⟨ok18, List.forall_mem_cons.2 ⟨ok107, List.forall_mem_cons.2 ⟨ok57, List.forall_mem_cons.2 ⟨ok151, List.forall_mem_cons.2 ⟨ok139, List.forall_mem_cons.2 ⟨ok108, List.forall_mem_cons.2 ⟨ok150, List.forall_mem_cons.2 ⟨ok138, List.forall_mem_cons.2 ⟨ok137, List.forall_mem_cons.2 ⟨ok106, List.forall_mem_cons.2 ⟨ok55, List.forall_mem_cons.2 ⟨ok56, List.forall_mem_cons.2 ⟨ok19, List.forall_mem_cons.2 ⟨ok58, List.forall_mem_cons.2 ⟨ok20, List.forall_mem_cons.2 ⟨ok21, List.forall_mem_cons.2 ⟨ok109, List.forall_mem_cons.2 ⟨ok59, List.forall_mem_cons.2 ⟨ok140, List.forall_mem_cons.2 ⟨ok141, List.forall_mem_cons.2 ⟨ok110, List.forall_mem_cons.2 ⟨ok111, List.forall_mem_cons.2 ⟨ok112, List.forall_mem_cons.2 ⟨ok60, List.forall_mem_cons.2 ⟨ok22, List.forall_mem_cons.2 ⟨ok142, List.forall_mem_cons.2 ⟨ok113, List.forall_mem_cons.2 ⟨ok61, List.forall_mem_cons.2 ⟨ok62, List.forall_mem_cons.2 ⟨ok23, List.forall_mem_cons.2 ⟨ok116, List.forall_mem_cons.2 ⟨ok145, List.forall_mem_cons.2 ⟨ok115, List.forall_mem_cons.2 ⟨ok66, List.forall_mem_cons.2 ⟨ok144, List.forall_mem_cons.2 ⟨ok143, List.forall_mem_cons.2 ⟨ok114, List.forall_mem_cons.2 ⟨ok63, List.forall_mem_cons.2 ⟨ok24, List.forall_mem_cons.2 ⟨ok152, List.forall_mem_cons.2 ⟨ok146, List.forall_mem_cons.2 ⟨ok117, List.forall_mem_cons.2 ⟨ok67, List.forall_mem_cons.2 ⟨ok25, List.forall_mem_cons.2 ⟨ok3, fun _ h => absurd h List.not_mem_nil⟩⟩⟩⟩⟩⟩⟩⟩⟩⟩⟩⟩⟩⟩⟩⟩⟩⟩⟩⟩⟩⟩⟩⟩⟩⟩⟩⟩⟩⟩⟩⟩⟩⟩⟩⟩⟩⟩⟩⟩⟩⟩⟩⟩⟩⟩⟩⟩⟩⟩⟩⟩⟩⟩⟩⟩⟩⟩⟩⟩⟩⟩⟩⟩⟩⟩⟩⟩⟩⟩⟩⟩⟩⟩⟩⟩⟩⟩⟩⟩⟩⟩⟩⟩⟩⟩⟩⟩⟩⟩⟩⟩⟩⟩⟩⟩⟩⟩⟩⟩⟩⟩⟩⟩⟩⟩⟩⟩⟩⟩⟩⟩⟩⟩⟩⟩⟩⟩⟩⟩⟩⟩⟩⟩⟩⟩⟩⟩⟩⟩⟩⟩⟩⟩⟩⟩⟩⟩⟩⟩⟩⟩⟩⟩⟩⟩⟩⟩⟩⟩⟩⟩⟩⟩⟩⟩⟩)
theorem noExt : ∀ j, (C j).ext = none := by
  have hC : C = find I4 CL := by delta C; with_reducible rfl
  exact fun j => noExt_of (C := C) _ _ hC (by kernel_rfl) (by kernel_rfl) j
end Go.Proofs.YtjfkgmidnjiofaaGreat.LTo
