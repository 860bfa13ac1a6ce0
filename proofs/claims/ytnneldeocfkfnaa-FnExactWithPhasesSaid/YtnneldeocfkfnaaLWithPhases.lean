/- The types and the functions that a law reaches, told for the reading (Fw). Written by a program (gen.py). -/
import Derived.Test.YtnneldeocfkfnaaFwC
import Derived.Test.YtnneldeocfkfnaaProg
namespace Go.Proofs.Ytnneldeocfkfnaa.LWithPhases
open Go Go.Fw
open Go.Proofs
noncomputable def tyL : List (Nat × TI) := [(2, ⟨(.int .i64), 0, 8⟩),
  (3, ⟨(.int .i64), 0, 8⟩),
  (4, ⟨.bool, 0, 1⟩),
  (22, ⟨(.slc (.pair (.int .i16) (.pair (.int .i16) (.pair (.int .i16) (.pair (.slc (.int .i16)) .unit))))), 59, 24⟩),
  (23, ⟨(.slc (.int .i64)), 2, 24⟩),
  (25, ⟨(.slc (.pair (.int .i16) (.pair (.int .i16) (.pair (.int .i16) (.pair (.slc (.int .i16)) .unit))))), 63, 24⟩),
  (35, ⟨(.slc (.int .i16)), 57, 24⟩),
  (39, ⟨(.slc (.int .i16)), 57, 24⟩),
  (57, ⟨(.int .i16), 0, 2⟩),
  (59, ⟨(.pair (.int .i16) (.pair (.int .i16) (.pair (.int .i16) (.pair (.slc (.int .i16)) .unit)))), 0, 32⟩),
  (63, ⟨(.pair (.int .i16) (.pair (.int .i16) (.pair (.int .i16) (.pair (.slc (.int .i16)) .unit)))), 0, 32⟩),
  (91, ⟨.fn, 0, 8⟩),
  (108, ⟨.fn, 0, 8⟩)]
noncomputable def T : Nat → Option TI := findT tyL
/- laws.szCam -/
noncomputable def I41 : Inst := { f := 41, nt := 12, params := [((.ro (.slc (.int .i16))), false), ((.ro (.int .i64)), false)], res := [(.ro (.int .i64))], slots := [.tmp 4], code := bd Try.f41 }
/- laws.szShaft -/
noncomputable def I31 : Inst := { f := 31, nt := 12, params := [((.ro (.pair (.int .i16) (.pair (.int .i16) (.pair (.int .i16) (.pair (.slc (.int .i16)) .unit))))), false), ((.ro (.int .i64)), false)], res := [(.ro (.int .i64))], slots := [.tmp 4], code := bd Try.f31, callee := fun r i => find 0 [(1003, 41)] (r * 1000 + i) }
/- laws.szShaftS -/
noncomputable def I8 : Inst := { f := 8, nt := 27, params := [((.ro (.slc (.pair (.int .i16) (.pair (.int .i16) (.pair (.int .i16) (.pair (.slc (.int .i16)) .unit)))))), false), ((.ro (.int .i64)), false)], res := [(.ro (.int .i64))], slots := [.tmp 4], code := bd Try.f8, callee := fun r i => find 0 [(7005, 31)] (r * 1000 + i), loops := fun b => find [] [(0, [.own 0 (.ro (.slc (.pair (.int .i16) (.pair (.int .i16) (.pair (.int .i16) (.pair (.slc (.int .i16)) .unit)))))), .own 1 (.ro (.int .i64)), .own 5 (.ro (.int .i64))])] b }
/- laws.toCam -/
noncomputable def I45 : Inst := { f := 45, nt := 22, params := [((.ro (.slc (.int .i16))), false)], res := [(.row false (.int .i16))], slots := [.tmp 2], code := bd Try.f45, loops := fun b => find [] [(0, [.own 0 (.ro (.slc (.int .i16))), .own 3 (.row false (.int .i16)), .own 4 (.ro (.int .i64))])] b, deep := fun r i => find false [(1002, true)] (r * 1000 + i) }
/- laws.toShaft -/
noncomputable def I34 : Inst := { f := 34, nt := 18, params := [((.ro (.pair (.int .i16) (.pair (.int .i16) (.pair (.int .i16) (.pair (.slc (.int .i16)) .unit))))), false)], res := [(.pr (.ro (.int .i16)) (.pr (.ro (.int .i16)) (.pr (.ro (.int .i16)) (.pr (.row false (.int .i16)) (.ro .unit)))))], slots := [.cell 2 63], code := bd Try.f34, callee := fun r i => find 0 [(5002, 45)] (r * 1000 + i) }
/- laws.toShaftS -/
noncomputable def I10 : Inst := { f := 10, nt := 23, params := [((.ro (.slc (.pair (.int .i16) (.pair (.int .i16) (.pair (.int .i16) (.pair (.slc (.int .i16)) .unit)))))), false)], res := [(.row true (.pair (.int .i16) (.pair (.int .i16) (.pair (.int .i16) (.pair (.slc (.int .i16)) .unit)))))], slots := [.tmp 2], code := bd Try.f10, callee := fun r i => find 0 [(5006, 34)] (r * 1000 + i), loops := fun b => find [] [(0, [.own 0 (.ro (.slc (.pair (.int .i16) (.pair (.int .i16) (.pair (.int .i16) (.pair (.slc (.int .i16)) .unit)))))), .own 3 (.row true (.pair (.int .i16) (.pair (.int .i16) (.pair (.int .i16) (.pair (.slc (.int .i16)) .unit))))), .own 4 (.ro (.int .i64))])] b, deep := fun r i => find false [(1002, true)] (r * 1000 + i) }
/- laws.toInt64S -/
noncomputable def I11 : Inst := { f := 11, nt := 22, params := [((.ro (.slc (.int .i64))), false)], res := [(.row false (.int .i64))], slots := [.tmp 2], code := bd Try.f11, loops := fun b => find [] [(0, [.own 0 (.ro (.slc (.int .i64))), .own 3 (.row false (.int .i64)), .own 4 (.ro (.int .i64))])] b, deep := fun r i => find false [(1002, true)] (r * 1000 + i) }
/- spec.l00In -/
noncomputable def I33 : Inst := { f := 33, nt := 15, params := [((.ro (.int .i64)), false), ((.ro (.int .i64)), false), ((.ro (.int .i64)), false)], res := [(.ro .bool)], slots := [.tmp 6], code := bd Try.f33 }
/- spec.l01Steps -/
noncomputable def I82 : Inst := { f := 82, nt := 5, params := [((.ro (.int .i64)), false)], res := [(.ro .bool)], slots := [.tmp 2], code := bd Try.f82, callee := fun r i => find 0 [(1001, 33)] (r * 1000 + i) }
/- spec.l01Lift -/
noncomputable def I83 : Inst := { f := 83, nt := 5, params := [((.ro (.int .i64)), false)], res := [(.ro .bool)], slots := [.tmp 2], code := bd Try.f83, callee := fun r i => find 0 [(1001, 33)] (r * 1000 + i) }
/- spec.l01Ok -/
noncomputable def I63 : Inst := { f := 63, nt := 21, params := [((.ro (.slc (.int .i16))), false)], res := [(.ro .bool)], slots := [.tmp 2], code := bd Try.f63, callee := fun r i => find 0 [(1002, 82), (6005, 83)] (r * 1000 + i), loops := fun b => find [] [(0, [.own 0 (.ro (.slc (.int .i16))), .own 3 (.ro (.int .i64))])] b }
/- spec.l04Ok -/
noncomputable def I32 : Inst := { f := 32, nt := 57, params := [((.ro (.slc (.pair (.int .i16) (.pair (.int .i16) (.pair (.int .i16) (.pair (.slc (.int .i16)) .unit)))))), false)], res := [(.ro .bool)], slots := [.tmp 2], code := bd Try.f32, callee := fun r i => find 0 [(1002, 33), (7005, 33), (7013, 33), (7021, 63), (7036, 33)] (r * 1000 + i), loops := fun b => find [] [(0, [.own 0 (.ro (.slc (.pair (.int .i16) (.pair (.int .i16) (.pair (.int .i16) (.pair (.slc (.int .i16)) .unit)))))), .own 3 (.ro (.int .i64))])] b }
/- spec.WithPhases -/
noncomputable def I9 : Inst := { f := 9, nt := 60, params := [((.ro (.slc (.pair (.int .i16) (.pair (.int .i16) (.pair (.int .i16) (.pair (.slc (.int .i16)) .unit)))))), false), ((.ro (.slc (.int .i64))), false)], res := [(.row true (.pair (.int .i16) (.pair (.int .i16) (.pair (.int .i16) (.pair (.slc (.int .i16)) .unit))))), (.ro (.int .i64))], slots := [.tmp 4, .tmp 5], code := bd Try.f9, callee := fun r i => find 0 [(1001, 32), (9011, 33)] (r * 1000 + i), loops := fun b => find [] [(0, [.own 0 (.ro (.slc (.pair (.int .i16) (.pair (.int .i16) (.pair (.int .i16) (.pair (.slc (.int .i16)) .unit)))))), .own 1 (.ro (.slc (.int .i64))), .own 6 (.row true (.pair (.int .i16) (.pair (.int .i16) (.pair (.int .i16) (.pair (.slc (.int .i16)) .unit))))), .own 7 (.ro (.int .i64))])] b, deep := fun r i => find false [(2000, true), (4000, true), (5000, true), (10000, true), (13000, true), (13003, true), (14002, true), (14003, true)] (r * 1000 + i) }
/- impl.inRange -/
noncomputable def I64 : Inst := { f := 64, nt := 15, params := [((.ro (.int .i64)), false), ((.ro (.int .i64)), false), ((.ro (.int .i64)), false)], res := [(.ro .bool)], slots := [.tmp 6], code := bd Try.f64 }
/- impl.Cam).steps -/
noncomputable def I72 : Inst := { f := 72, nt := 5, params := [((.ro (.slc (.int .i16))), false)], res := [(.ro (.int .i64))], slots := [.tmp 2], code := bd Try.f72 }
/- impl.isSteps -/
noncomputable def I85 : Inst := { f := 85, nt := 5, params := [((.ro (.int .i64)), false)], res := [(.ro .bool)], slots := [.tmp 2], code := bd Try.f85, callee := fun r i => find 0 [(1001, 64)] (r * 1000 + i) }
/- impl.isLift -/
noncomputable def I88 : Inst := { f := 88, nt := 5, params := [((.ro (.int .i64)), false)], res := [(.ro .bool)], slots := [.tmp 2], code := bd Try.f88, callee := fun r i => find 0 [(1001, 64)] (r * 1000 + i) }
/- impl.ValidCam$1 -/
noncomputable def I87 : Inst := { f := 87, nt := 7, params := [((.ro (.int .i16)), false)], res := [(.ro .bool)], slots := [.tmp 2], code := bd Try.f87, callee := fun r i => find 0 [(1002, 88)] (r * 1000 + i) }
/- impl.Cam,int16] -/
noncomputable def I97 : Inst := { f := 97, nt := 19, params := [((.ro (.slc (.int .i16))), false), ((.clo 87 (.ro .unit) (.ro .unit)), false)], res := [(.ro (.int .i64))], slots := [.tmp 4], code := bd Try.f97, callee := fun r i => find 0 [(4005, 87)] (r * 1000 + i), loops := fun b => find [] [(0, [.own 0 (.ro (.slc (.int .i16))), .own 1 (.clo 87 (.ro .unit) (.ro .unit)), .own 7 (.ro (.int .i64)), .own 8 (.ro (.int .i64))])] b }
/- impl.Cam,int16] -/
noncomputable def I86 : Inst := { f := 86, nt := 9, params := [((.ro (.slc (.int .i16))), false), ((.clo 87 (.ro .unit) (.ro .unit)), false)], res := [(.ro .bool)], slots := [.tmp 4], code := bd Try.f86, callee := fun r i => find 0 [(1002, 97)] (r * 1000 + i) }
/- impl.ValidCam -/
noncomputable def I67 : Inst := { f := 67, nt := 11, params := [((.ro (.slc (.int .i16))), false)], res := [(.ro .bool)], slots := [.tmp 2], code := bd Try.f67, callee := fun r i => find 0 [(1001, 72), (1002, 85), (1005, 86)] (r * 1000 + i) }
/- impl.isPlace -/
noncomputable def I36 : Inst := { f := 36, nt := 9, params := [((.ro (.int .i64)), false), ((.ro (.int .i64)), false)], res := [(.ro .bool)], slots := [.tmp 4], code := bd Try.f36, callee := fun r i => find 0 [(1003, 64)] (r * 1000 + i) }
/- impl.ValidShafts$1 -/
noncomputable def I66 : Inst := { f := 66, nt := 31, params := [((.ro (.pair (.int .i16) (.pair (.int .i16) (.pair (.int .i16) (.pair (.slc (.int .i16)) .unit))))), false)], res := [(.ro .bool)], slots := [.tmp 2], code := bd Try.f66, callee := fun r i => find 0 [(1003, 64), (1009, 64), (1015, 67), (1025, 36)] (r * 1000 + i) }
/- impl.Shaft] -/
noncomputable def I84 : Inst := { f := 84, nt := 19, params := [((.ro (.slc (.pair (.int .i16) (.pair (.int .i16) (.pair (.int .i16) (.pair (.slc (.int .i16)) .unit)))))), false), ((.clo 66 (.ro .unit) (.ro .unit)), false)], res := [(.ro (.int .i64))], slots := [.tmp 4], code := bd Try.f84, callee := fun r i => find 0 [(4005, 66)] (r * 1000 + i), loops := fun b => find [] [(0, [.own 0 (.ro (.slc (.pair (.int .i16) (.pair (.int .i16) (.pair (.int .i16) (.pair (.slc (.int .i16)) .unit)))))), .own 1 (.clo 66 (.ro .unit) (.ro .unit)), .own 7 (.ro (.int .i64)), .own 8 (.ro (.int .i64))])] b }
/- impl.Shaft] -/
noncomputable def I65 : Inst := { f := 65, nt := 9, params := [((.ro (.slc (.pair (.int .i16) (.pair (.int .i16) (.pair (.int .i16) (.pair (.slc (.int .i16)) .unit)))))), false), ((.clo 66 (.ro .unit) (.ro .unit)), false)], res := [(.ro .bool)], slots := [.tmp 4], code := bd Try.f65, callee := fun r i => find 0 [(1002, 84)] (r * 1000 + i) }
/- impl.ValidShafts -/
noncomputable def I35 : Inst := { f := 35, nt := 11, params := [((.ro (.slc (.pair (.int .i16) (.pair (.int .i16) (.pair (.int .i16) (.pair (.slc (.int .i16)) .unit)))))), false)], res := [(.ro .bool)], slots := [.tmp 2], code := bd Try.f35, callee := fun r i => find 0 [(1002, 64), (1005, 65)] (r * 1000 + i) }
/- impl.Cam,int16] -/
noncomputable def I37 : Inst := { f := 37, nt := 8, params := [((.ro (.slc (.int .i16))), false)], res := [(.row false (.int .i16))], slots := [.tmp 2], code := bd Try.f37 }
/- impl.WithPhases -/
noncomputable def I12 : Inst := { f := 12, nt := 50, params := [((.ro (.slc (.pair (.int .i16) (.pair (.int .i16) (.pair (.int .i16) (.pair (.slc (.int .i16)) .unit)))))), false), ((.ro (.slc (.int .i64))), false)], res := [(.row true (.pair (.int .i16) (.pair (.int .i16) (.pair (.int .i16) (.pair (.slc (.int .i16)) .unit))))), (.ro (.int .i64))], slots := [.tmp 4, .tmp 5], code := bd Try.f12, callee := fun r i => find 0 [(1001, 35), (9007, 36), (11007, 37)] (r * 1000 + i), loops := fun b => find [] [(0, [.own 1 (.ro (.slc (.int .i64))), .own 6 (.row true (.pair (.int .i16) (.pair (.int .i16) (.pair (.int .i16) (.pair (.slc (.int .i16)) .unit))))), .own 18 (.ro (.slc (.pair (.int .i16) (.pair (.int .i16) (.pair (.int .i16) (.pair (.slc (.int .i16)) .unit)))))), .own 19 (.ro (.int .i64)), .own 20 (.ro (.int .i64))])] b, deep := fun r i => find false [(5000, true), (12002, true), (12003, true)] (r * 1000 + i) }
/- laws.eqCam -/
noncomputable def I51 : Inst := { f := 51, nt := 26, params := [((.ro (.slc (.int .i16))), false), ((.ro (.slc (.int .i16))), false)], res := [(.ro .bool)], slots := [.tmp 4], code := bd Try.f51, loops := fun b => find [] [(0, [.own 0 (.ro (.slc (.int .i16))), .own 1 (.ro (.slc (.int .i16))), .own 5 (.ro (.int .i64))])] b }
/- laws.eqShaft -/
noncomputable def I38 : Inst := { f := 38, nt := 26, params := [((.ro (.pair (.int .i16) (.pair (.int .i16) (.pair (.int .i16) (.pair (.slc (.int .i16)) .unit))))), false), ((.ro (.pair (.int .i16) (.pair (.int .i16) (.pair (.int .i16) (.pair (.slc (.int .i16)) .unit))))), false)], res := [(.ro .bool)], slots := [.tmp 4], code := bd Try.f38, callee := fun r i => find 0 [(7004, 51)] (r * 1000 + i) }
/- laws.eqShaftS -/
noncomputable def I13 : Inst := { f := 13, nt := 27, params := [((.ro (.slc (.pair (.int .i16) (.pair (.int .i16) (.pair (.int .i16) (.pair (.slc (.int .i16)) .unit)))))), false), ((.ro (.slc (.pair (.int .i16) (.pair (.int .i16) (.pair (.int .i16) (.pair (.slc (.int .i16)) .unit)))))), false)], res := [(.ro .bool)], slots := [.tmp 4], code := bd Try.f13, callee := fun r i => find 0 [(6008, 38)] (r * 1000 + i), loops := fun b => find [] [(0, [.own 0 (.ro (.slc (.pair (.int .i16) (.pair (.int .i16) (.pair (.int .i16) (.pair (.slc (.int .i16)) .unit)))))), .own 1 (.ro (.slc (.pair (.int .i16) (.pair (.int .i16) (.pair (.int .i16) (.pair (.slc (.int .i16)) .unit)))))), .own 5 (.ro (.int .i64))])] b }
/- laws.eqInt64S -/
noncomputable def I14 : Inst := { f := 14, nt := 26, params := [((.ro (.slc (.int .i64))), false), ((.ro (.slc (.int .i64))), false)], res := [(.ro .bool)], slots := [.tmp 4], code := bd Try.f14, loops := fun b => find [] [(0, [.own 0 (.ro (.slc (.int .i64))), .own 1 (.ro (.slc (.int .i64))), .own 5 (.ro (.int .i64))])] b }
/- laws.markCam -/
noncomputable def I39 : Inst := { f := 39, nt := 20, params := [((.row false (.int .i16)), true), ((.ro (.int .i64)), false)], res := [(.ro (.int .i64))], slots := [.tmp 4], code := bd Try.f39, loops := fun b => find [] [(0, [.own 0 (.row false (.int .i16)), .own 1 (.ro (.int .i64)), .own 5 (.ro (.int .i64))])] b, pins := [0] }
/- laws.markShaftS -/
noncomputable def I15 : Inst := { f := 15, nt := 44, params := [((.row true (.pair (.int .i16) (.pair (.int .i16) (.pair (.int .i16) (.pair (.slc (.int .i16)) .unit))))), true), ((.ro (.int .i64)), false)], res := [(.ro (.int .i64))], slots := [.tmp 4], code := bd Try.f15, callee := fun r i => find 0 [(10006, 39)] (r * 1000 + i), loops := fun b => find [] [(0, [.own 0 (.row true (.pair (.int .i16) (.pair (.int .i16) (.pair (.int .i16) (.pair (.slc (.int .i16)) .unit))))), .own 1 (.ro (.int .i64)), .own 5 (.ro (.int .i64))])] b, pins := [0], deep := fun r i => find false [(10004, true)] (r * 1000 + i) }
/- laws.markInt64S -/
noncomputable def I16 : Inst := { f := 16, nt := 19, params := [((.row false (.int .i64)), true), ((.ro (.int .i64)), false)], res := [(.ro (.int .i64))], slots := [.tmp 4], code := bd Try.f16, loops := fun b => find [] [(0, [.own 0 (.row false (.int .i64)), .own 1 (.ro (.int .i64)), .own 5 (.ro (.int .i64))])] b, pins := [0] }
/- laws.heldCam -/
noncomputable def I40 : Inst := { f := 40, nt := 22, params := [((.ro (.slc (.int .i16))), false), ((.ro (.int .i64)), false)], res := [(.ro (.int .i64))], slots := [.tmp 4], code := bd Try.f40, loops := fun b => find [] [(0, [.own 0 (.ro (.slc (.int .i16))), .own 1 (.ro (.int .i64)), .own 5 (.ro (.int .i64))])] b }
/- laws.heldShaftS -/
noncomputable def I17 : Inst := { f := 17, nt := 52, params := [((.ro (.slc (.pair (.int .i16) (.pair (.int .i16) (.pair (.int .i16) (.pair (.slc (.int .i16)) .unit)))))), false), ((.ro (.int .i64)), false)], res := [(.ro (.int .i64))], slots := [.tmp 4], code := bd Try.f17, callee := fun r i => find 0 [(13006, 40)] (r * 1000 + i), loops := fun b => find [] [(0, [.own 0 (.ro (.slc (.pair (.int .i16) (.pair (.int .i16) (.pair (.int .i16) (.pair (.slc (.int .i16)) .unit)))))), .own 1 (.ro (.int .i64)), .own 5 (.ro (.int .i64))])] b }
/- laws.FnExactWithPhases -/
noncomputable def I3 : Inst := { f := 3, nt := 117, params := [((.ro (.slc (.pair (.int .i16) (.pair (.int .i16) (.pair (.int .i16) (.pair (.slc (.int .i16)) .unit)))))), false), ((.ro (.slc (.int .i64))), false)], res := [(.ro .bool)], slots := [.tmp 4], code := bd Try.f3, callee := fun r i => find 0 [(4002, 8), (7001, 10), (7003, 11), (7004, 9), (8001, 10), (9001, 11), (10002, 12), (11002, 13), (13002, 10), (13003, 13), (15002, 11), (15003, 14), (18002, 15), (19002, 16), (20005, 13), (23002, 15), (25002, 17), (30001, 10), (30003, 11), (30004, 12), (31002, 13), (34002, 17)] (r * 1000 + i) }
noncomputable def C : Nat → Inst := find I41 [(41, I41), (31, I31), (8, I8), (45, I45), (34, I34), (10, I10), (11, I11), (33, I33), (82, I82), (83, I83), (63, I63), (32, I32), (9, I9), (64, I64), (72, I72), (85, I85), (88, I88), (87, I87), (97, I97), (86, I86), (67, I67), (36, I36), (66, I66), (84, I84), (65, I65), (35, I35), (37, I37), (12, I12), (51, I51), (38, I38), (13, I13), (14, I14), (39, I39), (15, I15), (16, I16), (40, I40), (17, I17), (3, I3)]
theorem tsOk : TsOk Try.prog T := tsOkB_sound (by kernel_rfl)
theorem ok41 : InstOk Try.prog I41 := instOk_of Try.func41 (by kernel_rfl) (by kernel_rfl) (by kernel_rfl) (by kernel_rfl)
theorem ok31 : InstOk Try.prog I31 := instOk_of Try.func31 (by kernel_rfl) (by kernel_rfl) (by kernel_rfl) (by kernel_rfl)
theorem ok8 : InstOk Try.prog I8 := instOk_of Try.func8 (by kernel_rfl) (by kernel_rfl) (by kernel_rfl) (by kernel_rfl)
theorem ok45 : InstOk Try.prog I45 := instOk_of Try.func45 (by kernel_rfl) (by kernel_rfl) (by kernel_rfl) (by kernel_rfl)
theorem ok34 : InstOk Try.prog I34 := instOk_of Try.func34 (by kernel_rfl) (by kernel_rfl) (by kernel_rfl) (by kernel_rfl)
theorem ok10 : InstOk Try.prog I10 := instOk_of Try.func10 (by kernel_rfl) (by kernel_rfl) (by kernel_rfl) (by kernel_rfl)
theorem ok11 : InstOk Try.prog I11 := instOk_of Try.func11 (by kernel_rfl) (by kernel_rfl) (by kernel_rfl) (by kernel_rfl)
theorem ok33 : InstOk Try.prog I33 := instOk_of Try.func33 (by kernel_rfl) (by kernel_rfl) (by kernel_rfl) (by kernel_rfl)
theorem ok82 : InstOk Try.prog I82 := instOk_of Try.func82 (by kernel_rfl) (by kernel_rfl) (by kernel_rfl) (by kernel_rfl)
theorem ok83 : InstOk Try.prog I83 := instOk_of Try.func83 (by kernel_rfl) (by kernel_rfl) (by kernel_rfl) (by kernel_rfl)
theorem ok63 : InstOk Try.prog I63 := instOk_of Try.func63 (by kernel_rfl) (by kernel_rfl) (by kernel_rfl) (by kernel_rfl)
theorem ok32 : InstOk Try.prog I32 := instOk_of Try.func32 (by kernel_rfl) (by kernel_rfl) (by kernel_rfl) (by kernel_rfl)
theorem ok9 : InstOk Try.prog I9 := instOk_of Try.func9 (by kernel_rfl) (by kernel_rfl) (by kernel_rfl) (by kernel_rfl)
theorem ok64 : InstOk Try.prog I64 := instOk_of Try.func64 (by kernel_rfl) (by kernel_rfl) (by kernel_rfl) (by kernel_rfl)
theorem ok72 : InstOk Try.prog I72 := instOk_of Try.func72 (by kernel_rfl) (by kernel_rfl) (by kernel_rfl) (by kernel_rfl)
theorem ok85 : InstOk Try.prog I85 := instOk_of Try.func85 (by kernel_rfl) (by kernel_rfl) (by kernel_rfl) (by kernel_rfl)
theorem ok88 : InstOk Try.prog I88 := instOk_of Try.func88 (by kernel_rfl) (by kernel_rfl) (by kernel_rfl) (by kernel_rfl)
theorem ok87 : InstOk Try.prog I87 := instOk_of Try.func87 (by kernel_rfl) (by kernel_rfl) (by kernel_rfl) (by kernel_rfl)
theorem ok97 : InstOk Try.prog I97 := instOk_of Try.func97 (by kernel_rfl) (by kernel_rfl) (by kernel_rfl) (by kernel_rfl)
theorem ok86 : InstOk Try.prog I86 := instOk_of Try.func86 (by kernel_rfl) (by kernel_rfl) (by kernel_rfl) (by kernel_rfl)
theorem ok67 : InstOk Try.prog I67 := instOk_of Try.func67 (by kernel_rfl) (by kernel_rfl) (by kernel_rfl) (by kernel_rfl)
theorem ok36 : InstOk Try.prog I36 := instOk_of Try.func36 (by kernel_rfl) (by kernel_rfl) (by kernel_rfl) (by kernel_rfl)
theorem ok66 : InstOk Try.prog I66 := instOk_of Try.func66 (by kernel_rfl) (by kernel_rfl) (by kernel_rfl) (by kernel_rfl)
theorem ok84 : InstOk Try.prog I84 := instOk_of Try.func84 (by kernel_rfl) (by kernel_rfl) (by kernel_rfl) (by kernel_rfl)
theorem ok65 : InstOk Try.prog I65 := instOk_of Try.func65 (by kernel_rfl) (by kernel_rfl) (by kernel_rfl) (by kernel_rfl)
theorem ok35 : InstOk Try.prog I35 := instOk_of Try.func35 (by kernel_rfl) (by kernel_rfl) (by kernel_rfl) (by kernel_rfl)
theorem ok37 : InstOk Try.prog I37 := instOk_of Try.func37 (by kernel_rfl) (by kernel_rfl) (by kernel_rfl) (by kernel_rfl)
theorem ok12 : InstOk Try.prog I12 := instOk_of Try.func12 (by kernel_rfl) (by kernel_rfl) (by kernel_rfl) (by kernel_rfl)
theorem ok51 : InstOk Try.prog I51 := instOk_of Try.func51 (by kernel_rfl) (by kernel_rfl) (by kernel_rfl) (by kernel_rfl)
theorem ok38 : InstOk Try.prog I38 := instOk_of Try.func38 (by kernel_rfl) (by kernel_rfl) (by kernel_rfl) (by kernel_rfl)
theorem ok13 : InstOk Try.prog I13 := instOk_of Try.func13 (by kernel_rfl) (by kernel_rfl) (by kernel_rfl) (by kernel_rfl)
theorem ok14 : InstOk Try.prog I14 := instOk_of Try.func14 (by kernel_rfl) (by kernel_rfl) (by kernel_rfl) (by kernel_rfl)
theorem ok39 : InstOk Try.prog I39 := instOk_of Try.func39 (by kernel_rfl) (by kernel_rfl) (by kernel_rfl) (by kernel_rfl)
theorem ok15 : InstOk Try.prog I15 := instOk_of Try.func15 (by kernel_rfl) (by kernel_rfl) (by kernel_rfl) (by kernel_rfl)
theorem ok16 : InstOk Try.prog I16 := instOk_of Try.func16 (by kernel_rfl) (by kernel_rfl) (by kernel_rfl) (by kernel_rfl)
theorem ok40 : InstOk Try.prog I40 := instOk_of Try.func40 (by kernel_rfl) (by kernel_rfl) (by kernel_rfl) (by kernel_rfl)
theorem ok17 : InstOk Try.prog I17 := instOk_of Try.func17 (by kernel_rfl) (by kernel_rfl) (by kernel_rfl) (by kernel_rfl)
theorem ok3 : InstOk Try.prog I3 := instOk_of Try.func3 (by kernel_rfl) (by kernel_rfl) (by kernel_rfl) (by kernel_rfl)
theorem insts : ∀ j, InstOk Try.prog (C j) := find_all ok41 (List.forall_mem_cons.2 ⟨ok41, List.forall_mem_cons.2 ⟨ok31, List.forall_mem_cons.2 ⟨ok8, List.forall_mem_cons.2 ⟨ok45, List.forall_mem_cons.2 ⟨ok34, List.forall_mem_cons.2 ⟨ok10, List.forall_mem_cons.2 ⟨ok11, List.forall_mem_cons.2 ⟨ok33, List.forall_mem_cons.2 ⟨ok82, List.forall_mem_cons.2 ⟨ok83, List.forall_mem_cons.2 ⟨ok63, List.forall_mem_cons.2 ⟨ok32, List.forall_mem_cons.2 ⟨ok9, List.forall_mem_cons.2 ⟨ok64, List.forall_mem_cons.2 ⟨ok72, List.forall_mem_cons.2 ⟨ok85, List.forall_mem_cons.2 ⟨ok88, List.forall_mem_cons.2 ⟨ok87, List.forall_mem_cons.2 ⟨ok97, List.forall_mem_cons.2 ⟨ok86, List.forall_mem_cons.2 ⟨ok67, List.forall_mem_cons.2 ⟨ok36, List.forall_mem_cons.2 ⟨ok66, List.forall_mem_cons.2 ⟨ok84, List.forall_mem_cons.2 ⟨ok65, List.forall_mem_cons.2 ⟨ok35, List.forall_mem_cons.2 ⟨ok37, List.forall_mem_cons.2 ⟨ok12, List.forall_mem_cons.2 ⟨ok51, List.forall_mem_cons.2 ⟨ok38, List.forall_mem_cons.2 ⟨ok13, List.forall_mem_cons.2 ⟨ok14, List.forall_mem_cons.2 ⟨ok39, List.forall_mem_cons.2 ⟨ok15, List.forall_mem_cons.2 ⟨ok16, List.forall_mem_cons.2 ⟨ok40, List.forall_mem_cons.2 ⟨ok17, List.forall_mem_cons.2 ⟨ok3, fun _ h => absurd h List.not_mem_nil⟩⟩⟩⟩⟩⟩⟩⟩⟩⟩⟩⟩⟩⟩⟩⟩⟩⟩⟩⟩⟩⟩⟩⟩⟩⟩⟩⟩⟩⟩⟩⟩⟩⟩⟩⟩⟩⟩)
end Go.Proofs.Ytnneldeocfkfnaa.LWithPhases
