/- The types and the functions that a law reaches, told for the reading (Fw). Written by a program (gen.py). -/
import Derived.Test.YtnneldeocfkfnaaFwC
import Derived.Test.YtnneldeocfkfnaaProg
namespace Go.Proofs.Ytnneldeocfkfnaa.LBothMachines
open Go Go.Fw
open Go.Proofs
noncomputable def tyL : List (Nat × TI) := [(2, ⟨(.int .i64), 0, 8⟩),
  (3, ⟨(.int .i64), 0, 8⟩),
  (4, ⟨.bool, 0, 1⟩),
  (23, ⟨(.slc (.int .i64)), 2, 24⟩),
  (35, ⟨(.slc (.int .i16)), 57, 24⟩),
  (37, ⟨(.pair (.slc (.int .i16)) (.pair (.slc (.int .i16)) (.pair (.slc (.int .i16)) .unit))), 0, 72⟩),
  (39, ⟨(.slc (.int .i16)), 57, 24⟩),
  (41, ⟨(.pair (.slc (.int .i16)) (.pair (.slc (.int .i16)) (.pair (.slc (.int .i16)) .unit))), 0, 72⟩),
  (57, ⟨(.int .i16), 0, 2⟩),
  (71, ⟨(.ptr (.pair (.slc (.int .i16)) (.pair (.slc (.int .i16)) (.pair (.slc (.int .i16)) .unit)))), 0, 8⟩),
  (93, ⟨(.arr 2 (.slc (.int .i16))), 39, 48⟩),
  (98, ⟨(.slc (.slc (.int .i16))), 39, 24⟩),
  (108, ⟨.fn, 0, 8⟩)]
noncomputable def T : Nat → Option TI := findT tyL
/- laws.szCam -/
noncomputable def I41 : Inst := { f := 41, nt := 12, params := [((.ro (.slc (.int .i16))), false), ((.ro (.int .i64)), false)], res := [(.ro (.int .i64))], slots := [.tmp 4], code := bd Try.f41 }
/- laws.szMachine -/
noncomputable def I18 : Inst := { f := 18, nt := 24, params := [((.ro (.pair (.slc (.int .i16)) (.pair (.slc (.int .i16)) (.pair (.slc (.int .i16)) .unit)))), false), ((.ro (.int .i64)), false)], res := [(.ro (.int .i64))], slots := [.tmp 4], code := bd Try.f18, callee := fun r i => find 0 [(1003, 41), (4003, 41), (7003, 41)] (r * 1000 + i) }
/- laws.toCam -/
noncomputable def I45 : Inst := { f := 45, nt := 22, params := [((.ro (.slc (.int .i16))), false)], res := [(.row false (.int .i16))], slots := [.tmp 2], code := bd Try.f45, loops := fun b => find [] [(0, [.own 0 (.ro (.slc (.int .i16))), .own 3 (.row false (.int .i16)), .own 4 (.ro (.int .i64))])] b, deep := fun r i => find false [(1002, true)] (r * 1000 + i) }
/- laws.toMachine -/
noncomputable def I20 : Inst := { f := 20, nt := 17, params := [((.ro (.pair (.slc (.int .i16)) (.pair (.slc (.int .i16)) (.pair (.slc (.int .i16)) .unit)))), false)], res := [(.pr (.row false (.int .i16)) (.pr (.row false (.int .i16)) (.pr (.row false (.int .i16)) (.ro .unit))))], slots := [.cell 2 41], code := bd Try.f20, callee := fun r i => find 0 [(2002, 45), (3002, 45), (4002, 45)] (r * 1000 + i) }
/- spec.l00In -/
noncomputable def I33 : Inst := { f := 33, nt := 15, params := [((.ro (.int .i64)), false), ((.ro (.int .i64)), false), ((.ro (.int .i64)), false)], res := [(.ro .bool)], slots := [.tmp 6], code := bd Try.f33 }
/- spec.l01Steps -/
noncomputable def I82 : Inst := { f := 82, nt := 5, params := [((.ro (.int .i64)), false)], res := [(.ro .bool)], slots := [.tmp 2], code := bd Try.f82, callee := fun r i => find 0 [(1001, 33)] (r * 1000 + i) }
/- spec.l01Lift -/
noncomputable def I83 : Inst := { f := 83, nt := 5, params := [((.ro (.int .i64)), false)], res := [(.ro .bool)], slots := [.tmp 2], code := bd Try.f83, callee := fun r i => find 0 [(1001, 33)] (r * 1000 + i) }
/- spec.l01Ok -/
noncomputable def I63 : Inst := { f := 63, nt := 21, params := [((.ro (.slc (.int .i16))), false)], res := [(.ro .bool)], slots := [.tmp 2], code := bd Try.f63, callee := fun r i => find 0 [(1002, 82), (6005, 83)] (r * 1000 + i), loops := fun b => find [] [(0, [.own 0 (.ro (.slc (.int .i16))), .own 3 (.ro (.int .i64))])] b }
/- spec.l00Min -/
noncomputable def I98 : Inst := { f := 98, nt := 10, params := [((.ro (.int .i64)), false), ((.ro (.int .i64)), false)], res := [(.ro (.int .i64))], slots := [.tmp 4], code := bd Try.f98 }
/- spec.l00Max -/
noncomputable def I99 : Inst := { f := 99, nt := 10, params := [((.ro (.int .i64)), false), ((.ro (.int .i64)), false)], res := [(.ro (.int .i64))], slots := [.tmp 4], code := bd Try.f99 }
/- spec.l01Range -/
noncomputable def I89 : Inst := { f := 89, nt := 34, params := [((.ro (.slc (.int .i16))), false)], res := [(.ro (.int .i64)), (.ro (.int .i64))], slots := [.tmp 2, .tmp 3], code := bd Try.f89, callee := fun r i => find 0 [(6006, 98), (7006, 99)] (r * 1000 + i), loops := fun b => find [] [(0, [.own 0 (.ro (.slc (.int .i16))), .own 4 (.ro (.int .i64)), .own 5 (.ro (.int .i64)), .own 6 (.ro (.int .i64))])] b }
/- spec.l07Moves -/
noncomputable def I68 : Inst := { f := 68, nt := 15, params := [((.ro (.slc (.int .i16))), false)], res := [(.ro .bool)], slots := [.tmp 2], code := bd Try.f68, callee := fun r i => find 0 [(1001, 63), (3001, 89)] (r * 1000 + i) }
/- spec.l07Ok -/
noncomputable def I42 : Inst := { f := 42, nt := 48, params := [((.ro (.ptr (.pair (.slc (.int .i16)) (.pair (.slc (.int .i16)) (.pair (.slc (.int .i16)) .unit))))), false)], res := [(.ro .bool)], slots := [.tmp 2], code := bd Try.f42, callee := fun r i => find 0 [(1004, 68), (1010, 68), (1017, 63)] (r * 1000 + i) }
/- spec.l07Copy -/
noncomputable def I73 : Inst := { f := 73, nt := 6, params := [((.ro (.slc (.int .i16))), false)], res := [(.row false (.int .i16))], slots := [.tmp 2], code := bd Try.f73, deep := fun r i => find false [(1000, true), (1002, true)] (r * 1000 + i) }
/- spec.l07Then -/
noncomputable def I52 : Inst := { f := 52, nt := 35, params := [((.ro (.slc (.int .i16))), false), ((.ro (.slc (.int .i16))), false), ((.ro .bool), false)], res := [(.row false (.int .i16))], slots := [.tmp 6], code := bd Try.f52, callee := fun r i => find 0 [(6001, 73)] (r * 1000 + i), deep := fun r i => find false [(6003, true), (6004, true), (7002, true), (8002, true), (8003, true)] (r * 1000 + i) }
/- spec.BothMachines -/
noncomputable def I25 : Inst := { f := 25, nt := 39, params := [((.ro (.pair (.slc (.int .i16)) (.pair (.slc (.int .i16)) (.pair (.slc (.int .i16)) .unit)))), false), ((.ro (.pair (.slc (.int .i16)) (.pair (.slc (.int .i16)) (.pair (.slc (.int .i16)) .unit)))), false)], res := [(.pr (.row false (.int .i16)) (.pr (.row false (.int .i16)) (.pr (.row false (.int .i16)) (.ro .unit)))), (.ro (.int .i64))], slots := [.cell 4 41, .tmp 5], code := bd Try.f25, callee := fun r i => find 0 [(1000, 42), (1003, 42), (5004, 52), (5009, 52), (5014, 52)] (r * 1000 + i) }
/- impl.Cam).steps -/
noncomputable def I72 : Inst := { f := 72, nt := 5, params := [((.ro (.slc (.int .i16))), false)], res := [(.ro (.int .i64))], slots := [.tmp 2], code := bd Try.f72 }
/- impl.inRange -/
noncomputable def I64 : Inst := { f := 64, nt := 15, params := [((.ro (.int .i64)), false), ((.ro (.int .i64)), false), ((.ro (.int .i64)), false)], res := [(.ro .bool)], slots := [.tmp 6], code := bd Try.f64 }
/- impl.isSteps -/
noncomputable def I85 : Inst := { f := 85, nt := 5, params := [((.ro (.int .i64)), false)], res := [(.ro .bool)], slots := [.tmp 2], code := bd Try.f85, callee := fun r i => find 0 [(1001, 64)] (r * 1000 + i) }
/- impl.isLift -/
noncomputable def I88 : Inst := { f := 88, nt := 5, params := [((.ro (.int .i64)), false)], res := [(.ro .bool)], slots := [.tmp 2], code := bd Try.f88, callee := fun r i => find 0 [(1001, 64)] (r * 1000 + i) }
/- impl.ValidCam$1 -/
noncomputable def I87 : Inst := { f := 87, nt := 7, params := [((.ro (.int .i16)), false)], res := [(.ro .bool)], slots := [.tmp 2], code := bd Try.f87, callee := fun r i => find 0 [(1002, 88)] (r * 1000 + i) }
/- impl.Cam,int16] -/
noncomputable def I97 : Inst := { f := 97, nt := 19, params := [((.ro (.slc (.int .i16))), false), ((.clo 87 (.ro .unit) (.ro .unit)), false)], res := [(.ro (.int .i64))], slots := [.tmp 4], code := bd Try.f97, callee := fun r i => find 0 [(4005, 87)] (r * 1000 + i), loops := fun b => find [] [(0, [.own 0 (.ro (.slc (.int .i16))), .own 1 (.clo 87 (.ro .unit) (.ro .unit)), .own 7 (.ro (.int .i64)), .own 8 (.ro (.int .i64))])] b }
/- impl.Cam,int16] -/
noncomputable def I86 : Inst := { f := 86, nt := 9, params := [((.ro (.slc (.int .i16))), false), ((.clo 87 (.ro .unit) (.ro .unit)), false)], res := [(.ro .bool)], slots := [.tmp 4], code := bd Try.f86, callee := fun r i => find 0 [(1002, 97)] (r * 1000 + i) }
/- impl.ValidCam -/
noncomputable def I67 : Inst := { f := 67, nt := 11, params := [((.ro (.slc (.int .i16))), false)], res := [(.ro .bool)], slots := [.tmp 2], code := bd Try.f67, callee := fun r i => find 0 [(1001, 72), (1002, 85), (1005, 86)] (r * 1000 + i) }
/- impl.Cam,int16] -/
noncomputable def I70 : Inst := { f := 70, nt := 25, params := [((.ro (.slc (.int .i16))), false)], res := [(.ro (.int .i16))], slots := [.tmp 2], code := bd Try.f70, loops := fun b => find [] [(0, [.own 0 (.ro (.slc (.int .i16))), .own 3 (.ro (.int .i16)), .own 4 (.ro (.int .i64))])] b }
/- impl.ValidMachine -/
noncomputable def I48 : Inst := { f := 48, nt := 33, params := [((.ro (.pair (.slc (.int .i16)) (.pair (.slc (.int .i16)) (.pair (.slc (.int .i16)) .unit)))), false)], res := [(.ro .bool)], slots := [.tmp 2], code := bd Try.f48, callee := fun r i => find 0 [(4001, 67), (4013, 70), (7002, 67)] (r * 1000 + i), loops := fun b => find [] [(0, [.own 1 (.box (.ro (.pair (.slc (.int .i16)) (.pair (.slc (.int .i16)) (.pair (.slc (.int .i16)) .unit))))), .own 9 (.ro (.arr 2 (.slc (.int .i16)))), .own 10 (.ro (.int .i64))])] b }
/- impl.codeIf -/
noncomputable def I47 : Inst := { f := 47, nt := 7, params := [((.ro .bool), false), ((.ro (.int .i64)), false)], res := [(.ro (.int .i64))], slots := [.tmp 4], code := bd Try.f47 }
/- impl.firstCode -/
noncomputable def I46 : Inst := { f := 46, nt := 15, params := [((.ro (.slc (.int .i64))), false)], res := [(.ro (.int .i64))], slots := [.tmp 2], code := bd Try.f46, loops := fun b => find [] [(0, [.own 5 (.ro (.slc (.int .i64))), .own 6 (.ro (.int .i64)), .own 7 (.ro (.int .i64))])] b }
/- impl.Cam,int16] -/
noncomputable def I37 : Inst := { f := 37, nt := 8, params := [((.ro (.slc (.int .i16))), false)], res := [(.row false (.int .i16))], slots := [.tmp 2], code := bd Try.f37 }
/- impl.withLast -/
noncomputable def I74 : Inst := { f := 74, nt := 10, params := [((.ro (.slc (.int .i16))), false), ((.ro (.int .i16)), false)], res := [(.row false (.int .i16))], slots := [.tmp 4], code := bd Try.f74, callee := fun r i => find 0 [(1001, 37)] (r * 1000 + i), deep := fun r i => find false [(1003, true), (1004, true)] (r * 1000 + i) }
/- impl.Machine).still -/
noncomputable def I53 : Inst := { f := 53, nt := 28, params := [((.ro (.pair (.slc (.int .i16)) (.pair (.slc (.int .i16)) (.pair (.slc (.int .i16)) .unit)))), false)], res := [(.pr (.row false (.int .i16)) (.pr (.row false (.int .i16)) (.pr (.row false (.int .i16)) (.ro .unit))))], slots := [.cell 2 41], code := bd Try.f53, callee := fun r i => find 0 [(2007, 74), (2015, 74), (2018, 74)] (r * 1000 + i) }
/- impl.Cam,int16] -/
noncomputable def I75 : Inst := { f := 75, nt := 27, params := [((.nl), false), ((.ro (.int .i64)), false)], res := [(.row false (.int .i16))], slots := [.tmp 4], code := bd Try.f75, deep := fun r i => find false [(5003, true), (5008, true)] (r * 1000 + i) }
/- impl.Cam,int16] -/
noncomputable def I54 : Inst := { f := 54, nt := 36, params := [((.ro (.slc (.slc (.int .i16)))), false)], res := [(.row false (.int .i16))], slots := [.tmp 2], code := bd Try.f54, callee := fun r i => find 0 [(9001, 75)] (r * 1000 + i), loops := fun b => find [] [(2, [.own 6 (.row false (.int .i16)), .own 25 (.ro (.slc (.slc (.int .i16)))), .own 26 (.ro (.int .i64)), .own 27 (.ro (.int .i64))]), (0, [.own 0 (.ro (.slc (.slc (.int .i16)))), .own 3 (.ro (.int .i64)), .own 9 (.ro (.slc (.slc (.int .i16)))), .own 10 (.ro (.int .i64)), .own 11 (.ro (.int .i64))])] b }
/- impl.BothMachines -/
noncomputable def I26 : Inst := { f := 26, nt := 57, params := [((.ro (.pair (.slc (.int .i16)) (.pair (.slc (.int .i16)) (.pair (.slc (.int .i16)) .unit)))), false), ((.ro (.pair (.slc (.int .i16)) (.pair (.slc (.int .i16)) (.pair (.slc (.int .i16)) .unit)))), false)], res := [(.pr (.row false (.int .i16)) (.pr (.row false (.int .i16)) (.pr (.row false (.int .i16)) (.ro .unit)))), (.ro (.int .i64))], slots := [.cell 4 41, .tmp 5], code := bd Try.f26, callee := fun r i => find 0 [(1001, 48), (1005, 48), (1008, 47), (1018, 47), (1020, 46), (4001, 53), (4003, 53), (5005, 54), (5011, 54), (5017, 54)] (r * 1000 + i), deep := fun r i => find false [(1019, true), (5004, true), (5010, true), (5016, true)] (r * 1000 + i) }
/- laws.eqCam -/
noncomputable def I51 : Inst := { f := 51, nt := 26, params := [((.ro (.slc (.int .i16))), false), ((.ro (.slc (.int .i16))), false)], res := [(.ro .bool)], slots := [.tmp 4], code := bd Try.f51, loops := fun b => find [] [(0, [.own 0 (.ro (.slc (.int .i16))), .own 1 (.ro (.slc (.int .i16))), .own 5 (.ro (.int .i64))])] b }
/- laws.eqMachine -/
noncomputable def I22 : Inst := { f := 22, nt := 23, params := [((.ro (.pair (.slc (.int .i16)) (.pair (.slc (.int .i16)) (.pair (.slc (.int .i16)) .unit)))), false), ((.ro (.pair (.slc (.int .i16)) (.pair (.slc (.int .i16)) (.pair (.slc (.int .i16)) .unit)))), false)], res := [(.ro .bool)], slots := [.tmp 4], code := bd Try.f22, callee := fun r i => find 0 [(1004, 51), (3004, 51), (5004, 51)] (r * 1000 + i) }
/- laws.markCam -/
noncomputable def I39 : Inst := { f := 39, nt := 20, params := [((.row false (.int .i16)), true), ((.ro (.int .i64)), false)], res := [(.ro (.int .i64))], slots := [.tmp 4], code := bd Try.f39, loops := fun b => find [] [(0, [.own 0 (.row false (.int .i16)), .own 1 (.ro (.int .i64)), .own 5 (.ro (.int .i64))])] b, pins := [0] }
/- laws.markMachine -/
noncomputable def I23 : Inst := { f := 23, nt := 18, params := [((.pr (.row false (.int .i16)) (.pr (.row false (.int .i16)) (.pr (.row false (.int .i16)) (.ro .unit)))), true), ((.ro (.int .i64)), false)], res := [(.ro (.int .i64))], slots := [.tmp 4], code := bd Try.f23, callee := fun r i => find 0 [(1003, 39), (2003, 39), (3003, 39)] (r * 1000 + i), pins := [0] }
/- laws.heldCam -/
noncomputable def I40 : Inst := { f := 40, nt := 22, params := [((.ro (.slc (.int .i16))), false), ((.ro (.int .i64)), false)], res := [(.ro (.int .i64))], slots := [.tmp 4], code := bd Try.f40, loops := fun b => find [] [(0, [.own 0 (.ro (.slc (.int .i16))), .own 1 (.ro (.int .i64)), .own 5 (.ro (.int .i64))])] b }
/- laws.heldMachine -/
noncomputable def I24 : Inst := { f := 24, nt := 24, params := [((.ro (.pair (.slc (.int .i16)) (.pair (.slc (.int .i16)) (.pair (.slc (.int .i16)) .unit)))), false), ((.ro (.int .i64)), false)], res := [(.ro (.int .i64))], slots := [.tmp 4], code := bd Try.f24, callee := fun r i => find 0 [(1003, 40), (4003, 40), (7003, 40)] (r * 1000 + i) }
/- laws.FnExactBothMachines -/
noncomputable def I5 : Inst := { f := 5, nt := 119, params := [((.ro (.pair (.slc (.int .i16)) (.pair (.slc (.int .i16)) (.pair (.slc (.int .i16)) .unit)))), false), ((.ro (.pair (.slc (.int .i16)) (.pair (.slc (.int .i16)) (.pair (.slc (.int .i16)) .unit)))), false)], res := [(.ro .bool)], slots := [.tmp 4], code := bd Try.f5, callee := fun r i => find 0 [(2002, 18), (5002, 18), (8001, 20), (8003, 20), (8004, 25), (9001, 20), (10001, 20), (11002, 26), (12002, 22), (14002, 20), (14003, 22), (16002, 20), (16003, 22), (19002, 23), (20002, 23), (21005, 22), (24002, 23), (26002, 24), (31001, 20), (31003, 20), (31004, 26), (32002, 22), (35002, 24)] (r * 1000 + i) }
noncomputable def C : Nat → Inst := find I41 [(41, I41), (18, I18), (45, I45), (20, I20), (33, I33), (82, I82), (83, I83), (63, I63), (98, I98), (99, I99), (89, I89), (68, I68), (42, I42), (73, I73), (52, I52), (25, I25), (72, I72), (64, I64), (85, I85), (88, I88), (87, I87), (97, I97), (86, I86), (67, I67), (70, I70), (48, I48), (47, I47), (46, I46), (37, I37), (74, I74), (53, I53), (75, I75), (54, I54), (26, I26), (51, I51), (22, I22), (39, I39), (23, I23), (40, I40), (24, I24), (5, I5)]
theorem tsOk : TsOk Try.prog T := tsOkB_sound (by kernel_rfl)
theorem ok41 : InstOk Try.prog I41 := instOk_of Try.func41 (by kernel_rfl) (by kernel_rfl) (by kernel_rfl) (by kernel_rfl)
theorem ok18 : InstOk Try.prog I18 := instOk_of Try.func18 (by kernel_rfl) (by kernel_rfl) (by kernel_rfl) (by kernel_rfl)
theorem ok45 : InstOk Try.prog I45 := instOk_of Try.func45 (by kernel_rfl) (by kernel_rfl) (by kernel_rfl) (by kernel_rfl)
theorem ok20 : InstOk Try.prog I20 := instOk_of Try.func20 (by kernel_rfl) (by kernel_rfl) (by kernel_rfl) (by kernel_rfl)
theorem ok33 : InstOk Try.prog I33 := instOk_of Try.func33 (by kernel_rfl) (by kernel_rfl) (by kernel_rfl) (by kernel_rfl)
theorem ok82 : InstOk Try.prog I82 := instOk_of Try.func82 (by kernel_rfl) (by kernel_rfl) (by kernel_rfl) (by kernel_rfl)
theorem ok83 : InstOk Try.prog I83 := instOk_of Try.func83 (by kernel_rfl) (by kernel_rfl) (by kernel_rfl) (by kernel_rfl)
theorem ok63 : InstOk Try.prog I63 := instOk_of Try.func63 (by kernel_rfl) (by kernel_rfl) (by kernel_rfl) (by kernel_rfl)
theorem ok98 : InstOk Try.prog I98 := instOk_of Try.func98 (by kernel_rfl) (by kernel_rfl) (by kernel_rfl) (by kernel_rfl)
theorem ok99 : InstOk Try.prog I99 := instOk_of Try.func99 (by kernel_rfl) (by kernel_rfl) (by kernel_rfl) (by kernel_rfl)
theorem ok89 : InstOk Try.prog I89 := instOk_of Try.func89 (by kernel_rfl) (by kernel_rfl) (by kernel_rfl) (by kernel_rfl)
theorem ok68 : InstOk Try.prog I68 := instOk_of Try.func68 (by kernel_rfl) (by kernel_rfl) (by kernel_rfl) (by kernel_rfl)
theorem ok42 : InstOk Try.prog I42 := instOk_of Try.func42 (by kernel_rfl) (by kernel_rfl) (by kernel_rfl) (by kernel_rfl)
theorem ok73 : InstOk Try.prog I73 := instOk_of Try.func73 (by kernel_rfl) (by kernel_rfl) (by kernel_rfl) (by kernel_rfl)
theorem ok52 : InstOk Try.prog I52 := instOk_of Try.func52 (by kernel_rfl) (by kernel_rfl) (by kernel_rfl) (by kernel_rfl)
theorem ok25 : InstOk Try.prog I25 := instOk_of Try.func25 (by kernel_rfl) (by kernel_rfl) (by kernel_rfl) (by kernel_rfl)
theorem ok72 : InstOk Try.prog I72 := instOk_of Try.func72 (by kernel_rfl) (by kernel_rfl) (by kernel_rfl) (by kernel_rfl)
theorem ok64 : InstOk Try.prog I64 := instOk_of Try.func64 (by kernel_rfl) (by kernel_rfl) (by kernel_rfl) (by kernel_rfl)
theorem ok85 : InstOk Try.prog I85 := instOk_of Try.func85 (by kernel_rfl) (by kernel_rfl) (by kernel_rfl) (by kernel_rfl)
theorem ok88 : InstOk Try.prog I88 := instOk_of Try.func88 (by kernel_rfl) (by kernel_rfl) (by kernel_rfl) (by kernel_rfl)
theorem ok87 : InstOk Try.prog I87 := instOk_of Try.func87 (by kernel_rfl) (by kernel_rfl) (by kernel_rfl) (by kernel_rfl)
theorem ok97 : InstOk Try.prog I97 := instOk_of Try.func97 (by kernel_rfl) (by kernel_rfl) (by kernel_rfl) (by kernel_rfl)
theorem ok86 : InstOk Try.prog I86 := instOk_of Try.func86 (by kernel_rfl) (by kernel_rfl) (by kernel_rfl) (by kernel_rfl)
theorem ok67 : InstOk Try.prog I67 := instOk_of Try.func67 (by kernel_rfl) (by kernel_rfl) (by kernel_rfl) (by kernel_rfl)
theorem ok70 : InstOk Try.prog I70 := instOk_of Try.func70 (by kernel_rfl) (by kernel_rfl) (by kernel_rfl) (by kernel_rfl)
theorem ok48 : InstOk Try.prog I48 := instOk_of Try.func48 (by kernel_rfl) (by kernel_rfl) (by kernel_rfl) (by kernel_rfl)
theorem ok47 : InstOk Try.prog I47 := instOk_of Try.func47 (by kernel_rfl) (by kernel_rfl) (by kernel_rfl) (by kernel_rfl)
theorem ok46 : InstOk Try.prog I46 := instOk_of Try.func46 (by kernel_rfl) (by kernel_rfl) (by kernel_rfl) (by kernel_rfl)
theorem ok37 : InstOk Try.prog I37 := instOk_of Try.func37 (by kernel_rfl) (by kernel_rfl) (by kernel_rfl) (by kernel_rfl)
theorem ok74 : InstOk Try.prog I74 := instOk_of Try.func74 (by kernel_rfl) (by kernel_rfl) (by kernel_rfl) (by kernel_rfl)
theorem ok53 : InstOk Try.prog I53 := instOk_of Try.func53 (by kernel_rfl) (by kernel_rfl) (by kernel_rfl) (by kernel_rfl)
theorem ok75 : InstOk Try.prog I75 := instOk_of Try.func75 (by kernel_rfl) (by kernel_rfl) (by kernel_rfl) (by kernel_rfl)
theorem ok54 : InstOk Try.prog I54 := instOk_of Try.func54 (by kernel_rfl) (by kernel_rfl) (by kernel_rfl) (by kernel_rfl)
theorem ok26 : InstOk Try.prog I26 := instOk_of Try.func26 (by kernel_rfl) (by kernel_rfl) (by kernel_rfl) (by kernel_rfl)
theorem ok51 : InstOk Try.prog I51 := instOk_of Try.func51 (by kernel_rfl) (by kernel_rfl) (by kernel_rfl) (by kernel_rfl)
theorem ok22 : InstOk Try.prog I22 := instOk_of Try.func22 (by kernel_rfl) (by kernel_rfl) (by kernel_rfl) (by kernel_rfl)
theorem ok39 : InstOk Try.prog I39 := instOk_of Try.func39 (by kernel_rfl) (by kernel_rfl) (by kernel_rfl) (by kernel_rfl)
theorem ok23 : InstOk Try.prog I23 := instOk_of Try.func23 (by kernel_rfl) (by kernel_rfl) (by kernel_rfl) (by kernel_rfl)
theorem ok40 : InstOk Try.prog I40 := instOk_of Try.func40 (by kernel_rfl) (by kernel_rfl) (by kernel_rfl) (by kernel_rfl)
theorem ok24 : InstOk Try.prog I24 := instOk_of Try.func24 (by kernel_rfl) (by kernel_rfl) (by kernel_rfl) (by kernel_rfl)
theorem ok5 : InstOk Try.prog I5 := instOk_of Try.func5 (by kernel_rfl) (by kernel_rfl) (by kernel_rfl) (by kernel_rfl)
theorem insts : ∀ j, InstOk Try.prog (C j) := find_all ok41 (List.forall_mem_cons.2 ⟨ok41, List.forall_mem_cons.2 ⟨ok18, List.forall_mem_cons.2 ⟨ok45, List.forall_mem_cons.2 ⟨ok20, List.forall_mem_cons.2 ⟨ok33, List.forall_mem_cons.2 ⟨ok82, List.forall_mem_cons.2 ⟨ok83, List.forall_mem_cons.2 ⟨ok63, List.forall_mem_cons.2 ⟨ok98, List.forall_mem_cons.2 ⟨ok99, List.forall_mem_cons.2 ⟨ok89, List.forall_mem_cons.2 ⟨ok68, List.forall_mem_cons.2 ⟨ok42, List.forall_mem_cons.2 ⟨ok73, List.forall_mem_cons.2 ⟨ok52, List.forall_mem_cons.2 ⟨ok25, List.forall_mem_cons.2 ⟨ok72, List.forall_mem_cons.2 ⟨ok64, List.forall_mem_cons.2 ⟨ok85, List.forall_mem_cons.2 ⟨ok88, List.forall_mem_cons.2 ⟨ok87, List.forall_mem_cons.2 ⟨ok97, List.forall_mem_cons.2 ⟨ok86, List.forall_mem_cons.2 ⟨ok67, List.forall_mem_cons.2 ⟨ok70, List.forall_mem_cons.2 ⟨ok48, List.forall_mem_cons.2 ⟨ok47, List.forall_mem_cons.2 ⟨ok46, List.forall_mem_cons.2 ⟨ok37, List.forall_mem_cons.2 ⟨ok74, List.forall_mem_cons.2 ⟨ok53, List.forall_mem_cons.2 ⟨ok75, List.forall_mem_cons.2 ⟨ok54, List.forall_mem_cons.2 ⟨ok26, List.forall_mem_cons.2 ⟨ok51, List.forall_mem_cons.2 ⟨ok22, List.forall_mem_cons.2 ⟨ok39, List.forall_mem_cons.2 ⟨ok23, List.forall_mem_cons.2 ⟨ok40, List.forall_mem_cons.2 ⟨ok24, List.forall_mem_cons.2 ⟨ok5, fun _ h => absurd h List.not_mem_nil⟩⟩⟩⟩⟩⟩⟩⟩⟩⟩⟩⟩⟩⟩⟩⟩⟩⟩⟩⟩⟩⟩⟩⟩⟩⟩⟩⟩⟩⟩⟩⟩⟩⟩⟩⟩⟩⟩⟩⟩⟩)
end Go.Proofs.Ytnneldeocfkfnaa.LBothMachines
