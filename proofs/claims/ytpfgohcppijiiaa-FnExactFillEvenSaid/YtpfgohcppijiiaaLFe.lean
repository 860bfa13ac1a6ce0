/- The types and the functions that a law reaches, told for the reading (Fw). Written by a program (gen.py). -/
import Derived.Test.YtpfgohcppijiiaaFwC
import Derived.Test.YtpfgohcppijiiaaProg
namespace Go.Proofs.Ytpfgohcppijiiaa.LFe
open Go Go.Fw
open Go.Proofs
noncomputable def tyL : List (Nat × TI) := [(2, ⟨(.int .i64), 0, 8⟩),
  (3, ⟨(.int .i64), 0, 8⟩),
  (4, ⟨.bool, 0, 1⟩),
  (22, ⟨(.slc (.int .i16)), 40, 24⟩),
  (23, ⟨(.slc .bool), 4, 24⟩),
  (24, ⟨(.slc (.int .i16)), 40, 24⟩),
  (40, ⟨(.int .i16), 0, 2⟩),
  (41, ⟨(.slc (.arr 2 (.int .i64))), 44, 24⟩),
  (44, ⟨(.arr 2 (.int .i64)), 2, 16⟩),
  (49, ⟨(.slc (.int .i64)), 2, 24⟩),
  (81, ⟨.fn, 0, 8⟩),
  (88, ⟨.fn, 0, 8⟩)]
noncomputable def T : Nat → Option TI := findT tyL
/- laws.toCam -/
noncomputable def I6 : Inst := { f := 6, nt := 22, params := [((.ro (.slc (.int .i16))), false)], res := [(.row false (.int .i16))], slots := [.tmp 2], code := bd Try.f6, loops := fun b => find [] [(0, [.own 0 (.ro (.slc (.int .i16))), .own 3 (.row false (.int .i16)), .own 4 (.ro (.int .i64))])] b, deep := fun r i => find false [(1002, true)] (r * 1000 + i) }
/- laws.toBoolS -/
noncomputable def I7 : Inst := { f := 7, nt := 22, params := [((.ro (.slc .bool)), false)], res := [(.row false .bool)], slots := [.tmp 2], code := bd Try.f7, loops := fun b => find [] [(0, [.own 0 (.ro (.slc .bool)), .own 3 (.row false .bool), .own 4 (.ro (.int .i64))])] b, deep := fun r i => find false [(1002, true)] (r * 1000 + i) }
/- spec.l00In -/
noncomputable def I59 : Inst := { f := 59, nt := 15, params := [((.ro (.int .i64)), false), ((.ro (.int .i64)), false), ((.ro (.int .i64)), false)], res := [(.ro .bool)], slots := [.tmp 6], code := bd Try.f59 }
/- spec.l01Steps -/
noncomputable def I54 : Inst := { f := 54, nt := 5, params := [((.ro (.int .i64)), false)], res := [(.ro .bool)], slots := [.tmp 2], code := bd Try.f54, callee := fun r i => find 0 [(1001, 59)] (r * 1000 + i) }
/- spec.l01Lift -/
noncomputable def I73 : Inst := { f := 73, nt := 5, params := [((.ro (.int .i64)), false)], res := [(.ro .bool)], slots := [.tmp 2], code := bd Try.f73, callee := fun r i => find 0 [(1001, 59)] (r * 1000 + i) }
/- spec.l01Ok -/
noncomputable def I48 : Inst := { f := 48, nt := 21, params := [((.ro (.slc (.int .i16))), false)], res := [(.ro .bool)], slots := [.tmp 2], code := bd Try.f48, callee := fun r i => find 0 [(1002, 54), (6005, 73)] (r * 1000 + i), loops := fun b => find [] [(0, [.own 0 (.ro (.slc (.int .i16))), .own 3 (.ro (.int .i64))])] b }
/- spec.l05Held -/
noncomputable def I31 : Inst := { f := 31, nt := 13, params := [((.ro (.slc (.int .i16))), false), ((.ro (.slc .bool)), false)], res := [(.ro (.int .i64))], slots := [.tmp 4], code := bd Try.f31, callee := fun r i => find 0 [(1001, 48)] (r * 1000 + i) }
/- spec.l05Free -/
noncomputable def I32 : Inst := { f := 32, nt := 66, params := [((.ro (.slc .bool)), false)], res := [(.row false (.arr 2 (.int .i64)))], slots := [.tmp 2], code := bd Try.f32, loops := fun b => find [] [(2, [.own 0 (.ro (.slc .bool)), .own 3 (.ro (.int .i64)), .own 4 (.row false (.arr 2 (.int .i64))), .own 5 (.ro (.int .i64)), .own 6 (.ro (.int .i64))]), (0, [.own 0 (.ro (.slc .bool)), .own 3 (.ro (.int .i64)), .own 4 (.row false (.arr 2 (.int .i64))), .own 5 (.ro (.int .i64))])] b, deep := fun r i => find false [(2000, true), (10004, true), (10005, true), (12002, true)] (r * 1000 + i) }
/- spec.l01At -/
noncomputable def I33 : Inst := { f := 33, nt := 19, params := [((.ro (.slc (.int .i16))), false), ((.ro (.int .i64)), false)], res := [(.ro (.int .i64))], slots := [.tmp 4], code := bd Try.f33 }
/- spec.l01Near -/
noncomputable def I34 : Inst := { f := 34, nt := 23, params := [((.ro (.int .i64)), false), ((.ro (.int .i64)), false)], res := [(.ro (.int .i64))], slots := [.tmp 4], code := bd Try.f34 }
/- spec.FillEven -/
noncomputable def I5 : Inst := { f := 5, nt := 92, params := [((.ro (.slc (.int .i16))), false), ((.ro (.slc .bool)), false)], res := [(.row false (.int .i16)), (.ro (.int .i64))], slots := [.tmp 4, .tmp 5], code := bd Try.f5, callee := fun r i => find 0 [(1002, 31), (5001, 32), (14003, 33), (15004, 33), (19015, 34)] (r * 1000 + i), loops := fun b => find [] [(2, [.own 0 (.ro (.slc (.int .i16))), .own 7 (.ro (.int .i64)), .own 8 (.ro (.slc (.arr 2 (.int .i64)))), .own 9 (.row false (.int .i16)), .own 10 (.ro (.int .i64)), .own 11 (.ro (.int .i64)), .own 12 (.ro (.int .i64)), .own 13 (.ro (.int .i64)), .own 14 (.ro (.int .i64)), .own 15 (.ro (.int .i64))]), (0, [.own 0 (.ro (.slc (.int .i16))), .own 7 (.ro (.int .i64)), .own 8 (.ro (.slc (.arr 2 (.int .i64)))), .own 9 (.row false (.int .i16)), .own 10 (.ro (.int .i64))])] b, deep := fun r i => find false [(3000, true), (7000, true), (8000, true), (8002, true)] (r * 1000 + i) }
/- impl.Cam).steps -/
noncomputable def I44 : Inst := { f := 44, nt := 5, params := [((.ro (.slc (.int .i16))), false)], res := [(.ro (.int .i64))], slots := [.tmp 2], code := bd Try.f44 }
/- impl.inRange -/
noncomputable def I56 : Inst := { f := 56, nt := 15, params := [((.ro (.int .i64)), false), ((.ro (.int .i64)), false), ((.ro (.int .i64)), false)], res := [(.ro .bool)], slots := [.tmp 6], code := bd Try.f56 }
/- impl.isSteps -/
noncomputable def I53 : Inst := { f := 53, nt := 5, params := [((.ro (.int .i64)), false)], res := [(.ro .bool)], slots := [.tmp 2], code := bd Try.f53, callee := fun r i => find 0 [(1001, 56)] (r * 1000 + i) }
/- impl.isLift -/
noncomputable def I78 : Inst := { f := 78, nt := 5, params := [((.ro (.int .i64)), false)], res := [(.ro .bool)], slots := [.tmp 2], code := bd Try.f78, callee := fun r i => find 0 [(1001, 56)] (r * 1000 + i) }
/- impl.ValidCam$1 -/
noncomputable def I77 : Inst := { f := 77, nt := 7, params := [((.ro (.int .i16)), false)], res := [(.ro .bool)], slots := [.tmp 2], code := bd Try.f77, callee := fun r i => find 0 [(1002, 78)] (r * 1000 + i) }
/- impl.Cam,int16] -/
noncomputable def I83 : Inst := { f := 83, nt := 19, params := [((.ro (.slc (.int .i16))), false), ((.clo 77 (.ro .unit) (.ro .unit)), false)], res := [(.ro (.int .i64))], slots := [.tmp 4], code := bd Try.f83, callee := fun r i => find 0 [(4005, 77)] (r * 1000 + i), loops := fun b => find [] [(0, [.own 0 (.ro (.slc (.int .i16))), .own 1 (.clo 77 (.ro .unit) (.ro .unit)), .own 7 (.ro (.int .i64)), .own 8 (.ro (.int .i64))])] b }
/- impl.Cam,int16] -/
noncomputable def I76 : Inst := { f := 76, nt := 9, params := [((.ro (.slc (.int .i16))), false), ((.clo 77 (.ro .unit) (.ro .unit)), false)], res := [(.ro .bool)], slots := [.tmp 4], code := bd Try.f76, callee := fun r i => find 0 [(1002, 83)] (r * 1000 + i) }
/- impl.ValidCam -/
noncomputable def I55 : Inst := { f := 55, nt := 11, params := [((.ro (.slc (.int .i16))), false)], res := [(.ro .bool)], slots := [.tmp 2], code := bd Try.f55, callee := fun r i => find 0 [(1001, 44), (1002, 53), (1005, 76)] (r * 1000 + i) }
/- impl.codeIf -/
noncomputable def I37 : Inst := { f := 37, nt := 7, params := [((.ro .bool), false), ((.ro (.int .i64)), false)], res := [(.ro (.int .i64))], slots := [.tmp 4], code := bd Try.f37 }
/- impl.firstCode -/
noncomputable def I35 : Inst := { f := 35, nt := 15, params := [((.ro (.slc (.int .i64))), false)], res := [(.ro (.int .i64))], slots := [.tmp 2], code := bd Try.f35, loops := fun b => find [] [(0, [.own 5 (.ro (.slc (.int .i64))), .own 6 (.ro (.int .i64)), .own 7 (.ro (.int .i64))])] b }
/- impl.heldCode -/
noncomputable def I36 : Inst := { f := 36, nt := 17, params := [((.ro (.slc (.int .i16))), false), ((.ro (.slc .bool)), false)], res := [(.ro (.int .i64))], slots := [.tmp 4], code := bd Try.f36, callee := fun r i => find 0 [(1001, 55), (1003, 37), (1009, 37), (1011, 35)] (r * 1000 + i), deep := fun r i => find false [(1010, true)] (r * 1000 + i), frz := fun r i => find false [(1010, true)] (r * 1000 + i) }
/- slices.Index[[]bool,bool] -/
noncomputable def I66 : Inst := { f := 66, nt := 19, params := [((.ro (.slc .bool)), false), ((.ro .bool), false)], res := [(.ro (.int .i64))], slots := [.tmp 4], code := bd Try.f66, loops := fun b => find [] [(0, [.own 0 (.ro (.slc .bool)), .own 1 (.ro .bool), .own 7 (.ro (.int .i64)), .own 8 (.ro (.int .i64))])] b }
/- slices.Contains[[]bool,bool] -/
noncomputable def I38 : Inst := { f := 38, nt := 9, params := [((.ro (.slc .bool)), false), ((.ro .bool), false)], res := [(.ro .bool)], slots := [.tmp 4], code := bd Try.f38, callee := fun r i => find 0 [(1002, 66)] (r * 1000 + i) }
/- impl.Cam,int16] -/
noncomputable def I39 : Inst := { f := 39, nt := 8, params := [((.ro (.slc (.int .i16))), false)], res := [(.row false (.int .i16))], slots := [.tmp 2], code := bd Try.f39 }
/- slices.SortFunc[[][2]int64,[2]int64]: told by its contract -/
noncomputable def I67 : Inst := { f := 67, nt := 0, params := [((.row false (.arr 2 (.int .i64))), true), ((.clo 68 (.ro .unit) (.ro .unit)), false)], res := [], slots := [], code := .skip, ext := some (fun x => if sortOk x.1 = true then some ((), (sortK x.1, ())) else none) }
/- impl.freeStretches -/
noncomputable def I40 : Inst := { f := 40, nt := 61, params := [((.ro (.slc .bool)), false)], res := [(.row false (.arr 2 (.int .i64)))], slots := [.tmp 2], code := bd Try.f40, callee := fun r i => find 0 [(2001, 66), (14001, 67)] (r * 1000 + i), loops := fun b => find [] [(2, [.own 0 (.ro (.slc .bool)), .own 3 (.ro (.int .i64)), .own 5 (.row false (.arr 2 (.int .i64))), .own 6 (.ro (.int .i64)), .own 7 (.ro (.int .i64)), .own 8 (.ro (.int .i64))]), (0, [.own 0 (.ro (.slc .bool)), .own 3 (.ro (.int .i64)), .own 5 (.row false (.arr 2 (.int .i64))), .own 6 (.ro (.int .i64)), .own 7 (.ro (.int .i64))])] b, deep := fun r i => find false [(4002, true), (5000, true), (12008, true), (12009, true)] (r * 1000 + i) }
/- impl.floorDiv -/
noncomputable def I69 : Inst := { f := 69, nt := 16, params := [((.ro (.int .i64)), false), ((.ro (.int .i64)), false)], res := [(.ro (.int .i64))], slots := [.tmp 4], code := bd Try.f69 }
/- impl.mod -/
noncomputable def I43 : Inst := { f := 43, nt := 12, params := [((.ro (.int .i64)), false), ((.ro (.int .i64)), false)], res := [(.ro (.int .i64))], slots := [.tmp 4], code := bd Try.f43, callee := fun r i => find 0 [(1004, 69)] (r * 1000 + i) }
/- impl.Cam).at -/
noncomputable def I41 : Inst := { f := 41, nt := 13, params := [((.ro (.slc (.int .i16))), false), ((.ro (.int .i64)), false)], res := [(.ro (.int .i64))], slots := [.tmp 4], code := bd Try.f41, callee := fun r i => find 0 [(1003, 44), (1004, 43)] (r * 1000 + i) }
/- impl.nearest -/
noncomputable def I42 : Inst := { f := 42, nt := 12, params := [((.ro (.int .i64)), false), ((.ro (.int .i64)), false)], res := [(.ro (.int .i64))], slots := [.tmp 4], code := bd Try.f42, callee := fun r i => find 0 [(1006, 69)] (r * 1000 + i) }
/- impl.FillEven -/
noncomputable def I8 : Inst := { f := 8, nt := 79, params := [((.ro (.slc (.int .i16))), false), ((.ro (.slc .bool)), false)], res := [(.row false (.int .i16)), (.ro (.int .i64))], slots := [.tmp 4, .tmp 5], code := bd Try.f8, callee := fun r i => find 0 [(1002, 36), (1004, 38), (1006, 37), (1008, 35), (4001, 39), (5001, 40), (9003, 41), (9008, 41), (13006, 44), (13007, 43), (13020, 42)] (r * 1000 + i), loops := fun b => find [] [(2, [.own 0 (.ro (.slc (.int .i16))), .own 7 (.row false (.int .i16)), .own 10 (.ro (.int .i64)), .own 11 (.ro (.int .i64)), .own 12 (.ro (.int .i64)), .own 13 (.ro (.int .i64)), .own 14 (.ro (.int .i64)), .own 30 (.ro (.slc (.arr 2 (.int .i64)))), .own 31 (.ro (.int .i64)), .own 32 (.ro (.int .i64))]), (0, [.own 0 (.ro (.slc (.int .i16))), .own 7 (.row false (.int .i16)), .own 30 (.ro (.slc (.arr 2 (.int .i64)))), .own 31 (.ro (.int .i64)), .own 32 (.ro (.int .i64))])] b, deep := fun r i => find false [(1007, true)] (r * 1000 + i), frz := fun r i => find false [(1007, true)] (r * 1000 + i) }
/- laws.eqCam -/
noncomputable def I9 : Inst := { f := 9, nt := 26, params := [((.ro (.slc (.int .i16))), false), ((.ro (.slc (.int .i16))), false)], res := [(.ro .bool)], slots := [.tmp 4], code := bd Try.f9, loops := fun b => find [] [(0, [.own 0 (.ro (.slc (.int .i16))), .own 1 (.ro (.slc (.int .i16))), .own 5 (.ro (.int .i64))])] b }
/- laws.eqBoolS -/
noncomputable def I10 : Inst := { f := 10, nt := 26, params := [((.ro (.slc .bool)), false), ((.ro (.slc .bool)), false)], res := [(.ro .bool)], slots := [.tmp 4], code := bd Try.f10, loops := fun b => find [] [(0, [.own 0 (.ro (.slc .bool)), .own 1 (.ro (.slc .bool)), .own 5 (.ro (.int .i64))])] b }
/- laws.markCam -/
noncomputable def I11 : Inst := { f := 11, nt := 20, params := [((.row false (.int .i16)), true), ((.ro (.int .i64)), false)], res := [(.ro (.int .i64))], slots := [.tmp 4], code := bd Try.f11, loops := fun b => find [] [(0, [.own 0 (.row false (.int .i16)), .own 1 (.ro (.int .i64)), .own 5 (.ro (.int .i64))])] b, pins := [0] }
/- laws.markBoolS -/
noncomputable def I12 : Inst := { f := 12, nt := 21, params := [((.row false .bool), true), ((.ro (.int .i64)), false)], res := [(.ro (.int .i64))], slots := [.tmp 4], code := bd Try.f12, loops := fun b => find [] [(0, [.own 0 (.row false .bool), .own 1 (.ro (.int .i64)), .own 5 (.ro (.int .i64))])] b, pins := [0] }
/- laws.heldCam -/
noncomputable def I13 : Inst := { f := 13, nt := 22, params := [((.ro (.slc (.int .i16))), false), ((.ro (.int .i64)), false)], res := [(.ro (.int .i64))], slots := [.tmp 4], code := bd Try.f13, loops := fun b => find [] [(0, [.own 0 (.ro (.slc (.int .i16))), .own 1 (.ro (.int .i64)), .own 5 (.ro (.int .i64))])] b }
/- laws.FnExactFillEven -/
noncomputable def I3 : Inst := { f := 3, nt := 114, params := [((.ro (.slc (.int .i16))), false), ((.ro (.slc .bool)), false)], res := [(.ro .bool)], slots := [.tmp 4], code := bd Try.f3, callee := fun r i => find 0 [(5001, 6), (5003, 7), (5004, 5), (6001, 6), (7001, 7), (8002, 8), (9002, 9), (11002, 6), (11003, 9), (13002, 7), (13003, 10), (16002, 11), (17002, 12), (18005, 9), (21002, 11), (23002, 13), (28001, 6), (28003, 7), (28004, 8), (29002, 9), (32002, 13)] (r * 1000 + i) }
noncomputable def CL : List (Nat × Inst) := [(6, I6), (7, I7), (59, I59), (54, I54), (73, I73), (48, I48), (31, I31), (32, I32), (33, I33), (34, I34), (5, I5), (44, I44), (56, I56), (53, I53), (78, I78), (77, I77), (83, I83), (76, I76), (55, I55), (37, I37), (35, I35), (36, I36), (66, I66), (38, I38), (39, I39), (67, I67), (40, I40), (69, I69), (43, I43), (41, I41), (42, I42), (8, I8), (9, I9), (10, I10), (11, I11), (12, I12), (13, I13), (3, I3)]
noncomputable def C : Nat → Inst := find I6 CL
theorem tsOk : TsOk Try.prog T := tsOkB_sound (by kernel_rfl)
theorem ok6 : InstOk Try.prog I6 := instOk_of Try.func6 (by kernel_rfl) (by kernel_rfl) (by kernel_rfl) (by kernel_rfl)
theorem ok7 : InstOk Try.prog I7 := instOk_of Try.func7 (by kernel_rfl) (by kernel_rfl) (by kernel_rfl) (by kernel_rfl)
theorem ok59 : InstOk Try.prog I59 := instOk_of Try.func59 (by kernel_rfl) (by kernel_rfl) (by kernel_rfl) (by kernel_rfl)
theorem ok54 : InstOk Try.prog I54 := instOk_of Try.func54 (by kernel_rfl) (by kernel_rfl) (by kernel_rfl) (by kernel_rfl)
theorem ok73 : InstOk Try.prog I73 := instOk_of Try.func73 (by kernel_rfl) (by kernel_rfl) (by kernel_rfl) (by kernel_rfl)
theorem ok48 : InstOk Try.prog I48 := instOk_of Try.func48 (by kernel_rfl) (by kernel_rfl) (by kernel_rfl) (by kernel_rfl)
theorem ok31 : InstOk Try.prog I31 := instOk_of Try.func31 (by kernel_rfl) (by kernel_rfl) (by kernel_rfl) (by kernel_rfl)
theorem ok32 : InstOk Try.prog I32 := instOk_of Try.func32 (by kernel_rfl) (by kernel_rfl) (by kernel_rfl) (by kernel_rfl)
theorem ok33 : InstOk Try.prog I33 := instOk_of Try.func33 (by kernel_rfl) (by kernel_rfl) (by kernel_rfl) (by kernel_rfl)
theorem ok34 : InstOk Try.prog I34 := instOk_of Try.func34 (by kernel_rfl) (by kernel_rfl) (by kernel_rfl) (by kernel_rfl)
theorem ok5 : InstOk Try.prog I5 := instOk_of Try.func5 (by kernel_rfl) (by kernel_rfl) (by kernel_rfl) (by kernel_rfl)
theorem ok44 : InstOk Try.prog I44 := instOk_of Try.func44 (by kernel_rfl) (by kernel_rfl) (by kernel_rfl) (by kernel_rfl)
theorem ok56 : InstOk Try.prog I56 := instOk_of Try.func56 (by kernel_rfl) (by kernel_rfl) (by kernel_rfl) (by kernel_rfl)
theorem ok53 : InstOk Try.prog I53 := instOk_of Try.func53 (by kernel_rfl) (by kernel_rfl) (by kernel_rfl) (by kernel_rfl)
theorem ok78 : InstOk Try.prog I78 := instOk_of Try.func78 (by kernel_rfl) (by kernel_rfl) (by kernel_rfl) (by kernel_rfl)
theorem ok77 : InstOk Try.prog I77 := instOk_of Try.func77 (by kernel_rfl) (by kernel_rfl) (by kernel_rfl) (by kernel_rfl)
theorem ok83 : InstOk Try.prog I83 := instOk_of Try.func83 (by kernel_rfl) (by kernel_rfl) (by kernel_rfl) (by kernel_rfl)
theorem ok76 : InstOk Try.prog I76 := instOk_of Try.func76 (by kernel_rfl) (by kernel_rfl) (by kernel_rfl) (by kernel_rfl)
theorem ok55 : InstOk Try.prog I55 := instOk_of Try.func55 (by kernel_rfl) (by kernel_rfl) (by kernel_rfl) (by kernel_rfl)
theorem ok37 : InstOk Try.prog I37 := instOk_of Try.func37 (by kernel_rfl) (by kernel_rfl) (by kernel_rfl) (by kernel_rfl)
theorem ok35 : InstOk Try.prog I35 := instOk_of Try.func35 (by kernel_rfl) (by kernel_rfl) (by kernel_rfl) (by kernel_rfl)
theorem ok36 : InstOk Try.prog I36 := instOk_of Try.func36 (by kernel_rfl) (by kernel_rfl) (by kernel_rfl) (by kernel_rfl)
theorem ok66 : InstOk Try.prog I66 := instOk_of Try.func66 (by kernel_rfl) (by kernel_rfl) (by kernel_rfl) (by kernel_rfl)
theorem ok38 : InstOk Try.prog I38 := instOk_of Try.func38 (by kernel_rfl) (by kernel_rfl) (by kernel_rfl) (by kernel_rfl)
theorem ok39 : InstOk Try.prog I39 := instOk_of Try.func39 (by kernel_rfl) (by kernel_rfl) (by kernel_rfl) (by kernel_rfl)
theorem ok67 : InstOk Try.prog I67 := instOk_ext rfl
theorem ok40 : InstOk Try.prog I40 := instOk_of Try.func40 (by kernel_rfl) (by kernel_rfl) (by kernel_rfl) (by kernel_rfl)
theorem ok69 : InstOk Try.prog I69 := instOk_of Try.func69 (by kernel_rfl) (by kernel_rfl) (by kernel_rfl) (by kernel_rfl)
theorem ok43 : InstOk Try.prog I43 := instOk_of Try.func43 (by kernel_rfl) (by kernel_rfl) (by kernel_rfl) (by kernel_rfl)
theorem ok41 : InstOk Try.prog I41 := instOk_of Try.func41 (by kernel_rfl) (by kernel_rfl) (by kernel_rfl) (by kernel_rfl)
theorem ok42 : InstOk Try.prog I42 := instOk_of Try.func42 (by kernel_rfl) (by kernel_rfl) (by kernel_rfl) (by kernel_rfl)
theorem ok8 : InstOk Try.prog I8 := instOk_of Try.func8 (by kernel_rfl) (by kernel_rfl) (by kernel_rfl) (by kernel_rfl)
theorem ok9 : InstOk Try.prog I9 := instOk_of Try.func9 (by kernel_rfl) (by kernel_rfl) (by kernel_rfl) (by kernel_rfl)
theorem ok10 : InstOk Try.prog I10 := instOk_of Try.func10 (by kernel_rfl) (by kernel_rfl) (by kernel_rfl) (by kernel_rfl)
theorem ok11 : InstOk Try.prog I11 := instOk_of Try.func11 (by kernel_rfl) (by kernel_rfl) (by kernel_rfl) (by kernel_rfl)
theorem ok12 : InstOk Try.prog I12 := instOk_of Try.func12 (by kernel_rfl) (by kernel_rfl) (by kernel_rfl) (by kernel_rfl)
theorem ok13 : InstOk Try.prog I13 := instOk_of Try.func13 (by kernel_rfl) (by kernel_rfl) (by kernel_rfl) (by kernel_rfl)
theorem ok3 : InstOk Try.prog I3 := instOk_of Try.func3 (by kernel_rfl) (by kernel_rfl) (by kernel_rfl) (by kernel_rfl)
theorem insts : ∀ j, InstOk Try.prog (C j) := find_all ok6 (List.forall_mem_cons.2 ⟨ok6, List.forall_mem_cons.2 ⟨ok7, List.forall_mem_cons.2 ⟨ok59, List.forall_mem_cons.2 ⟨ok54, List.forall_mem_cons.2 ⟨ok73, List.forall_mem_cons.2 ⟨ok48, List.forall_mem_cons.2 ⟨ok31, List.forall_mem_cons.2 ⟨ok32, List.forall_mem_cons.2 ⟨ok33, List.forall_mem_cons.2 ⟨ok34, List.forall_mem_cons.2 ⟨ok5, List.forall_mem_cons.2 ⟨ok44, List.forall_mem_cons.2 ⟨ok56, List.forall_mem_cons.2 ⟨ok53, List.forall_mem_cons.2 ⟨ok78, List.forall_mem_cons.2 ⟨ok77, List.forall_mem_cons.2 ⟨ok83, List.forall_mem_cons.2 ⟨ok76, List.forall_mem_cons.2 ⟨ok55, List.forall_mem_cons.2 ⟨ok37, List.forall_mem_cons.2 ⟨ok35, List.forall_mem_cons.2 ⟨ok36, List.forall_mem_cons.2 ⟨ok66, List.forall_mem_cons.2 ⟨ok38, List.forall_mem_cons.2 ⟨ok39, List.forall_mem_cons.2 ⟨ok67, List.forall_mem_cons.2 ⟨ok40, List.forall_mem_cons.2 ⟨ok69, List.forall_mem_cons.2 ⟨ok43, List.forall_mem_cons.2 ⟨ok41, List.forall_mem_cons.2 ⟨ok42, List.forall_mem_cons.2 ⟨ok8, List.forall_mem_cons.2 ⟨ok9, List.forall_mem_cons.2 ⟨ok10, List.forall_mem_cons.2 ⟨ok11, List.forall_mem_cons.2 ⟨ok12, List.forall_mem_cons.2 ⟨ok13, List.forall_mem_cons.2 ⟨ok3, fun _ h => absurd h List.not_mem_nil⟩⟩⟩⟩⟩⟩⟩⟩⟩⟩⟩⟩⟩⟩⟩⟩⟩⟩⟩⟩⟩⟩⟩⟩⟩⟩⟩⟩⟩⟩⟩⟩⟩⟩⟩⟩⟩⟩)
theorem c67 : C 67 = I67 := by kernel_rfl
theorem exts {L : Laid} (h67 : ExtOk Try.prog L I67) : ∀ j, ExtOk Try.prog L (C j) := by
  have hC : C = find I6 CL := by delta C; with_reducible rfl
  refine fun j => exts_of (C := C) _ _ [67] hC (by kernel_rfl) (by kernel_rfl) ?_ j
  intro e he
  change ExtOk _ _ (C e)
  simp only [List.mem_cons, List.not_mem_nil, or_false] at he
  subst he; rw [c67]; exact h67
end Go.Proofs.Ytpfgohcppijiiaa.LFe
