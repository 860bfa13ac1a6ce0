/- The types and the functions that a law reaches, told for the reading (Fw). Written by a program (gen.py). -/
import Derived.Test.YtpfgohcppijiiaaFwC
import Derived.Test.YtpfgohcppijiiaaProg
namespace Go.Proofs.Ytpfgohcppijiiaa.LFo
open Go Go.Fw
open Go.Proofs
noncomputable def tyL : List (Nat × TI) := [(2, ⟨(.int .i64), 0, 8⟩),
  (3, ⟨(.int .i64), 0, 8⟩),
  (4, ⟨.bool, 0, 1⟩),
  (5, ⟨(.int .u8), 0, 1⟩),
  (23, ⟨(.slc .bool), 4, 24⟩),
  (24, ⟨(.slc (.int .i16)), 40, 24⟩),
  (34, ⟨(.slc (.int .u8)), 5, 24⟩),
  (40, ⟨(.int .i16), 0, 2⟩),
  (41, ⟨(.slc (.arr 2 (.int .i64))), 44, 24⟩),
  (44, ⟨(.arr 2 (.int .i64)), 2, 16⟩),
  (49, ⟨(.slc (.int .i64)), 2, 24⟩),
  (56, ⟨.fn, 0, 8⟩),
  (68, ⟨(.ptr (.pair (.slc (.int .u8)) (.pair (.int .i64) (.pair (.int .u64) .unit)))), 0, 8⟩),
  (81, ⟨.fn, 0, 8⟩),
  (83, ⟨(.int .u64), 0, 8⟩),
  (85, ⟨(.pair (.slc (.int .u8)) (.pair (.int .i64) (.pair (.int .u64) .unit))), 0, 40⟩),
  (88, ⟨.fn, 0, 8⟩)]
noncomputable def T : Nat → Option TI := findT tyL
/- laws.f6big -/
noncomputable def I14 : Inst := { f := 14, nt := 6, params := [((.ro (.slc (.int .u8))), false)], res := [(.ro .bool)], slots := [.tmp 2], code := bd Try.f14 }
/- spec.l00From -/
noncomputable def I46 : Inst := { f := 46, nt := 6, params := [((.ro (.slc (.int .u8))), false)], res := [(.box (.ro (.pair (.slc (.int .u8)) (.pair (.int .i64) (.pair (.int .u64) .unit)))))], slots := [.tmp 2], code := bd Try.f46, strict := true }
/- spec.l00Src).next -/
noncomputable def I80 : Inst := { f := 80, nt := 62, params := [((.box (.ro (.pair (.slc (.int .u8)) (.pair (.int .i64) (.pair (.int .u64) .unit))))), true)], res := [(.ro (.int .i64))], slots := [.tmp 2], code := bd Try.f80, strict := true, pins := [0] }
/- spec.l00Src).pick -/
noncomputable def I64 : Inst := { f := 64, nt := 20, params := [((.box (.ro (.pair (.slc (.int .u8)) (.pair (.int .i64) (.pair (.int .u64) .unit))))), true), ((.ro (.int .i64)), false)], res := [(.ro (.int .i64))], slots := [.tmp 4], code := bd Try.f64, strict := true, callee := fun r i => find 0 [(3001, 80), (5003, 80)] (r * 1000 + i), pins := [0] }
/- spec.l00Src).among -/
noncomputable def I70 : Inst := { f := 70, nt := 12, params := [((.box (.ro (.pair (.slc (.int .u8)) (.pair (.int .i64) (.pair (.int .u64) .unit))))), true), ((.ro (.slc (.int .i64))), false)], res := [(.ro (.int .i64))], slots := [.tmp 4], code := bd Try.f70, strict := true, callee := fun r i => find 0 [(1004, 64)] (r * 1000 + i), pins := [0] }
/- spec.l00Min -/
noncomputable def I72 : Inst := { f := 72, nt := 10, params := [((.ro (.int .i64)), false), ((.ro (.int .i64)), false)], res := [(.ro (.int .i64))], slots := [.tmp 4], code := bd Try.f72 }
/- spec.l00Max -/
noncomputable def I71 : Inst := { f := 71, nt := 10, params := [((.ro (.int .i64)), false), ((.ro (.int .i64)), false)], res := [(.ro (.int .i64))], slots := [.tmp 4], code := bd Try.f71 }
/- spec.l00Src).one -/
noncomputable def I47 : Inst := { f := 47, nt := 9, params := [((.box (.ro (.pair (.slc (.int .u8)) (.pair (.int .i64) (.pair (.int .u64) .unit))))), true), ((.ro (.int .i64)), false)], res := [(.ro .bool)], slots := [.tmp 4], code := bd Try.f47, strict := true, callee := fun r i => find 0 [(1002, 64)] (r * 1000 + i), pins := [0] }
/- spec.l01Drawn -/
noncomputable def I45 : Inst := { f := 45, nt := 60, params := [((.box (.ro (.pair (.slc (.int .u8)) (.pair (.int .i64) (.pair (.int .u64) .unit))))), true)], res := [(.ro (.slc (.int .i16)))], slots := [.tmp 2], code := bd Try.f45, strict := true, callee := fun r i => find 0 [(1002, 70), (3001, 64), (5001, 64), (6001, 64), (9003, 72), (9004, 71), (11001, 47)] (r * 1000 + i), loops := fun b => find [] [(2, [.own 0 (.box (.ro (.pair (.slc (.int .u8)) (.pair (.int .i64) (.pair (.int .u64) .unit))))), .own 3 (.ro (.int .i64)), .own 4 (.row false (.int .i16)), .own 5 (.ro (.int .i64)), .own 6 (.ro (.int .i64)), .own 7 (.ro (.int .i64))]), (0, [.own 0 (.box (.ro (.pair (.slc (.int .u8)) (.pair (.int .i64) (.pair (.int .u64) .unit))))), .own 3 (.ro (.int .i64)), .own 4 (.row false (.int .i16)), .own 5 (.ro (.int .i64))])] b, pins := [0], deep := fun r i => find false [(1001, true), (2000, true), (10003, true), (10004, true), (14000, true), (14002, true), (14004, true)] (r * 1000 + i), frz := fun r i => find false [(1001, true)] (r * 1000 + i), ice := fun r i => find [] [(12003, [47, 4, 15])] (r * 1000 + i) }
/- spec.P6Cam -/
noncomputable def I15 : Inst := { f := 15, nt := 6, params := [((.ro (.slc (.int .u8))), false)], res := [(.ro (.slc (.int .i16)))], slots := [.tmp 2], code := bd Try.f15, strict := true, callee := fun r i => find 0 [(1001, 46), (1002, 45)] (r * 1000 + i) }
/- spec.P6Held -/
noncomputable def I16 : Inst := { f := 16, nt := 27, params := [((.ro (.slc (.int .u8))), false), ((.ro (.slc (.int .i16))), false)], res := [(.row false .bool)], slots := [.tmp 4], code := bd Try.f16, callee := fun r i => find 0 [(1001, 46), (6003, 47)] (r * 1000 + i), loops := fun b => find [] [(0, [.own 1 (.ro (.slc (.int .i16))), .own 5 (.box (.ro (.pair (.slc (.int .u8)) (.pair (.int .i64) (.pair (.int .u64) .unit))))), .own 6 (.row false .bool), .own 7 (.ro (.int .i64))])] b, deep := fun r i => find false [(2002, true)] (r * 1000 + i) }
/- spec.l00In -/
noncomputable def I59 : Inst := { f := 59, nt := 15, params := [((.ro (.int .i64)), false), ((.ro (.int .i64)), false), ((.ro (.int .i64)), false)], res := [(.ro .bool)], slots := [.tmp 6], code := bd Try.f59 }
/- spec.l01Steps -/
noncomputable def I54 : Inst := { f := 54, nt := 5, params := [((.ro (.int .i64)), false)], res := [(.ro .bool)], slots := [.tmp 2], code := bd Try.f54, callee := fun r i => find 0 [(1001, 59)] (r * 1000 + i) }
/- spec.l01Lift -/
noncomputable def I73 : Inst := { f := 73, nt := 5, params := [((.ro (.int .i64)), false)], res := [(.ro .bool)], slots := [.tmp 2], code := bd Try.f73, callee := fun r i => find 0 [(1001, 59)] (r * 1000 + i) }
/- spec.l01Ok -/
noncomputable def I48 : Inst := { f := 48, nt := 21, params := [((.ro (.slc (.int .i16))), false)], res := [(.ro .bool)], slots := [.tmp 2], code := bd Try.f48, callee := fun r i => find 0 [(1002, 54), (6005, 73)] (r * 1000 + i), loops := fun b => find [] [(0, [.own 0 (.ro (.slc (.int .i16))), .own 3 (.ro (.int .i64))])] b }
/- spec.l01Range -/
noncomputable def I49 : Inst := { f := 49, nt := 34, params := [((.ro (.slc (.int .i16))), false)], res := [(.ro (.int .i64)), (.ro (.int .i64))], slots := [.tmp 2, .tmp 3], code := bd Try.f49, callee := fun r i => find 0 [(6006, 72), (7006, 71)] (r * 1000 + i), loops := fun b => find [] [(0, [.own 0 (.ro (.slc (.int .i16))), .own 4 (.ro (.int .i64)), .own 5 (.ro (.int .i64)), .own 6 (.ro (.int .i64))])] b }
/- spec.RangeOf -/
noncomputable def I17 : Inst := { f := 17, nt := 17, params := [((.ro (.slc (.int .i16))), false)], res := [(.ro (.int .i64)), (.ro (.int .i64)), (.ro (.int .i64))], slots := [.tmp 2, .tmp 3, .tmp 4], code := bd Try.f17, callee := fun r i => find 0 [(1001, 48), (3001, 49)] (r * 1000 + i) }
/- impl.Cam).steps -/
noncomputable def I44 : Inst := { f := 44, nt := 5, params := [((.ro (.slc (.int .i16))), false)], res := [(.ro (.int .i64))], slots := [.tmp 2], code := bd Try.f44 }
/- impl.inRange -/
noncomputable def I56 : Inst := { f := 56, nt := 15, params := [((.ro (.int .i64)), false), ((.ro (.int .i64)), false), ((.ro (.int .i64)), false)], res := [(.ro .bool)], slots := [.tmp 6], code := bd Try.f56 }
/- impl.isSteps -/
noncomputable def I53 : Inst := { f := 53, nt := 5, params := [((.ro (.int .i64)), false)], res := [(.ro .bool)], slots := [.tmp 2], code := bd Try.f53, callee := fun r i => find 0 [(1001, 56)] (r * 1000 + i) }
/- impl.isLift -/
noncomputable def I78 : Inst := { f := 78, nt := 5, params := [((.ro (.int .i64)), false)], res := [(.ro .bool)], slots := [.tmp 2], code := bd Try.f78, callee := fun r i => find 0 [(1001, 56)] (r * 1000 + i) }
/- impl.ValidCam$1 -/
noncomputable def I77 : Inst := { f := 77, nt := 7, params := [((.ro (.int .i16)), false)], res := [(.ro .bool)], slots := [.tmp 2], code := bd Try.f77, callee := fun r i => find 0 [(1002, 78)] (r * 1000 + i) }
/- impl.Cam,int16] -/
noncomputable def I83 : Inst := { f := 83, nt := 19, params := [((.ro (.slc (.int .i16))), false), ((.clo 77 (.ro .unit) (.ro .unit)), false)], res := [(.ro (.int .i64))], slots := [.tmp 4], code := bd Try.f83, callee := fun r i => find 0 [(4005, 77)] (r * 1000 + i), loops := fun b => find [] [(0, [.own 0 (.ro (.slc (.int .i16))), .own 1 (.clo 77 (.ro .unit) (.ro .unit)), .own 7 (.ro (.int .i64)), .own 8 (.ro (.int .i64))])] b }
/- impl.Cam,int16] -/
noncomputable def I76 : Inst := { f := 76, nt := 9, params := [((.ro (.slc (.int .i16))), false), ((.clo 77 (.ro .unit) (.ro .unit)), false)], res := [(.ro .bool)], slots := [.tmp 4], code := bd Try.f76, callee := fun r i => find 0 [(1002, 83)] (r * 1000 + i) }
/- impl.ValidCam -/
noncomputable def I55 : Inst := { f := 55, nt := 11, params := [((.ro (.slc (.int .i16))), false)], res := [(.ro .bool)], slots := [.tmp 2], code := bd Try.f55, callee := fun r i => find 0 [(1001, 44), (1002, 53), (1005, 76)] (r * 1000 + i) }
/- impl.codeIf -/
noncomputable def I37 : Inst := { f := 37, nt := 7, params := [((.ro .bool), false), ((.ro (.int .i64)), false)], res := [(.ro (.int .i64))], slots := [.tmp 4], code := bd Try.f37 }
/- impl.firstCode -/
noncomputable def I35 : Inst := { f := 35, nt := 15, params := [((.ro (.slc (.int .i64))), false)], res := [(.ro (.int .i64))], slots := [.tmp 2], code := bd Try.f35, loops := fun b => find [] [(0, [.own 5 (.ro (.slc (.int .i64))), .own 6 (.ro (.int .i64)), .own 7 (.ro (.int .i64))])] b }
/- impl.heldCode -/
noncomputable def I36 : Inst := { f := 36, nt := 17, params := [((.ro (.slc (.int .i16))), false), ((.ro (.slc .bool)), false)], res := [(.ro (.int .i64))], slots := [.tmp 4], code := bd Try.f36, callee := fun r i => find 0 [(1001, 55), (1003, 37), (1009, 37), (1011, 35)] (r * 1000 + i), deep := fun r i => find false [(1010, true)] (r * 1000 + i), frz := fun r i => find false [(1010, true)] (r * 1000 + i) }
/- impl.floorDiv -/
noncomputable def I69 : Inst := { f := 69, nt := 16, params := [((.ro (.int .i64)), false), ((.ro (.int .i64)), false)], res := [(.ro (.int .i64))], slots := [.tmp 4], code := bd Try.f69 }
/- impl.mod -/
noncomputable def I43 : Inst := { f := 43, nt := 12, params := [((.ro (.int .i64)), false), ((.ro (.int .i64)), false)], res := [(.ro (.int .i64))], slots := [.tmp 4], code := bd Try.f43, callee := fun r i => find 0 [(1004, 69)] (r * 1000 + i) }
/- impl.Cam).at -/
noncomputable def I41 : Inst := { f := 41, nt := 13, params := [((.ro (.slc (.int .i16))), false), ((.ro (.int .i64)), false)], res := [(.ro (.int .i64))], slots := [.tmp 4], code := bd Try.f41, callee := fun r i => find 0 [(1003, 44), (1004, 43)] (r * 1000 + i) }
/- impl.nearest -/
noncomputable def I42 : Inst := { f := 42, nt := 12, params := [((.ro (.int .i64)), false), ((.ro (.int .i64)), false)], res := [(.ro (.int .i64))], slots := [.tmp 4], code := bd Try.f42, callee := fun r i => find 0 [(1006, 69)] (r * 1000 + i) }
/- impl.Cam).round$1 -/
noncomputable def I75 : Inst := { f := 75, nt := 27, params := [((.ro (.int .i64)), false), ((.box (.ro (.slc (.int .i16)))), true), ((.box (.ro (.slc .bool))), true)], res := [(.ro (.int .i64))], slots := [.tmp 4], code := bd Try.f75, strict := true, callee := fun r i => find 0 [(1002, 41), (4003, 41), (4010, 41), (4012, 42)] (r * 1000 + i), pins := [1, 2] }
/- impl.camOf -/
noncomputable def I74 : Inst := { f := 74, nt := 27, params := [((.ro (.int .i64)), false), ((.clo 75 (.ro .unit) (.pr (.box (.ro (.slc (.int .i16)))) (.pr (.box (.ro (.slc .bool))) (.ro .unit)))), true)], res := [(.row false (.int .i16)), (.ro (.int .i64))], slots := [.tmp 4, .tmp 5], code := bd Try.f74, strict := true, callee := fun r i => find 0 [(5002, 75), (6001, 78)] (r * 1000 + i), loops := fun b => find [] [(0, [.own 1 (.clo 75 (.ro .unit) (.pr (.box (.ro (.slc (.int .i16)))) (.pr (.box (.ro (.slc .bool))) (.ro .unit)))), .own 6 (.row false (.int .i16)), .own 10 (.ro (.int .i64)), .own 11 (.ro (.int .i64))])] b, pins := [1], deep := fun r i => find false [(1000, true), (8003, true), (8004, true)] (r * 1000 + i) }
/- impl.Cam).round -/
noncomputable def I50 : Inst := { f := 50, nt := 15, params := [((.ro (.slc (.int .i16))), false), ((.ro (.slc .bool)), false)], res := [(.row false (.int .i16))], slots := [.tmp 4], code := bd Try.f50, callee := fun r i => find 0 [(1001, 44), (1003, 74)] (r * 1000 + i) }
/- impl.SmoothRound -/
noncomputable def I18 : Inst := { f := 18, nt := 16, params := [((.ro (.slc (.int .i16))), false), ((.ro (.slc .bool)), false)], res := [(.row false (.int .i16)), (.ro (.int .i64))], slots := [.tmp 4, .tmp 5], code := bd Try.f18, callee := fun r i => find 0 [(1002, 36), (4002, 50)] (r * 1000 + i) }
/- spec.l05Held -/
noncomputable def I31 : Inst := { f := 31, nt := 13, params := [((.ro (.slc (.int .i16))), false), ((.ro (.slc .bool)), false)], res := [(.ro (.int .i64))], slots := [.tmp 4], code := bd Try.f31, callee := fun r i => find 0 [(1001, 48)] (r * 1000 + i) }
/- spec.l01At -/
noncomputable def I33 : Inst := { f := 33, nt := 19, params := [((.ro (.slc (.int .i16))), false), ((.ro (.int .i64)), false)], res := [(.ro (.int .i64))], slots := [.tmp 4], code := bd Try.f33 }
/- spec.l01Near -/
noncomputable def I34 : Inst := { f := 34, nt := 23, params := [((.ro (.int .i64)), false), ((.ro (.int .i64)), false)], res := [(.ro (.int .i64))], slots := [.tmp 4], code := bd Try.f34 }
/- spec.l05Round -/
noncomputable def I51 : Inst := { f := 51, nt := 41, params := [((.ro (.slc (.int .i16))), false), ((.ro (.slc .bool)), false)], res := [(.row false (.int .i16))], slots := [.tmp 4], code := bd Try.f51, callee := fun r i => find 0 [(6005, 33), (6008, 33), (6014, 33), (6016, 34)] (r * 1000 + i), loops := fun b => find [] [(0, [.own 0 (.ro (.slc (.int .i16))), .own 1 (.ro (.slc .bool)), .own 5 (.row false (.int .i16)), .own 6 (.ro (.int .i64))])] b, deep := fun r i => find false [(1000, true), (1002, true)] (r * 1000 + i) }
/- spec.SmoothRound -/
noncomputable def I19 : Inst := { f := 19, nt := 17, params := [((.ro (.slc (.int .i16))), false), ((.ro (.slc .bool)), false)], res := [(.row false (.int .i16)), (.ro (.int .i64))], slots := [.tmp 4, .tmp 5], code := bd Try.f19, callee := fun r i => find 0 [(1002, 31), (4002, 51)] (r * 1000 + i), deep := fun r i => find false [(3000, true)] (r * 1000 + i) }
/- slices.Index[[]bool,bool] -/
noncomputable def I66 : Inst := { f := 66, nt := 19, params := [((.ro (.slc .bool)), false), ((.ro .bool), false)], res := [(.ro (.int .i64))], slots := [.tmp 4], code := bd Try.f66, loops := fun b => find [] [(0, [.own 0 (.ro (.slc .bool)), .own 1 (.ro .bool), .own 7 (.ro (.int .i64)), .own 8 (.ro (.int .i64))])] b }
/- slices.Contains[[]bool,bool] -/
noncomputable def I38 : Inst := { f := 38, nt := 9, params := [((.ro (.slc .bool)), false), ((.ro .bool), false)], res := [(.ro .bool)], slots := [.tmp 4], code := bd Try.f38, callee := fun r i => find 0 [(1002, 66)] (r * 1000 + i) }
/- impl.Cam,int16] -/
noncomputable def I39 : Inst := { f := 39, nt := 8, params := [((.ro (.slc (.int .i16))), false)], res := [(.row false (.int .i16))], slots := [.tmp 2], code := bd Try.f39 }
/- slices.SortFunc[[][2]int64,[2]int64]: told by its contract -/
noncomputable def I67 : Inst := { f := 67, nt := 0, params := [((.row false (.arr 2 (.int .i64))), true), ((.clo 68 (.ro .unit) (.ro .unit)), false)], res := [], slots := [], code := .skip, ext := some (fun x => if sortOk x.1 = true then some ((), (sortK x.1, ())) else none) }
/- impl.freeStretches -/
noncomputable def I40 : Inst := { f := 40, nt := 61, params := [((.ro (.slc .bool)), false)], res := [(.row false (.arr 2 (.int .i64)))], slots := [.tmp 2], code := bd Try.f40, callee := fun r i => find 0 [(2001, 66), (14001, 67)] (r * 1000 + i), loops := fun b => find [] [(2, [.own 0 (.ro (.slc .bool)), .own 3 (.ro (.int .i64)), .own 5 (.row false (.arr 2 (.int .i64))), .own 6 (.ro (.int .i64)), .own 7 (.ro (.int .i64)), .own 8 (.ro (.int .i64))]), (0, [.own 0 (.ro (.slc .bool)), .own 3 (.ro (.int .i64)), .own 5 (.row false (.arr 2 (.int .i64))), .own 6 (.ro (.int .i64)), .own 7 (.ro (.int .i64))])] b, deep := fun r i => find false [(4002, true), (5000, true), (12008, true), (12009, true)] (r * 1000 + i) }
/- impl.FillEven -/
noncomputable def I8 : Inst := { f := 8, nt := 79, params := [((.ro (.slc (.int .i16))), false), ((.ro (.slc .bool)), false)], res := [(.row false (.int .i16)), (.ro (.int .i64))], slots := [.tmp 4, .tmp 5], code := bd Try.f8, callee := fun r i => find 0 [(1002, 36), (1004, 38), (1006, 37), (1008, 35), (4001, 39), (5001, 40), (9003, 41), (9008, 41), (13006, 44), (13007, 43), (13020, 42)] (r * 1000 + i), loops := fun b => find [] [(2, [.own 0 (.ro (.slc (.int .i16))), .own 7 (.row false (.int .i16)), .own 10 (.ro (.int .i64)), .own 11 (.ro (.int .i64)), .own 12 (.ro (.int .i64)), .own 13 (.ro (.int .i64)), .own 14 (.ro (.int .i64)), .own 30 (.ro (.slc (.arr 2 (.int .i64)))), .own 31 (.ro (.int .i64)), .own 32 (.ro (.int .i64))]), (0, [.own 0 (.ro (.slc (.int .i16))), .own 7 (.row false (.int .i16)), .own 30 (.ro (.slc (.arr 2 (.int .i64)))), .own 31 (.ro (.int .i64)), .own 32 (.ro (.int .i64))])] b, deep := fun r i => find false [(1007, true)] (r * 1000 + i), frz := fun r i => find false [(1007, true)] (r * 1000 + i) }
/- spec.l05Free -/
noncomputable def I32 : Inst := { f := 32, nt := 66, params := [((.ro (.slc .bool)), false)], res := [(.row false (.arr 2 (.int .i64)))], slots := [.tmp 2], code := bd Try.f32, loops := fun b => find [] [(2, [.own 0 (.ro (.slc .bool)), .own 3 (.ro (.int .i64)), .own 4 (.row false (.arr 2 (.int .i64))), .own 5 (.ro (.int .i64)), .own 6 (.ro (.int .i64))]), (0, [.own 0 (.ro (.slc .bool)), .own 3 (.ro (.int .i64)), .own 4 (.row false (.arr 2 (.int .i64))), .own 5 (.ro (.int .i64))])] b, deep := fun r i => find false [(2000, true), (10004, true), (10005, true), (12002, true)] (r * 1000 + i) }
/- spec.FillEven -/
noncomputable def I5 : Inst := { f := 5, nt := 92, params := [((.ro (.slc (.int .i16))), false), ((.ro (.slc .bool)), false)], res := [(.row false (.int .i16)), (.ro (.int .i64))], slots := [.tmp 4, .tmp 5], code := bd Try.f5, callee := fun r i => find 0 [(1002, 31), (5001, 32), (14003, 33), (15004, 33), (19015, 34)] (r * 1000 + i), loops := fun b => find [] [(2, [.own 0 (.ro (.slc (.int .i16))), .own 7 (.ro (.int .i64)), .own 8 (.ro (.slc (.arr 2 (.int .i64)))), .own 9 (.row false (.int .i16)), .own 10 (.ro (.int .i64)), .own 11 (.ro (.int .i64)), .own 12 (.ro (.int .i64)), .own 13 (.ro (.int .i64)), .own 14 (.ro (.int .i64)), .own 15 (.ro (.int .i64))]), (0, [.own 0 (.ro (.slc (.int .i16))), .own 7 (.ro (.int .i64)), .own 8 (.ro (.slc (.arr 2 (.int .i64)))), .own 9 (.row false (.int .i16)), .own 10 (.ro (.int .i64))])] b, deep := fun r i => find false [(3000, true), (7000, true), (8000, true), (8002, true)] (r * 1000 + i) }
/- spec.l01Same -/
noncomputable def I52 : Inst := { f := 52, nt := 26, params := [((.ro (.slc (.int .i16))), false), ((.ro (.slc (.int .i16))), false)], res := [(.ro .bool)], slots := [.tmp 4], code := bd Try.f52, loops := fun b => find [] [(0, [.own 0 (.ro (.slc (.int .i16))), .own 1 (.ro (.slc (.int .i16))), .own 5 (.ro (.int .i64))])] b }
/- spec.SameCam -/
noncomputable def I20 : Inst := { f := 20, nt := 8, params := [((.ro (.slc (.int .i16))), false), ((.ro (.slc (.int .i16))), false)], res := [(.ro .bool)], slots := [.tmp 4], code := bd Try.f20, callee := fun r i => find 0 [(1002, 52)] (r * 1000 + i) }
/- impl.FreeStretches -/
noncomputable def I21 : Inst := { f := 21, nt := 10, params := [((.ro (.slc .bool)), false)], res := [(.row false (.arr 2 (.int .i64))), (.ro (.int .i64))], slots := [.tmp 2, .tmp 3], code := bd Try.f21, callee := fun r i => find 0 [(1002, 53), (3001, 40)] (r * 1000 + i) }
/- spec.FreeStretches -/
noncomputable def I22 : Inst := { f := 22, nt := 11, params := [((.ro (.slc .bool)), false)], res := [(.row false (.arr 2 (.int .i64))), (.ro (.int .i64))], slots := [.tmp 2, .tmp 3], code := bd Try.f22, callee := fun r i => find 0 [(1002, 54), (3001, 32)] (r * 1000 + i), deep := fun r i => find false [(2000, true)] (r * 1000 + i) }
/- impl.Cam).change -/
noncomputable def I79 : Inst := { f := 79, nt := 13, params := [((.ro (.slc (.int .i16))), false), ((.ro (.int .i64)), false)], res := [(.ro (.int .i64))], slots := [.tmp 4], code := bd Try.f79, callee := fun r i => find 0 [(1003, 41), (1006, 41)] (r * 1000 + i) }
/- impl.Cam).dwells -/
noncomputable def I57 : Inst := { f := 57, nt := 27, params := [((.ro (.slc (.int .i16))), false)], res := [(.row false .bool)], slots := [.tmp 2], code := bd Try.f57, callee := fun r i => find 0 [(2001, 44), (5003, 79), (5009, 79)] (r * 1000 + i), loops := fun b => find [] [(0, [.own 0 (.ro (.slc (.int .i16))), .own 3 (.row false .bool), .own 7 (.ro (.int .i64)), .own 8 (.ro (.int .i64))])] b, deep := fun r i => find false [(1000, true), (5012, true), (5013, true)] (r * 1000 + i) }
/- impl.Cam,int16] -/
noncomputable def I58 : Inst := { f := 58, nt := 26, params := [((.ro (.slc (.int .i16))), false), ((.ro (.slc (.int .i16))), false)], res := [(.ro .bool)], slots := [.tmp 4], code := bd Try.f58, loops := fun b => find [] [(0, [.own 0 (.ro (.slc (.int .i16))), .own 1 (.ro (.slc (.int .i16))), .own 12 (.ro (.int .i64)), .own 13 (.ro (.int .i64))])] b }
/- impl.SmoothCam -/
noncomputable def I23 : Inst := { f := 23, nt := 43, params := [((.ro (.slc (.int .i16))), false), ((.ro (.int .i64)), false)], res := [(.ro (.slc (.int .i16))), (.ro (.int .i64)), (.ro (.int .i64))], slots := [.tmp 4, .tmp 5, .tmp 6], code := bd Try.f23, strict := true, callee := fun r i => find 0 [(1001, 55), (1003, 37), (1005, 56), (1007, 37), (1009, 35), (4001, 57), (4003, 39), (6002, 50), (7002, 58)] (r * 1000 + i), loops := fun b => find [] [(0, [.own 1 (.ro (.int .i64)), .own 8 (.ro (.slc .bool)), .own 9 (.ro (.slc (.int .i16))), .own 10 (.ro (.int .i64))])] b, frz := fun r i => find false [(1008, true)] (r * 1000 + i) }
/- spec.l01Dwells -/
noncomputable def I60 : Inst := { f := 60, nt := 34, params := [((.ro (.slc (.int .i16))), false)], res := [(.row false .bool)], slots := [.tmp 2], code := bd Try.f60, callee := fun r i => find 0 [(5004, 33), (5007, 33), (5012, 33), (5016, 33)] (r * 1000 + i), loops := fun b => find [] [(0, [.own 0 (.ro (.slc (.int .i16))), .own 3 (.row false .bool), .own 4 (.ro (.int .i64))])] b, deep := fun r i => find false [(1000, true), (5019, true), (5020, true)] (r * 1000 + i) }
/- spec.SmoothCam -/
noncomputable def I24 : Inst := { f := 24, nt := 38, params := [((.ro (.slc (.int .i16))), false), ((.ro (.int .i64)), false)], res := [(.ro (.slc (.int .i16))), (.ro (.int .i64)), (.ro (.int .i64))], slots := [.tmp 4, .tmp 5, .tmp 6], code := bd Try.f24, strict := true, callee := fun r i => find 0 [(1001, 48), (3001, 59), (5001, 60), (9002, 51), (10002, 52)] (r * 1000 + i), loops := fun b => find [] [(0, [.own 1 (.ro (.int .i64)), .own 7 (.ro (.slc .bool)), .own 8 (.ro (.slc (.int .i16))), .own 9 (.ro (.int .i64))])] b }
/- impl.DwellsOf -/
noncomputable def I25 : Inst := { f := 25, nt := 9, params := [((.ro (.slc (.int .i16))), false)], res := [(.row false .bool), (.ro (.int .i64))], slots := [.tmp 2, .tmp 3], code := bd Try.f25, callee := fun r i => find 0 [(1001, 55), (3001, 57)] (r * 1000 + i) }
/- spec.l01Bends -/
noncomputable def I61 : Inst := { f := 61, nt := 30, params := [((.ro (.slc (.int .i16))), false)], res := [(.row false (.int .i64))], slots := [.tmp 2], code := bd Try.f61, callee := fun r i => find 0 [(5004, 33), (5007, 33), (5013, 33)] (r * 1000 + i), loops := fun b => find [] [(0, [.own 0 (.ro (.slc (.int .i16))), .own 3 (.row false (.int .i64)), .own 4 (.ro (.int .i64))])] b, deep := fun r i => find false [(1000, true), (5015, true), (5016, true)] (r * 1000 + i) }
/- spec.BendsOf -/
noncomputable def I26 : Inst := { f := 26, nt := 10, params := [((.ro (.slc (.int .i16))), false)], res := [(.row false (.int .i64)), (.ro (.int .i64))], slots := [.tmp 2, .tmp 3], code := bd Try.f26, callee := fun r i => find 0 [(1001, 48), (3001, 61)] (r * 1000 + i), deep := fun r i => find false [(2000, true)] (r * 1000 + i) }
/- impl.Cam).bend -/
noncomputable def I63 : Inst := { f := 63, nt := 13, params := [((.ro (.slc (.int .i16))), false), ((.ro (.int .i64)), false)], res := [(.ro (.int .i64))], slots := [.tmp 4], code := bd Try.f63, callee := fun r i => find 0 [(1002, 79), (1006, 79)] (r * 1000 + i) }
/- impl.Cam).numbers -/
noncomputable def I62 : Inst := { f := 62, nt := 21, params := [((.ro (.slc (.int .i16))), false), ((.clo 63 (.pr (.ro (.slc (.int .i16))) (.ro .unit)) (.ro .unit)), true)], res := [(.row false (.int .i64))], slots := [.tmp 4], code := bd Try.f62, strict := true, callee := fun r i => find 0 [(2001, 44), (5003, 63)] (r * 1000 + i), loops := fun b => find [] [(0, [.own 1 (.clo 63 (.pr (.ro (.slc (.int .i16))) (.ro .unit)) (.ro .unit)), .own 5 (.row false (.int .i64)), .own 9 (.ro (.int .i64)), .own 10 (.ro (.int .i64))])] b, pins := [1], deep := fun r i => find false [(1000, true), (5004, true), (5005, true)] (r * 1000 + i) }
/- impl.SquaresOf -/
noncomputable def I27 : Inst := { f := 27, nt := 26, params := [((.ro (.slc (.int .i16))), false)], res := [(.ro (.int .i64)), (.ro (.int .i64))], slots := [.tmp 2, .tmp 3], code := bd Try.f27, callee := fun r i => find 0 [(1001, 55), (4003, 62)] (r * 1000 + i), loops := fun b => find [] [(0, [.own 4 (.ro (.int .i64)), .own 13 (.ro (.slc (.int .i64))), .own 14 (.ro (.int .i64)), .own 15 (.ro (.int .i64))])] b }
/- spec.P6Pick -/
noncomputable def I28 : Inst := { f := 28, nt := 9, params := [((.ro (.slc (.int .u8))), false), ((.ro (.int .i64)), false)], res := [(.ro (.int .i64))], slots := [.tmp 4], code := bd Try.f28, callee := fun r i => find 0 [(1001, 46), (1003, 64)] (r * 1000 + i) }
/- impl.abs -/
noncomputable def I65 : Inst := { f := 65, nt := 7, params := [((.ro (.int .i64)), false)], res := [(.ro (.int .i64))], slots := [.tmp 2], code := bd Try.f65 }
/- impl.CountOver -/
noncomputable def I29 : Inst := { f := 29, nt := 39, params := [((.ro (.slc (.int .i16))), false), ((.ro (.int .i64)), false)], res := [(.ro (.int .i64)), (.ro (.int .i64))], slots := [.tmp 4, .tmp 5], code := bd Try.f29, callee := fun r i => find 0 [(1001, 55), (1003, 37), (1006, 37), (1008, 35), (5003, 62), (8001, 65)] (r * 1000 + i), loops := fun b => find [] [(0, [.own 1 (.ro (.int .i64)), .own 7 (.ro (.int .i64)), .own 25 (.ro (.slc (.int .i64))), .own 26 (.ro (.int .i64)), .own 27 (.ro (.int .i64))])] b, deep := fun r i => find false [(1007, true)] (r * 1000 + i), frz := fun r i => find false [(1007, true)] (r * 1000 + i) }
/- laws.f6size -/
noncomputable def I30 : Inst := { f := 30, nt := 7, params := [((.ro (.int .i64)), false)], res := [(.ro (.int .i64))], slots := [.tmp 2], code := bd Try.f30 }
/- laws.FnRounds -/
noncomputable def I4 : Inst := { f := 4, nt := 428, params := [((.ro (.slc (.int .u8))), false), ((.ro (.slc (.int .u8))), false)], res := [(.ro .bool)], slots := [.tmp 4], code := bd Try.f4, callee := fun r i => find 0 [(1001, 14), (1004, 14), (3001, 15), (4002, 16), (5001, 17), (6002, 18), (7002, 19), (8002, 8), (9002, 5), (10014, 20), (10029, 20), (20001, 21), (21001, 22), (36001, 23), (37001, 24), (38001, 25), (39015, 20), (46001, 26), (47001, 27), (48001, 28), (49002, 29), (56004, 30)] (r * 1000 + i), loops := fun b => find [] [(8, [.own 36 (.ro (.slc (.int .i64))), .own 37 (.ro (.int .i64)), .own 38 (.ro (.int .i64)), .own 39 (.ro (.int .i64)), .own 40 (.ro (.int .i64)), .own 41 (.ro (.int .i64)), .own 42 (.ro (.int .i64)), .own 43 (.ro (.int .i64)), .own 44 (.ro (.int .i64)), .own 45 (.ro (.int .i64))]), (6, [.own 1 (.ro (.slc (.int .u8))), .own 5 (.ro (.slc (.int .i16))), .own 30 (.ro (.slc (.int .i16))), .own 33 (.ro (.slc .bool)), .own 35 (.ro (.int .i64))]), (4, [.own 1 (.ro (.slc (.int .u8))), .own 5 (.ro (.slc (.int .i16))), .own 6 (.ro (.slc .bool)), .own 18 (.ro (.int .i64)), .own 20 (.ro (.slc (.arr 2 (.int .i64)))), .own 22 (.ro (.slc (.arr 2 (.int .i64)))), .own 24 (.ro (.int .i64)), .own 25 (.ro (.int .i64)), .own 26 (.ro (.int .i64))]), (2, [.own 1 (.ro (.slc (.int .u8))), .own 5 (.ro (.slc (.int .i16))), .own 6 (.ro (.slc .bool)), .own 18 (.ro (.int .i64)), .own 20 (.ro (.slc (.arr 2 (.int .i64)))), .own 22 (.ro (.slc (.arr 2 (.int .i64)))), .own 24 (.ro (.int .i64)), .own 25 (.ro (.int .i64))]), (0, [.own 1 (.ro (.slc (.int .u8))), .own 5 (.ro (.slc (.int .i16))), .own 6 (.ro (.slc .bool)), .own 7 (.ro (.int .i64)), .own 8 (.ro (.int .i64)), .own 12 (.ro (.slc (.int .i16))), .own 16 (.ro (.slc (.int .i16))), .own 18 (.ro (.int .i64)), .own 19 (.ro (.int .i64))])] b }
noncomputable def CL : List (Nat × Inst) := [(14, I14), (46, I46), (80, I80), (64, I64), (70, I70), (72, I72), (71, I71), (47, I47), (45, I45), (15, I15), (16, I16), (59, I59), (54, I54), (73, I73), (48, I48), (49, I49), (17, I17), (44, I44), (56, I56), (53, I53), (78, I78), (77, I77), (83, I83), (76, I76), (55, I55), (37, I37), (35, I35), (36, I36), (69, I69), (43, I43), (41, I41), (42, I42), (75, I75), (74, I74), (50, I50), (18, I18), (31, I31), (33, I33), (34, I34), (51, I51), (19, I19), (66, I66), (38, I38), (39, I39), (67, I67), (40, I40), (8, I8), (32, I32), (5, I5), (52, I52), (20, I20), (21, I21), (22, I22), (79, I79), (57, I57), (58, I58), (23, I23), (60, I60), (24, I24), (25, I25), (61, I61), (26, I26), (63, I63), (62, I62), (27, I27), (28, I28), (65, I65), (29, I29), (30, I30), (4, I4)]
noncomputable def C : Nat → Inst := find I14 CL
theorem tsOk : TsOk Try.prog T := tsOkB_sound (by kernel_rfl)
theorem ok14 : InstOk Try.prog I14 := instOk_of Try.func14 (by kernel_rfl) (by kernel_rfl) (by kernel_rfl) (by kernel_rfl)
theorem ok46 : InstOk Try.prog I46 := instOk_of Try.func46 (by kernel_rfl) (by kernel_rfl) (by kernel_rfl) (by kernel_rfl)
theorem ok80 : InstOk Try.prog I80 := instOk_of Try.func80 (by kernel_rfl) (by kernel_rfl) (by kernel_rfl) (by kernel_rfl)
theorem ok64 : InstOk Try.prog I64 := instOk_of Try.func64 (by kernel_rfl) (by kernel_rfl) (by kernel_rfl) (by kernel_rfl)
theorem ok70 : InstOk Try.prog I70 := instOk_of Try.func70 (by kernel_rfl) (by kernel_rfl) (by kernel_rfl) (by kernel_rfl)
theorem ok72 : InstOk Try.prog I72 := instOk_of Try.func72 (by kernel_rfl) (by kernel_rfl) (by kernel_rfl) (by kernel_rfl)
theorem ok71 : InstOk Try.prog I71 := instOk_of Try.func71 (by kernel_rfl) (by kernel_rfl) (by kernel_rfl) (by kernel_rfl)
theorem ok47 : InstOk Try.prog I47 := instOk_of Try.func47 (by kernel_rfl) (by kernel_rfl) (by kernel_rfl) (by kernel_rfl)
theorem ok45 : InstOk Try.prog I45 := instOk_of Try.func45 (by kernel_rfl) (by kernel_rfl) (by kernel_rfl) (by kernel_rfl)
theorem ok15 : InstOk Try.prog I15 := instOk_of Try.func15 (by kernel_rfl) (by kernel_rfl) (by kernel_rfl) (by kernel_rfl)
theorem ok16 : InstOk Try.prog I16 := instOk_of Try.func16 (by kernel_rfl) (by kernel_rfl) (by kernel_rfl) (by kernel_rfl)
theorem ok59 : InstOk Try.prog I59 := instOk_of Try.func59 (by kernel_rfl) (by kernel_rfl) (by kernel_rfl) (by kernel_rfl)
theorem ok54 : InstOk Try.prog I54 := instOk_of Try.func54 (by kernel_rfl) (by kernel_rfl) (by kernel_rfl) (by kernel_rfl)
theorem ok73 : InstOk Try.prog I73 := instOk_of Try.func73 (by kernel_rfl) (by kernel_rfl) (by kernel_rfl) (by kernel_rfl)
theorem ok48 : InstOk Try.prog I48 := instOk_of Try.func48 (by kernel_rfl) (by kernel_rfl) (by kernel_rfl) (by kernel_rfl)
theorem ok49 : InstOk Try.prog I49 := instOk_of Try.func49 (by kernel_rfl) (by kernel_rfl) (by kernel_rfl) (by kernel_rfl)
theorem ok17 : InstOk Try.prog I17 := instOk_of Try.func17 (by kernel_rfl) (by kernel_rfl) (by kernel_rfl) (by kernel_rfl)
theorem ok44 : InstOk Try.prog I44 := instOk_of Try.func44 (by kernel_rfl) (by kernel_rfl) (by kernel_rfl) (by kernel_rfl)
theorem ok56 : InstOk Try.prog I56 := instOk_of Try.func56 (by kernel_rfl) (by kernel_rfl) (by kernel_rfl) (by kernel_rfl)
theorem ok53 : InstOk Try.prog I53 := instOk_of Try.func53 (by kernel_rfl) (by kernel_rfl) (by kernel_rfl) (by kernel_rfl)
theorem ok78 : InstOk Try.prog I78 := instOk_of Try.func78 (by kernel_rfl) (by kernel_rfl) (by kernel_rfl) (by kernel_rfl)
theorem ok77 : InstOk Try.prog I77 := instOk_of Try.func77 (by kernel_rfl) (by kernel_rfl) (by kernel_rfl) (by kernel_rfl)
theorem ok83 : InstOk Try.prog I83 := instOk_of Try.func83 (by kernel_rfl) (by kernel_rfl) (by kernel_rfl) (by kernel_rfl)
theorem ok76 : InstOk Try.prog I76 := instOk_of Try.func76 (by kernel_rfl) (by kernel_rfl) (by kernel_rfl) (by kernel_rfl)
theorem ok55 : InstOk Try.prog I55 := instOk_of Try.func55 (by kernel_rfl) (by kernel_rfl) (by kernel_rfl) (by kernel_rfl)
theorem ok37 : InstOk Try.prog I37 := instOk_of Try.func37 (by kernel_rfl) (by kernel_rfl) (by kernel_rfl) (by kernel_rfl)
theorem ok35 : InstOk Try.prog I35 := instOk_of Try.func35 (by kernel_rfl) (by kernel_rfl) (by kernel_rfl) (by kernel_rfl)
theorem ok36 : InstOk Try.prog I36 := instOk_of Try.func36 (by kernel_rfl) (by kernel_rfl) (by kernel_rfl) (by kernel_rfl)
theorem ok69 : InstOk Try.prog I69 := instOk_of Try.func69 (by kernel_rfl) (by kernel_rfl) (by kernel_rfl) (by kernel_rfl)
theorem ok43 : InstOk Try.prog I43 := instOk_of Try.func43 (by kernel_rfl) (by kernel_rfl) (by kernel_rfl) (by kernel_rfl)
theorem ok41 : InstOk Try.prog I41 := instOk_of Try.func41 (by kernel_rfl) (by kernel_rfl) (by kernel_rfl) (by kernel_rfl)
theorem ok42 : InstOk Try.prog I42 := instOk_of Try.func42 (by kernel_rfl) (by kernel_rfl) (by kernel_rfl) (by kernel_rfl)
theorem ok75 : InstOk Try.prog I75 := instOk_of Try.func75 (by kernel_rfl) (by kernel_rfl) (by kernel_rfl) (by kernel_rfl)
theorem ok74 : InstOk Try.prog I74 := instOk_of Try.func74 (by kernel_rfl) (by kernel_rfl) (by kernel_rfl) (by kernel_rfl)
theorem ok50 : InstOk Try.prog I50 := instOk_of Try.func50 (by kernel_rfl) (by kernel_rfl) (by kernel_rfl) (by kernel_rfl)
theorem ok18 : InstOk Try.prog I18 := instOk_of Try.func18 (by kernel_rfl) (by kernel_rfl) (by kernel_rfl) (by kernel_rfl)
theorem ok31 : InstOk Try.prog I31 := instOk_of Try.func31 (by kernel_rfl) (by kernel_rfl) (by kernel_rfl) (by kernel_rfl)
theorem ok33 : InstOk Try.prog I33 := instOk_of Try.func33 (by kernel_rfl) (by kernel_rfl) (by kernel_rfl) (by kernel_rfl)
theorem ok34 : InstOk Try.prog I34 := instOk_of Try.func34 (by kernel_rfl) (by kernel_rfl) (by kernel_rfl) (by kernel_rfl)
theorem ok51 : InstOk Try.prog I51 := instOk_of Try.func51 (by kernel_rfl) (by kernel_rfl) (by kernel_rfl) (by kernel_rfl)
theorem ok19 : InstOk Try.prog I19 := instOk_of Try.func19 (by kernel_rfl) (by kernel_rfl) (by kernel_rfl) (by kernel_rfl)
theorem ok66 : InstOk Try.prog I66 := instOk_of Try.func66 (by kernel_rfl) (by kernel_rfl) (by kernel_rfl) (by kernel_rfl)
theorem ok38 : InstOk Try.prog I38 := instOk_of Try.func38 (by kernel_rfl) (by kernel_rfl) (by kernel_rfl) (by kernel_rfl)
theorem ok39 : InstOk Try.prog I39 := instOk_of Try.func39 (by kernel_rfl) (by kernel_rfl) (by kernel_rfl) (by kernel_rfl)
theorem ok67 : InstOk Try.prog I67 := instOk_ext rfl
theorem ok40 : InstOk Try.prog I40 := instOk_of Try.func40 (by kernel_rfl) (by kernel_rfl) (by kernel_rfl) (by kernel_rfl)
theorem ok8 : InstOk Try.prog I8 := instOk_of Try.func8 (by kernel_rfl) (by kernel_rfl) (by kernel_rfl) (by kernel_rfl)
theorem ok32 : InstOk Try.prog I32 := instOk_of Try.func32 (by kernel_rfl) (by kernel_rfl) (by kernel_rfl) (by kernel_rfl)
theorem ok5 : InstOk Try.prog I5 := instOk_of Try.func5 (by kernel_rfl) (by kernel_rfl) (by kernel_rfl) (by kernel_rfl)
theorem ok52 : InstOk Try.prog I52 := instOk_of Try.func52 (by kernel_rfl) (by kernel_rfl) (by kernel_rfl) (by kernel_rfl)
theorem ok20 : InstOk Try.prog I20 := instOk_of Try.func20 (by kernel_rfl) (by kernel_rfl) (by kernel_rfl) (by kernel_rfl)
theorem ok21 : InstOk Try.prog I21 := instOk_of Try.func21 (by kernel_rfl) (by kernel_rfl) (by kernel_rfl) (by kernel_rfl)
theorem ok22 : InstOk Try.prog I22 := instOk_of Try.func22 (by kernel_rfl) (by kernel_rfl) (by kernel_rfl) (by kernel_rfl)
theorem ok79 : InstOk Try.prog I79 := instOk_of Try.func79 (by kernel_rfl) (by kernel_rfl) (by kernel_rfl) (by kernel_rfl)
theorem ok57 : InstOk Try.prog I57 := instOk_of Try.func57 (by kernel_rfl) (by kernel_rfl) (by kernel_rfl) (by kernel_rfl)
theorem ok58 : InstOk Try.prog I58 := instOk_of Try.func58 (by kernel_rfl) (by kernel_rfl) (by kernel_rfl) (by kernel_rfl)
theorem ok23 : InstOk Try.prog I23 := instOk_of Try.func23 (by kernel_rfl) (by kernel_rfl) (by kernel_rfl) (by kernel_rfl)
theorem ok60 : InstOk Try.prog I60 := instOk_of Try.func60 (by kernel_rfl) (by kernel_rfl) (by kernel_rfl) (by kernel_rfl)
theorem ok24 : InstOk Try.prog I24 := instOk_of Try.func24 (by kernel_rfl) (by kernel_rfl) (by kernel_rfl) (by kernel_rfl)
theorem ok25 : InstOk Try.prog I25 := instOk_of Try.func25 (by kernel_rfl) (by kernel_rfl) (by kernel_rfl) (by kernel_rfl)
theorem ok61 : InstOk Try.prog I61 := instOk_of Try.func61 (by kernel_rfl) (by kernel_rfl) (by kernel_rfl) (by kernel_rfl)
theorem ok26 : InstOk Try.prog I26 := instOk_of Try.func26 (by kernel_rfl) (by kernel_rfl) (by kernel_rfl) (by kernel_rfl)
theorem ok63 : InstOk Try.prog I63 := instOk_of Try.func63 (by kernel_rfl) (by kernel_rfl) (by kernel_rfl) (by kernel_rfl)
theorem ok62 : InstOk Try.prog I62 := instOk_of Try.func62 (by kernel_rfl) (by kernel_rfl) (by kernel_rfl) (by kernel_rfl)
theorem ok27 : InstOk Try.prog I27 := instOk_of Try.func27 (by kernel_rfl) (by kernel_rfl) (by kernel_rfl) (by kernel_rfl)
theorem ok28 : InstOk Try.prog I28 := instOk_of Try.func28 (by kernel_rfl) (by kernel_rfl) (by kernel_rfl) (by kernel_rfl)
theorem ok65 : InstOk Try.prog I65 := instOk_of Try.func65 (by kernel_rfl) (by kernel_rfl) (by kernel_rfl) (by kernel_rfl)
theorem ok29 : InstOk Try.prog I29 := instOk_of Try.func29 (by kernel_rfl) (by kernel_rfl) (by kernel_rfl) (by kernel_rfl)
theorem ok30 : InstOk Try.prog I30 := instOk_of Try.func30 (by kernel_rfl) (by kernel_rfl) (by kernel_rfl) (by kernel_rfl)
theorem ok4 : InstOk Try.prog I4 := instOk_of Try.func4 (by kernel_rfl) (by kernel_rfl) (by kernel_rfl) (by kernel_rfl)
theorem insts : ∀ j, InstOk Try.prog (C j) := find_all ok14 (List.forall_mem_cons.2 ⟨ok14, List.forall_mem_cons.2 ⟨ok46, List.forall_mem_cons.2 ⟨ok80, List.forall_mem_cons.2 ⟨ok64, List.forall_mem_cons.2 ⟨ok70, List.forall_mem_cons.2 ⟨ok72, List.forall_mem_cons.2 ⟨ok71, List.forall_mem_cons.2 ⟨ok47, List.forall_mem_cons.2 ⟨ok45, List.forall_mem_cons.2 ⟨ok15, List.forall_mem_cons.2 ⟨ok16, List.forall_mem_cons.2 ⟨ok59, List.forall_mem_cons.2 ⟨ok54, List.forall_mem_cons.2 ⟨ok73, List.forall_mem_cons.2 ⟨ok48, List.forall_mem_cons.2 ⟨ok49, List.forall_mem_cons.2 ⟨ok17, List.forall_mem_cons.2 ⟨ok44, List.forall_mem_cons.2 ⟨ok56, List.forall_mem_cons.2 ⟨ok53, List.forall_mem_cons.2 ⟨ok78, List.forall_mem_cons.2 ⟨ok77, List.forall_mem_cons.2 ⟨ok83, List.forall_mem_cons.2 ⟨ok76, List.forall_mem_cons.2 ⟨ok55, List.forall_mem_cons.2 ⟨ok37, List.forall_mem_cons.2 ⟨ok35, List.forall_mem_cons.2 ⟨ok36, List.forall_mem_cons.2 ⟨ok69, List.forall_mem_cons.2 ⟨ok43, List.forall_mem_cons.2 ⟨ok41, List.forall_mem_cons.2 ⟨ok42, List.forall_mem_cons.2 ⟨ok75, List.forall_mem_cons.2 ⟨ok74, List.forall_mem_cons.2 ⟨ok50, List.forall_mem_cons.2 ⟨ok18, List.forall_mem_cons.2 ⟨ok31, List.forall_mem_cons.2 ⟨ok33, List.forall_mem_cons.2 ⟨ok34, List.forall_mem_cons.2 ⟨ok51, List.forall_mem_cons.2 ⟨ok19, List.forall_mem_cons.2 ⟨ok66, List.forall_mem_cons.2 ⟨ok38, List.forall_mem_cons.2 ⟨ok39, List.forall_mem_cons.2 ⟨ok67, List.forall_mem_cons.2 ⟨ok40, List.forall_mem_cons.2 ⟨ok8, List.forall_mem_cons.2 ⟨ok32, List.forall_mem_cons.2 ⟨ok5, List.forall_mem_cons.2 ⟨ok52, List.forall_mem_cons.2 ⟨ok20, List.forall_mem_cons.2 ⟨ok21, List.forall_mem_cons.2 ⟨ok22, List.forall_mem_cons.2 ⟨ok79, List.forall_mem_cons.2 ⟨ok57, List.forall_mem_cons.2 ⟨ok58, List.forall_mem_cons.2 ⟨ok23, List.forall_mem_cons.2 ⟨ok60, List.forall_mem_cons.2 ⟨ok24, List.forall_mem_cons.2 ⟨ok25, List.forall_mem_cons.2 ⟨ok61, List.forall_mem_cons.2 ⟨ok26, List.forall_mem_cons.2 ⟨ok63, List.forall_mem_cons.2 ⟨ok62, List.forall_mem_cons.2 ⟨ok27, List.forall_mem_cons.2 ⟨ok28, List.forall_mem_cons.2 ⟨ok65, List.forall_mem_cons.2 ⟨ok29, List.forall_mem_cons.2 ⟨ok30, List.forall_mem_cons.2 ⟨ok4, fun _ h => absurd h List.not_mem_nil⟩⟩⟩⟩⟩⟩⟩⟩⟩⟩⟩⟩⟩⟩⟩⟩⟩⟩⟩⟩⟩⟩⟩⟩⟩⟩⟩⟩⟩⟩⟩⟩⟩⟩⟩⟩⟩⟩⟩⟩⟩⟩⟩⟩⟩⟩⟩⟩⟩⟩⟩⟩⟩⟩⟩⟩⟩⟩⟩⟩⟩⟩⟩⟩⟩⟩⟩⟩⟩⟩)
theorem c67 : C 67 = I67 := by kernel_rfl
theorem exts {L : Laid} (h67 : ExtOk Try.prog L I67) : ∀ j, ExtOk Try.prog L (C j) := by
  have hC : C = find I14 CL := by delta C; with_reducible rfl
  refine fun j => exts_of (C := C) _ _ [67] hC (by kernel_rfl) (by kernel_rfl) ?_ j
  intro e he
  change ExtOk _ _ (C e)
  simp only [List.mem_cons, List.not_mem_nil, or_false] at he
  subst he; rw [c67]; exact h67
end Go.Proofs.Ytpfgohcppijiiaa.LFo
