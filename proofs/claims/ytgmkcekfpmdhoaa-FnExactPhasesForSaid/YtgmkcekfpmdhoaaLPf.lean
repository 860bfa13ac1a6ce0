/- The types and the functions that a law reaches, told for the reading (Fw). Written by a program (gen.py). -/
import Derived.Test.YtgmkcekfpmdhoaaFwC
import Derived.Test.YtgmkcekfpmdhoaaPuAll
import Derived.Test.YtgmkcekfpmdhoaaProg
namespace Go.Proofs.Ytgmkcekfpmdhoaa.LPf
open Go Go.Fw
open Go.Proofs
noncomputable def tyL : List (Nat × TI) := [(2, ⟨(.int .i64), 0, 8⟩),
  (3, ⟨(.int .i64), 0, 8⟩),
  (4, ⟨.bool, 0, 1⟩),
  (22, ⟨(.slc (.pair (.int .i16) (.pair (.int .i16) (.pair (.int .i16) (.pair (.slc (.int .i16)) .unit))))), 56, 24⟩),
  (24, ⟨(.slc (.int .i64)), 2, 24⟩),
  (27, ⟨(.slc (.pair (.int .i16) (.pair (.int .i16) (.pair (.int .i16) (.pair (.slc (.int .i16)) .unit))))), 51, 24⟩),
  (47, ⟨(.int .i16), 0, 2⟩),
  (48, ⟨(.slc (.int .i16)), 47, 24⟩),
  (49, ⟨(.slc (.int .i16)), 47, 24⟩),
  (51, ⟨(.pair (.int .i16) (.pair (.int .i16) (.pair (.int .i16) (.pair (.slc (.int .i16)) .unit)))), 0, 32⟩),
  (56, ⟨(.pair (.int .i16) (.pair (.int .i16) (.pair (.int .i16) (.pair (.slc (.int .i16)) .unit)))), 0, 32⟩),
  (60, ⟨(.ptr (.int .i64)), 0, 8⟩),
  (76, ⟨(.ptr (.pair (.int .i16) (.pair (.int .i16) (.pair (.int .i16) (.pair (.slc (.int .i16)) .unit))))), 0, 8⟩)]
noncomputable def T : Nat → Option TI := findT tyL
/- laws.szCam -/
noncomputable def I53 : Inst := { f := 53, nt := 12, params := [((.ro (.slc (.int .i16))), false), ((.ro (.int .i64)), false)], res := [(.ro (.int .i64))], slots := [.tmp 4], code := bd Try.f53 }
/- laws.szShaft -/
noncomputable def I26 : Inst := { f := 26, nt := 12, params := [((.ro (.pair (.int .i16) (.pair (.int .i16) (.pair (.int .i16) (.pair (.slc (.int .i16)) .unit))))), false), ((.ro (.int .i64)), false)], res := [(.ro (.int .i64))], slots := [.tmp 4], code := bd Try.f26, callee := fun r i => find 0 [(1003, 53)] (r * 1000 + i) }
/- laws.szShaftS -/
noncomputable def I5 : Inst := { f := 5, nt := 27, params := [((.ro (.slc (.pair (.int .i16) (.pair (.int .i16) (.pair (.int .i16) (.pair (.slc (.int .i16)) .unit)))))), false), ((.ro (.int .i64)), false)], res := [(.ro (.int .i64))], slots := [.tmp 4], code := bd Try.f5, callee := fun r i => find 0 [(7005, 26)] (r * 1000 + i), loops := fun b => find [] [(0, [.own 0 (.ro (.slc (.pair (.int .i16) (.pair (.int .i16) (.pair (.int .i16) (.pair (.slc (.int .i16)) .unit)))))), .own 1 (.ro (.int .i64)), .own 5 (.ro (.int .i64))])] b }
/- laws.toCam -/
noncomputable def I57 : Inst := { f := 57, nt := 22, params := [((.ro (.slc (.int .i16))), false)], res := [(.row false (.int .i16))], slots := [.tmp 2], code := bd Try.f57, loops := fun b => find [] [(0, [.own 0 (.ro (.slc (.int .i16))), .own 3 (.row false (.int .i16)), .own 4 (.ro (.int .i64))])] b, deep := fun r i => find false [(1002, true)] (r * 1000 + i) }
/- laws.toShaft -/
noncomputable def I31 : Inst := { f := 31, nt := 18, params := [((.ro (.pair (.int .i16) (.pair (.int .i16) (.pair (.int .i16) (.pair (.slc (.int .i16)) .unit))))), false)], res := [(.pr (.ro (.int .i16)) (.pr (.ro (.int .i16)) (.pr (.ro (.int .i16)) (.pr (.row false (.int .i16)) (.ro .unit)))))], slots := [.cell 2 51], code := bd Try.f31, callee := fun r i => find 0 [(5002, 57)] (r * 1000 + i) }
/- laws.toShaftS -/
noncomputable def I7 : Inst := { f := 7, nt := 23, params := [((.ro (.slc (.pair (.int .i16) (.pair (.int .i16) (.pair (.int .i16) (.pair (.slc (.int .i16)) .unit)))))), false)], res := [(.row true (.pair (.int .i16) (.pair (.int .i16) (.pair (.int .i16) (.pair (.slc (.int .i16)) .unit)))))], slots := [.tmp 2], code := bd Try.f7, callee := fun r i => find 0 [(5006, 31)] (r * 1000 + i), loops := fun b => find [] [(0, [.own 0 (.ro (.slc (.pair (.int .i16) (.pair (.int .i16) (.pair (.int .i16) (.pair (.slc (.int .i16)) .unit)))))), .own 3 (.row true (.pair (.int .i16) (.pair (.int .i16) (.pair (.int .i16) (.pair (.slc (.int .i16)) .unit))))), .own 4 (.ro (.int .i64))])] b, deep := fun r i => find false [(1002, true)] (r * 1000 + i) }
/- spec.l00In -/
noncomputable def I28 : Inst := { f := 28, nt := 15, params := [((.ro (.int .i64)), false), ((.ro (.int .i64)), false), ((.ro (.int .i64)), false)], res := [(.ro .bool)], slots := [.tmp 6], code := bd Try.f28 }
/- spec.l01Steps -/
noncomputable def I71 : Inst := { f := 71, nt := 5, params := [((.ro (.int .i64)), false)], res := [(.ro .bool)], slots := [.tmp 2], code := bd Try.f71, callee := fun r i => find 0 [(1001, 28)] (r * 1000 + i) }
/- spec.l01Lift -/
noncomputable def I72 : Inst := { f := 72, nt := 5, params := [((.ro (.int .i64)), false)], res := [(.ro .bool)], slots := [.tmp 2], code := bd Try.f72, callee := fun r i => find 0 [(1001, 28)] (r * 1000 + i) }
/- spec.l01Ok -/
noncomputable def I54 : Inst := { f := 54, nt := 21, params := [((.ro (.slc (.int .i16))), false)], res := [(.ro .bool)], slots := [.tmp 2], code := bd Try.f54, callee := fun r i => find 0 [(1002, 71), (6005, 72)] (r * 1000 + i), loops := fun b => find [] [(0, [.own 0 (.ro (.slc (.int .i16))), .own 3 (.ro (.int .i64))])] b }
/- spec.l04Ok -/
noncomputable def I27 : Inst := { f := 27, nt := 57, params := [((.ro (.slc (.pair (.int .i16) (.pair (.int .i16) (.pair (.int .i16) (.pair (.slc (.int .i16)) .unit)))))), false)], res := [(.ro .bool)], slots := [.tmp 2], code := bd Try.f27, callee := fun r i => find 0 [(1002, 28), (7005, 28), (7013, 28), (7021, 54), (7036, 28)] (r * 1000 + i), loops := fun b => find [] [(0, [.own 0 (.ro (.slc (.pair (.int .i16) (.pair (.int .i16) (.pair (.int .i16) (.pair (.slc (.int .i16)) .unit)))))), .own 3 (.ro (.int .i64))])] b }
/- spec.l04Index -/
noncomputable def I55 : Inst := { f := 55, nt := 10, params := [((.ro (.slc (.pair (.int .i16) (.pair (.int .i16) (.pair (.int .i16) (.pair (.slc (.int .i16)) .unit)))))), false), ((.ro (.int .i64)), false)], res := [(.ro .bool)], slots := [.tmp 4], code := bd Try.f55, callee := fun r i => find 0 [(1004, 28)] (r * 1000 + i) }
/- spec.l04Gcd -/
noncomputable def I64 : Inst := { f := 64, nt := 13, params := [((.ro (.int .i64)), false), ((.ro (.int .i64)), false)], res := [(.ro (.int .i64))], slots := [.tmp 4], code := bd Try.f64, callee := fun r i => find 0 [(3004, 64)] (r * 1000 + i) }
/- spec.l04Own -/
noncomputable def I63 : Inst := { f := 63, nt := 24, params := [((.ro (.ptr (.pair (.int .i16) (.pair (.int .i16) (.pair (.int .i16) (.pair (.slc (.int .i16)) .unit)))))), false)], res := [(.ro (.int .i64))], slots := [.tmp 2], code := bd Try.f63, callee := fun r i => find 0 [(2007, 64)] (r * 1000 + i) }
/- spec.l04All -/
noncomputable def I40 : Inst := { f := 40, nt := 30, params := [((.ro (.slc (.pair (.int .i16) (.pair (.int .i16) (.pair (.int .i16) (.pair (.slc (.int .i16)) .unit)))))), false)], res := [(.ro (.int .i64)), (.ro (.int .i64))], slots := [.tmp 2, .tmp 3], code := bd Try.f40, callee := fun r i => find 0 [(1001, 27), (7003, 63), (8003, 64)] (r * 1000 + i), loops := fun b => find [] [(0, [.own 0 (.ro (.slc (.pair (.int .i16) (.pair (.int .i16) (.pair (.int .i16) (.pair (.slc (.int .i16)) .unit)))))), .own 4 (.ro (.int .i64)), .own 5 (.ro (.int .i64))])] b }
/- spec.l04Asked -/
noncomputable def I29 : Inst := { f := 29, nt := 32, params := [((.ro (.slc (.pair (.int .i16) (.pair (.int .i16) (.pair (.int .i16) (.pair (.slc (.int .i16)) .unit)))))), false), ((.ro (.int .i64)), false), ((.ro (.int .i64)), false), ((.ro (.int .i64)), false)], res := [(.ro (.int .i64)), (.ro (.int .i64))], slots := [.tmp 8, .tmp 9], code := bd Try.f29, callee := fun r i => find 0 [(1001, 27), (3002, 55), (3007, 55), (3012, 28), (5001, 40)] (r * 1000 + i) }
/- spec.l04Step -/
noncomputable def I78 : Inst := { f := 78, nt := 30, params := [((.ro (.ptr (.pair (.int .i16) (.pair (.int .i16) (.pair (.int .i16) (.pair (.slc (.int .i16)) .unit)))))), false), ((.ro (.int .i64)), false)], res := [(.ro (.int .i64))], slots := [.tmp 4], code := bd Try.f78 }
/- spec.l04Lift -/
noncomputable def I66 : Inst := { f := 66, nt := 15, params := [((.ro (.ptr (.pair (.int .i16) (.pair (.int .i16) (.pair (.int .i16) (.pair (.slc (.int .i16)) .unit)))))), false), ((.ro (.int .i64)), false)], res := [(.ro (.int .i64))], slots := [.tmp 4], code := bd Try.f66, callee := fun r i => find 0 [(1006, 78)] (r * 1000 + i) }
/- spec.l04Clash -/
noncomputable def I42 : Inst := { f := 42, nt := 18, params := [((.ro (.ptr (.pair (.int .i16) (.pair (.int .i16) (.pair (.int .i16) (.pair (.slc (.int .i16)) .unit)))))), false), ((.ro (.ptr (.pair (.int .i16) (.pair (.int .i16) (.pair (.int .i16) (.pair (.slc (.int .i16)) .unit)))))), false), ((.ro (.int .i64)), false), ((.ro (.int .i64)), false)], res := [(.ro .bool)], slots := [.tmp 8], code := bd Try.f42, callee := fun r i => find 0 [(1002, 66), (1005, 66)] (r * 1000 + i) }
/- spec.l04Free -/
noncomputable def I56 : Inst := { f := 56, nt := 20, params := [((.ro (.ptr (.pair (.int .i16) (.pair (.int .i16) (.pair (.int .i16) (.pair (.slc (.int .i16)) .unit)))))), false), ((.ro (.ptr (.pair (.int .i16) (.pair (.int .i16) (.pair (.int .i16) (.pair (.slc (.int .i16)) .unit)))))), false), ((.ro (.int .i64)), false), ((.ro (.int .i64)), false)], res := [(.ro .bool)], slots := [.tmp 8], code := bd Try.f56, callee := fun r i => find 0 [(4004, 42)] (r * 1000 + i), loops := fun b => find [] [(0, [.own 0 (.ro (.ptr (.pair (.int .i16) (.pair (.int .i16) (.pair (.int .i16) (.pair (.slc (.int .i16)) .unit)))))), .own 1 (.ro (.ptr (.pair (.int .i16) (.pair (.int .i16) (.pair (.int .i16) (.pair (.slc (.int .i16)) .unit)))))), .own 2 (.ro (.int .i64)), .own 3 (.ro (.int .i64)), .own 9 (.ro (.int .i64))])] b }
/- spec.l04Look -/
noncomputable def I30 : Inst := { f := 30, nt := 67, params := [((.row false (.pair (.int .i16) (.pair (.int .i16) (.pair (.int .i16) (.pair (.slc (.int .i16)) .unit))))), true), ((.ro (.int .i64)), false), ((.ro (.int .i64)), false), ((.ro (.int .i64)), false), ((.ro (.int .i64)), false), ((.box (.ro (.int .i64))), true)], res := [(.ro (.int .i64))], slots := [.tmp 12], code := bd Try.f30, strict := true, callee := fun r i => find 0 [(10009, 56), (11007, 30)] (r * 1000 + i), loops := fun b => find [] [(0, [.own 0 (.row false (.pair (.int .i16) (.pair (.int .i16) (.pair (.int .i16) (.pair (.slc (.int .i16)) .unit))))), .own 1 (.ro (.int .i64)), .own 2 (.ro (.int .i64)), .own 3 (.ro (.int .i64)), .own 4 (.ro (.int .i64)), .own 5 (.box (.ro (.int .i64))), .own 13 (.ro (.int .i64))])] b, pins := [0, 5] }
/- spec.PhasesFor -/
noncomputable def I6 : Inst := { f := 6, nt := 63, params := [((.ro (.slc (.pair (.int .i16) (.pair (.int .i16) (.pair (.int .i16) (.pair (.slc (.int .i16)) .unit)))))), false), ((.ro (.int .i64)), false), ((.ro (.int .i64)), false)], res := [(.row false (.int .i64)), (.ro (.int .i64)), (.ro (.int .i64))], slots := [.tmp 6, .tmp 7, .tmp 8], code := bd Try.f6, callee := fun r i => find 0 [(1001, 27), (3001, 28), (5002, 29), (10004, 30)] (r * 1000 + i), loops := fun b => find [] [(0, [.own 11 (.row false (.pair (.int .i16) (.pair (.int .i16) (.pair (.int .i16) (.pair (.slc (.int .i16)) .unit))))), .own 12 (.box (.ro (.int .i64))), .own 13 (.row false (.int .i64)), .own 14 (.ro (.int .i64))])] b }
/- impl.PhasesFor: told by its contract -/
noncomputable def I8 : Inst := { f := 8, nt := 0, params := [((.ro (.slc (.pair (.int .i16) (.pair (.int .i16) (.pair (.int .i16) (.pair (.slc (.int .i16)) .unit)))))), false), ((.ro (.int .i64)), false), ((.ro (.int .i64)), false)], res := [(.row false (.int .i64)), (.ro (.int .i64)), (.ro (.int .i64))], slots := [], code := .skip, ext := some (fun x => if Go.Cams.smallB x.1 = true then some ((Go.Cams.pfI x.1 x.2.1 x.2.2.1), ()) else none) }
/- laws.eqInt64S -/
noncomputable def I9 : Inst := { f := 9, nt := 26, params := [((.ro (.slc (.int .i64))), false), ((.ro (.slc (.int .i64))), false)], res := [(.ro .bool)], slots := [.tmp 4], code := bd Try.f9, loops := fun b => find [] [(0, [.own 0 (.ro (.slc (.int .i64))), .own 1 (.ro (.slc (.int .i64))), .own 5 (.ro (.int .i64))])] b }
/- laws.eqCam -/
noncomputable def I60 : Inst := { f := 60, nt := 26, params := [((.ro (.slc (.int .i16))), false), ((.ro (.slc (.int .i16))), false)], res := [(.ro .bool)], slots := [.tmp 4], code := bd Try.f60, loops := fun b => find [] [(0, [.own 0 (.ro (.slc (.int .i16))), .own 1 (.ro (.slc (.int .i16))), .own 5 (.ro (.int .i64))])] b }
/- laws.eqShaft -/
noncomputable def I36 : Inst := { f := 36, nt := 26, params := [((.ro (.pair (.int .i16) (.pair (.int .i16) (.pair (.int .i16) (.pair (.slc (.int .i16)) .unit))))), false), ((.ro (.pair (.int .i16) (.pair (.int .i16) (.pair (.int .i16) (.pair (.slc (.int .i16)) .unit))))), false)], res := [(.ro .bool)], slots := [.tmp 4], code := bd Try.f36, callee := fun r i => find 0 [(7004, 60)] (r * 1000 + i) }
/- laws.eqShaftS -/
noncomputable def I10 : Inst := { f := 10, nt := 27, params := [((.ro (.slc (.pair (.int .i16) (.pair (.int .i16) (.pair (.int .i16) (.pair (.slc (.int .i16)) .unit)))))), false), ((.ro (.slc (.pair (.int .i16) (.pair (.int .i16) (.pair (.int .i16) (.pair (.slc (.int .i16)) .unit)))))), false)], res := [(.ro .bool)], slots := [.tmp 4], code := bd Try.f10, callee := fun r i => find 0 [(6008, 36)] (r * 1000 + i), loops := fun b => find [] [(0, [.own 0 (.ro (.slc (.pair (.int .i16) (.pair (.int .i16) (.pair (.int .i16) (.pair (.slc (.int .i16)) .unit)))))), .own 1 (.ro (.slc (.pair (.int .i16) (.pair (.int .i16) (.pair (.int .i16) (.pair (.slc (.int .i16)) .unit)))))), .own 5 (.ro (.int .i64))])] b }
/- laws.markCam -/
noncomputable def I37 : Inst := { f := 37, nt := 20, params := [((.row false (.int .i16)), true), ((.ro (.int .i64)), false)], res := [(.ro (.int .i64))], slots := [.tmp 4], code := bd Try.f37, loops := fun b => find [] [(0, [.own 0 (.row false (.int .i16)), .own 1 (.ro (.int .i64)), .own 5 (.ro (.int .i64))])] b, pins := [0] }
/- laws.markShaftS -/
noncomputable def I11 : Inst := { f := 11, nt := 44, params := [((.row true (.pair (.int .i16) (.pair (.int .i16) (.pair (.int .i16) (.pair (.slc (.int .i16)) .unit))))), true), ((.ro (.int .i64)), false)], res := [(.ro (.int .i64))], slots := [.tmp 4], code := bd Try.f11, callee := fun r i => find 0 [(10006, 37)] (r * 1000 + i), loops := fun b => find [] [(0, [.own 0 (.row true (.pair (.int .i16) (.pair (.int .i16) (.pair (.int .i16) (.pair (.slc (.int .i16)) .unit))))), .own 1 (.ro (.int .i64)), .own 5 (.ro (.int .i64))])] b, pins := [0], deep := fun r i => find false [(10004, true)] (r * 1000 + i) }
/- laws.markInt64S -/
noncomputable def I12 : Inst := { f := 12, nt := 19, params := [((.row false (.int .i64)), true), ((.ro (.int .i64)), false)], res := [(.ro (.int .i64))], slots := [.tmp 4], code := bd Try.f12, loops := fun b => find [] [(0, [.own 0 (.row false (.int .i64)), .own 1 (.ro (.int .i64)), .own 5 (.ro (.int .i64))])] b, pins := [0] }
/- laws.heldInt64S -/
noncomputable def I13 : Inst := { f := 13, nt := 21, params := [((.ro (.slc (.int .i64))), false), ((.ro (.int .i64)), false)], res := [(.ro (.int .i64))], slots := [.tmp 4], code := bd Try.f13, loops := fun b => find [] [(0, [.own 0 (.ro (.slc (.int .i64))), .own 1 (.ro (.int .i64)), .own 5 (.ro (.int .i64))])] b }
/- laws.FnExactPhasesFor -/
noncomputable def I3 : Inst := { f := 3, nt := 127, params := [((.ro (.slc (.pair (.int .i16) (.pair (.int .i16) (.pair (.int .i16) (.pair (.slc (.int .i16)) .unit)))))), false), ((.ro (.int .i64)), false), ((.ro (.int .i64)), false)], res := [(.ro .bool)], slots := [.tmp 6], code := bd Try.f3, callee := fun r i => find 0 [(2002, 5), (5001, 7), (5004, 6), (6001, 7), (7003, 8), (8002, 9), (10002, 7), (10003, 10), (13002, 11), (14005, 9), (17002, 12), (19002, 13), (24001, 7), (24004, 8), (25002, 9), (28002, 13)] (r * 1000 + i) }
noncomputable def CL : List (Nat × Inst) := [(53, I53), (26, I26), (5, I5), (57, I57), (31, I31), (7, I7), (28, I28), (71, I71), (72, I72), (54, I54), (27, I27), (55, I55), (64, I64), (63, I63), (40, I40), (29, I29), (78, I78), (66, I66), (42, I42), (56, I56), (30, I30), (6, I6), (8, I8), (9, I9), (60, I60), (36, I36), (10, I10), (37, I37), (11, I11), (12, I12), (13, I13), (3, I3)]
noncomputable def C : Nat → Inst := find I53 CL
theorem tsOk : TsOk Try.prog T := tsOkB_sound (by kernel_rfl)
theorem ok53 : InstOk Try.prog I53 := instOk_of Try.func53 (by kernel_rfl) (by kernel_rfl) (by kernel_rfl) (by kernel_rfl)
theorem ok26 : InstOk Try.prog I26 := instOk_of Try.func26 (by kernel_rfl) (by kernel_rfl) (by kernel_rfl) (by kernel_rfl)
theorem ok5 : InstOk Try.prog I5 := instOk_of Try.func5 (by kernel_rfl) (by kernel_rfl) (by kernel_rfl) (by kernel_rfl)
theorem ok57 : InstOk Try.prog I57 := instOk_of Try.func57 (by kernel_rfl) (by kernel_rfl) (by kernel_rfl) (by kernel_rfl)
theorem ok31 : InstOk Try.prog I31 := instOk_of Try.func31 (by kernel_rfl) (by kernel_rfl) (by kernel_rfl) (by kernel_rfl)
theorem ok7 : InstOk Try.prog I7 := instOk_of Try.func7 (by kernel_rfl) (by kernel_rfl) (by kernel_rfl) (by kernel_rfl)
theorem ok28 : InstOk Try.prog I28 := instOk_of Try.func28 (by kernel_rfl) (by kernel_rfl) (by kernel_rfl) (by kernel_rfl)
theorem ok71 : InstOk Try.prog I71 := instOk_of Try.func71 (by kernel_rfl) (by kernel_rfl) (by kernel_rfl) (by kernel_rfl)
theorem ok72 : InstOk Try.prog I72 := instOk_of Try.func72 (by kernel_rfl) (by kernel_rfl) (by kernel_rfl) (by kernel_rfl)
theorem ok54 : InstOk Try.prog I54 := instOk_of Try.func54 (by kernel_rfl) (by kernel_rfl) (by kernel_rfl) (by kernel_rfl)
theorem ok27 : InstOk Try.prog I27 := instOk_of Try.func27 (by kernel_rfl) (by kernel_rfl) (by kernel_rfl) (by kernel_rfl)
theorem ok55 : InstOk Try.prog I55 := instOk_of Try.func55 (by kernel_rfl) (by kernel_rfl) (by kernel_rfl) (by kernel_rfl)
theorem ok64 : InstOk Try.prog I64 := instOk_of Try.func64 (by kernel_rfl) (by kernel_rfl) (by kernel_rfl) (by kernel_rfl)
theorem ok63 : InstOk Try.prog I63 := instOk_of Try.func63 (by kernel_rfl) (by kernel_rfl) (by kernel_rfl) (by kernel_rfl)
theorem ok40 : InstOk Try.prog I40 := instOk_of Try.func40 (by kernel_rfl) (by kernel_rfl) (by kernel_rfl) (by kernel_rfl)
theorem ok29 : InstOk Try.prog I29 := instOk_of Try.func29 (by kernel_rfl) (by kernel_rfl) (by kernel_rfl) (by kernel_rfl)
theorem ok78 : InstOk Try.prog I78 := instOk_of Try.func78 (by kernel_rfl) (by kernel_rfl) (by kernel_rfl) (by kernel_rfl)
theorem ok66 : InstOk Try.prog I66 := instOk_of Try.func66 (by kernel_rfl) (by kernel_rfl) (by kernel_rfl) (by kernel_rfl)
theorem ok42 : InstOk Try.prog I42 := instOk_of Try.func42 (by kernel_rfl) (by kernel_rfl) (by kernel_rfl) (by kernel_rfl)
theorem ok56 : InstOk Try.prog I56 := instOk_of Try.func56 (by kernel_rfl) (by kernel_rfl) (by kernel_rfl) (by kernel_rfl)
theorem ok30 : InstOk Try.prog I30 := instOk_of Try.func30 (by kernel_rfl) (by kernel_rfl) (by kernel_rfl) (by kernel_rfl)
theorem ok6 : InstOk Try.prog I6 := instOk_of Try.func6 (by kernel_rfl) (by kernel_rfl) (by kernel_rfl) (by kernel_rfl)
theorem ok8 : InstOk Try.prog I8 := instOk_ext rfl
theorem ok9 : InstOk Try.prog I9 := instOk_of Try.func9 (by kernel_rfl) (by kernel_rfl) (by kernel_rfl) (by kernel_rfl)
theorem ok60 : InstOk Try.prog I60 := instOk_of Try.func60 (by kernel_rfl) (by kernel_rfl) (by kernel_rfl) (by kernel_rfl)
theorem ok36 : InstOk Try.prog I36 := instOk_of Try.func36 (by kernel_rfl) (by kernel_rfl) (by kernel_rfl) (by kernel_rfl)
theorem ok10 : InstOk Try.prog I10 := instOk_of Try.func10 (by kernel_rfl) (by kernel_rfl) (by kernel_rfl) (by kernel_rfl)
theorem ok37 : InstOk Try.prog I37 := instOk_of Try.func37 (by kernel_rfl) (by kernel_rfl) (by kernel_rfl) (by kernel_rfl)
theorem ok11 : InstOk Try.prog I11 := instOk_of Try.func11 (by kernel_rfl) (by kernel_rfl) (by kernel_rfl) (by kernel_rfl)
theorem ok12 : InstOk Try.prog I12 := instOk_of Try.func12 (by kernel_rfl) (by kernel_rfl) (by kernel_rfl) (by kernel_rfl)
theorem ok13 : InstOk Try.prog I13 := instOk_of Try.func13 (by kernel_rfl) (by kernel_rfl) (by kernel_rfl) (by kernel_rfl)
theorem ok3 : InstOk Try.prog I3 := instOk_of Try.func3 (by kernel_rfl) (by kernel_rfl) (by kernel_rfl) (by kernel_rfl)
theorem insts : ∀ j, InstOk Try.prog (C j) := find_all ok53 (List.forall_mem_cons.2 ⟨ok53, List.forall_mem_cons.2 ⟨ok26, List.forall_mem_cons.2 ⟨ok5, List.forall_mem_cons.2 ⟨ok57, List.forall_mem_cons.2 ⟨ok31, List.forall_mem_cons.2 ⟨ok7, List.forall_mem_cons.2 ⟨ok28, List.forall_mem_cons.2 ⟨ok71, List.forall_mem_cons.2 ⟨ok72, List.forall_mem_cons.2 ⟨ok54, List.forall_mem_cons.2 ⟨ok27, List.forall_mem_cons.2 ⟨ok55, List.forall_mem_cons.2 ⟨ok64, List.forall_mem_cons.2 ⟨ok63, List.forall_mem_cons.2 ⟨ok40, List.forall_mem_cons.2 ⟨ok29, List.forall_mem_cons.2 ⟨ok78, List.forall_mem_cons.2 ⟨ok66, List.forall_mem_cons.2 ⟨ok42, List.forall_mem_cons.2 ⟨ok56, List.forall_mem_cons.2 ⟨ok30, List.forall_mem_cons.2 ⟨ok6, List.forall_mem_cons.2 ⟨ok8, List.forall_mem_cons.2 ⟨ok9, List.forall_mem_cons.2 ⟨ok60, List.forall_mem_cons.2 ⟨ok36, List.forall_mem_cons.2 ⟨ok10, List.forall_mem_cons.2 ⟨ok37, List.forall_mem_cons.2 ⟨ok11, List.forall_mem_cons.2 ⟨ok12, List.forall_mem_cons.2 ⟨ok13, List.forall_mem_cons.2 ⟨ok3, fun _ h => absurd h List.not_mem_nil⟩⟩⟩⟩⟩⟩⟩⟩⟩⟩⟩⟩⟩⟩⟩⟩⟩⟩⟩⟩⟩⟩⟩⟩⟩⟩⟩⟩⟩⟩⟩⟩)
theorem c8 : C 8 = I8 := by kernel_rfl
theorem exts {L : Laid} (h8 : ExtOk Try.prog L I8) : ∀ j, ExtOk Try.prog L (C j) := by
  have hC : C = find I53 CL := by delta C; with_reducible rfl
  refine fun j => exts_of (C := C) _ _ [8] hC (by kernel_rfl) (by kernel_rfl) ?_ j
  intro e he
  change ExtOk _ _ (C e)
  simp only [List.mem_cons, List.not_mem_nil, or_false] at he
  subst he; rw [c8]; exact h8
end Go.Proofs.Ytgmkcekfpmdhoaa.LPf
