/- The types and the functions that a law reaches, told for the reading (Fw). Written by a program (gen.py). -/
import Derived.Test.YtimojogjlbajeaaDoorFwC
import Derived.Test.YtimojogjlbajeaaDoorProg
import Derived.Lib.TrailingZeros
import Derived.Lib.ItoaNum
import Derived.Lib.Join
namespace Go.Proofs.YtimojogjlbajeaaDoor.LSs
open Go Go.Fw
open Go.Proofs
noncomputable def tyL : List (Nat × TI) := [(2, ⟨(.int .i64), 0, 8⟩),
  (3, ⟨(.int .i64), 0, 8⟩),
  (4, ⟨.bool, 0, 1⟩),
  (5, ⟨(.int .u8), 0, 1⟩),
  (9, ⟨.str, 0, 16⟩),
  (28, ⟨(.slc (.pair (.int .i16) (.pair (.int .i16) (.pair (.int .i16) (.pair (.slc (.int .i16)) .unit))))), 51, 24⟩),
  (31, ⟨(.slc (.pair (.int .i16) (.pair (.int .i16) (.pair (.int .i16) (.pair (.slc (.int .i16)) .unit))))), 55, 24⟩),
  (37, ⟨(.ptr (.pair (.ptr .unit) (.pair (.slc (.int .u8)) .unit))), 0, 8⟩),
  (38, ⟨(.slc (.int .u8)), 5, 24⟩),
  (40, ⟨(.pair (.ptr .unit) (.pair (.slc (.int .u8)) .unit)), 5, 32⟩),
  (42, ⟨.err, 0, 16⟩),
  (48, ⟨(.int .i16), 0, 2⟩),
  (49, ⟨(.slc (.int .i16)), 48, 24⟩),
  (51, ⟨(.pair (.int .i16) (.pair (.int .i16) (.pair (.int .i16) (.pair (.slc (.int .i16)) .unit)))), 0, 32⟩),
  (53, ⟨(.slc (.int .i16)), 48, 24⟩),
  (55, ⟨(.pair (.int .i16) (.pair (.int .i16) (.pair (.int .i16) (.pair (.slc (.int .i16)) .unit)))), 0, 32⟩),
  (71, ⟨.fn, 0, 8⟩),
  (73, ⟨(.slc .str), 9, 24⟩),
  (87, ⟨.fn, 0, 8⟩)]
noncomputable def T : Nat → Option TI := findT tyL
/- laws.szCam -/
noncomputable def I28 : Inst := { f := 28, nt := 12, params := [((.ro (.slc (.int .i16))), false), ((.ro (.int .i64)), false)], res := [(.ro (.int .i64))], slots := [.tmp 4], code := bd Tryd.f28 }
/- laws.szShaft -/
noncomputable def I17 : Inst := { f := 17, nt := 12, params := [((.ro (.pair (.int .i16) (.pair (.int .i16) (.pair (.int .i16) (.pair (.slc (.int .i16)) .unit))))), false), ((.ro (.int .i64)), false)], res := [(.ro (.int .i64))], slots := [.tmp 4], code := bd Tryd.f17, callee := fun r i => find 0 [(1003, 28)] (r * 1000 + i) }
/- laws.szShaftS -/
noncomputable def I8 : Inst := { f := 8, nt := 27, params := [((.ro (.slc (.pair (.int .i16) (.pair (.int .i16) (.pair (.int .i16) (.pair (.slc (.int .i16)) .unit)))))), false), ((.ro (.int .i64)), false)], res := [(.ro (.int .i64))], slots := [.tmp 4], code := bd Tryd.f8, callee := fun r i => find 0 [(7005, 17)] (r * 1000 + i), loops := fun b => find [] [(0, [.own 0 (.ro (.slc (.pair (.int .i16) (.pair (.int .i16) (.pair (.int .i16) (.pair (.slc (.int .i16)) .unit)))))), .own 1 (.ro (.int .i64)), .own 5 (.ro (.int .i64))])] b }
/- laws.toCam -/
noncomputable def I33 : Inst := { f := 33, nt := 22, params := [((.ro (.slc (.int .i16))), false)], res := [(.row false (.int .i16))], slots := [.tmp 2], code := bd Tryd.f33, loops := fun b => find [] [(0, [.own 0 (.ro (.slc (.int .i16))), .own 3 (.row false (.int .i16)), .own 4 (.ro (.int .i64))])] b, deep := fun r i => find false [(1002, true)] (r * 1000 + i) }
/- laws.toShaft -/
noncomputable def I20 : Inst := { f := 20, nt := 18, params := [((.ro (.pair (.int .i16) (.pair (.int .i16) (.pair (.int .i16) (.pair (.slc (.int .i16)) .unit))))), false)], res := [(.pr (.ro (.int .i16)) (.pr (.ro (.int .i16)) (.pr (.ro (.int .i16)) (.pr (.row false (.int .i16)) (.ro .unit)))))], slots := [.cell 2 55], code := bd Tryd.f20, callee := fun r i => find 0 [(5002, 33)] (r * 1000 + i) }
/- laws.toShaftS -/
noncomputable def I10 : Inst := { f := 10, nt := 23, params := [((.ro (.slc (.pair (.int .i16) (.pair (.int .i16) (.pair (.int .i16) (.pair (.slc (.int .i16)) .unit)))))), false)], res := [(.row true (.pair (.int .i16) (.pair (.int .i16) (.pair (.int .i16) (.pair (.slc (.int .i16)) .unit)))))], slots := [.tmp 2], code := bd Tryd.f10, callee := fun r i => find 0 [(5006, 20)] (r * 1000 + i), loops := fun b => find [] [(0, [.own 0 (.ro (.slc (.pair (.int .i16) (.pair (.int .i16) (.pair (.int .i16) (.pair (.slc (.int .i16)) .unit)))))), .own 3 (.row true (.pair (.int .i16) (.pair (.int .i16) (.pair (.int .i16) (.pair (.slc (.int .i16)) .unit))))), .own 4 (.ro (.int .i64))])] b, deep := fun r i => find false [(1002, true)] (r * 1000 + i) }
/- spec.l00In -/
noncomputable def I29 : Inst := { f := 29, nt := 15, params := [((.ro (.int .i64)), false), ((.ro (.int .i64)), false), ((.ro (.int .i64)), false)], res := [(.ro .bool)], slots := [.tmp 6], code := bd Tryd.f29 }
/- spec.l01Steps -/
noncomputable def I48 : Inst := { f := 48, nt := 5, params := [((.ro (.int .i64)), false)], res := [(.ro .bool)], slots := [.tmp 2], code := bd Tryd.f48, callee := fun r i => find 0 [(1001, 29)] (r * 1000 + i) }
/- spec.l01Lift -/
noncomputable def I49 : Inst := { f := 49, nt := 5, params := [((.ro (.int .i64)), false)], res := [(.ro .bool)], slots := [.tmp 2], code := bd Tryd.f49, callee := fun r i => find 0 [(1001, 29)] (r * 1000 + i) }
/- spec.l01Ok -/
noncomputable def I30 : Inst := { f := 30, nt := 21, params := [((.ro (.slc (.int .i16))), false)], res := [(.ro .bool)], slots := [.tmp 2], code := bd Tryd.f30, callee := fun r i => find 0 [(1002, 48), (6005, 49)] (r * 1000 + i), loops := fun b => find [] [(0, [.own 0 (.ro (.slc (.int .i16))), .own 3 (.ro (.int .i64))])] b }
/- spec.l04Ok -/
noncomputable def I18 : Inst := { f := 18, nt := 57, params := [((.ro (.slc (.pair (.int .i16) (.pair (.int .i16) (.pair (.int .i16) (.pair (.slc (.int .i16)) .unit)))))), false)], res := [(.ro .bool)], slots := [.tmp 2], code := bd Tryd.f18, callee := fun r i => find 0 [(1002, 29), (7005, 29), (7013, 29), (7021, 30), (7036, 29)] (r * 1000 + i), loops := fun b => find [] [(0, [.own 0 (.ro (.slc (.pair (.int .i16) (.pair (.int .i16) (.pair (.int .i16) (.pair (.slc (.int .i16)) .unit)))))), .own 3 (.ro (.int .i64))])] b }
/- spec.Decimal -/
noncomputable def I31 : Inst := { f := 31, nt := 21, params := [((.ro (.int .i64)), false)], res := [(.ro .str)], slots := [.tmp 2], code := bd Tryd.f31, callee := fun r i => find 0 [(3002, 31)] (r * 1000 + i), deep := fun r i => find false [(2004, true), (3007, true)] (r * 1000 + i), frz := fun r i => find false [(2004, true), (3007, true)] (r * 1000 + i) }
/- spec.l01Text -/
noncomputable def I32 : Inst := { f := 32, nt := 53, params := [((.ro (.slc (.int .i16))), false)], res := [(.ro .str)], slots := [.tmp 2], code := bd Tryd.f32, callee := fun r i => find 0 [(9006, 31), (11004, 31)] (r * 1000 + i), loops := fun b => find [] [(2, [.own 0 (.ro (.slc (.int .i16))), .own 3 (.ro .str), .own 4 (.ro (.int .i64)), .own 5 (.ro (.int .i64))]), (0, [.own 0 (.ro (.slc (.int .i16))), .own 3 (.ro .str), .own 4 (.ro (.int .i64))])] b }
/- spec.l04Text -/
noncomputable def I19 : Inst := { f := 19, nt := 48, params := [((.ro (.slc (.pair (.int .i16) (.pair (.int .i16) (.pair (.int .i16) (.pair (.slc (.int .i16)) .unit)))))), false)], res := [(.ro .str)], slots := [.tmp 2], code := bd Tryd.f19, callee := fun r i => find 0 [(6006, 31), (6013, 31), (6021, 31), (6028, 32)] (r * 1000 + i), loops := fun b => find [] [(0, [.own 0 (.ro (.slc (.pair (.int .i16) (.pair (.int .i16) (.pair (.int .i16) (.pair (.slc (.int .i16)) .unit)))))), .own 3 (.ro .str), .own 4 (.ro (.int .i64))])] b }
/- spec.ShaftsText -/
noncomputable def I9 : Inst := { f := 9, nt := 8, params := [((.ro (.slc (.pair (.int .i16) (.pair (.int .i16) (.pair (.int .i16) (.pair (.slc (.int .i16)) .unit)))))), false)], res := [(.ro .str)], slots := [.tmp 2], code := bd Tryd.f9, callee := fun r i => find 0 [(1001, 18), (3001, 19)] (r * 1000 + i) }
/- impl.inRange -/
noncomputable def I34 : Inst := { f := 34, nt := 15, params := [((.ro (.int .i64)), false), ((.ro (.int .i64)), false), ((.ro (.int .i64)), false)], res := [(.ro .bool)], slots := [.tmp 6], code := bd Tryd.f34 }
/- impl.Cam).steps -/
noncomputable def I52 : Inst := { f := 52, nt := 5, params := [((.ro (.slc (.int .i16))), false)], res := [(.ro (.int .i64))], slots := [.tmp 2], code := bd Tryd.f52 }
/- impl.isSteps -/
noncomputable def I51 : Inst := { f := 51, nt := 5, params := [((.ro (.int .i64)), false)], res := [(.ro .bool)], slots := [.tmp 2], code := bd Tryd.f51, callee := fun r i => find 0 [(1001, 34)] (r * 1000 + i) }
/- impl.isLift -/
noncomputable def I55 : Inst := { f := 55, nt := 5, params := [((.ro (.int .i64)), false)], res := [(.ro .bool)], slots := [.tmp 2], code := bd Tryd.f55, callee := fun r i => find 0 [(1001, 34)] (r * 1000 + i) }
/- impl.ValidCam$1 -/
noncomputable def I54 : Inst := { f := 54, nt := 7, params := [((.ro (.int .i16)), false)], res := [(.ro .bool)], slots := [.tmp 2], code := bd Tryd.f54, callee := fun r i => find 0 [(1002, 55)] (r * 1000 + i) }
/- impl.Cam,int16] -/
noncomputable def I65 : Inst := { f := 65, nt := 19, params := [((.ro (.slc (.int .i16))), false), ((.clo 54 (.ro .unit) (.ro .unit)), false)], res := [(.ro (.int .i64))], slots := [.tmp 4], code := bd Tryd.f65, callee := fun r i => find 0 [(4005, 54)] (r * 1000 + i), loops := fun b => find [] [(0, [.own 0 (.ro (.slc (.int .i16))), .own 1 (.clo 54 (.ro .unit) (.ro .unit)), .own 7 (.ro (.int .i64)), .own 8 (.ro (.int .i64))])] b }
/- impl.Cam,int16] -/
noncomputable def I53 : Inst := { f := 53, nt := 9, params := [((.ro (.slc (.int .i16))), false), ((.clo 54 (.ro .unit) (.ro .unit)), false)], res := [(.ro .bool)], slots := [.tmp 4], code := bd Tryd.f53, callee := fun r i => find 0 [(1002, 65)] (r * 1000 + i) }
/- impl.ValidCam -/
noncomputable def I37 : Inst := { f := 37, nt := 11, params := [((.ro (.slc (.int .i16))), false)], res := [(.ro .bool)], slots := [.tmp 2], code := bd Tryd.f37, callee := fun r i => find 0 [(1001, 52), (1002, 51), (1005, 53)] (r * 1000 + i) }
/- impl.isPlace -/
noncomputable def I38 : Inst := { f := 38, nt := 9, params := [((.ro (.int .i64)), false), ((.ro (.int .i64)), false)], res := [(.ro .bool)], slots := [.tmp 4], code := bd Tryd.f38, callee := fun r i => find 0 [(1003, 34)] (r * 1000 + i) }
/- impl.ValidShafts$1 -/
noncomputable def I36 : Inst := { f := 36, nt := 31, params := [((.ro (.pair (.int .i16) (.pair (.int .i16) (.pair (.int .i16) (.pair (.slc (.int .i16)) .unit))))), false)], res := [(.ro .bool)], slots := [.tmp 2], code := bd Tryd.f36, callee := fun r i => find 0 [(1003, 34), (1009, 34), (1015, 37), (1025, 38)] (r * 1000 + i) }
/- impl.Shaft] -/
noncomputable def I50 : Inst := { f := 50, nt := 19, params := [((.ro (.slc (.pair (.int .i16) (.pair (.int .i16) (.pair (.int .i16) (.pair (.slc (.int .i16)) .unit)))))), false), ((.clo 36 (.ro .unit) (.ro .unit)), false)], res := [(.ro (.int .i64))], slots := [.tmp 4], code := bd Tryd.f50, callee := fun r i => find 0 [(4005, 36)] (r * 1000 + i), loops := fun b => find [] [(0, [.own 0 (.ro (.slc (.pair (.int .i16) (.pair (.int .i16) (.pair (.int .i16) (.pair (.slc (.int .i16)) .unit)))))), .own 1 (.clo 36 (.ro .unit) (.ro .unit)), .own 7 (.ro (.int .i64)), .own 8 (.ro (.int .i64))])] b }
/- impl.Shaft] -/
noncomputable def I35 : Inst := { f := 35, nt := 9, params := [((.ro (.slc (.pair (.int .i16) (.pair (.int .i16) (.pair (.int .i16) (.pair (.slc (.int .i16)) .unit)))))), false), ((.clo 36 (.ro .unit) (.ro .unit)), false)], res := [(.ro .bool)], slots := [.tmp 4], code := bd Tryd.f35, callee := fun r i => find 0 [(1002, 50)] (r * 1000 + i) }
/- impl.ValidShafts -/
noncomputable def I21 : Inst := { f := 21, nt := 11, params := [((.ro (.slc (.pair (.int .i16) (.pair (.int .i16) (.pair (.int .i16) (.pair (.slc (.int .i16)) .unit)))))), false)], res := [(.ro .bool)], slots := [.tmp 2], code := bd Tryd.f21, callee := fun r i => find 0 [(1002, 34), (1005, 35)] (r * 1000 + i) }
/- strconv.FormatInt: told by its contract -/
noncomputable def I39 : Inst := { f := 39, nt := 0, params := [((.ro (.int .i64)), false), ((.ro (.int .i64)), false)], res := [(.ro .str)], slots := [], code := .skip, ext := some (fun x => if x.2.1 = 10 ∧ -9223372036854775808 ≤ x.1 ∧ x.1 ≤ 9223372036854775807 then some (((⟨(Lib.itoa x.1).toArray⟩ : ByteArray), ()), ()) else none) }
/- impl.decimal -/
noncomputable def I22 : Inst := { f := 22, nt := 5, params := [((.ro (.int .i64)), false)], res := [(.ro .str)], slots := [.tmp 2], code := bd Tryd.f22, callee := fun r i => find 0 [(1001, 39)] (r * 1000 + i) }
/- strings.Join: told by its contract -/
noncomputable def I40 : Inst := { f := 40, nt := 0, params := [((.row false .str), true), ((.ro .str), false)], res := [(.ro .str)], slots := [], code := .skip, ext := some (fun x => if x.1.length ≤ 140737488355328 ∧ (Lib.join (x.1.map fun s => s.data.toList) x.2.1.data.toList).length ≤ 140737488355328 then some (((⟨(Lib.join (x.1.map fun s => s.data.toList) x.2.1.data.toList).toArray⟩ : ByteArray), ()), (x.1, ())) else none) }
/- impl.CamText -/
noncomputable def I23 : Inst := { f := 23, nt := 57, params := [((.ro (.slc (.int .i16))), false)], res := [(.ro .str)], slots := [.tmp 2], code := bd Tryd.f23, callee := fun r i => find 0 [(1001, 37), (9005, 22), (11004, 22), (13001, 40)] (r * 1000 + i), loops := fun b => find [] [(2, [.own 0 (.ro (.slc (.int .i16))), .own 3 (.row false .str), .own 4 (.ro (.int .i64)), .own 5 (.ro (.int .i64))]), (0, [.own 0 (.ro (.slc (.int .i16))), .own 3 (.row false .str), .own 4 (.ro (.int .i64))])] b, deep := fun r i => find false [(3000, true), (12002, true), (12003, true)] (r * 1000 + i) }
/- (*strings.Builder).WriteString: told by its contract -/
noncomputable def I14 : Inst := { f := 14, nt := 0, params := [((.bld 40 5), true), ((.ro .str), false)], res := [(.ro (.int .i64)), (.ro .err)], slots := [], code := .skip, ext := some (fun x => if x.1.size + x.2.1.size ≤ 140737488355328 then some ((((x.2.1.size : Nat) : Int), false, ()), (x.1 ++ x.2.1, ())) else none) }
/- (*strings.Builder).String: told by its contract -/
noncomputable def I16 : Inst := { f := 16, nt := 0, params := [((.bld 40 5), false)], res := [(.ro .str)], slots := [], code := .skip, ext := some (fun x => some ((x.1, ()), ())) }
/- impl.ShaftsText -/
noncomputable def I11 : Inst := { f := 11, nt := 40, params := [((.ro (.slc (.pair (.int .i16) (.pair (.int .i16) (.pair (.int .i16) (.pair (.slc (.int .i16)) .unit)))))), false)], res := [(.ro .str)], slots := [.tmp 2], code := bd Tryd.f11, callee := fun r i => find 0 [(1001, 21), (7003, 22), (7008, 22), (7014, 22), (7019, 23), (7022, 14), (9000, 16)] (r * 1000 + i), loops := fun b => find [] [(0, [.own 3 (.bld 40 5), .own 9 (.ro (.slc (.pair (.int .i16) (.pair (.int .i16) (.pair (.int .i16) (.pair (.slc (.int .i16)) .unit)))))), .own 10 (.ro (.int .i64)), .own 11 (.ro (.int .i64))])] b, frz := fun r i => find false [(3000, true)] (r * 1000 + i) }
/- laws.eqCam -/
noncomputable def I41 : Inst := { f := 41, nt := 26, params := [((.ro (.slc (.int .i16))), false), ((.ro (.slc (.int .i16))), false)], res := [(.ro .bool)], slots := [.tmp 4], code := bd Tryd.f41, loops := fun b => find [] [(0, [.own 0 (.ro (.slc (.int .i16))), .own 1 (.ro (.slc (.int .i16))), .own 5 (.ro (.int .i64))])] b }
/- laws.eqShaft -/
noncomputable def I24 : Inst := { f := 24, nt := 26, params := [((.ro (.pair (.int .i16) (.pair (.int .i16) (.pair (.int .i16) (.pair (.slc (.int .i16)) .unit))))), false), ((.ro (.pair (.int .i16) (.pair (.int .i16) (.pair (.int .i16) (.pair (.slc (.int .i16)) .unit))))), false)], res := [(.ro .bool)], slots := [.tmp 4], code := bd Tryd.f24, callee := fun r i => find 0 [(7004, 41)] (r * 1000 + i) }
/- laws.eqShaftS -/
noncomputable def I12 : Inst := { f := 12, nt := 27, params := [((.ro (.slc (.pair (.int .i16) (.pair (.int .i16) (.pair (.int .i16) (.pair (.slc (.int .i16)) .unit)))))), false), ((.ro (.slc (.pair (.int .i16) (.pair (.int .i16) (.pair (.int .i16) (.pair (.slc (.int .i16)) .unit)))))), false)], res := [(.ro .bool)], slots := [.tmp 4], code := bd Tryd.f12, callee := fun r i => find 0 [(6008, 24)] (r * 1000 + i), loops := fun b => find [] [(0, [.own 0 (.ro (.slc (.pair (.int .i16) (.pair (.int .i16) (.pair (.int .i16) (.pair (.slc (.int .i16)) .unit)))))), .own 1 (.ro (.slc (.pair (.int .i16) (.pair (.int .i16) (.pair (.int .i16) (.pair (.slc (.int .i16)) .unit)))))), .own 5 (.ro (.int .i64))])] b }
/- laws.FnExactShaftsText -/
noncomputable def I4 : Inst := { f := 4, nt := 27, params := [((.ro (.slc (.pair (.int .i16) (.pair (.int .i16) (.pair (.int .i16) (.pair (.slc (.int .i16)) .unit)))))), false)], res := [(.ro .bool)], slots := [.tmp 2], code := bd Tryd.f4, callee := fun r i => find 0 [(2002, 8), (5001, 10), (5002, 9), (6001, 10), (7001, 11), (10002, 10), (10003, 12)] (r * 1000 + i) }
noncomputable def CL : List (Nat × Inst) := [(28, I28), (17, I17), (8, I8), (33, I33), (20, I20), (10, I10), (29, I29), (48, I48), (49, I49), (30, I30), (18, I18), (31, I31), (32, I32), (19, I19), (9, I9), (34, I34), (52, I52), (51, I51), (55, I55), (54, I54), (65, I65), (53, I53), (37, I37), (38, I38), (36, I36), (50, I50), (35, I35), (21, I21), (39, I39), (22, I22), (40, I40), (23, I23), (14, I14), (16, I16), (11, I11), (41, I41), (24, I24), (12, I12), (4, I4)]
noncomputable def C : Nat → Inst := find I28 CL
theorem tsOk : TsOk Tryd.prog T := tsOkB_sound (by kernel_rfl)
theorem ok28 : InstOk Tryd.prog I28 := instOk_of Tryd.func28 (by kernel_rfl) (by kernel_rfl) (by kernel_rfl) (by kernel_rfl)
theorem ok17 : InstOk Tryd.prog I17 := instOk_of Tryd.func17 (by kernel_rfl) (by kernel_rfl) (by kernel_rfl) (by kernel_rfl)
theorem ok8 : InstOk Tryd.prog I8 := instOk_of Tryd.func8 (by kernel_rfl) (by kernel_rfl) (by kernel_rfl) (by kernel_rfl)
theorem ok33 : InstOk Tryd.prog I33 := instOk_of Tryd.func33 (by kernel_rfl) (by kernel_rfl) (by kernel_rfl) (by kernel_rfl)
theorem ok20 : InstOk Tryd.prog I20 := instOk_of Tryd.func20 (by kernel_rfl) (by kernel_rfl) (by kernel_rfl) (by kernel_rfl)
theorem ok10 : InstOk Tryd.prog I10 := instOk_of Tryd.func10 (by kernel_rfl) (by kernel_rfl) (by kernel_rfl) (by kernel_rfl)
theorem ok29 : InstOk Tryd.prog I29 := instOk_of Tryd.func29 (by kernel_rfl) (by kernel_rfl) (by kernel_rfl) (by kernel_rfl)
theorem ok48 : InstOk Tryd.prog I48 := instOk_of Tryd.func48 (by kernel_rfl) (by kernel_rfl) (by kernel_rfl) (by kernel_rfl)
theorem ok49 : InstOk Tryd.prog I49 := instOk_of Tryd.func49 (by kernel_rfl) (by kernel_rfl) (by kernel_rfl) (by kernel_rfl)
theorem ok30 : InstOk Tryd.prog I30 := instOk_of Tryd.func30 (by kernel_rfl) (by kernel_rfl) (by kernel_rfl) (by kernel_rfl)
theorem ok18 : InstOk Tryd.prog I18 := instOk_of Tryd.func18 (by kernel_rfl) (by kernel_rfl) (by kernel_rfl) (by kernel_rfl)
theorem ok31 : InstOk Tryd.prog I31 := instOk_of Tryd.func31 (by kernel_rfl) (by kernel_rfl) (by kernel_rfl) (by kernel_rfl)
theorem ok32 : InstOk Tryd.prog I32 := instOk_of Tryd.func32 (by kernel_rfl) (by kernel_rfl) (by kernel_rfl) (by kernel_rfl)
theorem ok19 : InstOk Tryd.prog I19 := instOk_of Tryd.func19 (by kernel_rfl) (by kernel_rfl) (by kernel_rfl) (by kernel_rfl)
theorem ok9 : InstOk Tryd.prog I9 := instOk_of Tryd.func9 (by kernel_rfl) (by kernel_rfl) (by kernel_rfl) (by kernel_rfl)
theorem ok34 : InstOk Tryd.prog I34 := instOk_of Tryd.func34 (by kernel_rfl) (by kernel_rfl) (by kernel_rfl) (by kernel_rfl)
theorem ok52 : InstOk Tryd.prog I52 := instOk_of Tryd.func52 (by kernel_rfl) (by kernel_rfl) (by kernel_rfl) (by kernel_rfl)
theorem ok51 : InstOk Tryd.prog I51 := instOk_of Tryd.func51 (by kernel_rfl) (by kernel_rfl) (by kernel_rfl) (by kernel_rfl)
theorem ok55 : InstOk Tryd.prog I55 := instOk_of Tryd.func55 (by kernel_rfl) (by kernel_rfl) (by kernel_rfl) (by kernel_rfl)
theorem ok54 : InstOk Tryd.prog I54 := instOk_of Tryd.func54 (by kernel_rfl) (by kernel_rfl) (by kernel_rfl) (by kernel_rfl)
theorem ok65 : InstOk Tryd.prog I65 := instOk_of Tryd.func65 (by kernel_rfl) (by kernel_rfl) (by kernel_rfl) (by kernel_rfl)
theorem ok53 : InstOk Tryd.prog I53 := instOk_of Tryd.func53 (by kernel_rfl) (by kernel_rfl) (by kernel_rfl) (by kernel_rfl)
theorem ok37 : InstOk Tryd.prog I37 := instOk_of Tryd.func37 (by kernel_rfl) (by kernel_rfl) (by kernel_rfl) (by kernel_rfl)
theorem ok38 : InstOk Tryd.prog I38 := instOk_of Tryd.func38 (by kernel_rfl) (by kernel_rfl) (by kernel_rfl) (by kernel_rfl)
theorem ok36 : InstOk Tryd.prog I36 := instOk_of Tryd.func36 (by kernel_rfl) (by kernel_rfl) (by kernel_rfl) (by kernel_rfl)
theorem ok50 : InstOk Tryd.prog I50 := instOk_of Tryd.func50 (by kernel_rfl) (by kernel_rfl) (by kernel_rfl) (by kernel_rfl)
theorem ok35 : InstOk Tryd.prog I35 := instOk_of Tryd.func35 (by kernel_rfl) (by kernel_rfl) (by kernel_rfl) (by kernel_rfl)
theorem ok21 : InstOk Tryd.prog I21 := instOk_of Tryd.func21 (by kernel_rfl) (by kernel_rfl) (by kernel_rfl) (by kernel_rfl)
theorem ok39 : InstOk Tryd.prog I39 := instOk_ext rfl
theorem ok22 : InstOk Tryd.prog I22 := instOk_of Tryd.func22 (by kernel_rfl) (by kernel_rfl) (by kernel_rfl) (by kernel_rfl)
theorem ok40 : InstOk Tryd.prog I40 := instOk_ext rfl
theorem ok23 : InstOk Tryd.prog I23 := instOk_of Tryd.func23 (by kernel_rfl) (by kernel_rfl) (by kernel_rfl) (by kernel_rfl)
theorem ok14 : InstOk Tryd.prog I14 := instOk_ext rfl
theorem ok16 : InstOk Tryd.prog I16 := instOk_ext rfl
theorem ok11 : InstOk Tryd.prog I11 := instOk_of Tryd.func11 (by kernel_rfl) (by kernel_rfl) (by kernel_rfl) (by kernel_rfl)
theorem ok41 : InstOk Tryd.prog I41 := instOk_of Tryd.func41 (by kernel_rfl) (by kernel_rfl) (by kernel_rfl) (by kernel_rfl)
theorem ok24 : InstOk Tryd.prog I24 := instOk_of Tryd.func24 (by kernel_rfl) (by kernel_rfl) (by kernel_rfl) (by kernel_rfl)
theorem ok12 : InstOk Tryd.prog I12 := instOk_of Tryd.func12 (by kernel_rfl) (by kernel_rfl) (by kernel_rfl) (by kernel_rfl)
theorem ok4 : InstOk Tryd.prog I4 := instOk_of Tryd.func4 (by kernel_rfl) (by kernel_rfl) (by kernel_rfl) (by kernel_rfl)
theorem insts : ∀ j, InstOk Tryd.prog (C j) := find_all ok28 (List.forall_mem_cons.2 ⟨ok28, List.forall_mem_cons.2 ⟨ok17, List.forall_mem_cons.2 ⟨ok8, List.forall_mem_cons.2 ⟨ok33, List.forall_mem_cons.2 ⟨ok20, List.forall_mem_cons.2 ⟨ok10, List.forall_mem_cons.2 ⟨ok29, List.forall_mem_cons.2 ⟨ok48, List.forall_mem_cons.2 ⟨ok49, List.forall_mem_cons.2 ⟨ok30, List.forall_mem_cons.2 ⟨ok18, List.forall_mem_cons.2 ⟨ok31, List.forall_mem_cons.2 ⟨ok32, List.forall_mem_cons.2 ⟨ok19, List.forall_mem_cons.2 ⟨ok9, List.forall_mem_cons.2 ⟨ok34, List.forall_mem_cons.2 ⟨ok52, List.forall_mem_cons.2 ⟨ok51, List.forall_mem_cons.2 ⟨ok55, List.forall_mem_cons.2 ⟨ok54, List.forall_mem_cons.2 ⟨ok65, List.forall_mem_cons.2 ⟨ok53, List.forall_mem_cons.2 ⟨ok37, List.forall_mem_cons.2 ⟨ok38, List.forall_mem_cons.2 ⟨ok36, List.forall_mem_cons.2 ⟨ok50, List.forall_mem_cons.2 ⟨ok35, List.forall_mem_cons.2 ⟨ok21, List.forall_mem_cons.2 ⟨ok39, List.forall_mem_cons.2 ⟨ok22, List.forall_mem_cons.2 ⟨ok40, List.forall_mem_cons.2 ⟨ok23, List.forall_mem_cons.2 ⟨ok14, List.forall_mem_cons.2 ⟨ok16, List.forall_mem_cons.2 ⟨ok11, List.forall_mem_cons.2 ⟨ok41, List.forall_mem_cons.2 ⟨ok24, List.forall_mem_cons.2 ⟨ok12, List.forall_mem_cons.2 ⟨ok4, fun _ h => absurd h List.not_mem_nil⟩⟩⟩⟩⟩⟩⟩⟩⟩⟩⟩⟩⟩⟩⟩⟩⟩⟩⟩⟩⟩⟩⟩⟩⟩⟩⟩⟩⟩⟩⟩⟩⟩⟩⟩⟩⟩⟩⟩)
theorem c39 : C 39 = I39 := by kernel_rfl
theorem c40 : C 40 = I40 := by kernel_rfl
theorem c14 : C 14 = I14 := by kernel_rfl
theorem c16 : C 16 = I16 := by kernel_rfl
theorem exts {L : Laid} (h39 : ExtOk Tryd.prog L I39) (h40 : ExtOk Tryd.prog L I40) (h14 : ExtOk Tryd.prog L I14) (h16 : ExtOk Tryd.prog L I16) : ∀ j, ExtOk Tryd.prog L (C j) := by
  have hC : C = find I28 CL := by delta C; with_reducible rfl
  refine fun j => exts_of (C := C) _ _ [39, 40, 14, 16] hC (by kernel_rfl) (by kernel_rfl) ?_ j
  intro e he
  change ExtOk _ _ (C e)
  simp only [List.mem_cons, List.not_mem_nil, or_false] at he
  rcases he with rfl | rfl | rfl | rfl
  · rw [c39]; exact h39
  · rw [c40]; exact h40
  · rw [c14]; exact h14
  · rw [c16]; exact h16
end Go.Proofs.YtimojogjlbajeaaDoor.LSs
