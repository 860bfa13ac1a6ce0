/- The types and the functions that a law reaches, told for the reading (Fw). Written by a program (gen.py). -/
import Derived.Test.YtjfkgmidnjiofaaDoorFwC
import Derived.Test.YtjfkgmidnjiofaaDoorProg
import Derived.Lib.TrailingZeros
import Derived.Lib.ItoaNum
import Derived.Lib.Join
namespace Go.Proofs.YtjfkgmidnjiofaaDoor.LMachineText
open Go Go.Fw
open Go.Proofs
noncomputable def tyL : List (Nat × TI) := [(2, ⟨(.int .i64), 0, 8⟩),
  (3, ⟨(.int .i64), 0, 8⟩),
  (4, ⟨.bool, 0, 1⟩),
  (5, ⟨(.int .u8), 0, 1⟩),
  (9, ⟨.str, 0, 16⟩),
  (28, ⟨(.slc (.int .i16)), 34, 24⟩),
  (30, ⟨(.slc (.int .i16)), 34, 24⟩),
  (34, ⟨(.int .i16), 0, 2⟩),
  (47, ⟨(.pair (.slc (.int .i16)) (.pair (.slc (.int .i16)) (.pair (.slc (.int .i16)) .unit))), 0, 72⟩),
  (51, ⟨(.pair (.slc (.int .i16)) (.pair (.slc (.int .i16)) (.pair (.slc (.int .i16)) .unit))), 0, 72⟩),
  (65, ⟨(.slc (.int .u8)), 5, 24⟩),
  (75, ⟨(.slc .str), 9, 24⟩),
  (90, ⟨(.ptr (.pair (.slc (.int .i16)) (.pair (.slc (.int .i16)) (.pair (.slc (.int .i16)) .unit)))), 0, 8⟩),
  (108, ⟨.fn, 0, 8⟩),
  (118, ⟨(.arr 2 (.slc (.int .i16))), 30, 48⟩)]
noncomputable def T : Nat → Option TI := findT tyL
/- laws.szCam -/
noncomputable def I45 : Inst := { f := 45, nt := 12, params := [((.ro (.slc (.int .i16))), false), ((.ro (.int .i64)), false)], res := [(.ro (.int .i64))], slots := [.tmp 4], code := bd Tryd.f45 }
/- laws.szMachine -/
noncomputable def I20 : Inst := { f := 20, nt := 24, params := [((.ro (.pair (.slc (.int .i16)) (.pair (.slc (.int .i16)) (.pair (.slc (.int .i16)) .unit)))), false), ((.ro (.int .i64)), false)], res := [(.ro (.int .i64))], slots := [.tmp 4], code := bd Tryd.f20, callee := fun r i => find 0 [(1003, 45), (4003, 45), (7003, 45)] (r * 1000 + i) }
/- laws.toCam -/
noncomputable def I12 : Inst := { f := 12, nt := 22, params := [((.ro (.slc (.int .i16))), false)], res := [(.row false (.int .i16))], slots := [.tmp 2], code := bd Tryd.f12, loops := fun b => find [] [(0, [.own 0 (.ro (.slc (.int .i16))), .own 3 (.row false (.int .i16)), .own 4 (.ro (.int .i64))])] b, deep := fun r i => find false [(1002, true)] (r * 1000 + i) }
/- laws.toMachine -/
noncomputable def I22 : Inst := { f := 22, nt := 17, params := [((.ro (.pair (.slc (.int .i16)) (.pair (.slc (.int .i16)) (.pair (.slc (.int .i16)) .unit)))), false)], res := [(.pr (.row false (.int .i16)) (.pr (.row false (.int .i16)) (.pr (.row false (.int .i16)) (.ro .unit))))], slots := [.cell 2 51], code := bd Tryd.f22, callee := fun r i => find 0 [(2002, 12), (3002, 12), (4002, 12)] (r * 1000 + i) }
/- spec.l00In -/
noncomputable def I68 : Inst := { f := 68, nt := 15, params := [((.ro (.int .i64)), false), ((.ro (.int .i64)), false), ((.ro (.int .i64)), false)], res := [(.ro .bool)], slots := [.tmp 6], code := bd Tryd.f68 }
/- spec.l01Steps -/
noncomputable def I58 : Inst := { f := 58, nt := 5, params := [((.ro (.int .i64)), false)], res := [(.ro .bool)], slots := [.tmp 2], code := bd Tryd.f58, callee := fun r i => find 0 [(1001, 68)] (r * 1000 + i) }
/- spec.l01Lift -/
noncomputable def I59 : Inst := { f := 59, nt := 5, params := [((.ro (.int .i64)), false)], res := [(.ro .bool)], slots := [.tmp 2], code := bd Tryd.f59, callee := fun r i => find 0 [(1001, 68)] (r * 1000 + i) }
/- spec.l01Ok -/
noncomputable def I34 : Inst := { f := 34, nt := 21, params := [((.ro (.slc (.int .i16))), false)], res := [(.ro .bool)], slots := [.tmp 2], code := bd Tryd.f34, callee := fun r i => find 0 [(1002, 58), (6005, 59)] (r * 1000 + i), loops := fun b => find [] [(0, [.own 0 (.ro (.slc (.int .i16))), .own 3 (.ro (.int .i64))])] b }
/- spec.l00Min -/
noncomputable def I102 : Inst := { f := 102, nt := 10, params := [((.ro (.int .i64)), false), ((.ro (.int .i64)), false)], res := [(.ro (.int .i64))], slots := [.tmp 4], code := bd Tryd.f102 }
/- spec.l00Max -/
noncomputable def I103 : Inst := { f := 103, nt := 10, params := [((.ro (.int .i64)), false), ((.ro (.int .i64)), false)], res := [(.ro (.int .i64))], slots := [.tmp 4], code := bd Tryd.f103 }
/- spec.l01Range -/
noncomputable def I92 : Inst := { f := 92, nt := 34, params := [((.ro (.slc (.int .i16))), false)], res := [(.ro (.int .i64)), (.ro (.int .i64))], slots := [.tmp 2, .tmp 3], code := bd Tryd.f92, callee := fun r i => find 0 [(6006, 102), (7006, 103)] (r * 1000 + i), loops := fun b => find [] [(0, [.own 0 (.ro (.slc (.int .i16))), .own 4 (.ro (.int .i64)), .own 5 (.ro (.int .i64)), .own 6 (.ro (.int .i64))])] b }
/- spec.l07Moves -/
noncomputable def I78 : Inst := { f := 78, nt := 15, params := [((.ro (.slc (.int .i16))), false)], res := [(.ro .bool)], slots := [.tmp 2], code := bd Tryd.f78, callee := fun r i => find 0 [(1001, 34), (3001, 92)] (r * 1000 + i) }
/- spec.l07Ok -/
noncomputable def I46 : Inst := { f := 46, nt := 48, params := [((.ro (.ptr (.pair (.slc (.int .i16)) (.pair (.slc (.int .i16)) (.pair (.slc (.int .i16)) .unit))))), false)], res := [(.ro .bool)], slots := [.tmp 2], code := bd Tryd.f46, callee := fun r i => find 0 [(1004, 78), (1010, 78), (1017, 34)] (r * 1000 + i) }
/- spec.Decimal -/
noncomputable def I60 : Inst := { f := 60, nt := 21, params := [((.ro (.int .i64)), false)], res := [(.ro .str)], slots := [.tmp 2], code := bd Tryd.f60, callee := fun r i => find 0 [(3002, 60)] (r * 1000 + i), deep := fun r i => find false [(2004, true), (3007, true)] (r * 1000 + i), frz := fun r i => find false [(2004, true), (3007, true)] (r * 1000 + i) }
/- spec.l01Text -/
noncomputable def I35 : Inst := { f := 35, nt := 53, params := [((.ro (.slc (.int .i16))), false)], res := [(.ro .str)], slots := [.tmp 2], code := bd Tryd.f35, callee := fun r i => find 0 [(9006, 60), (11004, 60)] (r * 1000 + i), loops := fun b => find [] [(2, [.own 0 (.ro (.slc (.int .i16))), .own 3 (.ro .str), .own 4 (.ro (.int .i64)), .own 5 (.ro (.int .i64))]), (0, [.own 0 (.ro (.slc (.int .i16))), .own 3 (.ro .str), .own 4 (.ro (.int .i64))])] b }
/- spec.l07Text -/
noncomputable def I47 : Inst := { f := 47, nt := 24, params := [((.ro (.ptr (.pair (.slc (.int .i16)) (.pair (.slc (.int .i16)) (.pair (.slc (.int .i16)) .unit))))), false)], res := [(.ro .str)], slots := [.tmp 2], code := bd Tryd.f47, callee := fun r i => find 0 [(1004, 35), (1011, 35), (1018, 35)] (r * 1000 + i) }
/- spec.MachineText -/
noncomputable def I21 : Inst := { f := 21, nt := 6, params := [((.ro (.pair (.slc (.int .i16)) (.pair (.slc (.int .i16)) (.pair (.slc (.int .i16)) .unit)))), false)], res := [(.ro .str)], slots := [.tmp 2], code := bd Tryd.f21, callee := fun r i => find 0 [(1000, 46), (3000, 47)] (r * 1000 + i) }
/- impl.Cam).steps -/
noncomputable def I62 : Inst := { f := 62, nt := 5, params := [((.ro (.slc (.int .i16))), false)], res := [(.ro (.int .i64))], slots := [.tmp 2], code := bd Tryd.f62 }
/- impl.inRange -/
noncomputable def I72 : Inst := { f := 72, nt := 15, params := [((.ro (.int .i64)), false), ((.ro (.int .i64)), false), ((.ro (.int .i64)), false)], res := [(.ro .bool)], slots := [.tmp 6], code := bd Tryd.f72 }
/- impl.isSteps -/
noncomputable def I61 : Inst := { f := 61, nt := 5, params := [((.ro (.int .i64)), false)], res := [(.ro .bool)], slots := [.tmp 2], code := bd Tryd.f61, callee := fun r i => find 0 [(1001, 72)] (r * 1000 + i) }
/- impl.isLift -/
noncomputable def I65 : Inst := { f := 65, nt := 5, params := [((.ro (.int .i64)), false)], res := [(.ro .bool)], slots := [.tmp 2], code := bd Tryd.f65, callee := fun r i => find 0 [(1001, 72)] (r * 1000 + i) }
/- impl.ValidCam$1 -/
noncomputable def I64 : Inst := { f := 64, nt := 7, params := [((.ro (.int .i16)), false)], res := [(.ro .bool)], slots := [.tmp 2], code := bd Tryd.f64, callee := fun r i => find 0 [(1002, 65)] (r * 1000 + i) }
/- impl.Cam,int16] -/
noncomputable def I88 : Inst := { f := 88, nt := 19, params := [((.ro (.slc (.int .i16))), false), ((.clo 64 (.ro .unit) (.ro .unit)), false)], res := [(.ro (.int .i64))], slots := [.tmp 4], code := bd Tryd.f88, callee := fun r i => find 0 [(4005, 64)] (r * 1000 + i), loops := fun b => find [] [(0, [.own 0 (.ro (.slc (.int .i16))), .own 1 (.clo 64 (.ro .unit) (.ro .unit)), .own 7 (.ro (.int .i64)), .own 8 (.ro (.int .i64))])] b }
/- impl.Cam,int16] -/
noncomputable def I63 : Inst := { f := 63, nt := 9, params := [((.ro (.slc (.int .i16))), false), ((.clo 64 (.ro .unit) (.ro .unit)), false)], res := [(.ro .bool)], slots := [.tmp 4], code := bd Tryd.f63, callee := fun r i => find 0 [(1002, 88)] (r * 1000 + i) }
/- impl.ValidCam -/
noncomputable def I36 : Inst := { f := 36, nt := 11, params := [((.ro (.slc (.int .i16))), false)], res := [(.ro .bool)], slots := [.tmp 2], code := bd Tryd.f36, callee := fun r i => find 0 [(1001, 62), (1002, 61), (1005, 63)] (r * 1000 + i) }
/- impl.Cam,int16] -/
noncomputable def I79 : Inst := { f := 79, nt := 25, params := [((.ro (.slc (.int .i16))), false)], res := [(.ro (.int .i16))], slots := [.tmp 2], code := bd Tryd.f79, loops := fun b => find [] [(0, [.own 0 (.ro (.slc (.int .i16))), .own 3 (.ro (.int .i16)), .own 4 (.ro (.int .i64))])] b }
/- impl.ValidMachine -/
noncomputable def I48 : Inst := { f := 48, nt := 33, params := [((.ro (.pair (.slc (.int .i16)) (.pair (.slc (.int .i16)) (.pair (.slc (.int .i16)) .unit)))), false)], res := [(.ro .bool)], slots := [.tmp 2], code := bd Tryd.f48, callee := fun r i => find 0 [(4001, 36), (4013, 79), (7002, 36)] (r * 1000 + i), loops := fun b => find [] [(0, [.own 1 (.box (.ro (.pair (.slc (.int .i16)) (.pair (.slc (.int .i16)) (.pair (.slc (.int .i16)) .unit))))), .own 9 (.ro (.arr 2 (.slc (.int .i16)))), .own 10 (.ro (.int .i64))])] b }
/- strconv.FormatInt: told by its contract -/
noncomputable def I66 : Inst := { f := 66, nt := 0, params := [((.ro (.int .i64)), false), ((.ro (.int .i64)), false)], res := [(.ro .str)], slots := [], code := .skip, ext := some (fun x => if x.2.1 = 10 ∧ -9223372036854775808 ≤ x.1 ∧ x.1 ≤ 9223372036854775807 then some (((⟨(Lib.itoa x.1).toArray⟩ : ByteArray), ()), ()) else none) }
/- impl.decimal -/
noncomputable def I37 : Inst := { f := 37, nt := 5, params := [((.ro (.int .i64)), false)], res := [(.ro .str)], slots := [.tmp 2], code := bd Tryd.f37, callee := fun r i => find 0 [(1001, 66)] (r * 1000 + i) }
/- strings.Join: told by its contract -/
noncomputable def I38 : Inst := { f := 38, nt := 0, params := [((.row false .str), true), ((.ro .str), false)], res := [(.ro .str)], slots := [], code := .skip, ext := some (fun x => if x.1.length ≤ 140737488355328 ∧ (Lib.join (x.1.map fun s => s.data.toList) x.2.1.data.toList).length ≤ 140737488355328 then some (((⟨(Lib.join (x.1.map fun s => s.data.toList) x.2.1.data.toList).toArray⟩ : ByteArray), ()), (x.1, ())) else none) }
/- impl.CamText -/
noncomputable def I13 : Inst := { f := 13, nt := 57, params := [((.ro (.slc (.int .i16))), false)], res := [(.ro .str)], slots := [.tmp 2], code := bd Tryd.f13, callee := fun r i => find 0 [(1001, 36), (9005, 37), (11004, 37), (13001, 38)] (r * 1000 + i), loops := fun b => find [] [(2, [.own 0 (.ro (.slc (.int .i16))), .own 3 (.row false .str), .own 4 (.ro (.int .i64)), .own 5 (.ro (.int .i64))]), (0, [.own 0 (.ro (.slc (.int .i16))), .own 3 (.row false .str), .own 4 (.ro (.int .i64))])] b, deep := fun r i => find false [(3000, true), (12002, true), (12003, true)] (r * 1000 + i) }
/- impl.MachineText -/
noncomputable def I23 : Inst := { f := 23, nt := 21, params := [((.ro (.pair (.slc (.int .i16)) (.pair (.slc (.int .i16)) (.pair (.slc (.int .i16)) .unit)))), false)], res := [(.ro .str)], slots := [.tmp 2], code := bd Tryd.f23, callee := fun r i => find 0 [(1001, 48), (3002, 13), (3007, 13), (3012, 13)] (r * 1000 + i) }
/- laws.eqCam -/
noncomputable def I14 : Inst := { f := 14, nt := 26, params := [((.ro (.slc (.int .i16))), false), ((.ro (.slc (.int .i16))), false)], res := [(.ro .bool)], slots := [.tmp 4], code := bd Tryd.f14, loops := fun b => find [] [(0, [.own 0 (.ro (.slc (.int .i16))), .own 1 (.ro (.slc (.int .i16))), .own 5 (.ro (.int .i64))])] b }
/- laws.eqMachine -/
noncomputable def I24 : Inst := { f := 24, nt := 23, params := [((.ro (.pair (.slc (.int .i16)) (.pair (.slc (.int .i16)) (.pair (.slc (.int .i16)) .unit)))), false), ((.ro (.pair (.slc (.int .i16)) (.pair (.slc (.int .i16)) (.pair (.slc (.int .i16)) .unit)))), false)], res := [(.ro .bool)], slots := [.tmp 4], code := bd Tryd.f24, callee := fun r i => find 0 [(1004, 14), (3004, 14), (5004, 14)] (r * 1000 + i) }
/- laws.FnExactMachineText -/
noncomputable def I6 : Inst := { f := 6, nt := 27, params := [((.ro (.pair (.slc (.int .i16)) (.pair (.slc (.int .i16)) (.pair (.slc (.int .i16)) .unit)))), false)], res := [(.ro .bool)], slots := [.tmp 2], code := bd Tryd.f6, callee := fun r i => find 0 [(2002, 20), (5001, 22), (5002, 21), (6001, 22), (7001, 23), (10002, 22), (10003, 24)] (r * 1000 + i) }
noncomputable def CL : List (Nat × Inst) := [(45, I45), (20, I20), (12, I12), (22, I22), (68, I68), (58, I58), (59, I59), (34, I34), (102, I102), (103, I103), (92, I92), (78, I78), (46, I46), (60, I60), (35, I35), (47, I47), (21, I21), (62, I62), (72, I72), (61, I61), (65, I65), (64, I64), (88, I88), (63, I63), (36, I36), (79, I79), (48, I48), (66, I66), (37, I37), (38, I38), (13, I13), (23, I23), (14, I14), (24, I24), (6, I6)]
noncomputable def C : Nat → Inst := find I45 CL
theorem tsOk : TsOk Tryd.prog T := tsOkB_sound (by kernel_rfl)
theorem ok45 : InstOk Tryd.prog I45 := instOk_of Tryd.func45 (by kernel_rfl) (by kernel_rfl) (by kernel_rfl) (by kernel_rfl)
theorem ok20 : InstOk Tryd.prog I20 := instOk_of Tryd.func20 (by kernel_rfl) (by kernel_rfl) (by kernel_rfl) (by kernel_rfl)
theorem ok12 : InstOk Tryd.prog I12 := instOk_of Tryd.func12 (by kernel_rfl) (by kernel_rfl) (by kernel_rfl) (by kernel_rfl)
theorem ok22 : InstOk Tryd.prog I22 := instOk_of Tryd.func22 (by kernel_rfl) (by kernel_rfl) (by kernel_rfl) (by kernel_rfl)
theorem ok68 : InstOk Tryd.prog I68 := instOk_of Tryd.func68 (by kernel_rfl) (by kernel_rfl) (by kernel_rfl) (by kernel_rfl)
theorem ok58 : InstOk Tryd.prog I58 := instOk_of Tryd.func58 (by kernel_rfl) (by kernel_rfl) (by kernel_rfl) (by kernel_rfl)
theorem ok59 : InstOk Tryd.prog I59 := instOk_of Tryd.func59 (by kernel_rfl) (by kernel_rfl) (by kernel_rfl) (by kernel_rfl)
theorem ok34 : InstOk Tryd.prog I34 := instOk_of Tryd.func34 (by kernel_rfl) (by kernel_rfl) (by kernel_rfl) (by kernel_rfl)
theorem ok102 : InstOk Tryd.prog I102 := instOk_of Tryd.func102 (by kernel_rfl) (by kernel_rfl) (by kernel_rfl) (by kernel_rfl)
theorem ok103 : InstOk Tryd.prog I103 := instOk_of Tryd.func103 (by kernel_rfl) (by kernel_rfl) (by kernel_rfl) (by kernel_rfl)
theorem ok92 : InstOk Tryd.prog I92 := instOk_of Tryd.func92 (by kernel_rfl) (by kernel_rfl) (by kernel_rfl) (by kernel_rfl)
theorem ok78 : InstOk Tryd.prog I78 := instOk_of Tryd.func78 (by kernel_rfl) (by kernel_rfl) (by kernel_rfl) (by kernel_rfl)
theorem ok46 : InstOk Tryd.prog I46 := instOk_of Tryd.func46 (by kernel_rfl) (by kernel_rfl) (by kernel_rfl) (by kernel_rfl)
theorem ok60 : InstOk Tryd.prog I60 := instOk_of Tryd.func60 (by kernel_rfl) (by kernel_rfl) (by kernel_rfl) (by kernel_rfl)
theorem ok35 : InstOk Tryd.prog I35 := instOk_of Tryd.func35 (by kernel_rfl) (by kernel_rfl) (by kernel_rfl) (by kernel_rfl)
theorem ok47 : InstOk Tryd.prog I47 := instOk_of Tryd.func47 (by kernel_rfl) (by kernel_rfl) (by kernel_rfl) (by kernel_rfl)
theorem ok21 : InstOk Tryd.prog I21 := instOk_of Tryd.func21 (by kernel_rfl) (by kernel_rfl) (by kernel_rfl) (by kernel_rfl)
theorem ok62 : InstOk Tryd.prog I62 := instOk_of Tryd.func62 (by kernel_rfl) (by kernel_rfl) (by kernel_rfl) (by kernel_rfl)
theorem ok72 : InstOk Tryd.prog I72 := instOk_of Tryd.func72 (by kernel_rfl) (by kernel_rfl) (by kernel_rfl) (by kernel_rfl)
theorem ok61 : InstOk Tryd.prog I61 := instOk_of Tryd.func61 (by kernel_rfl) (by kernel_rfl) (by kernel_rfl) (by kernel_rfl)
theorem ok65 : InstOk Tryd.prog I65 := instOk_of Tryd.func65 (by kernel_rfl) (by kernel_rfl) (by kernel_rfl) (by kernel_rfl)
theorem ok64 : InstOk Tryd.prog I64 := instOk_of Tryd.func64 (by kernel_rfl) (by kernel_rfl) (by kernel_rfl) (by kernel_rfl)
theorem ok88 : InstOk Tryd.prog I88 := instOk_of Tryd.func88 (by kernel_rfl) (by kernel_rfl) (by kernel_rfl) (by kernel_rfl)
theorem ok63 : InstOk Tryd.prog I63 := instOk_of Tryd.func63 (by kernel_rfl) (by kernel_rfl) (by kernel_rfl) (by kernel_rfl)
theorem ok36 : InstOk Tryd.prog I36 := instOk_of Tryd.func36 (by kernel_rfl) (by kernel_rfl) (by kernel_rfl) (by kernel_rfl)
theorem ok79 : InstOk Tryd.prog I79 := instOk_of Tryd.func79 (by kernel_rfl) (by kernel_rfl) (by kernel_rfl) (by kernel_rfl)
theorem ok48 : InstOk Tryd.prog I48 := instOk_of Tryd.func48 (by kernel_rfl) (by kernel_rfl) (by kernel_rfl) (by kernel_rfl)
theorem ok66 : InstOk Tryd.prog I66 := instOk_ext rfl
theorem ok37 : InstOk Tryd.prog I37 := instOk_of Tryd.func37 (by kernel_rfl) (by kernel_rfl) (by kernel_rfl) (by kernel_rfl)
theorem ok38 : InstOk Tryd.prog I38 := instOk_ext rfl
theorem ok13 : InstOk Tryd.prog I13 := instOk_of Tryd.func13 (by kernel_rfl) (by kernel_rfl) (by kernel_rfl) (by kernel_rfl)
theorem ok23 : InstOk Tryd.prog I23 := instOk_of Tryd.func23 (by kernel_rfl) (by kernel_rfl) (by kernel_rfl) (by kernel_rfl)
theorem ok14 : InstOk Tryd.prog I14 := instOk_of Tryd.func14 (by kernel_rfl) (by kernel_rfl) (by kernel_rfl) (by kernel_rfl)
theorem ok24 : InstOk Tryd.prog I24 := instOk_of Tryd.func24 (by kernel_rfl) (by kernel_rfl) (by kernel_rfl) (by kernel_rfl)
theorem ok6 : InstOk Tryd.prog I6 := instOk_of Tryd.func6 (by kernel_rfl) (by kernel_rfl) (by kernel_rfl) (by kernel_rfl)
theorem insts : ∀ j, InstOk Tryd.prog (C j) := find_all ok45 (List.forall_mem_cons.2 ⟨ok45, List.forall_mem_cons.2 ⟨ok20, List.forall_mem_cons.2 ⟨ok12, List.forall_mem_cons.2 ⟨ok22, List.forall_mem_cons.2 ⟨ok68, List.forall_mem_cons.2 ⟨ok58, List.forall_mem_cons.2 ⟨ok59, List.forall_mem_cons.2 ⟨ok34, List.forall_mem_cons.2 ⟨ok102, List.forall_mem_cons.2 ⟨ok103, List.forall_mem_cons.2 ⟨ok92, List.forall_mem_cons.2 ⟨ok78, List.forall_mem_cons.2 ⟨ok46, List.forall_mem_cons.2 ⟨ok60, List.forall_mem_cons.2 ⟨ok35, List.forall_mem_cons.2 ⟨ok47, List.forall_mem_cons.2 ⟨ok21, List.forall_mem_cons.2 ⟨ok62, List.forall_mem_cons.2 ⟨ok72, List.forall_mem_cons.2 ⟨ok61, List.forall_mem_cons.2 ⟨ok65, List.forall_mem_cons.2 ⟨ok64, List.forall_mem_cons.2 ⟨ok88, List.forall_mem_cons.2 ⟨ok63, List.forall_mem_cons.2 ⟨ok36, List.forall_mem_cons.2 ⟨ok79, List.forall_mem_cons.2 ⟨ok48, List.forall_mem_cons.2 ⟨ok66, List.forall_mem_cons.2 ⟨ok37, List.forall_mem_cons.2 ⟨ok38, List.forall_mem_cons.2 ⟨ok13, List.forall_mem_cons.2 ⟨ok23, List.forall_mem_cons.2 ⟨ok14, List.forall_mem_cons.2 ⟨ok24, List.forall_mem_cons.2 ⟨ok6, fun _ h => absurd h List.not_mem_nil⟩⟩⟩⟩⟩⟩⟩⟩⟩⟩⟩⟩⟩⟩⟩⟩⟩⟩⟩⟩⟩⟩⟩⟩⟩⟩⟩⟩⟩⟩⟩⟩⟩⟩⟩)
theorem c66 : C 66 = I66 := by kernel_rfl
theorem c38 : C 38 = I38 := by kernel_rfl
theorem exts {L : Laid} (h66 : ExtOk Tryd.prog L I66) (h38 : ExtOk Tryd.prog L I38) : ∀ j, ExtOk Tryd.prog L (C j) := by
  have hC : C = find I45 CL := by delta C; with_reducible rfl
  refine fun j => exts_of (C := C) _ _ [66, 38] hC (by kernel_rfl) (by kernel_rfl) ?_ j
  intro e he
  change ExtOk _ _ (C e)
  simp only [List.mem_cons, List.not_mem_nil, or_false] at he
  rcases he with rfl | rfl
  · rw [c66]; exact h66
  · rw [c38]; exact h38
end Go.Proofs.YtjfkgmidnjiofaaDoor.LMachineText
