/- The types and the functions that a law reaches, told for the reading (Fw). Written by a program (gen.py). -/
import Derived.Test.YtjfkgmidnjiofaaDoorFwC
import Derived.Test.YtjfkgmidnjiofaaDoorProg
import Derived.Lib.TrailingZeros
import Derived.Lib.ItoaNum
import Derived.Lib.Join
namespace Go.Proofs.YtjfkgmidnjiofaaDoor.LProgramText
open Go Go.Fw
open Go.Proofs
noncomputable def tyL : List (Nat × TI) := [(2, ⟨(.int .i64), 0, 8⟩),
  (3, ⟨(.int .i64), 0, 8⟩),
  (4, ⟨.bool, 0, 1⟩),
  (5, ⟨(.int .u8), 0, 1⟩),
  (9, ⟨.str, 0, 16⟩),
  (34, ⟨(.int .i16), 0, 2⟩),
  (35, ⟨(.slc (.pair (.int .i8) (.pair (.int .i16) (.pair (.int .i16) .unit)))), 114, 24⟩),
  (37, ⟨(.pair (.int .i16) (.pair (.slc (.pair (.int .i8) (.pair (.int .i16) (.pair (.int .i16) .unit)))) .unit)), 0, 32⟩),
  (40, ⟨(.slc (.pair (.int .i8) (.pair (.int .i16) (.pair (.int .i16) .unit)))), 86, 24⟩),
  (42, ⟨(.pair (.int .i16) (.pair (.slc (.pair (.int .i8) (.pair (.int .i16) (.pair (.int .i16) .unit)))) .unit)), 0, 32⟩),
  (65, ⟨(.slc (.int .u8)), 5, 24⟩),
  (75, ⟨(.slc .str), 9, 24⟩),
  (80, ⟨(.ptr (.pair (.int .i16) (.pair (.slc (.pair (.int .i8) (.pair (.int .i16) (.pair (.int .i16) .unit)))) .unit))), 0, 8⟩),
  (84, ⟨(.int .i8), 0, 1⟩),
  (86, ⟨(.pair (.int .i8) (.pair (.int .i16) (.pair (.int .i16) .unit))), 0, 6⟩),
  (114, ⟨(.pair (.int .i8) (.pair (.int .i16) (.pair (.int .i16) .unit))), 0, 6⟩),
  (116, ⟨.fn, 0, 8⟩)]
noncomputable def T : Nat → Option TI := findT tyL
/- laws.szMotionS -/
noncomputable def I39 : Inst := { f := 39, nt := 12, params := [((.ro (.slc (.pair (.int .i8) (.pair (.int .i16) (.pair (.int .i16) .unit))))), false), ((.ro (.int .i64)), false)], res := [(.ro (.int .i64))], slots := [.tmp 4], code := bd Tryd.f39 }
/- laws.szProgram -/
noncomputable def I15 : Inst := { f := 15, nt := 12, params := [((.ro (.pair (.int .i16) (.pair (.slc (.pair (.int .i8) (.pair (.int .i16) (.pair (.int .i16) .unit)))) .unit))), false), ((.ro (.int .i64)), false)], res := [(.ro (.int .i64))], slots := [.tmp 4], code := bd Tryd.f15, callee := fun r i => find 0 [(1003, 39)] (r * 1000 + i) }
/- laws.toMotion -/
noncomputable def I71 : Inst := { f := 71, nt := 14, params := [((.ro (.pair (.int .i8) (.pair (.int .i16) (.pair (.int .i16) .unit)))), false)], res := [(.ro (.pair (.int .i8) (.pair (.int .i16) (.pair (.int .i16) .unit))))], slots := [.cell 2 86], code := bd Tryd.f71 }
/- laws.toMotionS -/
noncomputable def I42 : Inst := { f := 42, nt := 23, params := [((.ro (.slc (.pair (.int .i8) (.pair (.int .i16) (.pair (.int .i16) .unit))))), false)], res := [(.row false (.pair (.int .i8) (.pair (.int .i16) (.pair (.int .i16) .unit))))], slots := [.tmp 2], code := bd Tryd.f42, callee := fun r i => find 0 [(5006, 71)] (r * 1000 + i), loops := fun b => find [] [(0, [.own 0 (.ro (.slc (.pair (.int .i8) (.pair (.int .i16) (.pair (.int .i16) .unit))))), .own 3 (.row false (.pair (.int .i8) (.pair (.int .i16) (.pair (.int .i16) .unit)))), .own 4 (.ro (.int .i64))])] b, deep := fun r i => find false [(1002, true)] (r * 1000 + i) }
/- laws.toProgram -/
noncomputable def I17 : Inst := { f := 17, nt := 12, params := [((.ro (.pair (.int .i16) (.pair (.slc (.pair (.int .i8) (.pair (.int .i16) (.pair (.int .i16) .unit)))) .unit))), false)], res := [(.pr (.ro (.int .i16)) (.pr (.row false (.pair (.int .i8) (.pair (.int .i16) (.pair (.int .i16) .unit)))) (.ro .unit)))], slots := [.cell 2 42], code := bd Tryd.f17, callee := fun r i => find 0 [(3002, 42)] (r * 1000 + i) }
/- spec.l00In -/
noncomputable def I68 : Inst := { f := 68, nt := 15, params := [((.ro (.int .i64)), false), ((.ro (.int .i64)), false), ((.ro (.int .i64)), false)], res := [(.ro .bool)], slots := [.tmp 6], code := bd Tryd.f68 }
/- spec.l01Lift -/
noncomputable def I59 : Inst := { f := 59, nt := 5, params := [((.ro (.int .i64)), false)], res := [(.ro .bool)], slots := [.tmp 2], code := bd Tryd.f59, callee := fun r i => find 0 [(1001, 68)] (r * 1000 + i) }
/- spec.l02Law -/
noncomputable def I69 : Inst := { f := 69, nt := 5, params := [((.ro (.int .i64)), false)], res := [(.ro .bool)], slots := [.tmp 2], code := bd Tryd.f69, callee := fun r i => find 0 [(1001, 68)] (r * 1000 + i) }
/- spec.l01Steps -/
noncomputable def I58 : Inst := { f := 58, nt := 5, params := [((.ro (.int .i64)), false)], res := [(.ro .bool)], slots := [.tmp 2], code := bd Tryd.f58, callee := fun r i => find 0 [(1001, 68)] (r * 1000 + i) }
/- spec.l02Ok -/
noncomputable def I40 : Inst := { f := 40, nt := 83, params := [((.ro (.ptr (.pair (.int .i16) (.pair (.slc (.pair (.int .i8) (.pair (.int .i16) (.pair (.int .i16) .unit)))) .unit)))), false)], res := [(.ro .bool)], slots := [.tmp 2], code := bd Tryd.f40, callee := fun r i => find 0 [(2001, 68), (2009, 59), (9005, 69), (9020, 59), (12001, 58)] (r * 1000 + i), loops := fun b => find [] [(0, [.own 0 (.ro (.ptr (.pair (.int .i16) (.pair (.slc (.pair (.int .i8) (.pair (.int .i16) (.pair (.int .i16) .unit)))) .unit)))), .own 3 (.ro (.int .i64)), .own 4 (.ro (.int .i64)), .own 5 (.ro (.int .i64))])] b }
/- spec.Decimal -/
noncomputable def I60 : Inst := { f := 60, nt := 21, params := [((.ro (.int .i64)), false)], res := [(.ro .str)], slots := [.tmp 2], code := bd Tryd.f60, callee := fun r i => find 0 [(3002, 60)] (r * 1000 + i), deep := fun r i => find false [(2004, true), (3007, true)] (r * 1000 + i), frz := fun r i => find false [(2004, true), (3007, true)] (r * 1000 + i) }
/- spec.l02Letters -/
noncomputable def I70 : Inst := { f := 70, nt := 1, params := [], res := [(.ro .str)], slots := [.tmp 0], code := bd Tryd.f70 }
/- spec.l02Text -/
noncomputable def I41 : Inst := { f := 41, nt := 57, params := [((.ro (.ptr (.pair (.int .i16) (.pair (.slc (.pair (.int .i8) (.pair (.int .i16) (.pair (.int .i16) .unit)))) .unit)))), false)], res := [(.ro .str)], slots := [.tmp 2], code := bd Tryd.f41, callee := fun r i => find 0 [(1005, 60), (6001, 70), (6018, 60), (6026, 60)] (r * 1000 + i), loops := fun b => find [] [(0, [.own 0 (.ro (.ptr (.pair (.int .i16) (.pair (.slc (.pair (.int .i8) (.pair (.int .i16) (.pair (.int .i16) .unit)))) .unit)))), .own 3 (.ro .str), .own 4 (.ro (.int .i64))])] b }
/- spec.ProgramText -/
noncomputable def I16 : Inst := { f := 16, nt := 6, params := [((.ro (.pair (.int .i16) (.pair (.slc (.pair (.int .i8) (.pair (.int .i16) (.pair (.int .i16) .unit)))) .unit))), false)], res := [(.ro .str)], slots := [.tmp 2], code := bd Tryd.f16, callee := fun r i => find 0 [(1000, 40), (3000, 41)] (r * 1000 + i) }
/- impl.inRange -/
noncomputable def I72 : Inst := { f := 72, nt := 15, params := [((.ro (.int .i64)), false), ((.ro (.int .i64)), false), ((.ro (.int .i64)), false)], res := [(.ro .bool)], slots := [.tmp 6], code := bd Tryd.f72 }
/- impl.isLift -/
noncomputable def I65 : Inst := { f := 65, nt := 5, params := [((.ro (.int .i64)), false)], res := [(.ro .bool)], slots := [.tmp 2], code := bd Tryd.f65, callee := fun r i => find 0 [(1001, 72)] (r * 1000 + i) }
/- impl.isLaw -/
noncomputable def I75 : Inst := { f := 75, nt := 5, params := [((.ro (.int .i64)), false)], res := [(.ro .bool)], slots := [.tmp 2], code := bd Tryd.f75, callee := fun r i => find 0 [(1001, 72)] (r * 1000 + i) }
/- impl.ValidProgram$1 -/
noncomputable def I74 : Inst := { f := 74, nt := 20, params := [((.ro (.pair (.int .i8) (.pair (.int .i16) (.pair (.int .i16) .unit)))), false)], res := [(.ro .bool)], slots := [.tmp 2], code := bd Tryd.f74, callee := fun r i => find 0 [(1003, 75), (1014, 65)] (r * 1000 + i) }
/- impl.Motion] -/
noncomputable def I91 : Inst := { f := 91, nt := 19, params := [((.ro (.slc (.pair (.int .i8) (.pair (.int .i16) (.pair (.int .i16) .unit))))), false), ((.clo 74 (.ro .unit) (.ro .unit)), false)], res := [(.ro (.int .i64))], slots := [.tmp 4], code := bd Tryd.f91, callee := fun r i => find 0 [(4005, 74)] (r * 1000 + i), loops := fun b => find [] [(0, [.own 0 (.ro (.slc (.pair (.int .i8) (.pair (.int .i16) (.pair (.int .i16) .unit))))), .own 1 (.clo 74 (.ro .unit) (.ro .unit)), .own 7 (.ro (.int .i64)), .own 8 (.ro (.int .i64))])] b }
/- impl.Motion] -/
noncomputable def I73 : Inst := { f := 73, nt := 9, params := [((.ro (.slc (.pair (.int .i8) (.pair (.int .i16) (.pair (.int .i16) .unit))))), false), ((.clo 74 (.ro .unit) (.ro .unit)), false)], res := [(.ro .bool)], slots := [.tmp 4], code := bd Tryd.f73, callee := fun r i => find 0 [(1002, 91)] (r * 1000 + i) }
/- impl.Program).steps -/
noncomputable def I76 : Inst := { f := 76, nt := 20, params := [((.ro (.pair (.int .i16) (.pair (.slc (.pair (.int .i8) (.pair (.int .i16) (.pair (.int .i16) .unit)))) .unit))), false)], res := [(.ro (.int .i64))], slots := [.tmp 2], code := bd Tryd.f76, loops := fun b => find [] [(0, [.own 3 (.ro (.int .i64)), .own 7 (.ro (.slc (.pair (.int .i8) (.pair (.int .i16) (.pair (.int .i16) .unit))))), .own 8 (.ro (.int .i64)), .own 9 (.ro (.int .i64))])] b }
/- impl.isSteps -/
noncomputable def I61 : Inst := { f := 61, nt := 5, params := [((.ro (.int .i64)), false)], res := [(.ro .bool)], slots := [.tmp 2], code := bd Tryd.f61, callee := fun r i => find 0 [(1001, 72)] (r * 1000 + i) }
/- impl.ValidProgram -/
noncomputable def I43 : Inst := { f := 43, nt := 40, params := [((.ro (.pair (.int .i16) (.pair (.slc (.pair (.int .i8) (.pair (.int .i16) (.pair (.int .i16) .unit)))) .unit))), false)], res := [(.ro .bool)], slots := [.tmp 2], code := bd Tryd.f43, callee := fun r i => find 0 [(1003, 72), (1009, 65), (3002, 73), (4004, 76), (4005, 61)] (r * 1000 + i) }
/- strconv.FormatInt: told by its contract -/
noncomputable def I66 : Inst := { f := 66, nt := 0, params := [((.ro (.int .i64)), false), ((.ro (.int .i64)), false)], res := [(.ro .str)], slots := [], code := .skip, ext := some (fun x => if x.2.1 = 10 ∧ -9223372036854775808 ≤ x.1 ∧ x.1 ≤ 9223372036854775807 then some (((⟨(Lib.itoa x.1).toArray⟩ : ByteArray), ()), ()) else none) }
/- impl.decimal -/
noncomputable def I37 : Inst := { f := 37, nt := 5, params := [((.ro (.int .i64)), false)], res := [(.ro .str)], slots := [.tmp 2], code := bd Tryd.f37, callee := fun r i => find 0 [(1001, 66)] (r * 1000 + i) }
/- strings.Join: told by its contract -/
noncomputable def I38 : Inst := { f := 38, nt := 0, params := [((.row false .str), true), ((.ro .str), false)], res := [(.ro .str)], slots := [], code := .skip, ext := some (fun x => if x.1.length ≤ 140737488355328 ∧ (Lib.join (x.1.map fun s => s.data.toList) x.2.1.data.toList).length ≤ 140737488355328 then some (((⟨(Lib.join (x.1.map fun s => s.data.toList) x.2.1.data.toList).toArray⟩ : ByteArray), ()), (x.1, ())) else none) }
/- impl.ProgramText -/
noncomputable def I18 : Inst := { f := 18, nt := 44, params := [((.ro (.pair (.int .i16) (.pair (.slc (.pair (.int .i8) (.pair (.int .i16) (.pair (.int .i16) .unit)))) .unit))), false)], res := [(.ro .str)], slots := [.tmp 2], code := bd Tryd.f18, callee := fun r i => find 0 [(1001, 43), (3003, 37), (7010, 37), (7016, 37), (9001, 38)] (r * 1000 + i), loops := fun b => find [] [(0, [.own 3 (.row false .str), .own 15 (.ro (.slc (.pair (.int .i8) (.pair (.int .i16) (.pair (.int .i16) .unit))))), .own 16 (.ro (.int .i64)), .own 17 (.ro (.int .i64))])] b, deep := fun r i => find false [(3004, true), (7018, true), (7019, true)] (r * 1000 + i) }
/- laws.eqMotion -/
noncomputable def I77 : Inst := { f := 77, nt := 20, params := [((.ro (.pair (.int .i8) (.pair (.int .i16) (.pair (.int .i16) .unit)))), false), ((.ro (.pair (.int .i8) (.pair (.int .i16) (.pair (.int .i16) .unit)))), false)], res := [(.ro .bool)], slots := [.tmp 4], code := bd Tryd.f77 }
/- laws.eqMotionS -/
noncomputable def I44 : Inst := { f := 44, nt := 27, params := [((.ro (.slc (.pair (.int .i8) (.pair (.int .i16) (.pair (.int .i16) .unit))))), false), ((.ro (.slc (.pair (.int .i8) (.pair (.int .i16) (.pair (.int .i16) .unit))))), false)], res := [(.ro .bool)], slots := [.tmp 4], code := bd Tryd.f44, callee := fun r i => find 0 [(6008, 77)] (r * 1000 + i), loops := fun b => find [] [(0, [.own 0 (.ro (.slc (.pair (.int .i8) (.pair (.int .i16) (.pair (.int .i16) .unit))))), .own 1 (.ro (.slc (.pair (.int .i8) (.pair (.int .i16) (.pair (.int .i16) .unit))))), .own 5 (.ro (.int .i64))])] b }
/- laws.eqProgram -/
noncomputable def I19 : Inst := { f := 19, nt := 16, params := [((.ro (.pair (.int .i16) (.pair (.slc (.pair (.int .i8) (.pair (.int .i16) (.pair (.int .i16) .unit)))) .unit))), false), ((.ro (.pair (.int .i16) (.pair (.slc (.pair (.int .i8) (.pair (.int .i16) (.pair (.int .i16) .unit)))) .unit))), false)], res := [(.ro .bool)], slots := [.tmp 4], code := bd Tryd.f19, callee := fun r i => find 0 [(3004, 44)] (r * 1000 + i) }
/- laws.FnExactProgramText -/
noncomputable def I5 : Inst := { f := 5, nt := 27, params := [((.ro (.pair (.int .i16) (.pair (.slc (.pair (.int .i8) (.pair (.int .i16) (.pair (.int .i16) .unit)))) .unit))), false)], res := [(.ro .bool)], slots := [.tmp 2], code := bd Tryd.f5, callee := fun r i => find 0 [(2002, 15), (5001, 17), (5002, 16), (6001, 17), (7001, 18), (10002, 17), (10003, 19)] (r * 1000 + i) }
noncomputable def CL : List (Nat × Inst) := [(39, I39), (15, I15), (71, I71), (42, I42), (17, I17), (68, I68), (59, I59), (69, I69), (58, I58), (40, I40), (60, I60), (70, I70), (41, I41), (16, I16), (72, I72), (65, I65), (75, I75), (74, I74), (91, I91), (73, I73), (76, I76), (61, I61), (43, I43), (66, I66), (37, I37), (38, I38), (18, I18), (77, I77), (44, I44), (19, I19), (5, I5)]
noncomputable def C : Nat → Inst := find I39 CL
theorem tsOk : TsOk Tryd.prog T := tsOkB_sound (by kernel_rfl)
theorem ok39 : InstOk Tryd.prog I39 := instOk_of Tryd.func39 (by kernel_rfl) (by kernel_rfl) (by kernel_rfl) (by kernel_rfl)
theorem ok15 : InstOk Tryd.prog I15 := instOk_of Tryd.func15 (by kernel_rfl) (by kernel_rfl) (by kernel_rfl) (by kernel_rfl)
theorem ok71 : InstOk Tryd.prog I71 := instOk_of Tryd.func71 (by kernel_rfl) (by kernel_rfl) (by kernel_rfl) (by kernel_rfl)
theorem ok42 : InstOk Tryd.prog I42 := instOk_of Tryd.func42 (by kernel_rfl) (by kernel_rfl) (by kernel_rfl) (by kernel_rfl)
theorem ok17 : InstOk Tryd.prog I17 := instOk_of Tryd.func17 (by kernel_rfl) (by kernel_rfl) (by kernel_rfl) (by kernel_rfl)
theorem ok68 : InstOk Tryd.prog I68 := instOk_of Tryd.func68 (by kernel_rfl) (by kernel_rfl) (by kernel_rfl) (by kernel_rfl)
theorem ok59 : InstOk Tryd.prog I59 := instOk_of Tryd.func59 (by kernel_rfl) (by kernel_rfl) (by kernel_rfl) (by kernel_rfl)
theorem ok69 : InstOk Tryd.prog I69 := instOk_of Tryd.func69 (by kernel_rfl) (by kernel_rfl) (by kernel_rfl) (by kernel_rfl)
theorem ok58 : InstOk Tryd.prog I58 := instOk_of Tryd.func58 (by kernel_rfl) (by kernel_rfl) (by kernel_rfl) (by kernel_rfl)
theorem ok40 : InstOk Tryd.prog I40 := instOk_of Tryd.func40 (by kernel_rfl) (by kernel_rfl) (by kernel_rfl) (by kernel_rfl)
theorem ok60 : InstOk Tryd.prog I60 := instOk_of Tryd.func60 (by kernel_rfl) (by kernel_rfl) (by kernel_rfl) (by kernel_rfl)
theorem ok70 : InstOk Tryd.prog I70 := instOk_of Tryd.func70 (by kernel_rfl) (by kernel_rfl) (by kernel_rfl) (by kernel_rfl)
theorem ok41 : InstOk Tryd.prog I41 := instOk_of Tryd.func41 (by kernel_rfl) (by kernel_rfl) (by kernel_rfl) (by kernel_rfl)
theorem ok16 : InstOk Tryd.prog I16 := instOk_of Tryd.func16 (by kernel_rfl) (by kernel_rfl) (by kernel_rfl) (by kernel_rfl)
theorem ok72 : InstOk Tryd.prog I72 := instOk_of Tryd.func72 (by kernel_rfl) (by kernel_rfl) (by kernel_rfl) (by kernel_rfl)
theorem ok65 : InstOk Tryd.prog I65 := instOk_of Tryd.func65 (by kernel_rfl) (by kernel_rfl) (by kernel_rfl) (by kernel_rfl)
theorem ok75 : InstOk Tryd.prog I75 := instOk_of Tryd.func75 (by kernel_rfl) (by kernel_rfl) (by kernel_rfl) (by kernel_rfl)
theorem ok74 : InstOk Tryd.prog I74 := instOk_of Tryd.func74 (by kernel_rfl) (by kernel_rfl) (by kernel_rfl) (by kernel_rfl)
theorem ok91 : InstOk Tryd.prog I91 := instOk_of Tryd.func91 (by kernel_rfl) (by kernel_rfl) (by kernel_rfl) (by kernel_rfl)
theorem ok73 : InstOk Tryd.prog I73 := instOk_of Tryd.func73 (by kernel_rfl) (by kernel_rfl) (by kernel_rfl) (by kernel_rfl)
theorem ok76 : InstOk Tryd.prog I76 := instOk_of Tryd.func76 (by kernel_rfl) (by kernel_rfl) (by kernel_rfl) (by kernel_rfl)
theorem ok61 : InstOk Tryd.prog I61 := instOk_of Tryd.func61 (by kernel_rfl) (by kernel_rfl) (by kernel_rfl) (by kernel_rfl)
theorem ok43 : InstOk Tryd.prog I43 := instOk_of Tryd.func43 (by kernel_rfl) (by kernel_rfl) (by kernel_rfl) (by kernel_rfl)
theorem ok66 : InstOk Tryd.prog I66 := instOk_ext rfl
theorem ok37 : InstOk Tryd.prog I37 := instOk_of Tryd.func37 (by kernel_rfl) (by kernel_rfl) (by kernel_rfl) (by kernel_rfl)
theorem ok38 : InstOk Tryd.prog I38 := instOk_ext rfl
theorem ok18 : InstOk Tryd.prog I18 := instOk_of Tryd.func18 (by kernel_rfl) (by kernel_rfl) (by kernel_rfl) (by kernel_rfl)
theorem ok77 : InstOk Tryd.prog I77 := instOk_of Tryd.func77 (by kernel_rfl) (by kernel_rfl) (by kernel_rfl) (by kernel_rfl)
theorem ok44 : InstOk Tryd.prog I44 := instOk_of Tryd.func44 (by kernel_rfl) (by kernel_rfl) (by kernel_rfl) (by kernel_rfl)
theorem ok19 : InstOk Tryd.prog I19 := instOk_of Tryd.func19 (by kernel_rfl) (by kernel_rfl) (by kernel_rfl) (by kernel_rfl)
theorem ok5 : InstOk Tryd.prog I5 := instOk_of Tryd.func5 (by kernel_rfl) (by kernel_rfl) (by kernel_rfl) (by kernel_rfl)
theorem insts : ∀ j, InstOk Tryd.prog (C j) := find_all ok39 (List.forall_mem_cons.2 ⟨ok39, List.forall_mem_cons.2 ⟨ok15, List.forall_mem_cons.2 ⟨ok71, List.forall_mem_cons.2 ⟨ok42, List.forall_mem_cons.2 ⟨ok17, List.forall_mem_cons.2 ⟨ok68, List.forall_mem_cons.2 ⟨ok59, List.forall_mem_cons.2 ⟨ok69, List.forall_mem_cons.2 ⟨ok58, List.forall_mem_cons.2 ⟨ok40, List.forall_mem_cons.2 ⟨ok60, List.forall_mem_cons.2 ⟨ok70, List.forall_mem_cons.2 ⟨ok41, List.forall_mem_cons.2 ⟨ok16, List.forall_mem_cons.2 ⟨ok72, List.forall_mem_cons.2 ⟨ok65, List.forall_mem_cons.2 ⟨ok75, List.forall_mem_cons.2 ⟨ok74, List.forall_mem_cons.2 ⟨ok91, List.forall_mem_cons.2 ⟨ok73, List.forall_mem_cons.2 ⟨ok76, List.forall_mem_cons.2 ⟨ok61, List.forall_mem_cons.2 ⟨ok43, List.forall_mem_cons.2 ⟨ok66, List.forall_mem_cons.2 ⟨ok37, List.forall_mem_cons.2 ⟨ok38, List.forall_mem_cons.2 ⟨ok18, List.forall_mem_cons.2 ⟨ok77, List.forall_mem_cons.2 ⟨ok44, List.forall_mem_cons.2 ⟨ok19, List.forall_mem_cons.2 ⟨ok5, fun _ h => absurd h List.not_mem_nil⟩⟩⟩⟩⟩⟩⟩⟩⟩⟩⟩⟩⟩⟩⟩⟩⟩⟩⟩⟩⟩⟩⟩⟩⟩⟩⟩⟩⟩⟩⟩)
theorem c66 : C 66 = I66 := by kernel_rfl
theorem c38 : C 38 = I38 := by kernel_rfl
theorem exts {L : Laid} (h66 : ExtOk Tryd.prog L I66) (h38 : ExtOk Tryd.prog L I38) : ∀ j, ExtOk Tryd.prog L (C j) := by
  have hC : C = find I39 CL := by delta C; with_reducible rfl
  refine fun j => exts_of (C := C) _ _ [66, 38] hC (by kernel_rfl) (by kernel_rfl) ?_ j
  intro e he
  change ExtOk _ _ (C e)
  simp only [List.mem_cons, List.not_mem_nil, or_false] at he
  rcases he with rfl | rfl
  · rw [c66]; exact h66
  · rw [c38]; exact h38
end Go.Proofs.YtjfkgmidnjiofaaDoor.LProgramText
