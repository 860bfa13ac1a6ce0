/- The types and the functions that a law reaches, told for the reading (Fw). Written by a program (gen.py). -/
import Derived.Test.YtgmkcekfpmdhoaaFwC
import Derived.Test.YtgmkcekfpmdhoaaProg
namespace Go.Proofs.Ytgmkcekfpmdhoaa.LPh
open Go Go.Fw
open Go.Proofs
noncomputable def tyL : List (Nat × TI) := [(2, ⟨(.int .i64), 0, 8⟩),
  (3, ⟨(.int .i64), 0, 8⟩),
  (4, ⟨.bool, 0, 1⟩),
  (24, ⟨(.slc (.int .i64)), 2, 24⟩),
  (27, ⟨(.slc (.pair (.int .i16) (.pair (.int .i16) (.pair (.int .i16) (.pair (.slc (.int .i16)) .unit))))), 51, 24⟩),
  (47, ⟨(.int .i16), 0, 2⟩),
  (49, ⟨(.slc (.int .i16)), 47, 24⟩),
  (51, ⟨(.pair (.int .i16) (.pair (.int .i16) (.pair (.int .i16) (.pair (.slc (.int .i16)) .unit)))), 0, 32⟩),
  (101, ⟨.fn, 0, 8⟩),
  (107, ⟨.fn, 0, 8⟩)]
noncomputable def T : Nat → Option TI := findT tyL
/- impl.inRange -/
noncomputable def I34 : Inst := { f := 34, nt := 15, params := [((.ro (.int .i64)), false), ((.ro (.int .i64)), false), ((.ro (.int .i64)), false)], res := [(.ro .bool)], slots := [.tmp 6], code := bd Try.f34 }
/- impl.Cam).steps -/
noncomputable def I48 : Inst := { f := 48, nt := 5, params := [((.ro (.slc (.int .i16))), false)], res := [(.ro (.int .i64))], slots := [.tmp 2], code := bd Try.f48 }
/- impl.isSteps -/
noncomputable def I80 : Inst := { f := 80, nt := 5, params := [((.ro (.int .i64)), false)], res := [(.ro .bool)], slots := [.tmp 2], code := bd Try.f80, callee := fun r i => find 0 [(1001, 34)] (r * 1000 + i) }
/- impl.isLift -/
noncomputable def I83 : Inst := { f := 83, nt := 5, params := [((.ro (.int .i64)), false)], res := [(.ro .bool)], slots := [.tmp 2], code := bd Try.f83, callee := fun r i => find 0 [(1001, 34)] (r * 1000 + i) }
/- impl.ValidCam$1 -/
noncomputable def I82 : Inst := { f := 82, nt := 7, params := [((.ro (.int .i16)), false)], res := [(.ro .bool)], slots := [.tmp 2], code := bd Try.f82, callee := fun r i => find 0 [(1002, 83)] (r * 1000 + i) }
/- impl.Cam,int16] -/
noncomputable def I85 : Inst := { f := 85, nt := 19, params := [((.ro (.slc (.int .i16))), false), ((.clo 82 (.ro .unit) (.ro .unit)), false)], res := [(.ro (.int .i64))], slots := [.tmp 4], code := bd Try.f85, callee := fun r i => find 0 [(4005, 82)] (r * 1000 + i), loops := fun b => find [] [(0, [.own 0 (.ro (.slc (.int .i16))), .own 1 (.clo 82 (.ro .unit) (.ro .unit)), .own 7 (.ro (.int .i64)), .own 8 (.ro (.int .i64))])] b }
/- impl.Cam,int16] -/
noncomputable def I81 : Inst := { f := 81, nt := 9, params := [((.ro (.slc (.int .i16))), false), ((.clo 82 (.ro .unit) (.ro .unit)), false)], res := [(.ro .bool)], slots := [.tmp 4], code := bd Try.f81, callee := fun r i => find 0 [(1002, 85)] (r * 1000 + i) }
/- impl.ValidCam -/
noncomputable def I69 : Inst := { f := 69, nt := 11, params := [((.ro (.slc (.int .i16))), false)], res := [(.ro .bool)], slots := [.tmp 2], code := bd Try.f69, callee := fun r i => find 0 [(1001, 48), (1002, 80), (1005, 81)] (r * 1000 + i) }
/- impl.isPlace -/
noncomputable def I51 : Inst := { f := 51, nt := 9, params := [((.ro (.int .i64)), false), ((.ro (.int .i64)), false)], res := [(.ro .bool)], slots := [.tmp 4], code := bd Try.f51, callee := fun r i => find 0 [(1003, 34)] (r * 1000 + i) }
/- impl.ValidShafts$1 -/
noncomputable def I68 : Inst := { f := 68, nt := 31, params := [((.ro (.pair (.int .i16) (.pair (.int .i16) (.pair (.int .i16) (.pair (.slc (.int .i16)) .unit))))), false)], res := [(.ro .bool)], slots := [.tmp 2], code := bd Try.f68, callee := fun r i => find 0 [(1003, 34), (1009, 34), (1015, 69), (1025, 51)] (r * 1000 + i) }
/- impl.Shaft] -/
noncomputable def I79 : Inst := { f := 79, nt := 19, params := [((.ro (.slc (.pair (.int .i16) (.pair (.int .i16) (.pair (.int .i16) (.pair (.slc (.int .i16)) .unit)))))), false), ((.clo 68 (.ro .unit) (.ro .unit)), false)], res := [(.ro (.int .i64))], slots := [.tmp 4], code := bd Try.f79, callee := fun r i => find 0 [(4005, 68)] (r * 1000 + i), loops := fun b => find [] [(0, [.own 0 (.ro (.slc (.pair (.int .i16) (.pair (.int .i16) (.pair (.int .i16) (.pair (.slc (.int .i16)) .unit)))))), .own 1 (.clo 68 (.ro .unit) (.ro .unit)), .own 7 (.ro (.int .i64)), .own 8 (.ro (.int .i64))])] b }
/- impl.Shaft] -/
noncomputable def I67 : Inst := { f := 67, nt := 9, params := [((.ro (.slc (.pair (.int .i16) (.pair (.int .i16) (.pair (.int .i16) (.pair (.slc (.int .i16)) .unit)))))), false), ((.clo 68 (.ro .unit) (.ro .unit)), false)], res := [(.ro .bool)], slots := [.tmp 4], code := bd Try.f67, callee := fun r i => find 0 [(1002, 79)] (r * 1000 + i) }
/- impl.ValidShafts -/
noncomputable def I45 : Inst := { f := 45, nt := 11, params := [((.ro (.slc (.pair (.int .i16) (.pair (.int .i16) (.pair (.int .i16) (.pair (.slc (.int .i16)) .unit)))))), false)], res := [(.ro .bool)], slots := [.tmp 2], code := bd Try.f45, callee := fun r i => find 0 [(1002, 34), (1005, 67)] (r * 1000 + i) }
/- impl.codeIf -/
noncomputable def I44 : Inst := { f := 44, nt := 7, params := [((.ro .bool), false), ((.ro (.int .i64)), false)], res := [(.ro (.int .i64))], slots := [.tmp 4], code := bd Try.f44 }
/- impl.firstCode -/
noncomputable def I43 : Inst := { f := 43, nt := 15, params := [((.ro (.slc (.int .i64))), false)], res := [(.ro (.int .i64))], slots := [.tmp 2], code := bd Try.f43, loops := fun b => find [] [(0, [.own 5 (.ro (.slc (.int .i64))), .own 6 (.ro (.int .i64)), .own 7 (.ro (.int .i64))])] b }
/- impl.common -/
noncomputable def I74 : Inst := { f := 74, nt := 12, params := [((.ro (.int .i64)), false), ((.ro (.int .i64)), false)], res := [(.ro (.int .i64))], slots := [.tmp 4], code := bd Try.f74, loops := fun b => find [] [(0, [.own 0 (.ro (.int .i64)), .own 1 (.ro (.int .i64))])] b }
/- impl.Shaft).period -/
noncomputable def I73 : Inst := { f := 73, nt := 18, params := [((.ro (.pair (.int .i16) (.pair (.int .i16) (.pair (.int .i16) (.pair (.slc (.int .i16)) .unit))))), false)], res := [(.ro (.int .i64))], slots := [.tmp 2], code := bd Try.f73, callee := fun r i => find 0 [(1005, 48), (2005, 74)] (r * 1000 + i) }
/- impl.periodOf -/
noncomputable def I58 : Inst := { f := 58, nt := 27, params := [((.ro (.slc (.pair (.int .i16) (.pair (.int .i16) (.pair (.int .i16) (.pair (.slc (.int .i16)) .unit)))))), false)], res := [(.ro (.int .i64)), (.ro .bool)], slots := [.tmp 2, .tmp 3], code := bd Try.f58, callee := fun r i => find 0 [(5001, 73), (6003, 74)] (r * 1000 + i), loops := fun b => find [] [(0, [.own 4 (.ro (.int .i64)), .own 8 (.ro (.slc (.pair (.int .i16) (.pair (.int .i16) (.pair (.int .i16) (.pair (.slc (.int .i16)) .unit)))))), .own 9 (.ro (.int .i64)), .own 10 (.ro (.int .i64))])] b }
/- impl.shaftsCode -/
noncomputable def I32 : Inst := { f := 32, nt := 30, params := [((.ro (.slc (.pair (.int .i16) (.pair (.int .i16) (.pair (.int .i16) (.pair (.slc (.int .i16)) .unit)))))), false), ((.ro .bool), false)], res := [(.ro (.int .i64)), (.ro (.int .i64))], slots := [.tmp 4, .tmp 5], code := bd Try.f32, callee := fun r i => find 0 [(1001, 45), (1003, 44), (1006, 44), (1008, 43), (4001, 58), (5003, 44)] (r * 1000 + i), deep := fun r i => find false [(1007, true)] (r * 1000 + i), frz := fun r i => find false [(1007, true)] (r * 1000 + i) }
/- impl.isRoom -/
noncomputable def I33 : Inst := { f := 33, nt := 5, params := [((.ro (.int .i64)), false)], res := [(.ro .bool)], slots := [.tmp 2], code := bd Try.f33, callee := fun r i => find 0 [(1001, 34)] (r * 1000 + i) }
/- impl.Shaft).step -/
noncomputable def I84 : Inst := { f := 84, nt := 22, params := [((.ro (.pair (.int .i16) (.pair (.int .i16) (.pair (.int .i16) (.pair (.slc (.int .i16)) .unit))))), false), ((.ro (.int .i64)), false), ((.ro (.int .i64)), false)], res := [(.ro (.int .i64))], slots := [.tmp 6], code := bd Try.f84, callee := fun r i => find 0 [(1013, 48)] (r * 1000 + i) }
/- impl.Shaft).lift -/
noncomputable def I70 : Inst := { f := 70, nt := 16, params := [((.ro (.pair (.int .i16) (.pair (.int .i16) (.pair (.int .i16) (.pair (.slc (.int .i16)) .unit))))), false), ((.ro (.int .i64)), false), ((.ro (.int .i64)), false)], res := [(.ro (.int .i64))], slots := [.tmp 6], code := bd Try.f70, callee := fun r i => find 0 [(1005, 84)] (r * 1000 + i) }
noncomputable def CL : List (Nat × Inst) := [(34, I34), (48, I48), (80, I80), (83, I83), (82, I82), (85, I85), (81, I81), (69, I69), (51, I51), (68, I68), (79, I79), (67, I67), (45, I45), (44, I44), (43, I43), (74, I74), (73, I73), (58, I58), (32, I32), (33, I33), (84, I84), (70, I70)]
noncomputable def C : Nat → Inst := find I34 CL
theorem tsOk : TsOk Try.prog T := tsOkB_sound (by kernel_rfl)
theorem ok34 : InstOk Try.prog I34 := instOk_of Try.func34 (by kernel_rfl) (by kernel_rfl) (by kernel_rfl) (by kernel_rfl)
theorem ok48 : InstOk Try.prog I48 := instOk_of Try.func48 (by kernel_rfl) (by kernel_rfl) (by kernel_rfl) (by kernel_rfl)
theorem ok80 : InstOk Try.prog I80 := instOk_of Try.func80 (by kernel_rfl) (by kernel_rfl) (by kernel_rfl) (by kernel_rfl)
theorem ok83 : InstOk Try.prog I83 := instOk_of Try.func83 (by kernel_rfl) (by kernel_rfl) (by kernel_rfl) (by kernel_rfl)
theorem ok82 : InstOk Try.prog I82 := instOk_of Try.func82 (by kernel_rfl) (by kernel_rfl) (by kernel_rfl) (by kernel_rfl)
theorem ok85 : InstOk Try.prog I85 := instOk_of Try.func85 (by kernel_rfl) (by kernel_rfl) (by kernel_rfl) (by kernel_rfl)
theorem ok81 : InstOk Try.prog I81 := instOk_of Try.func81 (by kernel_rfl) (by kernel_rfl) (by kernel_rfl) (by kernel_rfl)
theorem ok69 : InstOk Try.prog I69 := instOk_of Try.func69 (by kernel_rfl) (by kernel_rfl) (by kernel_rfl) (by kernel_rfl)
theorem ok51 : InstOk Try.prog I51 := instOk_of Try.func51 (by kernel_rfl) (by kernel_rfl) (by kernel_rfl) (by kernel_rfl)
theorem ok68 : InstOk Try.prog I68 := instOk_of Try.func68 (by kernel_rfl) (by kernel_rfl) (by kernel_rfl) (by kernel_rfl)
theorem ok79 : InstOk Try.prog I79 := instOk_of Try.func79 (by kernel_rfl) (by kernel_rfl) (by kernel_rfl) (by kernel_rfl)
theorem ok67 : InstOk Try.prog I67 := instOk_of Try.func67 (by kernel_rfl) (by kernel_rfl) (by kernel_rfl) (by kernel_rfl)
theorem ok45 : InstOk Try.prog I45 := instOk_of Try.func45 (by kernel_rfl) (by kernel_rfl) (by kernel_rfl) (by kernel_rfl)
theorem ok44 : InstOk Try.prog I44 := instOk_of Try.func44 (by kernel_rfl) (by kernel_rfl) (by kernel_rfl) (by kernel_rfl)
theorem ok43 : InstOk Try.prog I43 := instOk_of Try.func43 (by kernel_rfl) (by kernel_rfl) (by kernel_rfl) (by kernel_rfl)
theorem ok74 : InstOk Try.prog I74 := instOk_of Try.func74 (by kernel_rfl) (by kernel_rfl) (by kernel_rfl) (by kernel_rfl)
theorem ok73 : InstOk Try.prog I73 := instOk_of Try.func73 (by kernel_rfl) (by kernel_rfl) (by kernel_rfl) (by kernel_rfl)
theorem ok58 : InstOk Try.prog I58 := instOk_of Try.func58 (by kernel_rfl) (by kernel_rfl) (by kernel_rfl) (by kernel_rfl)
theorem ok32 : InstOk Try.prog I32 := instOk_of Try.func32 (by kernel_rfl) (by kernel_rfl) (by kernel_rfl) (by kernel_rfl)
theorem ok33 : InstOk Try.prog I33 := instOk_of Try.func33 (by kernel_rfl) (by kernel_rfl) (by kernel_rfl) (by kernel_rfl)
theorem ok84 : InstOk Try.prog I84 := instOk_of Try.func84 (by kernel_rfl) (by kernel_rfl) (by kernel_rfl) (by kernel_rfl)
theorem ok70 : InstOk Try.prog I70 := instOk_of Try.func70 (by kernel_rfl) (by kernel_rfl) (by kernel_rfl) (by kernel_rfl)
theorem insts : ∀ j, InstOk Try.prog (C j) := find_all ok34 (List.forall_mem_cons.2 ⟨ok34, List.forall_mem_cons.2 ⟨ok48, List.forall_mem_cons.2 ⟨ok80, List.forall_mem_cons.2 ⟨ok83, List.forall_mem_cons.2 ⟨ok82, List.forall_mem_cons.2 ⟨ok85, List.forall_mem_cons.2 ⟨ok81, List.forall_mem_cons.2 ⟨ok69, List.forall_mem_cons.2 ⟨ok51, List.forall_mem_cons.2 ⟨ok68, List.forall_mem_cons.2 ⟨ok79, List.forall_mem_cons.2 ⟨ok67, List.forall_mem_cons.2 ⟨ok45, List.forall_mem_cons.2 ⟨ok44, List.forall_mem_cons.2 ⟨ok43, List.forall_mem_cons.2 ⟨ok74, List.forall_mem_cons.2 ⟨ok73, List.forall_mem_cons.2 ⟨ok58, List.forall_mem_cons.2 ⟨ok32, List.forall_mem_cons.2 ⟨ok33, List.forall_mem_cons.2 ⟨ok84, List.forall_mem_cons.2 ⟨ok70, fun _ h => absurd h List.not_mem_nil⟩⟩⟩⟩⟩⟩⟩⟩⟩⟩⟩⟩⟩⟩⟩⟩⟩⟩⟩⟩⟩⟩)
theorem noExt : ∀ j, (C j).ext = none := by
  have hC : C = find I34 CL := by delta C; with_reducible rfl
  exact fun j => noExt_of (C := C) _ _ hC (by kernel_rfl) (by kernel_rfl) j
end Go.Proofs.Ytgmkcekfpmdhoaa.LPh
