/- The types and the functions that a law reaches, told for the reading (Fw). Written by a program (gen.py). -/
import Derived.Test.YtipjblnjaicbfaaGreatDoorFwC
import Derived.Test.YtipjblnjaicbfaaGreatDoorProg
import Derived.Lib.TrailingZeros
import Derived.Lib.ItoaNum
import Derived.Lib.Join
import Derived.Lib.Split
import Derived.Lib.ParseIntB
import Derived.Lib.IndexMore
import Derived.Lib.Bytealg
namespace Go.Proofs.YtipjblnjaicbfaaGreatDoor.LRv
open Go Go.Fw
open Go.Proofs
noncomputable def tyL : List (Nat × TI) := [(2, ⟨(.int .i64), 0, 8⟩),
  (3, ⟨(.int .i64), 0, 8⟩),
  (4, ⟨.bool, 0, 1⟩),
  (40, ⟨(.int .i16), 0, 2⟩),
  (58, ⟨(.slc (.pair (.int .i8) (.pair (.int .i16) (.pair (.int .i16) .unit)))), 77, 24⟩),
  (60, ⟨(.pair (.int .i16) (.pair (.slc (.pair (.int .i8) (.pair (.int .i16) (.pair (.int .i16) .unit)))) .unit)), 0, 32⟩),
  (75, ⟨(.int .i8), 0, 1⟩),
  (77, ⟨(.pair (.int .i8) (.pair (.int .i16) (.pair (.int .i16) .unit))), 0, 6⟩),
  (155, ⟨.fn, 0, 8⟩)]
noncomputable def T : Nat → Option TI := findT tyL
/- impl.inRange -/
noncomputable def I103 : Inst := { f := 103, nt := 15, params := [((.ro (.int .i64)), false), ((.ro (.int .i64)), false), ((.ro (.int .i64)), false)], res := [(.ro .bool)], slots := [.tmp 6], code := bd Tryz.f103 }
/- impl.isLift -/
noncomputable def I102 : Inst := { f := 102, nt := 5, params := [((.ro (.int .i64)), false)], res := [(.ro .bool)], slots := [.tmp 2], code := bd Tryz.f102, callee := fun r i => find 0 [(1001, 103)] (r * 1000 + i) }
/- impl.isLaw -/
noncomputable def I111 : Inst := { f := 111, nt := 5, params := [((.ro (.int .i64)), false)], res := [(.ro .bool)], slots := [.tmp 2], code := bd Tryz.f111, callee := fun r i => find 0 [(1001, 103)] (r * 1000 + i) }
/- impl.ValidProgram$1 -/
noncomputable def I110 : Inst := { f := 110, nt := 20, params := [((.ro (.pair (.int .i8) (.pair (.int .i16) (.pair (.int .i16) .unit)))), false)], res := [(.ro .bool)], slots := [.tmp 2], code := bd Tryz.f110, callee := fun r i => find 0 [(1003, 111), (1014, 102)] (r * 1000 + i) }
/- impl.Motion] -/
noncomputable def I180 : Inst := { f := 180, nt := 19, params := [((.ro (.slc (.pair (.int .i8) (.pair (.int .i16) (.pair (.int .i16) .unit))))), false), ((.clo 110 (.ro .unit) (.ro .unit)), false)], res := [(.ro (.int .i64))], slots := [.tmp 4], code := bd Tryz.f180, callee := fun r i => find 0 [(4005, 110)] (r * 1000 + i), loops := fun b => find [] [(0, [.own 0 (.ro (.slc (.pair (.int .i8) (.pair (.int .i16) (.pair (.int .i16) .unit))))), .own 1 (.clo 110 (.ro .unit) (.ro .unit)), .own 7 (.ro (.int .i64)), .own 8 (.ro (.int .i64))])] b }
/- impl.Motion] -/
noncomputable def I109 : Inst := { f := 109, nt := 9, params := [((.ro (.slc (.pair (.int .i8) (.pair (.int .i16) (.pair (.int .i16) .unit))))), false), ((.clo 110 (.ro .unit) (.ro .unit)), false)], res := [(.ro .bool)], slots := [.tmp 4], code := bd Tryz.f109, callee := fun r i => find 0 [(1002, 180)] (r * 1000 + i) }
/- impl.Program).steps -/
noncomputable def I100 : Inst := { f := 100, nt := 20, params := [((.ro (.pair (.int .i16) (.pair (.slc (.pair (.int .i8) (.pair (.int .i16) (.pair (.int .i16) .unit)))) .unit))), false)], res := [(.ro (.int .i64))], slots := [.tmp 2], code := bd Tryz.f100, loops := fun b => find [] [(0, [.own 3 (.ro (.int .i64)), .own 7 (.ro (.slc (.pair (.int .i8) (.pair (.int .i16) (.pair (.int .i16) .unit))))), .own 8 (.ro (.int .i64)), .own 9 (.ro (.int .i64))])] b }
/- impl.isSteps -/
noncomputable def I112 : Inst := { f := 112, nt := 5, params := [((.ro (.int .i64)), false)], res := [(.ro .bool)], slots := [.tmp 2], code := bd Tryz.f112, callee := fun r i => find 0 [(1001, 103)] (r * 1000 + i) }
/- impl.ValidProgram -/
noncomputable def I38 : Inst := { f := 38, nt := 40, params := [((.ro (.pair (.int .i16) (.pair (.slc (.pair (.int .i8) (.pair (.int .i16) (.pair (.int .i16) .unit)))) .unit))), false)], res := [(.ro .bool)], slots := [.tmp 2], code := bd Tryz.f38, callee := fun r i => find 0 [(1003, 103), (1009, 102), (3002, 109), (4004, 100), (4005, 112)] (r * 1000 + i) }
noncomputable def CL : List (Nat × Inst) := [(103, I103), (102, I102), (111, I111), (110, I110), (180, I180), (109, I109), (100, I100), (112, I112), (38, I38)]
noncomputable def C : Nat → Inst := find I103 CL
theorem tsOk : TsOk Tryz.prog T := tsOkB_sound (by kernel_rfl)
theorem ok103 : InstOk Tryz.prog I103 := instOk_of Tryz.func103 (by kernel_rfl) (by kernel_rfl) (by kernel_rfl) (by kernel_rfl)
theorem ok102 : InstOk Tryz.prog I102 := instOk_of Tryz.func102 (by kernel_rfl) (by kernel_rfl) (by kernel_rfl) (by kernel_rfl)
theorem ok111 : InstOk Tryz.prog I111 := instOk_of Tryz.func111 (by kernel_rfl) (by kernel_rfl) (by kernel_rfl) (by kernel_rfl)
theorem ok110 : InstOk Tryz.prog I110 := instOk_of Tryz.func110 (by kernel_rfl) (by kernel_rfl) (by kernel_rfl) (by kernel_rfl)
theorem ok180 : InstOk Tryz.prog I180 := instOk_of Tryz.func180 (by kernel_rfl) (by kernel_rfl) (by kernel_rfl) (by kernel_rfl)
theorem ok109 : InstOk Tryz.prog I109 := instOk_of Tryz.func109 (by kernel_rfl) (by kernel_rfl) (by kernel_rfl) (by kernel_rfl)
theorem ok100 : InstOk Tryz.prog I100 := instOk_of Tryz.func100 (by kernel_rfl) (by kernel_rfl) (by kernel_rfl) (by kernel_rfl)
theorem ok112 : InstOk Tryz.prog I112 := instOk_of Tryz.func112 (by kernel_rfl) (by kernel_rfl) (by kernel_rfl) (by kernel_rfl)
theorem ok38 : InstOk Tryz.prog I38 := instOk_of Tryz.func38 (by kernel_rfl) (by kernel_rfl) (by kernel_rfl) (by kernel_rfl)
theorem insts : ∀ j, InstOk Tryz.prog (C j) := find_all ok103 (List.forall_mem_cons.2 ⟨ok103, List.forall_mem_cons.2 ⟨ok102, List.forall_mem_cons.2 ⟨ok111, List.forall_mem_cons.2 ⟨ok110, List.forall_mem_cons.2 ⟨ok180, List.forall_mem_cons.2 ⟨ok109, List.forall_mem_cons.2 ⟨ok100, List.forall_mem_cons.2 ⟨ok112, List.forall_mem_cons.2 ⟨ok38, fun _ h => absurd h List.not_mem_nil⟩⟩⟩⟩⟩⟩⟩⟩⟩)
theorem noExt : ∀ j, (C j).ext = none := by
  have hC : C = find I103 CL := by delta C; with_reducible rfl
  exact fun j => noExt_of (C := C) _ _ hC (by kernel_rfl) (by kernel_rfl) j
end Go.Proofs.YtipjblnjaicbfaaGreatDoor.LRv
