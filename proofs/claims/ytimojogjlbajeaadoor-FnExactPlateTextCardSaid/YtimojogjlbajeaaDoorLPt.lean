/- The types and the functions that a law reaches, told for the reading (Fw). Written by a program (gen.py). -/
import Derived.Test.YtimojogjlbajeaaDoorFwC
import Derived.Test.YtimojogjlbajeaaDoorProg
import Derived.Lib.TrailingZeros
import Derived.Lib.ItoaNum
import Derived.Lib.Join
namespace Go.Proofs.YtimojogjlbajeaaDoor.LPt
open Go Go.Fw
open Go.Proofs
noncomputable def tyL : List (Nat × TI) := [(3, ⟨(.int .i64), 0, 8⟩),
  (4, ⟨.bool, 0, 1⟩),
  (5, ⟨(.int .u8), 0, 1⟩),
  (9, ⟨.str, 0, 16⟩),
  (22, ⟨(.int .u64), 0, 8⟩),
  (23, ⟨(.arr 64 (.int .u64)), 22, 512⟩),
  (25, ⟨(.arr 64 (.int .u64)), 22, 512⟩),
  (36, ⟨(.ptr (.arr 64 (.int .u64))), 0, 8⟩),
  (37, ⟨(.ptr (.pair (.ptr .unit) (.pair (.slc (.int .u8)) .unit))), 0, 8⟩),
  (38, ⟨(.slc (.int .u8)), 5, 24⟩),
  (40, ⟨(.pair (.ptr .unit) (.pair (.slc (.int .u8)) .unit)), 5, 32⟩),
  (42, ⟨.err, 0, 16⟩),
  (60, ⟨(.int .u64), 0, 8⟩)]
noncomputable def T : Nat → Option TI := findT tyL
/- laws.toPlate -/
noncomputable def I6 : Inst := { f := 6, nt := 15, params := [((.ro (.arr 64 (.int .u64))), false)], res := [(.ro (.arr 64 (.int .u64)))], slots := [.cell 2 25], code := bd Tryd.f6, loops := fun b => find [] [(0, [.own 1 (.box (.ro (.arr 64 (.int .u64)))), .own 2 (.box (.ro (.arr 64 (.int .u64)))), .own 3 (.box (.ro (.arr 64 (.int .u64)))), .own 4 (.ro (.int .i64))])] b }
/- spec.l07Plate -/
noncomputable def I13 : Inst := { f := 13, nt := 35, params := [((.ro (.ptr (.arr 64 (.int .u64)))), false)], res := [(.ro .str)], slots := [.tmp 2], code := bd Tryd.f13, loops := fun b => find [] [(2, [.own 0 (.ro (.ptr (.arr 64 (.int .u64)))), .own 3 (.ro .str), .own 4 (.row false (.int .u8)), .own 5 (.ro (.int .i64)), .own 6 (.ro (.int .i64))]), (0, [.own 0 (.ro (.ptr (.arr 64 (.int .u64)))), .own 3 (.ro .str), .own 4 (.row false (.int .u8)), .own 5 (.ro (.int .i64))])] b, ice := fun r i => find [] [(11001, [33, 4])] (r * 1000 + i) }
/- spec.PlateText -/
noncomputable def I5 : Inst := { f := 5, nt := 4, params := [((.ro (.arr 64 (.int .u64))), false)], res := [(.ro .str)], slots := [.tmp 2], code := bd Tryd.f5, callee := fun r i => find 0 [(1000, 13)] (r * 1000 + i) }
/- strconv.FormatUint: told by its contract -/
noncomputable def I26 : Inst := { f := 26, nt := 0, params := [((.ro (.int .u64)), false), ((.ro (.int .i64)), false)], res := [(.ro .str)], slots := [], code := .skip, ext := some (fun x => if 0 ≤ x.1 ∧ x.1 < 18446744073709551616 ∧ x.2.1 = 16 then some (((⟨(hexD x.1.toNat).toArray⟩ : ByteArray), ()), ()) else none) }
/- strings.Repeat: told by its contract -/
noncomputable def I27 : Inst := { f := 27, nt := 0, params := [((.ro .str), false), ((.ro (.int .i64)), false)], res := [(.ro .str)], slots := [], code := .skip, ext := some (fun x => if x.1.data = #[48] ∧ 0 ≤ x.2.1 ∧ x.2.1 ≤ 15 then some (((⟨(List.replicate x.2.1.toNat (48 : UInt8)).toArray⟩ : ByteArray), ()), ()) else none) }
/- impl.hex -/
noncomputable def I15 : Inst := { f := 15, nt := 12, params := [((.ro (.int .u64)), false)], res := [(.ro .str)], slots := [.tmp 2], code := bd Tryd.f15, callee := fun r i => find 0 [(1001, 26), (2003, 27)] (r * 1000 + i) }
/- (*strings.Builder).WriteString: told by its contract -/
noncomputable def I14 : Inst := { f := 14, nt := 0, params := [((.bld 40 5), true), ((.ro .str), false)], res := [(.ro (.int .i64)), (.ro .err)], slots := [], code := .skip, ext := some (fun x => if x.1.size + x.2.1.size ≤ 140737488355328 then some ((((x.2.1.size : Nat) : Int), false, ()), (x.1 ++ x.2.1, ())) else none) }
/- (*strings.Builder).String: told by its contract -/
noncomputable def I16 : Inst := { f := 16, nt := 0, params := [((.bld 40 5), false)], res := [(.ro .str)], slots := [], code := .skip, ext := some (fun x => some ((x.1, ()), ())) }
/- impl.PlateText -/
noncomputable def I7 : Inst := { f := 7, nt := 16, params := [((.ro (.arr 64 (.int .u64))), false)], res := [(.ro .str)], slots := [.tmp 2], code := bd Tryd.f7, callee := fun r i => find 0 [(5001, 15), (5003, 14), (7000, 16)] (r * 1000 + i), loops := fun b => find [] [(0, [.own 3 (.bld 40 5), .own 6 (.ro (.arr 64 (.int .u64))), .own 7 (.ro (.int .i64))])] b, frz := fun r i => find false [(1000, true)] (r * 1000 + i) }
/- laws.FnExactPlateText -/
noncomputable def I3 : Inst := { f := 3, nt := 14, params := [((.ro (.arr 64 (.int .u64))), false)], res := [(.ro .bool)], slots := [.tmp 2], code := bd Tryd.f3, callee := fun r i => find 0 [(1001, 6), (1002, 5), (2001, 6), (2002, 7)] (r * 1000 + i) }
noncomputable def CL : List (Nat × Inst) := [(6, I6), (13, I13), (5, I5), (26, I26), (27, I27), (15, I15), (14, I14), (16, I16), (7, I7), (3, I3)]
noncomputable def C : Nat → Inst := find I6 CL
theorem tsOk : TsOk Tryd.prog T := tsOkB_sound (by kernel_rfl)
theorem ok6 : InstOk Tryd.prog I6 := instOk_of Tryd.func6 (by kernel_rfl) (by kernel_rfl) (by kernel_rfl) (by kernel_rfl)
theorem ok13 : InstOk Tryd.prog I13 := instOk_of Tryd.func13 (by kernel_rfl) (by kernel_rfl) (by kernel_rfl) (by kernel_rfl)
theorem ok5 : InstOk Tryd.prog I5 := instOk_of Tryd.func5 (by kernel_rfl) (by kernel_rfl) (by kernel_rfl) (by kernel_rfl)
theorem ok26 : InstOk Tryd.prog I26 := instOk_ext rfl
theorem ok27 : InstOk Tryd.prog I27 := instOk_ext rfl
theorem ok15 : InstOk Tryd.prog I15 := instOk_of Tryd.func15 (by kernel_rfl) (by kernel_rfl) (by kernel_rfl) (by kernel_rfl)
theorem ok14 : InstOk Tryd.prog I14 := instOk_ext rfl
theorem ok16 : InstOk Tryd.prog I16 := instOk_ext rfl
theorem ok7 : InstOk Tryd.prog I7 := instOk_of Tryd.func7 (by kernel_rfl) (by kernel_rfl) (by kernel_rfl) (by kernel_rfl)
theorem ok3 : InstOk Tryd.prog I3 := instOk_of Tryd.func3 (by kernel_rfl) (by kernel_rfl) (by kernel_rfl) (by kernel_rfl)
theorem insts : ∀ j, InstOk Tryd.prog (C j) := find_all ok6 (List.forall_mem_cons.2 ⟨ok6, List.forall_mem_cons.2 ⟨ok13, List.forall_mem_cons.2 ⟨ok5, List.forall_mem_cons.2 ⟨ok26, List.forall_mem_cons.2 ⟨ok27, List.forall_mem_cons.2 ⟨ok15, List.forall_mem_cons.2 ⟨ok14, List.forall_mem_cons.2 ⟨ok16, List.forall_mem_cons.2 ⟨ok7, List.forall_mem_cons.2 ⟨ok3, fun _ h => absurd h List.not_mem_nil⟩⟩⟩⟩⟩⟩⟩⟩⟩⟩)
theorem c26 : C 26 = I26 := by kernel_rfl
theorem c27 : C 27 = I27 := by kernel_rfl
theorem c14 : C 14 = I14 := by kernel_rfl
theorem c16 : C 16 = I16 := by kernel_rfl
theorem exts {L : Laid} (h26 : ExtOk Tryd.prog L I26) (h27 : ExtOk Tryd.prog L I27) (h14 : ExtOk Tryd.prog L I14) (h16 : ExtOk Tryd.prog L I16) : ∀ j, ExtOk Tryd.prog L (C j) := by
  have hC : C = find I6 CL := by delta C; with_reducible rfl
  refine fun j => exts_of (C := C) _ _ [26, 27, 14, 16] hC (by kernel_rfl) (by kernel_rfl) ?_ j
  intro e he
  change ExtOk _ _ (C e)
  simp only [List.mem_cons, List.not_mem_nil, or_false] at he
  rcases he with rfl | rfl | rfl | rfl
  · rw [c26]; exact h26
  · rw [c27]; exact h27
  · rw [c14]; exact h14
  · rw [c16]; exact h16
end Go.Proofs.YtimojogjlbajeaaDoor.LPt
