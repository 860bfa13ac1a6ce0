/- The types and the functions that a law reaches, told for the reading (Fw). Written by a program (gen.py). -/
import Derived.Test.YtjeakogmccogmaaDoorFwC
import Derived.Test.YtjeakogmccogmaaDoorProg
import Derived.Lib.TrailingZeros
import Derived.Lib.ItoaNum
import Derived.Lib.Join
import Derived.Lib.Split
import Derived.Lib.ParseIntB
import Derived.Lib.IndexMore
import Derived.Lib.Bytealg
namespace Go.Proofs.YtjeakogmccogmaaDoor.LRp
open Go Go.Fw
open Go.Proofs
noncomputable def tyL : List (Nat × TI) := [(2, ⟨(.int .i64), 0, 8⟩),
  (3, ⟨(.int .i64), 0, 8⟩),
  (4, ⟨.bool, 0, 1⟩),
  (5, ⟨(.int .u8), 0, 1⟩),
  (9, ⟨.str, 0, 16⟩),
  (22, ⟨(.int .u64), 0, 8⟩),
  (24, ⟨(.arr 64 (.int .u64)), 22, 512⟩),
  (43, ⟨(.slc .str), 9, 24⟩),
  (78, ⟨.err, 0, 16⟩),
  (81, ⟨(.ptr (.pair (.ptr .unit) (.pair (.slc (.int .u8)) .unit))), 0, 8⟩),
  (82, ⟨(.slc (.int .u8)), 5, 24⟩),
  (84, ⟨(.pair (.ptr .unit) (.pair (.slc (.int .u8)) .unit)), 5, 32⟩)]
noncomputable def T : Nat → Option TI := findT tyL
/- spec.l01Split -/
noncomputable def I19 : Inst := { f := 19, nt := 35, params := [((.ro .str), false), ((.ro (.int .u8)), false)], res := [(.row false .str)], slots := [.tmp 4], code := bd Tryd.f19, loops := fun b => find [] [(0, [.own 0 (.ro .str), .own 1 (.ro (.int .u8)), .own 5 (.row false .str), .own 6 (.ro (.int .i64)), .own 7 (.ro (.int .i64))])] b, deep := fun r i => find false [(1000, true), (7005, true), (7006, true), (9004, true), (9005, true)] (r * 1000 + i) }
/- spec.l05Hex -/
noncomputable def I20 : Inst := { f := 20, nt := 47, params := [((.ro .str), false)], res := [(.ro (.int .u64)), (.ro .bool)], slots := [.tmp 2, .tmp 3], code := bd Tryd.f20, loops := fun b => find [] [(0, [.own 0 (.ro .str), .own 4 (.ro (.int .u64)), .own 5 (.ro (.int .i64))])] b }
/- spec.ReadPlate -/
noncomputable def I6 : Inst := { f := 6, nt := 41, params := [((.ro .str), false)], res := [(.ro (.arr 64 (.int .u64))), (.ro (.int .i64))], slots := [.cell 2 24, .tmp 3], code := bd Tryd.f6, callee := fun r i => find 0 [(1001, 19), (8004, 20)] (r * 1000 + i), loops := fun b => find [] [(0, [.own 2 (.box (.ro (.arr 64 (.int .u64)))), .own 4 (.ro (.slc .str)), .own 5 (.box (.ro (.arr 64 (.int .u64)))), .own 6 (.ro (.int .i64))])] b }
/- strings.Split: told by its contract -/
noncomputable def I21 : Inst := { f := 21, nt := 0, params := [((.ro .str), false), ((.ro .str), false)], res := [(.row false .str)], slots := [], code := .skip, ext := some (fun x => if x.1.size < 4294967281 ∧ 1 ≤ x.2.1.size then some ((Lib.splitB x.2.1 0 (Lib.countB x.1 x.2.1) x.1, ()), ()) else none) }
/- strconv.ParseUint: told by its contract -/
noncomputable def I45 : Inst := { f := 45, nt := 0, params := [((.ro .str), false), ((.ro (.int .i64)), false), ((.ro (.int .i64)), false)], res := [(.ro (.int .u64)), (.ro .err)], slots := [], code := .skip, ext := some (fun x => if x.1.size ≤ 4294967281 ∧ x.2.1 = 16 ∧ x.2.2.1 = 64 then some ((((puT x.1.data.toList).1 : Int), decide ((puT x.1.data.toList).2 ≠ 0), ()), ()) else none) }
/- impl.unhex -/
noncomputable def I22 : Inst := { f := 22, nt := 13, params := [((.ro .str), false)], res := [(.ro (.int .u64))], slots := [.tmp 2], code := bd Tryd.f22, callee := fun r i => find 0 [(1001, 45)] (r * 1000 + i) }
/- strconv.FormatUint: told by its contract -/
noncomputable def I74 : Inst := { f := 74, nt := 0, params := [((.ro (.int .u64)), false), ((.ro (.int .i64)), false)], res := [(.ro .str)], slots := [], code := .skip, ext := some (fun x => if 0 ≤ x.1 ∧ x.1 < 18446744073709551616 ∧ x.2.1 = 16 then some (((⟨(hexD x.1.toNat).toArray⟩ : ByteArray), ()), ()) else none) }
/- strings.Repeat: told by its contract -/
noncomputable def I75 : Inst := { f := 75, nt := 0, params := [((.ro .str), false), ((.ro (.int .i64)), false)], res := [(.ro .str)], slots := [], code := .skip, ext := some (fun x => if x.1.data = #[48] ∧ 0 ≤ x.2.1 ∧ x.2.1 ≤ 15 then some (((⟨(List.replicate x.2.1.toNat (48 : UInt8)).toArray⟩ : ByteArray), ()), ()) else none) }
/- impl.hex -/
noncomputable def I47 : Inst := { f := 47, nt := 12, params := [((.ro (.int .u64)), false)], res := [(.ro .str)], slots := [.tmp 2], code := bd Tryd.f47, callee := fun r i => find 0 [(1001, 74), (2003, 75)] (r * 1000 + i) }
/- (*strings.Builder).WriteString: told by its contract -/
noncomputable def I46 : Inst := { f := 46, nt := 0, params := [((.bld 84 5), true), ((.ro .str), false)], res := [(.ro (.int .i64)), (.ro .err)], slots := [], code := .skip, ext := some (fun x => if x.1.size + x.2.1.size ≤ 140737488355328 then some ((((x.2.1.size : Nat) : Int), false, ()), (x.1 ++ x.2.1, ())) else none) }
/- (*strings.Builder).String: told by its contract -/
noncomputable def I48 : Inst := { f := 48, nt := 0, params := [((.bld 84 5), false)], res := [(.ro .str)], slots := [], code := .skip, ext := some (fun x => some ((x.1, ()), ())) }
/- impl.PlateText -/
noncomputable def I23 : Inst := { f := 23, nt := 16, params := [((.ro (.arr 64 (.int .u64))), false)], res := [(.ro .str)], slots := [.tmp 2], code := bd Tryd.f23, callee := fun r i => find 0 [(5001, 47), (5003, 46), (7000, 48)] (r * 1000 + i), loops := fun b => find [] [(0, [.own 3 (.bld 84 5), .own 6 (.ro (.arr 64 (.int .u64))), .own 7 (.ro (.int .i64))])] b, frz := fun r i => find false [(1000, true)] (r * 1000 + i) }
/- impl.ReadPlate -/
noncomputable def I7 : Inst := { f := 7, nt := 29, params := [((.ro .str), false)], res := [(.ro (.arr 64 (.int .u64))), (.ro (.int .i64))], slots := [.cell 2 24, .tmp 3], code := bd Tryd.f7, callee := fun r i => find 0 [(2001, 21), (6002, 22), (8001, 23)] (r * 1000 + i), loops := fun b => find [] [(0, [.own 0 (.ro .str), .own 2 (.box (.ro (.arr 64 (.int .u64)))), .own 4 (.box (.ro (.arr 64 (.int .u64)))), .own 9 (.ro (.slc .str)), .own 10 (.ro (.int .i64)), .own 11 (.ro (.int .i64))])] b }
/- laws.eqPlate -/
noncomputable def I8 : Inst := { f := 8, nt := 17, params := [((.ro (.arr 64 (.int .u64))), false), ((.ro (.arr 64 (.int .u64))), false)], res := [(.ro .bool)], slots := [.tmp 4], code := bd Tryd.f8, loops := fun b => find [] [(0, [.own 2 (.box (.ro (.arr 64 (.int .u64)))), .own 3 (.box (.ro (.arr 64 (.int .u64)))), .own 5 (.ro (.int .i64))])] b }
/- laws.FnExactReadPlate -/
noncomputable def I3 : Inst := { f := 3, nt := 29, params := [((.ro .str), false)], res := [(.ro .bool)], slots := [.tmp 2], code := bd Tryd.f3, callee := fun r i => find 0 [(3001, 6), (4001, 7), (5002, 8)] (r * 1000 + i) }
noncomputable def CL : List (Nat × Inst) := [(19, I19), (20, I20), (6, I6), (21, I21), (45, I45), (22, I22), (74, I74), (75, I75), (47, I47), (46, I46), (48, I48), (23, I23), (7, I7), (8, I8), (3, I3)]
noncomputable def C : Nat → Inst := find I19 CL
theorem tsOk : TsOk Tryd.prog T := tsOkB_sound (by kernel_rfl)
theorem ok19 : InstOk Tryd.prog I19 := instOk_of Tryd.func19 (by kernel_rfl) (by kernel_rfl) (by kernel_rfl) (by kernel_rfl)
theorem ok20 : InstOk Tryd.prog I20 := instOk_of Tryd.func20 (by kernel_rfl) (by kernel_rfl) (by kernel_rfl) (by kernel_rfl)
theorem ok6 : InstOk Tryd.prog I6 := instOk_of Tryd.func6 (by kernel_rfl) (by kernel_rfl) (by kernel_rfl) (by kernel_rfl)
theorem ok21 : InstOk Tryd.prog I21 := instOk_ext rfl
theorem ok45 : InstOk Tryd.prog I45 := instOk_ext rfl
theorem ok22 : InstOk Tryd.prog I22 := instOk_of Tryd.func22 (by kernel_rfl) (by kernel_rfl) (by kernel_rfl) (by kernel_rfl)
theorem ok74 : InstOk Tryd.prog I74 := instOk_ext rfl
theorem ok75 : InstOk Tryd.prog I75 := instOk_ext rfl
theorem ok47 : InstOk Tryd.prog I47 := instOk_of Tryd.func47 (by kernel_rfl) (by kernel_rfl) (by kernel_rfl) (by kernel_rfl)
theorem ok46 : InstOk Tryd.prog I46 := instOk_ext rfl
theorem ok48 : InstOk Tryd.prog I48 := instOk_ext rfl
theorem ok23 : InstOk Tryd.prog I23 := instOk_of Tryd.func23 (by kernel_rfl) (by kernel_rfl) (by kernel_rfl) (by kernel_rfl)
theorem ok7 : InstOk Tryd.prog I7 := instOk_of Tryd.func7 (by kernel_rfl) (by kernel_rfl) (by kernel_rfl) (by kernel_rfl)
theorem ok8 : InstOk Tryd.prog I8 := instOk_of Tryd.func8 (by kernel_rfl) (by kernel_rfl) (by kernel_rfl) (by kernel_rfl)
theorem ok3 : InstOk Tryd.prog I3 := instOk_of Tryd.func3 (by kernel_rfl) (by kernel_rfl) (by kernel_rfl) (by kernel_rfl)
theorem insts : ∀ j, InstOk Tryd.prog (C j) := find_all ok19 (List.forall_mem_cons.2 ⟨ok19, List.forall_mem_cons.2 ⟨ok20, List.forall_mem_cons.2 ⟨ok6, List.forall_mem_cons.2 ⟨ok21, List.forall_mem_cons.2 ⟨ok45, List.forall_mem_cons.2 ⟨ok22, List.forall_mem_cons.2 ⟨ok74, List.forall_mem_cons.2 ⟨ok75, List.forall_mem_cons.2 ⟨ok47, List.forall_mem_cons.2 ⟨ok46, List.forall_mem_cons.2 ⟨ok48, List.forall_mem_cons.2 ⟨ok23, List.forall_mem_cons.2 ⟨ok7, List.forall_mem_cons.2 ⟨ok8, List.forall_mem_cons.2 ⟨ok3, fun _ h => absurd h List.not_mem_nil⟩⟩⟩⟩⟩⟩⟩⟩⟩⟩⟩⟩⟩⟩⟩)
theorem c21 : C 21 = I21 := by kernel_rfl
theorem c45 : C 45 = I45 := by kernel_rfl
theorem c74 : C 74 = I74 := by kernel_rfl
theorem c75 : C 75 = I75 := by kernel_rfl
theorem c46 : C 46 = I46 := by kernel_rfl
theorem c48 : C 48 = I48 := by kernel_rfl
theorem exts {L : Laid} (h21 : ExtOk Tryd.prog L I21) (h45 : ExtOk Tryd.prog L I45) (h74 : ExtOk Tryd.prog L I74) (h75 : ExtOk Tryd.prog L I75) (h46 : ExtOk Tryd.prog L I46) (h48 : ExtOk Tryd.prog L I48) : ∀ j, ExtOk Tryd.prog L (C j) := by
  have hC : C = find I19 CL := by delta C; with_reducible rfl
  refine fun j => exts_of (C := C) _ _ [21, 45, 74, 75, 46, 48] hC (by kernel_rfl) (by kernel_rfl) ?_ j
  intro e he
  change ExtOk _ _ (C e)
  simp only [List.mem_cons, List.not_mem_nil, or_false] at he
  rcases he with rfl | rfl | rfl | rfl | rfl | rfl
  · rw [c21]; exact h21
  · rw [c45]; exact h45
  · rw [c74]; exact h74
  · rw [c75]; exact h75
  · rw [c46]; exact h46
  · rw [c48]; exact h48
end Go.Proofs.YtjeakogmccogmaaDoor.LRp
