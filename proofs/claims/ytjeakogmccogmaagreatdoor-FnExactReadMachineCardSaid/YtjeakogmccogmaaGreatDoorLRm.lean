/- The types and the functions that a law reaches, told for the reading (Fw). Written by a program (gen.py). -/
import Derived.Test.YtjeakogmccogmaaGreatDoorFwC
import Derived.Test.YtjeakogmccogmaaGreatDoorPuAll
import Derived.Test.YtjeakogmccogmaaGreatDoorProg
import Derived.Lib.TrailingZeros
import Derived.Lib.ItoaNum
import Derived.Lib.Join
import Derived.Lib.Split
import Derived.Lib.ParseIntB
import Derived.Lib.IndexMore
namespace Go.Proofs.YtjeakogmccogmaaGreatDoor.LRm
open Go Go.Fw
open Go.Proofs
noncomputable def tyL : List (Nat × TI) := [(2, ⟨(.int .i64), 0, 8⟩),
  (3, ⟨(.int .i64), 0, 8⟩),
  (4, ⟨.bool, 0, 1⟩),
  (5, ⟨(.int .u8), 0, 1⟩),
  (9, ⟨.str, 0, 16⟩),
  (23, ⟨(.slc (.int .i16)), 52, 24⟩),
  (25, ⟨(.pair (.slc (.int .i16)) (.pair (.slc (.int .i16)) (.pair (.slc (.int .i16)) .unit))), 0, 72⟩),
  (52, ⟨(.int .i16), 0, 2⟩),
  (57, ⟨(.slc .str), 9, 24⟩),
  (62, ⟨(.ptr (.pair (.slc (.int .i16)) (.pair (.slc (.int .i16)) (.pair (.slc (.int .i16)) .unit)))), 0, 8⟩)]
noncomputable def T : Nat → Option TI := findT tyL
/- spec.l01Split -/
noncomputable def I28 : Inst := { f := 28, nt := 35, params := [((.ro .str), false), ((.ro (.int .u8)), false)], res := [(.row false .str)], slots := [.tmp 4], code := bd Tryz.f28, loops := fun b => find [] [(0, [.own 0 (.ro .str), .own 1 (.ro (.int .u8)), .own 5 (.row false .str), .own 6 (.ro (.int .i64)), .own 7 (.ro (.int .i64))])] b, deep := fun r i => find false [(1000, true), (7005, true), (7006, true), (9004, true), (9005, true)] (r * 1000 + i) }
/- spec.l01Number -/
noncomputable def I84 : Inst := { f := 84, nt := 48, params := [((.ro .str), false)], res := [(.ro (.int .i64)), (.ro .bool)], slots := [.tmp 2, .tmp 3], code := bd Tryz.f84, loops := fun b => find [] [(0, [.own 0 (.ro .str), .own 4 (.ro (.int .i64)), .own 5 (.ro (.int .i64))])] b }
/- spec.l00In -/
noncomputable def I85 : Inst := { f := 85, nt := 15, params := [((.ro (.int .i64)), false), ((.ro (.int .i64)), false), ((.ro (.int .i64)), false)], res := [(.ro .bool)], slots := [.tmp 6], code := bd Tryz.f85 }
/- spec.l01Lift -/
noncomputable def I108 : Inst := { f := 108, nt := 5, params := [((.ro (.int .i64)), false)], res := [(.ro .bool)], slots := [.tmp 2], code := bd Tryz.f108, callee := fun r i => find 0 [(1001, 85)] (r * 1000 + i) }
/- spec.l01Steps -/
noncomputable def I110 : Inst := { f := 110, nt := 5, params := [((.ro (.int .i64)), false)], res := [(.ro .bool)], slots := [.tmp 2], code := bd Tryz.f110, callee := fun r i => find 0 [(1001, 85)] (r * 1000 + i) }
/- spec.l01Ok -/
noncomputable def I73 : Inst := { f := 73, nt := 21, params := [((.ro (.slc (.int .i16))), false)], res := [(.ro .bool)], slots := [.tmp 2], code := bd Tryz.f73, callee := fun r i => find 0 [(1002, 110), (6005, 108)] (r * 1000 + i), loops := fun b => find [] [(0, [.own 0 (.ro (.slc (.int .i16))), .own 3 (.ro (.int .i64))])] b }
/- spec.l01Read -/
noncomputable def I71 : Inst := { f := 71, nt := 104, params := [((.ro .str), false)], res := [(.row false (.int .i16)), (.ro .bool)], slots := [.tmp 2, .tmp 3], code := bd Tryz.f71, callee := fun r i => find 0 [(1001, 28), (6004, 28), (7003, 84), (11003, 84), (13008, 108), (19002, 73)] (r * 1000 + i), loops := fun b => find [] [(2, [.own 4 (.ro (.slc .str)), .own 5 (.row false (.int .i16)), .own 6 (.ro (.int .i64)), .own 8 (.ro (.int .i64)), .own 10 (.ro (.int .i64)), .own 12 (.ro (.int .i64))]), (0, [.own 4 (.ro (.slc .str)), .own 5 (.row false (.int .i16)), .own 6 (.ro (.int .i64))])] b, deep := fun r i => find false [(2000, true), (14000, true), (18003, true), (18004, true)] (r * 1000 + i) }
/- spec.l07Cam -/
noncomputable def I29 : Inst := { f := 29, nt := 27, params := [((.ro .str), false), ((.ro .str), false)], res := [(.row false (.int .i16)), (.ro .bool)], slots := [.tmp 4, .tmp 5], code := bd Tryz.f29, callee := fun r i => find 0 [(4003, 71)] (r * 1000 + i), deep := fun r i => find false [(3000, true)] (r * 1000 + i) }
/- spec.l00Min -/
noncomputable def I138 : Inst := { f := 138, nt := 10, params := [((.ro (.int .i64)), false), ((.ro (.int .i64)), false)], res := [(.ro (.int .i64))], slots := [.tmp 4], code := bd Tryz.f138 }
/- spec.l00Max -/
noncomputable def I139 : Inst := { f := 139, nt := 10, params := [((.ro (.int .i64)), false), ((.ro (.int .i64)), false)], res := [(.ro (.int .i64))], slots := [.tmp 4], code := bd Tryz.f139 }
/- spec.l01Range -/
noncomputable def I109 : Inst := { f := 109, nt := 34, params := [((.ro (.slc (.int .i16))), false)], res := [(.ro (.int .i64)), (.ro (.int .i64))], slots := [.tmp 2, .tmp 3], code := bd Tryz.f109, callee := fun r i => find 0 [(6006, 138), (7006, 139)] (r * 1000 + i), loops := fun b => find [] [(0, [.own 0 (.ro (.slc (.int .i16))), .own 4 (.ro (.int .i64)), .own 5 (.ro (.int .i64)), .own 6 (.ro (.int .i64))])] b }
/- spec.l07Moves -/
noncomputable def I72 : Inst := { f := 72, nt := 15, params := [((.ro (.slc (.int .i16))), false)], res := [(.ro .bool)], slots := [.tmp 2], code := bd Tryz.f72, callee := fun r i => find 0 [(1001, 73), (3001, 109)] (r * 1000 + i) }
/- spec.l07Ok -/
noncomputable def I30 : Inst := { f := 30, nt := 48, params := [((.ro (.ptr (.pair (.slc (.int .i16)) (.pair (.slc (.int .i16)) (.pair (.slc (.int .i16)) .unit))))), false)], res := [(.ro .bool)], slots := [.tmp 2], code := bd Tryz.f30, callee := fun r i => find 0 [(1004, 72), (1010, 72), (1017, 73)] (r * 1000 + i) }
/- spec.ReadMachine -/
noncomputable def I6 : Inst := { f := 6, nt := 65, params := [((.ro .str), false)], res := [(.pr (.row false (.int .i16)) (.pr (.row false (.int .i16)) (.pr (.row false (.int .i16)) (.ro .unit)))), (.ro (.int .i64))], slots := [.cell 2 25, .tmp 3], code := bd Tryz.f6, callee := fun r i => find 0 [(1001, 28), (4003, 29), (5003, 29), (6003, 29), (8011, 30)] (r * 1000 + i) }
/- impl.ReadMachine: told by its contract -/
noncomputable def I7 : Inst := { f := 7, nt := 0, params := [((.ro .str), false)], res := [(.pr (.row false (.int .i16)) (.pr (.row false (.int .i16)) (.pr (.row false (.int .i16)) (.ro .unit)))), (.ro (.int .i64))], slots := [], code := .skip, ext := some (fun x => if x.1.size ≤ 1048576 then some (((Go.Cams.rdMI x.1.data.toList).1, (Go.Cams.rdMI x.1.data.toList).2.1, ()), ()) else none) }
/- laws.eqCam -/
noncomputable def I37 : Inst := { f := 37, nt := 26, params := [((.ro (.slc (.int .i16))), false), ((.ro (.slc (.int .i16))), false)], res := [(.ro .bool)], slots := [.tmp 4], code := bd Tryz.f37, loops := fun b => find [] [(0, [.own 0 (.ro (.slc (.int .i16))), .own 1 (.ro (.slc (.int .i16))), .own 5 (.ro (.int .i64))])] b }
/- laws.eqMachine -/
noncomputable def I8 : Inst := { f := 8, nt := 23, params := [((.ro (.pair (.slc (.int .i16)) (.pair (.slc (.int .i16)) (.pair (.slc (.int .i16)) .unit)))), false), ((.ro (.pair (.slc (.int .i16)) (.pair (.slc (.int .i16)) (.pair (.slc (.int .i16)) .unit)))), false)], res := [(.ro .bool)], slots := [.tmp 4], code := bd Tryz.f8, callee := fun r i => find 0 [(1004, 37), (3004, 37), (5004, 37)] (r * 1000 + i) }
/- laws.markCam -/
noncomputable def I38 : Inst := { f := 38, nt := 20, params := [((.row false (.int .i16)), true), ((.ro (.int .i64)), false)], res := [(.ro (.int .i64))], slots := [.tmp 4], code := bd Tryz.f38, loops := fun b => find [] [(0, [.own 0 (.row false (.int .i16)), .own 1 (.ro (.int .i64)), .own 5 (.ro (.int .i64))])] b, pins := [0] }
/- laws.markMachine -/
noncomputable def I9 : Inst := { f := 9, nt := 18, params := [((.pr (.row false (.int .i16)) (.pr (.row false (.int .i16)) (.pr (.row false (.int .i16)) (.ro .unit)))), true), ((.ro (.int .i64)), false)], res := [(.ro (.int .i64))], slots := [.tmp 4], code := bd Tryz.f9, callee := fun r i => find 0 [(1003, 38), (2003, 38), (3003, 38)] (r * 1000 + i), pins := [0] }
/- laws.heldCam -/
noncomputable def I39 : Inst := { f := 39, nt := 22, params := [((.ro (.slc (.int .i16))), false), ((.ro (.int .i64)), false)], res := [(.ro (.int .i64))], slots := [.tmp 4], code := bd Tryz.f39, loops := fun b => find [] [(0, [.own 0 (.ro (.slc (.int .i16))), .own 1 (.ro (.int .i64)), .own 5 (.ro (.int .i64))])] b }
/- laws.heldMachine -/
noncomputable def I10 : Inst := { f := 10, nt := 24, params := [((.ro (.pair (.slc (.int .i16)) (.pair (.slc (.int .i16)) (.pair (.slc (.int .i16)) .unit)))), false), ((.ro (.int .i64)), false)], res := [(.ro (.int .i64))], slots := [.tmp 4], code := bd Tryz.f10, callee := fun r i => find 0 [(1003, 39), (4003, 39), (7003, 39)] (r * 1000 + i) }
/- laws.FnExactReadMachine -/
noncomputable def I3 : Inst := { f := 3, nt := 66, params := [((.ro .str), false)], res := [(.ro .bool)], slots := [.tmp 2], code := bd Tryz.f3, callee := fun r i => find 0 [(3001, 6), (4001, 7), (5002, 8), (8002, 9), (10002, 10), (15001, 7), (16002, 8), (19002, 10)] (r * 1000 + i) }
noncomputable def CL : List (Nat × Inst) := [(28, I28), (84, I84), (85, I85), (108, I108), (110, I110), (73, I73), (71, I71), (29, I29), (138, I138), (139, I139), (109, I109), (72, I72), (30, I30), (6, I6), (7, I7), (37, I37), (8, I8), (38, I38), (9, I9), (39, I39), (10, I10), (3, I3)]
noncomputable def C : Nat → Inst := find I28 CL
theorem tsOk : TsOk Tryz.prog T := tsOkB_sound (by kernel_rfl)
theorem ok28 : InstOk Tryz.prog I28 := instOk_of Tryz.func28 (by kernel_rfl) (by kernel_rfl) (by kernel_rfl) (by kernel_rfl)
theorem ok84 : InstOk Tryz.prog I84 := instOk_of Tryz.func84 (by kernel_rfl) (by kernel_rfl) (by kernel_rfl) (by kernel_rfl)
theorem ok85 : InstOk Tryz.prog I85 := instOk_of Tryz.func85 (by kernel_rfl) (by kernel_rfl) (by kernel_rfl) (by kernel_rfl)
theorem ok108 : InstOk Tryz.prog I108 := instOk_of Tryz.func108 (by kernel_rfl) (by kernel_rfl) (by kernel_rfl) (by kernel_rfl)
theorem ok110 : InstOk Tryz.prog I110 := instOk_of Tryz.func110 (by kernel_rfl) (by kernel_rfl) (by kernel_rfl) (by kernel_rfl)
theorem ok73 : InstOk Tryz.prog I73 := instOk_of Tryz.func73 (by kernel_rfl) (by kernel_rfl) (by kernel_rfl) (by kernel_rfl)
theorem ok71 : InstOk Tryz.prog I71 := instOk_of Tryz.func71 (by kernel_rfl) (by kernel_rfl) (by kernel_rfl) (by kernel_rfl)
theorem ok29 : InstOk Tryz.prog I29 := instOk_of Tryz.func29 (by kernel_rfl) (by kernel_rfl) (by kernel_rfl) (by kernel_rfl)
theorem ok138 : InstOk Tryz.prog I138 := instOk_of Tryz.func138 (by kernel_rfl) (by kernel_rfl) (by kernel_rfl) (by kernel_rfl)
theorem ok139 : InstOk Tryz.prog I139 := instOk_of Tryz.func139 (by kernel_rfl) (by kernel_rfl) (by kernel_rfl) (by kernel_rfl)
theorem ok109 : InstOk Tryz.prog I109 := instOk_of Tryz.func109 (by kernel_rfl) (by kernel_rfl) (by kernel_rfl) (by kernel_rfl)
theorem ok72 : InstOk Tryz.prog I72 := instOk_of Tryz.func72 (by kernel_rfl) (by kernel_rfl) (by kernel_rfl) (by kernel_rfl)
theorem ok30 : InstOk Tryz.prog I30 := instOk_of Tryz.func30 (by kernel_rfl) (by kernel_rfl) (by kernel_rfl) (by kernel_rfl)
theorem ok6 : InstOk Tryz.prog I6 := instOk_of Tryz.func6 (by kernel_rfl) (by kernel_rfl) (by kernel_rfl) (by kernel_rfl)
theorem ok7 : InstOk Tryz.prog I7 := instOk_ext rfl
theorem ok37 : InstOk Tryz.prog I37 := instOk_of Tryz.func37 (by kernel_rfl) (by kernel_rfl) (by kernel_rfl) (by kernel_rfl)
theorem ok8 : InstOk Tryz.prog I8 := instOk_of Tryz.func8 (by kernel_rfl) (by kernel_rfl) (by kernel_rfl) (by kernel_rfl)
theorem ok38 : InstOk Tryz.prog I38 := instOk_of Tryz.func38 (by kernel_rfl) (by kernel_rfl) (by kernel_rfl) (by kernel_rfl)
theorem ok9 : InstOk Tryz.prog I9 := instOk_of Tryz.func9 (by kernel_rfl) (by kernel_rfl) (by kernel_rfl) (by kernel_rfl)
theorem ok39 : InstOk Tryz.prog I39 := instOk_of Tryz.func39 (by kernel_rfl) (by kernel_rfl) (by kernel_rfl) (by kernel_rfl)
theorem ok10 : InstOk Tryz.prog I10 := instOk_of Tryz.func10 (by kernel_rfl) (by kernel_rfl) (by kernel_rfl) (by kernel_rfl)
theorem ok3 : InstOk Tryz.prog I3 := instOk_of Tryz.func3 (by kernel_rfl) (by kernel_rfl) (by kernel_rfl) (by kernel_rfl)
theorem insts : ∀ j, InstOk Tryz.prog (C j) := find_all ok28 (List.forall_mem_cons.2 ⟨ok28, List.forall_mem_cons.2 ⟨ok84, List.forall_mem_cons.2 ⟨ok85, List.forall_mem_cons.2 ⟨ok108, List.forall_mem_cons.2 ⟨ok110, List.forall_mem_cons.2 ⟨ok73, List.forall_mem_cons.2 ⟨ok71, List.forall_mem_cons.2 ⟨ok29, List.forall_mem_cons.2 ⟨ok138, List.forall_mem_cons.2 ⟨ok139, List.forall_mem_cons.2 ⟨ok109, List.forall_mem_cons.2 ⟨ok72, List.forall_mem_cons.2 ⟨ok30, List.forall_mem_cons.2 ⟨ok6, List.forall_mem_cons.2 ⟨ok7, List.forall_mem_cons.2 ⟨ok37, List.forall_mem_cons.2 ⟨ok8, List.forall_mem_cons.2 ⟨ok38, List.forall_mem_cons.2 ⟨ok9, List.forall_mem_cons.2 ⟨ok39, List.forall_mem_cons.2 ⟨ok10, List.forall_mem_cons.2 ⟨ok3, fun _ h => absurd h List.not_mem_nil⟩⟩⟩⟩⟩⟩⟩⟩⟩⟩⟩⟩⟩⟩⟩⟩⟩⟩⟩⟩⟩⟩)
theorem c7 : C 7 = I7 := by kernel_rfl
theorem exts {L : Laid} (h7 : ExtOk Tryz.prog L I7) : ∀ j, ExtOk Tryz.prog L (C j) := by
  have hC : C = find I28 CL := by delta C; with_reducible rfl
  refine fun j => exts_of (C := C) _ _ [7] hC (by kernel_rfl) (by kernel_rfl) ?_ j
  intro e he
  change ExtOk _ _ (C e)
  simp only [List.mem_cons, List.not_mem_nil, or_false] at he
  subst he; rw [c7]; exact h7
end Go.Proofs.YtjeakogmccogmaaGreatDoor.LRm
