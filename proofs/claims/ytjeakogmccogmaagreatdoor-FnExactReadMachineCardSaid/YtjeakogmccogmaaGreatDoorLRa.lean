/- The types and the functions that a law reaches, told for the reading (Fw). Written by a program (gen.py). -/
import Derived.Test.YtjeakogmccogmaaGreatDoorFwC
import Derived.Test.YtjeakogmccogmaaGreatDoorProg
import Derived.Lib.TrailingZeros
import Derived.Lib.ItoaNum
import Derived.Lib.Join
import Derived.Lib.Split
import Derived.Lib.ParseIntB
import Derived.Lib.IndexMore
namespace Go.Proofs.YtjeakogmccogmaaGreatDoor.LRa
open Go Go.Fw
open Go.Proofs
noncomputable def tyL : List (Nat × TI) := [(2, ⟨(.int .i64), 0, 8⟩),
  (3, ⟨(.int .i64), 0, 8⟩),
  (4, ⟨.bool, 0, 1⟩),
  (9, ⟨.str, 0, 16⟩),
  (23, ⟨(.slc (.int .i16)), 52, 24⟩),
  (25, ⟨(.pair (.slc (.int .i16)) (.pair (.slc (.int .i16)) (.pair (.slc (.int .i16)) .unit))), 0, 72⟩),
  (52, ⟨(.int .i16), 0, 2⟩),
  (57, ⟨(.slc .str), 9, 24⟩),
  (97, ⟨.err, 0, 16⟩),
  (124, ⟨(.arr 2 (.slc (.int .i16))), 23, 48⟩),
  (160, ⟨.fn, 0, 8⟩)]
noncomputable def T : Nat → Option TI := findT tyL
/- impl.inRange -/
noncomputable def I78 : Inst := { f := 78, nt := 15, params := [((.ro (.int .i64)), false), ((.ro (.int .i64)), false), ((.ro (.int .i64)), false)], res := [(.ro .bool)], slots := [.tmp 6], code := bd Tryz.f78 }
/- strings.Split: told by its contract -/
noncomputable def I42 : Inst := { f := 42, nt := 0, params := [((.ro .str), false), ((.ro .str), false)], res := [(.row false .str)], slots := [], code := .skip, ext := some (fun x => if x.1.size < 4294967281 ∧ 1 ≤ x.2.1.size then some ((Lib.splitB x.2.1 0 (Lib.countB x.1 x.2.1) x.1, ()), ()) else none) }
/- strings.Cut: told by its contract -/
noncomputable def I32 : Inst := { f := 32, nt := 0, params := [((.ro .str), false), ((.ro .str), false)], res := [(.ro .str), (.ro .str), (.ro .bool)], slots := [], code := .skip, ext := some (fun x => if x.1.size < 4294967281 then some (((⟨(Lib.cut x.1.data.toList x.2.1.data.toList).1.toArray⟩ : ByteArray), (⟨(Lib.cut x.1.data.toList x.2.1.data.toList).2.1.toArray⟩ : ByteArray), (Lib.cut x.1.data.toList x.2.1.data.toList).2.2, ()), ()) else none) }
/- strconv.ParseInt: told by its contract -/
noncomputable def I57 : Inst := { f := 57, nt := 0, params := [((.ro .str), false), ((.ro (.int .i64)), false), ((.ro (.int .i64)), false)], res := [(.ro (.int .i64)), (.ro .err)], slots := [], code := .skip, ext := some (fun x => if x.1.size ≤ 281474976710656 ∧ x.2.1 = 10 ∧ x.2.2.1 = 64 then (match Lib.parseIntB 64 x.1.data.toList with | .ok v => some ((v, false, ()), ()) | .range => some ((Lib.intSat 64 x.1.data.toList, true, ()), ()) | _ => some (((0 : Int), true, ()), ())) else if x.1.size ≤ 281474976710656 ∧ x.2.1 = 10 ∧ x.2.2.1 = 8 then (match Lib.parseIntB 8 x.1.data.toList with | .ok v => some ((v, false, ()), ()) | .range => some ((Lib.intSat 8 x.1.data.toList, true, ()), ()) | _ => some (((0 : Int), true, ()), ())) else none) }
/- strconv.FormatInt: told by its contract -/
noncomputable def I101 : Inst := { f := 101, nt := 0, params := [((.ro (.int .i64)), false), ((.ro (.int .i64)), false)], res := [(.ro .str)], slots := [], code := .skip, ext := some (fun x => if x.2.1 = 10 ∧ -9223372036854775808 ≤ x.1 ∧ x.1 ≤ 9223372036854775807 then some (((⟨(Lib.itoa x.1).toArray⟩ : ByteArray), ()), ()) else none) }
/- impl.decimal -/
noncomputable def I60 : Inst := { f := 60, nt := 5, params := [((.ro (.int .i64)), false)], res := [(.ro .str)], slots := [.tmp 2], code := bd Tryz.f60, callee := fun r i => find 0 [(1001, 101)] (r * 1000 + i) }
/- impl.number -/
noncomputable def I77 : Inst := { f := 77, nt := 20, params := [((.ro .str), false)], res := [(.ro (.int .i64)), (.ro .bool)], slots := [.tmp 2, .tmp 3], code := bd Tryz.f77, callee := fun r i => find 0 [(1001, 57), (2005, 60)] (r * 1000 + i) }
/- impl.isLift -/
noncomputable def I69 : Inst := { f := 69, nt := 5, params := [((.ro (.int .i64)), false)], res := [(.ro .bool)], slots := [.tmp 2], code := bd Tryz.f69, callee := fun r i => find 0 [(1001, 78)] (r * 1000 + i) }
/- impl.Cam).steps -/
noncomputable def I79 : Inst := { f := 79, nt := 5, params := [((.ro (.slc (.int .i16))), false)], res := [(.ro (.int .i64))], slots := [.tmp 2], code := bd Tryz.f79 }
/- impl.Cam,int16]: told by its contract -/
noncomputable def I80 : Inst := { f := 80, nt := 0, params := [((.ro (.slc (.int .i16))), false), ((.ro (.int .i64)), false)], res := [(.row false (.int .i16))], slots := [], code := .skip, ext := some (fun x => if x.1.length = 1 ∧ 1 ≤ x.2.1 ∧ x.2.1 ≤ 360 then some ((List.replicate x.2.1.toNat (x.1.headD 0), ()), ()) else none) }
/- impl.isSteps -/
noncomputable def I117 : Inst := { f := 117, nt := 5, params := [((.ro (.int .i64)), false)], res := [(.ro .bool)], slots := [.tmp 2], code := bd Tryz.f117, callee := fun r i => find 0 [(1001, 78)] (r * 1000 + i) }
/- impl.ValidCam$1 -/
noncomputable def I119 : Inst := { f := 119, nt := 7, params := [((.ro (.int .i16)), false)], res := [(.ro .bool)], slots := [.tmp 2], code := bd Tryz.f119, callee := fun r i => find 0 [(1002, 69)] (r * 1000 + i) }
/- impl.Cam,int16] -/
noncomputable def I149 : Inst := { f := 149, nt := 19, params := [((.ro (.slc (.int .i16))), false), ((.clo 119 (.ro .unit) (.ro .unit)), false)], res := [(.ro (.int .i64))], slots := [.tmp 4], code := bd Tryz.f149, callee := fun r i => find 0 [(4005, 119)] (r * 1000 + i), loops := fun b => find [] [(0, [.own 0 (.ro (.slc (.int .i16))), .own 1 (.clo 119 (.ro .unit) (.ro .unit)), .own 7 (.ro (.int .i64)), .own 8 (.ro (.int .i64))])] b }
/- impl.Cam,int16] -/
noncomputable def I118 : Inst := { f := 118, nt := 9, params := [((.ro (.slc (.int .i16))), false), ((.clo 119 (.ro .unit) (.ro .unit)), false)], res := [(.ro .bool)], slots := [.tmp 4], code := bd Tryz.f118, callee := fun r i => find 0 [(1002, 149)] (r * 1000 + i) }
/- impl.ValidCam -/
noncomputable def I81 : Inst := { f := 81, nt := 11, params := [((.ro (.slc (.int .i16))), false)], res := [(.ro .bool)], slots := [.tmp 2], code := bd Tryz.f81, callee := fun r i => find 0 [(1001, 79), (1002, 117), (1005, 118)] (r * 1000 + i) }
/- strings.Join: told by its contract -/
noncomputable def I120 : Inst := { f := 120, nt := 0, params := [((.row false .str), true), ((.ro .str), false)], res := [(.ro .str)], slots := [], code := .skip, ext := some (fun x => if x.1.length ≤ 140737488355328 ∧ (Lib.join (x.1.map fun s => s.data.toList) x.2.1.data.toList).length ≤ 140737488355328 then some (((⟨(Lib.join (x.1.map fun s => s.data.toList) x.2.1.data.toList).toArray⟩ : ByteArray), ()), (x.1, ())) else none) }
/- impl.CamText -/
noncomputable def I82 : Inst := { f := 82, nt := 57, params := [((.ro (.slc (.int .i16))), false)], res := [(.ro .str)], slots := [.tmp 2], code := bd Tryz.f82, callee := fun r i => find 0 [(1001, 81), (9005, 60), (11004, 60), (13001, 120)] (r * 1000 + i), loops := fun b => find [] [(2, [.own 0 (.ro (.slc (.int .i16))), .own 3 (.row false .str), .own 4 (.ro (.int .i64)), .own 5 (.ro (.int .i64))]), (0, [.own 0 (.ro (.slc (.int .i16))), .own 3 (.row false .str), .own 4 (.ro (.int .i64))])] b, deep := fun r i => find false [(3000, true), (12002, true), (12003, true)] (r * 1000 + i) }
/- impl.Cam,int16] -/
noncomputable def I53 : Inst := { f := 53, nt := 8, params := [((.ro (.slc (.int .i16))), false)], res := [(.row false (.int .i16))], slots := [.tmp 2], code := bd Tryz.f53 }
/- impl.ReadCam -/
noncomputable def I34 : Inst := { f := 34, nt := 70, params := [((.ro .str), false)], res := [(.row false (.int .i16)), (.ro (.int .i64))], slots := [.tmp 2, .tmp 3], code := bd Tryz.f34, callee := fun r i => find 0 [(2001, 42), (5001, 32), (6001, 77), (7001, 77), (10001, 69), (10006, 79), (10008, 78), (12005, 80), (14001, 81), (14005, 82), (16001, 53)] (r * 1000 + i), loops := fun b => find [] [(0, [.own 0 (.ro .str), .own 4 (.row false (.int .i16)), .own 16 (.ro (.slc .str)), .own 17 (.ro (.int .i64)), .own 18 (.ro (.int .i64))])] b, deep := fun r i => find false [(1000, true), (12003, true), (12006, true)] (r * 1000 + i), frz := fun r i => find false [(12003, true)] (r * 1000 + i) }
/- impl.Cam,int16] -/
noncomputable def I83 : Inst := { f := 83, nt := 25, params := [((.ro (.slc (.int .i16))), false)], res := [(.ro (.int .i16))], slots := [.tmp 2], code := bd Tryz.f83, loops := fun b => find [] [(0, [.own 0 (.ro (.slc (.int .i16))), .own 3 (.ro (.int .i16)), .own 4 (.ro (.int .i64))])] b }
/- impl.ValidMachine -/
noncomputable def I35 : Inst := { f := 35, nt := 33, params := [((.ro (.pair (.slc (.int .i16)) (.pair (.slc (.int .i16)) (.pair (.slc (.int .i16)) .unit)))), false)], res := [(.ro .bool)], slots := [.tmp 2], code := bd Tryz.f35, callee := fun r i => find 0 [(4001, 81), (4013, 83), (7002, 81)] (r * 1000 + i), loops := fun b => find [] [(0, [.own 1 (.box (.ro (.pair (.slc (.int .i16)) (.pair (.slc (.int .i16)) (.pair (.slc (.int .i16)) .unit))))), .own 9 (.ro (.arr 2 (.slc (.int .i16)))), .own 10 (.ro (.int .i64))])] b }
/- impl.MachineText -/
noncomputable def I36 : Inst := { f := 36, nt := 21, params := [((.ro (.pair (.slc (.int .i16)) (.pair (.slc (.int .i16)) (.pair (.slc (.int .i16)) .unit)))), false)], res := [(.ro .str)], slots := [.tmp 2], code := bd Tryz.f36, callee := fun r i => find 0 [(1001, 35), (3002, 82), (3007, 82), (3012, 82)] (r * 1000 + i) }
noncomputable def CL : List (Nat × Inst) := [(78, I78), (42, I42), (32, I32), (57, I57), (101, I101), (60, I60), (77, I77), (69, I69), (79, I79), (80, I80), (117, I117), (119, I119), (149, I149), (118, I118), (81, I81), (120, I120), (82, I82), (53, I53), (34, I34), (83, I83), (35, I35), (36, I36)]
noncomputable def C : Nat → Inst := find I78 CL
theorem tsOk : TsOk Tryz.prog T := tsOkB_sound (by kernel_rfl)
theorem ok78 : InstOk Tryz.prog I78 := instOk_of Tryz.func78 (by kernel_rfl) (by kernel_rfl) (by kernel_rfl) (by kernel_rfl)
theorem ok42 : InstOk Tryz.prog I42 := instOk_ext rfl
theorem ok32 : InstOk Tryz.prog I32 := instOk_ext rfl
theorem ok57 : InstOk Tryz.prog I57 := instOk_ext rfl
theorem ok101 : InstOk Tryz.prog I101 := instOk_ext rfl
theorem ok60 : InstOk Tryz.prog I60 := instOk_of Tryz.func60 (by kernel_rfl) (by kernel_rfl) (by kernel_rfl) (by kernel_rfl)
theorem ok77 : InstOk Tryz.prog I77 := instOk_of Tryz.func77 (by kernel_rfl) (by kernel_rfl) (by kernel_rfl) (by kernel_rfl)
theorem ok69 : InstOk Tryz.prog I69 := instOk_of Tryz.func69 (by kernel_rfl) (by kernel_rfl) (by kernel_rfl) (by kernel_rfl)
theorem ok79 : InstOk Tryz.prog I79 := instOk_of Tryz.func79 (by kernel_rfl) (by kernel_rfl) (by kernel_rfl) (by kernel_rfl)
theorem ok80 : InstOk Tryz.prog I80 := instOk_ext rfl
theorem ok117 : InstOk Tryz.prog I117 := instOk_of Tryz.func117 (by kernel_rfl) (by kernel_rfl) (by kernel_rfl) (by kernel_rfl)
theorem ok119 : InstOk Tryz.prog I119 := instOk_of Tryz.func119 (by kernel_rfl) (by kernel_rfl) (by kernel_rfl) (by kernel_rfl)
theorem ok149 : InstOk Tryz.prog I149 := instOk_of Tryz.func149 (by kernel_rfl) (by kernel_rfl) (by kernel_rfl) (by kernel_rfl)
theorem ok118 : InstOk Tryz.prog I118 := instOk_of Tryz.func118 (by kernel_rfl) (by kernel_rfl) (by kernel_rfl) (by kernel_rfl)
theorem ok81 : InstOk Tryz.prog I81 := instOk_of Tryz.func81 (by kernel_rfl) (by kernel_rfl) (by kernel_rfl) (by kernel_rfl)
theorem ok120 : InstOk Tryz.prog I120 := instOk_ext rfl
theorem ok82 : InstOk Tryz.prog I82 := instOk_of Tryz.func82 (by kernel_rfl) (by kernel_rfl) (by kernel_rfl) (by kernel_rfl)
theorem ok53 : InstOk Tryz.prog I53 := instOk_of Tryz.func53 (by kernel_rfl) (by kernel_rfl) (by kernel_rfl) (by kernel_rfl)
theorem ok34 : InstOk Tryz.prog I34 := instOk_of Tryz.func34 (by kernel_rfl) (by kernel_rfl) (by kernel_rfl) (by kernel_rfl)
theorem ok83 : InstOk Tryz.prog I83 := instOk_of Tryz.func83 (by kernel_rfl) (by kernel_rfl) (by kernel_rfl) (by kernel_rfl)
theorem ok35 : InstOk Tryz.prog I35 := instOk_of Tryz.func35 (by kernel_rfl) (by kernel_rfl) (by kernel_rfl) (by kernel_rfl)
theorem ok36 : InstOk Tryz.prog I36 := instOk_of Tryz.func36 (by kernel_rfl) (by kernel_rfl) (by kernel_rfl) (by kernel_rfl)
theorem insts : ∀ j, InstOk Tryz.prog (C j) := find_all ok78 (List.forall_mem_cons.2 ⟨ok78, List.forall_mem_cons.2 ⟨ok42, List.forall_mem_cons.2 ⟨ok32, List.forall_mem_cons.2 ⟨ok57, List.forall_mem_cons.2 ⟨ok101, List.forall_mem_cons.2 ⟨ok60, List.forall_mem_cons.2 ⟨ok77, List.forall_mem_cons.2 ⟨ok69, List.forall_mem_cons.2 ⟨ok79, List.forall_mem_cons.2 ⟨ok80, List.forall_mem_cons.2 ⟨ok117, List.forall_mem_cons.2 ⟨ok119, List.forall_mem_cons.2 ⟨ok149, List.forall_mem_cons.2 ⟨ok118, List.forall_mem_cons.2 ⟨ok81, List.forall_mem_cons.2 ⟨ok120, List.forall_mem_cons.2 ⟨ok82, List.forall_mem_cons.2 ⟨ok53, List.forall_mem_cons.2 ⟨ok34, List.forall_mem_cons.2 ⟨ok83, List.forall_mem_cons.2 ⟨ok35, List.forall_mem_cons.2 ⟨ok36, fun _ h => absurd h List.not_mem_nil⟩⟩⟩⟩⟩⟩⟩⟩⟩⟩⟩⟩⟩⟩⟩⟩⟩⟩⟩⟩⟩⟩)
theorem c42 : C 42 = I42 := by kernel_rfl
theorem c32 : C 32 = I32 := by kernel_rfl
theorem c57 : C 57 = I57 := by kernel_rfl
theorem c101 : C 101 = I101 := by kernel_rfl
theorem c80 : C 80 = I80 := by kernel_rfl
theorem c120 : C 120 = I120 := by kernel_rfl
theorem exts {L : Laid} (h42 : ExtOk Tryz.prog L I42) (h32 : ExtOk Tryz.prog L I32) (h57 : ExtOk Tryz.prog L I57) (h101 : ExtOk Tryz.prog L I101) (h80 : ExtOk Tryz.prog L I80) (h120 : ExtOk Tryz.prog L I120) : ∀ j, ExtOk Tryz.prog L (C j) := by
  have hC : C = find I78 CL := by delta C; with_reducible rfl
  refine fun j => exts_of (C := C) _ _ [42, 32, 57, 101, 80, 120] hC (by kernel_rfl) (by kernel_rfl) ?_ j
  intro e he
  change ExtOk _ _ (C e)
  simp only [List.mem_cons, List.not_mem_nil, or_false] at he
  rcases he with rfl | rfl | rfl | rfl | rfl | rfl
  · rw [c42]; exact h42
  · rw [c32]; exact h32
  · rw [c57]; exact h57
  · rw [c101]; exact h101
  · rw [c80]; exact h80
  · rw [c120]; exact h120
end Go.Proofs.YtjeakogmccogmaaGreatDoor.LRa
