/- The types and the functions that a law reaches, told for the reading (Fw). Written by a program (gen.py). -/
import Derived.Test.YtjeakogmccogmaaDoorFwC
import Derived.Test.YtjeakogmccogmaaDoorProg
import Derived.Lib.TrailingZeros
import Derived.Lib.ItoaNum
import Derived.Lib.Join
import Derived.Lib.Split
import Derived.Lib.ParseIntB
import Derived.Lib.IndexMore
import Derived.Lib.Bytealg
namespace Go.Proofs.YtjeakogmccogmaaDoor.LRc
open Go Go.Fw
open Go.Proofs
noncomputable def tyL : List (Nat × TI) := [(2, ⟨(.int .i64), 0, 8⟩),
  (3, ⟨(.int .i64), 0, 8⟩),
  (4, ⟨.bool, 0, 1⟩),
  (5, ⟨(.int .u8), 0, 1⟩),
  (9, ⟨.str, 0, 16⟩),
  (30, ⟨(.slc (.int .i16)), 35, 24⟩),
  (35, ⟨(.int .i16), 0, 2⟩),
  (43, ⟨(.slc .str), 9, 24⟩),
  (78, ⟨.err, 0, 16⟩),
  (95, ⟨.fn, 0, 8⟩)]
noncomputable def T : Nat → Option TI := findT tyL
/- spec.l01Split -/
noncomputable def I19 : Inst := { f := 19, nt := 35, params := [((.ro .str), false), ((.ro (.int .u8)), false)], res := [(.row false .str)], slots := [.tmp 4], code := bd Tryd.f19, loops := fun b => find [] [(0, [.own 0 (.ro .str), .own 1 (.ro (.int .u8)), .own 5 (.row false .str), .own 6 (.ro (.int .i64)), .own 7 (.ro (.int .i64))])] b, deep := fun r i => find false [(1000, true), (7005, true), (7006, true), (9004, true), (9005, true)] (r * 1000 + i) }
/- spec.l01Number -/
noncomputable def I34 : Inst := { f := 34, nt := 48, params := [((.ro .str), false)], res := [(.ro (.int .i64)), (.ro .bool)], slots := [.tmp 2, .tmp 3], code := bd Tryd.f34, loops := fun b => find [] [(0, [.own 0 (.ro .str), .own 4 (.ro (.int .i64)), .own 5 (.ro (.int .i64))])] b }
/- spec.l00In -/
noncomputable def I58 : Inst := { f := 58, nt := 15, params := [((.ro (.int .i64)), false), ((.ro (.int .i64)), false), ((.ro (.int .i64)), false)], res := [(.ro .bool)], slots := [.tmp 6], code := bd Tryd.f58 }
/- spec.l01Lift -/
noncomputable def I35 : Inst := { f := 35, nt := 5, params := [((.ro (.int .i64)), false)], res := [(.ro .bool)], slots := [.tmp 2], code := bd Tryd.f35, callee := fun r i => find 0 [(1001, 58)] (r * 1000 + i) }
/- spec.l01Steps -/
noncomputable def I61 : Inst := { f := 61, nt := 5, params := [((.ro (.int .i64)), false)], res := [(.ro .bool)], slots := [.tmp 2], code := bd Tryd.f61, callee := fun r i => find 0 [(1001, 58)] (r * 1000 + i) }
/- spec.l01Ok -/
noncomputable def I49 : Inst := { f := 49, nt := 21, params := [((.ro (.slc (.int .i16))), false)], res := [(.ro .bool)], slots := [.tmp 2], code := bd Tryd.f49, callee := fun r i => find 0 [(1002, 61), (6005, 35)] (r * 1000 + i), loops := fun b => find [] [(0, [.own 0 (.ro (.slc (.int .i16))), .own 3 (.ro (.int .i64))])] b }
/- spec.l01Read -/
noncomputable def I24 : Inst := { f := 24, nt := 104, params := [((.ro .str), false)], res := [(.row false (.int .i16)), (.ro .bool)], slots := [.tmp 2, .tmp 3], code := bd Tryd.f24, callee := fun r i => find 0 [(1001, 19), (6004, 19), (7003, 34), (11003, 34), (13008, 35), (19002, 49)] (r * 1000 + i), loops := fun b => find [] [(2, [.own 4 (.ro (.slc .str)), .own 5 (.row false (.int .i16)), .own 6 (.ro (.int .i64)), .own 8 (.ro (.int .i64)), .own 10 (.ro (.int .i64)), .own 12 (.ro (.int .i64))]), (0, [.own 4 (.ro (.slc .str)), .own 5 (.row false (.int .i16)), .own 6 (.ro (.int .i64))])] b, deep := fun r i => find false [(2000, true), (14000, true), (18003, true), (18004, true)] (r * 1000 + i) }
/- spec.ReadCam -/
noncomputable def I9 : Inst := { f := 9, nt := 15, params := [((.ro .str), false)], res := [(.row false (.int .i16)), (.ro (.int .i64))], slots := [.tmp 2, .tmp 3], code := bd Tryd.f9, callee := fun r i => find 0 [(1001, 24)] (r * 1000 + i), deep := fun r i => find false [(3000, true)] (r * 1000 + i) }
/- strings.Split: told by its contract -/
noncomputable def I21 : Inst := { f := 21, nt := 0, params := [((.ro .str), false), ((.ro .str), false)], res := [(.row false .str)], slots := [], code := .skip, ext := some (fun x => if x.1.size < 4294967281 ∧ 1 ≤ x.2.1.size then some ((Lib.splitB x.2.1 0 (Lib.countB x.1 x.2.1) x.1, ()), ()) else none) }
/- strings.Cut: told by its contract -/
noncomputable def I25 : Inst := { f := 25, nt := 0, params := [((.ro .str), false), ((.ro .str), false)], res := [(.ro .str), (.ro .str), (.ro .bool)], slots := [], code := .skip, ext := some (fun x => if x.1.size < 4294967281 then some (((⟨(Lib.cut x.1.data.toList x.2.1.data.toList).1.toArray⟩ : ByteArray), (⟨(Lib.cut x.1.data.toList x.2.1.data.toList).2.1.toArray⟩ : ByteArray), (Lib.cut x.1.data.toList x.2.1.data.toList).2.2, ()), ()) else none) }
/- strconv.ParseInt: told by its contract -/
noncomputable def I51 : Inst := { f := 51, nt := 0, params := [((.ro .str), false), ((.ro (.int .i64)), false), ((.ro (.int .i64)), false)], res := [(.ro (.int .i64)), (.ro .err)], slots := [], code := .skip, ext := some (fun x => if x.1.size ≤ 281474976710656 ∧ x.2.1 = 10 ∧ x.2.2.1 = 64 then (match Lib.parseIntB 64 x.1.data.toList with | .ok v => some ((v, false, ()), ()) | .range => some ((Lib.intSat 64 x.1.data.toList, true, ()), ()) | _ => some (((0 : Int), true, ()), ())) else none) }
/- strconv.FormatInt: told by its contract -/
noncomputable def I78 : Inst := { f := 78, nt := 0, params := [((.ro (.int .i64)), false), ((.ro (.int .i64)), false)], res := [(.ro .str)], slots := [], code := .skip, ext := some (fun x => if x.2.1 = 10 ∧ -9223372036854775808 ≤ x.1 ∧ x.1 ≤ 9223372036854775807 then some (((⟨(Lib.itoa x.1).toArray⟩ : ByteArray), ()), ()) else none) }
/- impl.decimal -/
noncomputable def I52 : Inst := { f := 52, nt := 5, params := [((.ro (.int .i64)), false)], res := [(.ro .str)], slots := [.tmp 2], code := bd Tryd.f52, callee := fun r i => find 0 [(1001, 78)] (r * 1000 + i) }
/- impl.number -/
noncomputable def I26 : Inst := { f := 26, nt := 20, params := [((.ro .str), false)], res := [(.ro (.int .i64)), (.ro .bool)], slots := [.tmp 2, .tmp 3], code := bd Tryd.f26, callee := fun r i => find 0 [(1001, 51), (2005, 52)] (r * 1000 + i) }
/- impl.inRange -/
noncomputable def I28 : Inst := { f := 28, nt := 15, params := [((.ro (.int .i64)), false), ((.ro (.int .i64)), false), ((.ro (.int .i64)), false)], res := [(.ro .bool)], slots := [.tmp 6], code := bd Tryd.f28 }
/- impl.isLift -/
noncomputable def I27 : Inst := { f := 27, nt := 5, params := [((.ro (.int .i64)), false)], res := [(.ro .bool)], slots := [.tmp 2], code := bd Tryd.f27, callee := fun r i => find 0 [(1001, 28)] (r * 1000 + i) }
/- impl.Cam).steps -/
noncomputable def I29 : Inst := { f := 29, nt := 5, params := [((.ro (.slc (.int .i16))), false)], res := [(.ro (.int .i64))], slots := [.tmp 2], code := bd Tryd.f29 }
/- impl.Cam,int16]: told by its contract -/
noncomputable def I30 : Inst := { f := 30, nt := 0, params := [((.ro (.slc (.int .i16))), false), ((.ro (.int .i64)), false)], res := [(.row false (.int .i16))], slots := [], code := .skip, ext := some (fun x => if x.1.length = 1 ∧ 1 ≤ x.2.1 ∧ x.2.1 ≤ 360 then some ((List.replicate x.2.1.toNat (x.1.headD 0), ()), ()) else none) }
/- impl.isSteps -/
noncomputable def I54 : Inst := { f := 54, nt := 5, params := [((.ro (.int .i64)), false)], res := [(.ro .bool)], slots := [.tmp 2], code := bd Tryd.f54, callee := fun r i => find 0 [(1001, 28)] (r * 1000 + i) }
/- impl.ValidCam$1 -/
noncomputable def I56 : Inst := { f := 56, nt := 7, params := [((.ro (.int .i16)), false)], res := [(.ro .bool)], slots := [.tmp 2], code := bd Tryd.f56, callee := fun r i => find 0 [(1002, 27)] (r * 1000 + i) }
/- impl.Cam,int16] -/
noncomputable def I81 : Inst := { f := 81, nt := 19, params := [((.ro (.slc (.int .i16))), false), ((.clo 56 (.ro .unit) (.ro .unit)), false)], res := [(.ro (.int .i64))], slots := [.tmp 4], code := bd Tryd.f81, callee := fun r i => find 0 [(4005, 56)] (r * 1000 + i), loops := fun b => find [] [(0, [.own 0 (.ro (.slc (.int .i16))), .own 1 (.clo 56 (.ro .unit) (.ro .unit)), .own 7 (.ro (.int .i64)), .own 8 (.ro (.int .i64))])] b }
/- impl.Cam,int16] -/
noncomputable def I55 : Inst := { f := 55, nt := 9, params := [((.ro (.slc (.int .i16))), false), ((.clo 56 (.ro .unit) (.ro .unit)), false)], res := [(.ro .bool)], slots := [.tmp 4], code := bd Tryd.f55, callee := fun r i => find 0 [(1002, 81)] (r * 1000 + i) }
/- impl.ValidCam -/
noncomputable def I31 : Inst := { f := 31, nt := 11, params := [((.ro (.slc (.int .i16))), false)], res := [(.ro .bool)], slots := [.tmp 2], code := bd Tryd.f31, callee := fun r i => find 0 [(1001, 29), (1002, 54), (1005, 55)] (r * 1000 + i) }
/- strings.Join: told by its contract -/
noncomputable def I57 : Inst := { f := 57, nt := 0, params := [((.row false .str), true), ((.ro .str), false)], res := [(.ro .str)], slots := [], code := .skip, ext := some (fun x => if x.1.length ≤ 140737488355328 ∧ (Lib.join (x.1.map fun s => s.data.toList) x.2.1.data.toList).length ≤ 140737488355328 then some (((⟨(Lib.join (x.1.map fun s => s.data.toList) x.2.1.data.toList).toArray⟩ : ByteArray), ()), (x.1, ())) else none) }
/- impl.CamText -/
noncomputable def I32 : Inst := { f := 32, nt := 57, params := [((.ro (.slc (.int .i16))), false)], res := [(.ro .str)], slots := [.tmp 2], code := bd Tryd.f32, callee := fun r i => find 0 [(1001, 31), (9005, 52), (11004, 52), (13001, 57)] (r * 1000 + i), loops := fun b => find [] [(2, [.own 0 (.ro (.slc (.int .i16))), .own 3 (.row false .str), .own 4 (.ro (.int .i64)), .own 5 (.ro (.int .i64))]), (0, [.own 0 (.ro (.slc (.int .i16))), .own 3 (.row false .str), .own 4 (.ro (.int .i64))])] b, deep := fun r i => find false [(3000, true), (12002, true), (12003, true)] (r * 1000 + i) }
/- impl.Cam,int16] -/
noncomputable def I33 : Inst := { f := 33, nt := 8, params := [((.ro (.slc (.int .i16))), false)], res := [(.row false (.int .i16))], slots := [.tmp 2], code := bd Tryd.f33 }
/- impl.ReadCam -/
noncomputable def I10 : Inst := { f := 10, nt := 70, params := [((.ro .str), false)], res := [(.row false (.int .i16)), (.ro (.int .i64))], slots := [.tmp 2, .tmp 3], code := bd Tryd.f10, callee := fun r i => find 0 [(2001, 21), (5001, 25), (6001, 26), (7001, 26), (10001, 27), (10006, 29), (10008, 28), (12005, 30), (14001, 31), (14005, 32), (16001, 33)] (r * 1000 + i), loops := fun b => find [] [(0, [.own 0 (.ro .str), .own 4 (.row false (.int .i16)), .own 16 (.ro (.slc .str)), .own 17 (.ro (.int .i64)), .own 18 (.ro (.int .i64))])] b, deep := fun r i => find false [(1000, true), (12003, true), (12006, true)] (r * 1000 + i), frz := fun r i => find false [(12003, true)] (r * 1000 + i) }
/- laws.eqCam -/
noncomputable def I11 : Inst := { f := 11, nt := 26, params := [((.ro (.slc (.int .i16))), false), ((.ro (.slc (.int .i16))), false)], res := [(.ro .bool)], slots := [.tmp 4], code := bd Tryd.f11, loops := fun b => find [] [(0, [.own 0 (.ro (.slc (.int .i16))), .own 1 (.ro (.slc (.int .i16))), .own 5 (.ro (.int .i64))])] b }
/- laws.markCam -/
noncomputable def I12 : Inst := { f := 12, nt := 20, params := [((.row false (.int .i16)), true), ((.ro (.int .i64)), false)], res := [(.ro (.int .i64))], slots := [.tmp 4], code := bd Tryd.f12, loops := fun b => find [] [(0, [.own 0 (.row false (.int .i16)), .own 1 (.ro (.int .i64)), .own 5 (.ro (.int .i64))])] b, pins := [0] }
/- laws.heldCam -/
noncomputable def I13 : Inst := { f := 13, nt := 22, params := [((.ro (.slc (.int .i16))), false), ((.ro (.int .i64)), false)], res := [(.ro (.int .i64))], slots := [.tmp 4], code := bd Tryd.f13, loops := fun b => find [] [(0, [.own 0 (.ro (.slc (.int .i16))), .own 1 (.ro (.int .i64)), .own 5 (.ro (.int .i64))])] b }
/- laws.FnExactReadCam -/
noncomputable def I4 : Inst := { f := 4, nt := 66, params := [((.ro .str), false)], res := [(.ro .bool)], slots := [.tmp 2], code := bd Tryd.f4, callee := fun r i => find 0 [(3001, 9), (4001, 10), (5002, 11), (8002, 12), (10002, 13), (15001, 10), (16002, 11), (19002, 13)] (r * 1000 + i) }
noncomputable def CL : List (Nat × Inst) := [(19, I19), (34, I34), (58, I58), (35, I35), (61, I61), (49, I49), (24, I24), (9, I9), (21, I21), (25, I25), (51, I51), (78, I78), (52, I52), (26, I26), (28, I28), (27, I27), (29, I29), (30, I30), (54, I54), (56, I56), (81, I81), (55, I55), (31, I31), (57, I57), (32, I32), (33, I33), (10, I10), (11, I11), (12, I12), (13, I13), (4, I4)]
noncomputable def C : Nat → Inst := find I19 CL
theorem tsOk : TsOk Tryd.prog T := tsOkB_sound (by kernel_rfl)
theorem ok19 : InstOk Tryd.prog I19 := instOk_of Tryd.func19 (by kernel_rfl) (by kernel_rfl) (by kernel_rfl) (by kernel_rfl)
theorem ok34 : InstOk Tryd.prog I34 := instOk_of Tryd.func34 (by kernel_rfl) (by kernel_rfl) (by kernel_rfl) (by kernel_rfl)
theorem ok58 : InstOk Tryd.prog I58 := instOk_of Tryd.func58 (by kernel_rfl) (by kernel_rfl) (by kernel_rfl) (by kernel_rfl)
theorem ok35 : InstOk Tryd.prog I35 := instOk_of Tryd.func35 (by kernel_rfl) (by kernel_rfl) (by kernel_rfl) (by kernel_rfl)
theorem ok61 : InstOk Tryd.prog I61 := instOk_of Tryd.func61 (by kernel_rfl) (by kernel_rfl) (by kernel_rfl) (by kernel_rfl)
theorem ok49 : InstOk Tryd.prog I49 := instOk_of Tryd.func49 (by kernel_rfl) (by kernel_rfl) (by kernel_rfl) (by kernel_rfl)
theorem ok24 : InstOk Tryd.prog I24 := instOk_of Tryd.func24 (by kernel_rfl) (by kernel_rfl) (by kernel_rfl) (by kernel_rfl)
theorem ok9 : InstOk Tryd.prog I9 := instOk_of Tryd.func9 (by kernel_rfl) (by kernel_rfl) (by kernel_rfl) (by kernel_rfl)
theorem ok21 : InstOk Tryd.prog I21 := instOk_ext rfl
theorem ok25 : InstOk Tryd.prog I25 := instOk_ext rfl
theorem ok51 : InstOk Tryd.prog I51 := instOk_ext rfl
theorem ok78 : InstOk Tryd.prog I78 := instOk_ext rfl
theorem ok52 : InstOk Tryd.prog I52 := instOk_of Tryd.func52 (by kernel_rfl) (by kernel_rfl) (by kernel_rfl) (by kernel_rfl)
theorem ok26 : InstOk Tryd.prog I26 := instOk_of Tryd.func26 (by kernel_rfl) (by kernel_rfl) (by kernel_rfl) (by kernel_rfl)
theorem ok28 : InstOk Tryd.prog I28 := instOk_of Tryd.func28 (by kernel_rfl) (by kernel_rfl) (by kernel_rfl) (by kernel_rfl)
theorem ok27 : InstOk Tryd.prog I27 := instOk_of Tryd.func27 (by kernel_rfl) (by kernel_rfl) (by kernel_rfl) (by kernel_rfl)
theorem ok29 : InstOk Tryd.prog I29 := instOk_of Tryd.func29 (by kernel_rfl) (by kernel_rfl) (by kernel_rfl) (by kernel_rfl)
theorem ok30 : InstOk Tryd.prog I30 := instOk_ext rfl
theorem ok54 : InstOk Tryd.prog I54 := instOk_of Tryd.func54 (by kernel_rfl) (by kernel_rfl) (by kernel_rfl) (by kernel_rfl)
theorem ok56 : InstOk Tryd.prog I56 := instOk_of Tryd.func56 (by kernel_rfl) (by kernel_rfl) (by kernel_rfl) (by kernel_rfl)
theorem ok81 : InstOk Tryd.prog I81 := instOk_of Tryd.func81 (by kernel_rfl) (by kernel_rfl) (by kernel_rfl) (by kernel_rfl)
theorem ok55 : InstOk Tryd.prog I55 := instOk_of Tryd.func55 (by kernel_rfl) (by kernel_rfl) (by kernel_rfl) (by kernel_rfl)
theorem ok31 : InstOk Tryd.prog I31 := instOk_of Tryd.func31 (by kernel_rfl) (by kernel_rfl) (by kernel_rfl) (by kernel_rfl)
theorem ok57 : InstOk Tryd.prog I57 := instOk_ext rfl
theorem ok32 : InstOk Tryd.prog I32 := instOk_of Tryd.func32 (by kernel_rfl) (by kernel_rfl) (by kernel_rfl) (by kernel_rfl)
theorem ok33 : InstOk Tryd.prog I33 := instOk_of Tryd.func33 (by kernel_rfl) (by kernel_rfl) (by kernel_rfl) (by kernel_rfl)
theorem ok10 : InstOk Tryd.prog I10 := instOk_of Tryd.func10 (by kernel_rfl) (by kernel_rfl) (by kernel_rfl) (by kernel_rfl)
theorem ok11 : InstOk Tryd.prog I11 := instOk_of Tryd.func11 (by kernel_rfl) (by kernel_rfl) (by kernel_rfl) (by kernel_rfl)
theorem ok12 : InstOk Tryd.prog I12 := instOk_of Tryd.func12 (by kernel_rfl) (by kernel_rfl) (by kernel_rfl) (by kernel_rfl)
theorem ok13 : InstOk Tryd.prog I13 := instOk_of Tryd.func13 (by kernel_rfl) (by kernel_rfl) (by kernel_rfl) (by kernel_rfl)
theorem ok4 : InstOk Tryd.prog I4 := instOk_of Tryd.func4 (by kernel_rfl) (by kernel_rfl) (by kernel_rfl) (by kernel_rfl)
theorem insts : ∀ j, InstOk Tryd.prog (C j) := find_all ok19 (List.forall_mem_cons.2 ⟨ok19, List.forall_mem_cons.2 ⟨ok34, List.forall_mem_cons.2 ⟨ok58, List.forall_mem_cons.2 ⟨ok35, List.forall_mem_cons.2 ⟨ok61, List.forall_mem_cons.2 ⟨ok49, List.forall_mem_cons.2 ⟨ok24, List.forall_mem_cons.2 ⟨ok9, List.forall_mem_cons.2 ⟨ok21, List.forall_mem_cons.2 ⟨ok25, List.forall_mem_cons.2 ⟨ok51, List.forall_mem_cons.2 ⟨ok78, List.forall_mem_cons.2 ⟨ok52, List.forall_mem_cons.2 ⟨ok26, List.forall_mem_cons.2 ⟨ok28, List.forall_mem_cons.2 ⟨ok27, List.forall_mem_cons.2 ⟨ok29, List.forall_mem_cons.2 ⟨ok30, List.forall_mem_cons.2 ⟨ok54, List.forall_mem_cons.2 ⟨ok56, List.forall_mem_cons.2 ⟨ok81, List.forall_mem_cons.2 ⟨ok55, List.forall_mem_cons.2 ⟨ok31, List.forall_mem_cons.2 ⟨ok57, List.forall_mem_cons.2 ⟨ok32, List.forall_mem_cons.2 ⟨ok33, List.forall_mem_cons.2 ⟨ok10, List.forall_mem_cons.2 ⟨ok11, List.forall_mem_cons.2 ⟨ok12, List.forall_mem_cons.2 ⟨ok13, List.forall_mem_cons.2 ⟨ok4, fun _ h => absurd h List.not_mem_nil⟩⟩⟩⟩⟩⟩⟩⟩⟩⟩⟩⟩⟩⟩⟩⟩⟩⟩⟩⟩⟩⟩⟩⟩⟩⟩⟩⟩⟩⟩⟩)
theorem c21 : C 21 = I21 := by kernel_rfl
theorem c25 : C 25 = I25 := by kernel_rfl
theorem c51 : C 51 = I51 := by kernel_rfl
theorem c78 : C 78 = I78 := by kernel_rfl
theorem c30 : C 30 = I30 := by kernel_rfl
theorem c57 : C 57 = I57 := by kernel_rfl
theorem exts {L : Laid} (h21 : ExtOk Tryd.prog L I21) (h25 : ExtOk Tryd.prog L I25) (h51 : ExtOk Tryd.prog L I51) (h78 : ExtOk Tryd.prog L I78) (h30 : ExtOk Tryd.prog L I30) (h57 : ExtOk Tryd.prog L I57) : ∀ j, ExtOk Tryd.prog L (C j) := by
  have hC : C = find I19 CL := by delta C; with_reducible rfl
  refine fun j => exts_of (C := C) _ _ [21, 25, 51, 78, 30, 57] hC (by kernel_rfl) (by kernel_rfl) ?_ j
  intro e he
  change ExtOk _ _ (C e)
  simp only [List.mem_cons, List.not_mem_nil, or_false] at he
  rcases he with rfl | rfl | rfl | rfl | rfl | rfl
  · rw [c21]; exact h21
  · rw [c25]; exact h25
  · rw [c51]; exact h51
  · rw [c78]; exact h78
  · rw [c30]; exact h30
  · rw [c57]; exact h57
end Go.Proofs.YtjeakogmccogmaaDoor.LRc
