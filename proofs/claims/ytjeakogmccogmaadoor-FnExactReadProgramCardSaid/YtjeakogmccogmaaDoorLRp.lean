/- The types and the functions that a law reaches, told for the reading (Fw). Written by a program (gen.py). -/
import Derived.Test.YtjeakogmccogmaaDoorFwC
import Derived.Test.YtjeakogmccogmaaDoorProg
import Derived.Lib.TrailingZeros
import Derived.Lib.ItoaNum
import Derived.Lib.Join
import Derived.Lib.Split
import Derived.Lib.ParseIntB
import Derived.Lib.IndexMore
import Derived.Lib.Bytealg
namespace Go.Proofs.YtjeakogmccogmaaDoor.LRp
open Go Go.Fw
open Go.Proofs
noncomputable def tyL : List (Nat × TI) := [(2, ⟨(.int .i64), 0, 8⟩),
  (3, ⟨(.int .i64), 0, 8⟩),
  (4, ⟨.bool, 0, 1⟩),
  (5, ⟨(.int .u8), 0, 1⟩),
  (9, ⟨.str, 0, 16⟩),
  (35, ⟨(.int .i16), 0, 2⟩),
  (36, ⟨(.slc (.pair (.int .i8) (.pair (.int .i16) (.pair (.int .i16) .unit)))), 65, 24⟩),
  (38, ⟨(.pair (.int .i16) (.pair (.slc (.pair (.int .i8) (.pair (.int .i16) (.pair (.int .i16) .unit)))) .unit)), 0, 32⟩),
  (43, ⟨(.slc .str), 9, 24⟩),
  (63, ⟨(.int .i8), 0, 1⟩),
  (65, ⟨(.pair (.int .i8) (.pair (.int .i16) (.pair (.int .i16) .unit))), 0, 6⟩),
  (69, ⟨(.ptr (.pair (.int .i16) (.pair (.slc (.pair (.int .i8) (.pair (.int .i16) (.pair (.int .i16) .unit)))) .unit))), 0, 8⟩),
  (78, ⟨.err, 0, 16⟩),
  (99, ⟨.fn, 0, 8⟩)]
noncomputable def T : Nat → Option TI := findT tyL
/- spec.l01Split -/
noncomputable def I19 : Inst := { f := 19, nt := 35, params := [((.ro .str), false), ((.ro (.int .u8)), false)], res := [(.row false .str)], slots := [.tmp 4], code := bd Tryd.f19, loops := fun b => find [] [(0, [.own 0 (.ro .str), .own 1 (.ro (.int .u8)), .own 5 (.row false .str), .own 6 (.ro (.int .i64)), .own 7 (.ro (.int .i64))])] b, deep := fun r i => find false [(1000, true), (7005, true), (7006, true), (9004, true), (9005, true)] (r * 1000 + i) }
/- spec.l01Number -/
noncomputable def I34 : Inst := { f := 34, nt := 48, params := [((.ro .str), false)], res := [(.ro (.int .i64)), (.ro .bool)], slots := [.tmp 2, .tmp 3], code := bd Tryd.f34, loops := fun b => find [] [(0, [.own 0 (.ro .str), .own 4 (.ro (.int .i64)), .own 5 (.ro (.int .i64))])] b }
/- spec.l00In -/
noncomputable def I58 : Inst := { f := 58, nt := 15, params := [((.ro (.int .i64)), false), ((.ro (.int .i64)), false), ((.ro (.int .i64)), false)], res := [(.ro .bool)], slots := [.tmp 6], code := bd Tryd.f58 }
/- spec.l01Lift -/
noncomputable def I35 : Inst := { f := 35, nt := 5, params := [((.ro (.int .i64)), false)], res := [(.ro .bool)], slots := [.tmp 2], code := bd Tryd.f35, callee := fun r i => find 0 [(1001, 58)] (r * 1000 + i) }
/- spec.l02Letters -/
noncomputable def I59 : Inst := { f := 59, nt := 1, params := [], res := [(.ro .str)], slots := [.tmp 0], code := bd Tryd.f59 }
/- spec.l02Read -/
noncomputable def I36 : Inst := { f := 36, nt := 73, params := [((.ro .str), false)], res := [(.ro (.pair (.int .i8) (.pair (.int .i16) (.pair (.int .i16) .unit)))), (.ro .bool)], slots := [.cell 2 65, .tmp 3], code := bd Tryd.f36, callee := fun r i => find 0 [(7000, 59), (9002, 19), (12003, 34), (13003, 34)] (r * 1000 + i), loops := fun b => find [] [(0, [.own 0 (.ro .str), .own 2 (.box (.ro (.pair (.int .i8) (.pair (.int .i16) (.pair (.int .i16) .unit))))), .own 4 (.ro (.int .i8)), .own 5 (.ro (.int .i64))])] b }
/- spec.l02Law -/
noncomputable def I60 : Inst := { f := 60, nt := 5, params := [((.ro (.int .i64)), false)], res := [(.ro .bool)], slots := [.tmp 2], code := bd Tryd.f60, callee := fun r i => find 0 [(1001, 58)] (r * 1000 + i) }
/- spec.l01Steps -/
noncomputable def I61 : Inst := { f := 61, nt := 5, params := [((.ro (.int .i64)), false)], res := [(.ro .bool)], slots := [.tmp 2], code := bd Tryd.f61, callee := fun r i => find 0 [(1001, 58)] (r * 1000 + i) }
/- spec.l02Ok -/
noncomputable def I37 : Inst := { f := 37, nt := 83, params := [((.ro (.ptr (.pair (.int .i16) (.pair (.slc (.pair (.int .i8) (.pair (.int .i16) (.pair (.int .i16) .unit)))) .unit)))), false)], res := [(.ro .bool)], slots := [.tmp 2], code := bd Tryd.f37, callee := fun r i => find 0 [(2001, 58), (2009, 35), (9005, 60), (9020, 35), (12001, 61)] (r * 1000 + i), loops := fun b => find [] [(0, [.own 0 (.ro (.ptr (.pair (.int .i16) (.pair (.slc (.pair (.int .i8) (.pair (.int .i16) (.pair (.int .i16) .unit)))) .unit)))), .own 3 (.ro (.int .i64)), .own 4 (.ro (.int .i64)), .own 5 (.ro (.int .i64))])] b }
/- spec.ReadProgram -/
noncomputable def I14 : Inst := { f := 14, nt := 58, params := [((.ro .str), false)], res := [(.pr (.ro (.int .i16)) (.pr (.row false (.pair (.int .i8) (.pair (.int .i16) (.pair (.int .i16) .unit)))) (.ro .unit))), (.ro (.int .i64))], slots := [.cell 2 38, .tmp 3], code := bd Tryd.f14, callee := fun r i => find 0 [(1001, 19), (2003, 34), (3004, 35), (9004, 36), (13000, 37)] (r * 1000 + i), loops := fun b => find [] [(0, [.own 2 (.box (.ro (.pair (.int .i16) (.pair (.slc (.pair (.int .i8) (.pair (.int .i16) (.pair (.int .i16) .unit)))) .unit)))), .own 4 (.ro (.slc .str)), .own 7 (.box (.pr (.ro (.int .i16)) (.pr (.row false (.pair (.int .i8) (.pair (.int .i16) (.pair (.int .i16) .unit)))) (.ro .unit)))), .own 8 (.ro (.int .i64))])] b, deep := fun r i => find false [(12003, true), (12004, true)] (r * 1000 + i) }
/- strings.Split: told by its contract -/
noncomputable def I21 : Inst := { f := 21, nt := 0, params := [((.ro .str), false), ((.ro .str), false)], res := [(.row false .str)], slots := [], code := .skip, ext := some (fun x => if x.1.size < 4294967281 ∧ 1 ≤ x.2.1.size then some ((Lib.splitB x.2.1 0 (Lib.countB x.1 x.2.1) x.1, ()), ()) else none) }
/- strconv.ParseInt: told by its contract -/
noncomputable def I51 : Inst := { f := 51, nt := 0, params := [((.ro .str), false), ((.ro (.int .i64)), false), ((.ro (.int .i64)), false)], res := [(.ro (.int .i64)), (.ro .err)], slots := [], code := .skip, ext := some (fun x => if x.1.size ≤ 281474976710656 ∧ x.2.1 = 10 ∧ x.2.2.1 = 64 then (match Lib.parseIntB 64 x.1.data.toList with | .ok v => some ((v, false, ()), ()) | .range => some ((Lib.intSat 64 x.1.data.toList, true, ()), ()) | _ => some (((0 : Int), true, ()), ())) else none) }
/- strconv.FormatInt: told by its contract -/
noncomputable def I78 : Inst := { f := 78, nt := 0, params := [((.ro (.int .i64)), false), ((.ro (.int .i64)), false)], res := [(.ro .str)], slots := [], code := .skip, ext := some (fun x => if x.2.1 = 10 ∧ -9223372036854775808 ≤ x.1 ∧ x.1 ≤ 9223372036854775807 then some (((⟨(Lib.itoa x.1).toArray⟩ : ByteArray), ()), ()) else none) }
/- impl.decimal -/
noncomputable def I52 : Inst := { f := 52, nt := 5, params := [((.ro (.int .i64)), false)], res := [(.ro .str)], slots := [.tmp 2], code := bd Tryd.f52, callee := fun r i => find 0 [(1001, 78)] (r * 1000 + i) }
/- impl.number -/
noncomputable def I26 : Inst := { f := 26, nt := 20, params := [((.ro .str), false)], res := [(.ro (.int .i64)), (.ro .bool)], slots := [.tmp 2, .tmp 3], code := bd Tryd.f26, callee := fun r i => find 0 [(1001, 51), (2005, 52)] (r * 1000 + i) }
/- impl.inRange -/
noncomputable def I28 : Inst := { f := 28, nt := 15, params := [((.ro (.int .i64)), false), ((.ro (.int .i64)), false), ((.ro (.int .i64)), false)], res := [(.ro .bool)], slots := [.tmp 6], code := bd Tryd.f28 }
/- impl.isLift -/
noncomputable def I27 : Inst := { f := 27, nt := 5, params := [((.ro (.int .i64)), false)], res := [(.ro .bool)], slots := [.tmp 2], code := bd Tryd.f27, callee := fun r i => find 0 [(1001, 28)] (r * 1000 + i) }
/- strings.Cut: told by its contract -/
noncomputable def I25 : Inst := { f := 25, nt := 0, params := [((.ro .str), false), ((.ro .str), false)], res := [(.ro .str), (.ro .str), (.ro .bool)], slots := [], code := .skip, ext := some (fun x => if x.1.size < 4294967281 then some (((⟨(Lib.cut x.1.data.toList x.2.1.data.toList).1.toArray⟩ : ByteArray), (⟨(Lib.cut x.1.data.toList x.2.1.data.toList).2.1.toArray⟩ : ByteArray), (Lib.cut x.1.data.toList x.2.1.data.toList).2.2, ()), ()) else none) }
/- strings.IndexByte: told by its contract -/
noncomputable def I38 : Inst := { f := 38, nt := 0, params := [((.ro .str), false), ((.ro (.int .u8)), false)], res := [(.ro (.int .i64))], slots := [], code := .skip, ext := some (fun x => if 0 ≤ x.2.1 ∧ x.2.1 < 256 then some ((Lib.indexByte x.1.data.toList x.2.1.toNat.toUInt8, ()), ()) else none) }
/- impl.isLaw -/
noncomputable def I65 : Inst := { f := 65, nt := 5, params := [((.ro (.int .i64)), false)], res := [(.ro .bool)], slots := [.tmp 2], code := bd Tryd.f65, callee := fun r i => find 0 [(1001, 28)] (r * 1000 + i) }
/- impl.ValidProgram$1 -/
noncomputable def I64 : Inst := { f := 64, nt := 20, params := [((.ro (.pair (.int .i8) (.pair (.int .i16) (.pair (.int .i16) .unit)))), false)], res := [(.ro .bool)], slots := [.tmp 2], code := bd Tryd.f64, callee := fun r i => find 0 [(1003, 65), (1014, 27)] (r * 1000 + i) }
/- impl.Motion] -/
noncomputable def I84 : Inst := { f := 84, nt := 19, params := [((.ro (.slc (.pair (.int .i8) (.pair (.int .i16) (.pair (.int .i16) .unit))))), false), ((.clo 64 (.ro .unit) (.ro .unit)), false)], res := [(.ro (.int .i64))], slots := [.tmp 4], code := bd Tryd.f84, callee := fun r i => find 0 [(4005, 64)] (r * 1000 + i), loops := fun b => find [] [(0, [.own 0 (.ro (.slc (.pair (.int .i8) (.pair (.int .i16) (.pair (.int .i16) .unit))))), .own 1 (.clo 64 (.ro .unit) (.ro .unit)), .own 7 (.ro (.int .i64)), .own 8 (.ro (.int .i64))])] b }
/- impl.Motion] -/
noncomputable def I63 : Inst := { f := 63, nt := 9, params := [((.ro (.slc (.pair (.int .i8) (.pair (.int .i16) (.pair (.int .i16) .unit))))), false), ((.clo 64 (.ro .unit) (.ro .unit)), false)], res := [(.ro .bool)], slots := [.tmp 4], code := bd Tryd.f63, callee := fun r i => find 0 [(1002, 84)] (r * 1000 + i) }
/- impl.Program).steps -/
noncomputable def I66 : Inst := { f := 66, nt := 20, params := [((.ro (.pair (.int .i16) (.pair (.slc (.pair (.int .i8) (.pair (.int .i16) (.pair (.int .i16) .unit)))) .unit))), false)], res := [(.ro (.int .i64))], slots := [.tmp 2], code := bd Tryd.f66, loops := fun b => find [] [(0, [.own 3 (.ro (.int .i64)), .own 7 (.ro (.slc (.pair (.int .i8) (.pair (.int .i16) (.pair (.int .i16) .unit))))), .own 8 (.ro (.int .i64)), .own 9 (.ro (.int .i64))])] b }
/- impl.isSteps -/
noncomputable def I54 : Inst := { f := 54, nt := 5, params := [((.ro (.int .i64)), false)], res := [(.ro .bool)], slots := [.tmp 2], code := bd Tryd.f54, callee := fun r i => find 0 [(1001, 28)] (r * 1000 + i) }
/- impl.ValidProgram -/
noncomputable def I39 : Inst := { f := 39, nt := 40, params := [((.ro (.pair (.int .i16) (.pair (.slc (.pair (.int .i8) (.pair (.int .i16) (.pair (.int .i16) .unit)))) .unit))), false)], res := [(.ro .bool)], slots := [.tmp 2], code := bd Tryd.f39, callee := fun r i => find 0 [(1003, 28), (1009, 27), (3002, 63), (4004, 66), (4005, 54)] (r * 1000 + i) }
/- strings.Join: told by its contract -/
noncomputable def I57 : Inst := { f := 57, nt := 0, params := [((.row false .str), true), ((.ro .str), false)], res := [(.ro .str)], slots := [], code := .skip, ext := some (fun x => if x.1.length ≤ 140737488355328 ∧ (Lib.join (x.1.map fun s => s.data.toList) x.2.1.data.toList).length ≤ 140737488355328 then some (((⟨(Lib.join (x.1.map fun s => s.data.toList) x.2.1.data.toList).toArray⟩ : ByteArray), ()), (x.1, ())) else none) }
/- impl.ProgramText -/
noncomputable def I40 : Inst := { f := 40, nt := 44, params := [((.ro (.pair (.int .i16) (.pair (.slc (.pair (.int .i8) (.pair (.int .i16) (.pair (.int .i16) .unit)))) .unit))), false)], res := [(.ro .str)], slots := [.tmp 2], code := bd Tryd.f40, callee := fun r i => find 0 [(1001, 39), (3003, 52), (7010, 52), (7016, 52), (9001, 57)] (r * 1000 + i), loops := fun b => find [] [(0, [.own 3 (.row false .str), .own 15 (.ro (.slc (.pair (.int .i8) (.pair (.int .i16) (.pair (.int .i16) .unit))))), .own 16 (.ro (.int .i64)), .own 17 (.ro (.int .i64))])] b, deep := fun r i => find false [(3004, true), (7018, true), (7019, true)] (r * 1000 + i) }
/- impl.ReadProgram -/
noncomputable def I15 : Inst := { f := 15, nt := 95, params := [((.ro .str), false)], res := [(.pr (.ro (.int .i16)) (.pr (.row false (.pair (.int .i8) (.pair (.int .i16) (.pair (.int .i16) .unit)))) (.ro .unit))), (.ro (.int .i64))], slots := [.cell 2 38, .tmp 3], code := bd Tryd.f15, callee := fun r i => find 0 [(1001, 21), (2003, 26), (3001, 27), (11002, 25), (12001, 26), (13001, 26), (14001, 27), (14005, 28), (16004, 38), (18001, 39), (18005, 40)] (r * 1000 + i), loops := fun b => find [] [(0, [.own 0 (.ro .str), .own 2 (.box (.ro (.pair (.int .i16) (.pair (.slc (.pair (.int .i8) (.pair (.int .i16) (.pair (.int .i16) .unit)))) .unit)))), .own 7 (.box (.pr (.ro (.int .i16)) (.pr (.row false (.pair (.int .i8) (.pair (.int .i16) (.pair (.int .i16) .unit)))) (.ro .unit)))), .own 34 (.ro (.slc .str)), .own 35 (.ro (.int .i64)), .own 36 (.ro (.int .i64))])] b, deep := fun r i => find false [(16011, true), (16012, true)] (r * 1000 + i), ice := fun r i => find [] [(6001, [33, 4, 18, 20])] (r * 1000 + i) }
/- laws.eqMotion -/
noncomputable def I67 : Inst := { f := 67, nt := 20, params := [((.ro (.pair (.int .i8) (.pair (.int .i16) (.pair (.int .i16) .unit)))), false), ((.ro (.pair (.int .i8) (.pair (.int .i16) (.pair (.int .i16) .unit)))), false)], res := [(.ro .bool)], slots := [.tmp 4], code := bd Tryd.f67 }
/- laws.eqMotionS -/
noncomputable def I41 : Inst := { f := 41, nt := 27, params := [((.ro (.slc (.pair (.int .i8) (.pair (.int .i16) (.pair (.int .i16) .unit))))), false), ((.ro (.slc (.pair (.int .i8) (.pair (.int .i16) (.pair (.int .i16) .unit))))), false)], res := [(.ro .bool)], slots := [.tmp 4], code := bd Tryd.f41, callee := fun r i => find 0 [(6008, 67)] (r * 1000 + i), loops := fun b => find [] [(0, [.own 0 (.ro (.slc (.pair (.int .i8) (.pair (.int .i16) (.pair (.int .i16) .unit))))), .own 1 (.ro (.slc (.pair (.int .i8) (.pair (.int .i16) (.pair (.int .i16) .unit))))), .own 5 (.ro (.int .i64))])] b }
/- laws.eqProgram -/
noncomputable def I16 : Inst := { f := 16, nt := 16, params := [((.ro (.pair (.int .i16) (.pair (.slc (.pair (.int .i8) (.pair (.int .i16) (.pair (.int .i16) .unit)))) .unit))), false), ((.ro (.pair (.int .i16) (.pair (.slc (.pair (.int .i8) (.pair (.int .i16) (.pair (.int .i16) .unit)))) .unit))), false)], res := [(.ro .bool)], slots := [.tmp 4], code := bd Tryd.f16, callee := fun r i => find 0 [(3004, 41)] (r * 1000 + i) }
/- laws.markMotionS -/
noncomputable def I42 : Inst := { f := 42, nt := 37, params := [((.row false (.pair (.int .i8) (.pair (.int .i16) (.pair (.int .i16) .unit)))), true), ((.ro (.int .i64)), false)], res := [(.ro (.int .i64))], slots := [.tmp 4], code := bd Tryd.f42, loops := fun b => find [] [(0, [.own 0 (.row false (.pair (.int .i8) (.pair (.int .i16) (.pair (.int .i16) .unit)))), .own 1 (.ro (.int .i64)), .own 5 (.ro (.int .i64))])] b, pins := [0] }
/- laws.markProgram -/
noncomputable def I17 : Inst := { f := 17, nt := 10, params := [((.pr (.ro (.int .i16)) (.pr (.row false (.pair (.int .i8) (.pair (.int .i16) (.pair (.int .i16) .unit)))) (.ro .unit))), true), ((.ro (.int .i64)), false)], res := [(.ro (.int .i64))], slots := [.tmp 4], code := bd Tryd.f17, callee := fun r i => find 0 [(1003, 42)] (r * 1000 + i), pins := [0] }
/- laws.heldMotionS -/
noncomputable def I43 : Inst := { f := 43, nt := 43, params := [((.ro (.slc (.pair (.int .i8) (.pair (.int .i16) (.pair (.int .i16) .unit))))), false), ((.ro (.int .i64)), false)], res := [(.ro (.int .i64))], slots := [.tmp 4], code := bd Tryd.f43, loops := fun b => find [] [(0, [.own 0 (.ro (.slc (.pair (.int .i8) (.pair (.int .i16) (.pair (.int .i16) .unit))))), .own 1 (.ro (.int .i64)), .own 5 (.ro (.int .i64))])] b }
/- laws.heldProgram -/
noncomputable def I18 : Inst := { f := 18, nt := 12, params := [((.ro (.pair (.int .i16) (.pair (.slc (.pair (.int .i8) (.pair (.int .i16) (.pair (.int .i16) .unit)))) .unit))), false), ((.ro (.int .i64)), false)], res := [(.ro (.int .i64))], slots := [.tmp 4], code := bd Tryd.f18, callee := fun r i => find 0 [(1003, 43)] (r * 1000 + i) }
/- laws.FnExactReadProgram -/
noncomputable def I5 : Inst := { f := 5, nt := 66, params := [((.ro .str), false)], res := [(.ro .bool)], slots := [.tmp 2], code := bd Tryd.f5, callee := fun r i => find 0 [(3001, 14), (4001, 15), (5002, 16), (8002, 17), (10002, 18), (15001, 15), (16002, 16), (19002, 18)] (r * 1000 + i) }
noncomputable def CL : List (Nat × Inst) := [(19, I19), (34, I34), (58, I58), (35, I35), (59, I59), (36, I36), (60, I60), (61, I61), (37, I37), (14, I14), (21, I21), (51, I51), (78, I78), (52, I52), (26, I26), (28, I28), (27, I27), (25, I25), (38, I38), (65, I65), (64, I64), (84, I84), (63, I63), (66, I66), (54, I54), (39, I39), (57, I57), (40, I40), (15, I15), (67, I67), (41, I41), (16, I16), (42, I42), (17, I17), (43, I43), (18, I18), (5, I5)]
noncomputable def C : Nat → Inst := find I19 CL
theorem tsOk : TsOk Tryd.prog T := tsOkB_sound (by kernel_rfl)
theorem ok19 : InstOk Tryd.prog I19 := instOk_of Tryd.func19 (by kernel_rfl) (by kernel_rfl) (by kernel_rfl) (by kernel_rfl)
theorem ok34 : InstOk Tryd.prog I34 := instOk_of Tryd.func34 (by kernel_rfl) (by kernel_rfl) (by kernel_rfl) (by kernel_rfl)
theorem ok58 : InstOk Tryd.prog I58 := instOk_of Tryd.func58 (by kernel_rfl) (by kernel_rfl) (by kernel_rfl) (by kernel_rfl)
theorem ok35 : InstOk Tryd.prog I35 := instOk_of Tryd.func35 (by kernel_rfl) (by kernel_rfl) (by kernel_rfl) (by kernel_rfl)
theorem ok59 : InstOk Tryd.prog I59 := instOk_of Tryd.func59 (by kernel_rfl) (by kernel_rfl) (by kernel_rfl) (by kernel_rfl)
theorem ok36 : InstOk Tryd.prog I36 := instOk_of Tryd.func36 (by kernel_rfl) (by kernel_rfl) (by kernel_rfl) (by kernel_rfl)
theorem ok60 : InstOk Tryd.prog I60 := instOk_of Tryd.func60 (by kernel_rfl) (by kernel_rfl) (by kernel_rfl) (by kernel_rfl)
theorem ok61 : InstOk Tryd.prog I61 := instOk_of Tryd.func61 (by kernel_rfl) (by kernel_rfl) (by kernel_rfl) (by kernel_rfl)
theorem ok37 : InstOk Tryd.prog I37 := instOk_of Tryd.func37 (by kernel_rfl) (by kernel_rfl) (by kernel_rfl) (by kernel_rfl)
theorem ok14 : InstOk Tryd.prog I14 := instOk_of Tryd.func14 (by kernel_rfl) (by kernel_rfl) (by kernel_rfl) (by kernel_rfl)
theorem ok21 : InstOk Tryd.prog I21 := instOk_ext rfl
theorem ok51 : InstOk Tryd.prog I51 := instOk_ext rfl
theorem ok78 : InstOk Tryd.prog I78 := instOk_ext rfl
theorem ok52 : InstOk Tryd.prog I52 := instOk_of Tryd.func52 (by kernel_rfl) (by kernel_rfl) (by kernel_rfl) (by kernel_rfl)
theorem ok26 : InstOk Tryd.prog I26 := instOk_of Tryd.func26 (by kernel_rfl) (by kernel_rfl) (by kernel_rfl) (by kernel_rfl)
theorem ok28 : InstOk Tryd.prog I28 := instOk_of Tryd.func28 (by kernel_rfl) (by kernel_rfl) (by kernel_rfl) (by kernel_rfl)
theorem ok27 : InstOk Tryd.prog I27 := instOk_of Tryd.func27 (by kernel_rfl) (by kernel_rfl) (by kernel_rfl) (by kernel_rfl)
theorem ok25 : InstOk Tryd.prog I25 := instOk_ext rfl
theorem ok38 : InstOk Tryd.prog I38 := instOk_ext rfl
theorem ok65 : InstOk Tryd.prog I65 := instOk_of Tryd.func65 (by kernel_rfl) (by kernel_rfl) (by kernel_rfl) (by kernel_rfl)
theorem ok64 : InstOk Tryd.prog I64 := instOk_of Tryd.func64 (by kernel_rfl) (by kernel_rfl) (by kernel_rfl) (by kernel_rfl)
theorem ok84 : InstOk Tryd.prog I84 := instOk_of Tryd.func84 (by kernel_rfl) (by kernel_rfl) (by kernel_rfl) (by kernel_rfl)
theorem ok63 : InstOk Tryd.prog I63 := instOk_of Tryd.func63 (by kernel_rfl) (by kernel_rfl) (by kernel_rfl) (by kernel_rfl)
theorem ok66 : InstOk Tryd.prog I66 := instOk_of Tryd.func66 (by kernel_rfl) (by kernel_rfl) (by kernel_rfl) (by kernel_rfl)
theorem ok54 : InstOk Tryd.prog I54 := instOk_of Tryd.func54 (by kernel_rfl) (by kernel_rfl) (by kernel_rfl) (by kernel_rfl)
theorem ok39 : InstOk Tryd.prog I39 := instOk_of Tryd.func39 (by kernel_rfl) (by kernel_rfl) (by kernel_rfl) (by kernel_rfl)
theorem ok57 : InstOk Tryd.prog I57 := instOk_ext rfl
theorem ok40 : InstOk Tryd.prog I40 := instOk_of Tryd.func40 (by kernel_rfl) (by kernel_rfl) (by kernel_rfl) (by kernel_rfl)
theorem ok15 : InstOk Tryd.prog I15 := instOk_of Tryd.func15 (by kernel_rfl) (by kernel_rfl) (by kernel_rfl) (by kernel_rfl)
theorem ok67 : InstOk Tryd.prog I67 := instOk_of Tryd.func67 (by kernel_rfl) (by kernel_rfl) (by kernel_rfl) (by kernel_rfl)
theorem ok41 : InstOk Tryd.prog I41 := instOk_of Tryd.func41 (by kernel_rfl) (by kernel_rfl) (by kernel_rfl) (by kernel_rfl)
theorem ok16 : InstOk Tryd.prog I16 := instOk_of Tryd.func16 (by kernel_rfl) (by kernel_rfl) (by kernel_rfl) (by kernel_rfl)
theorem ok42 : InstOk Tryd.prog I42 := instOk_of Tryd.func42 (by kernel_rfl) (by kernel_rfl) (by kernel_rfl) (by kernel_rfl)
theorem ok17 : InstOk Tryd.prog I17 := instOk_of Tryd.func17 (by kernel_rfl) (by kernel_rfl) (by kernel_rfl) (by kernel_rfl)
theorem ok43 : InstOk Tryd.prog I43 := instOk_of Tryd.func43 (by kernel_rfl) (by kernel_rfl) (by kernel_rfl) (by kernel_rfl)
theorem ok18 : InstOk Tryd.prog I18 := instOk_of Tryd.func18 (by kernel_rfl) (by kernel_rfl) (by kernel_rfl) (by kernel_rfl)
theorem ok5 : InstOk Tryd.prog I5 := instOk_of Tryd.func5 (by kernel_rfl) (by kernel_rfl) (by kernel_rfl) (by kernel_rfl)
theorem insts : ∀ j, InstOk Tryd.prog (C j) := find_all ok19 (List.forall_mem_cons.2 ⟨ok19, List.forall_mem_cons.2 ⟨ok34, List.forall_mem_cons.2 ⟨ok58, List.forall_mem_cons.2 ⟨ok35, List.forall_mem_cons.2 ⟨ok59, List.forall_mem_cons.2 ⟨ok36, List.forall_mem_cons.2 ⟨ok60, List.forall_mem_cons.2 ⟨ok61, List.forall_mem_cons.2 ⟨ok37, List.forall_mem_cons.2 ⟨ok14, List.forall_mem_cons.2 ⟨ok21, List.forall_mem_cons.2 ⟨ok51, List.forall_mem_cons.2 ⟨ok78, List.forall_mem_cons.2 ⟨ok52, List.forall_mem_cons.2 ⟨ok26, List.forall_mem_cons.2 ⟨ok28, List.forall_mem_cons.2 ⟨ok27, List.forall_mem_cons.2 ⟨ok25, List.forall_mem_cons.2 ⟨ok38, List.forall_mem_cons.2 ⟨ok65, List.forall_mem_cons.2 ⟨ok64, List.forall_mem_cons.2 ⟨ok84, List.forall_mem_cons.2 ⟨ok63, List.forall_mem_cons.2 ⟨ok66, List.forall_mem_cons.2 ⟨ok54, List.forall_mem_cons.2 ⟨ok39, List.forall_mem_cons.2 ⟨ok57, List.forall_mem_cons.2 ⟨ok40, List.forall_mem_cons.2 ⟨ok15, List.forall_mem_cons.2 ⟨ok67, List.forall_mem_cons.2 ⟨ok41, List.forall_mem_cons.2 ⟨ok16, List.forall_mem_cons.2 ⟨ok42, List.forall_mem_cons.2 ⟨ok17, List.forall_mem_cons.2 ⟨ok43, List.forall_mem_cons.2 ⟨ok18, List.forall_mem_cons.2 ⟨ok5, fun _ h => absurd h List.not_mem_nil⟩⟩⟩⟩⟩⟩⟩⟩⟩⟩⟩⟩⟩⟩⟩⟩⟩⟩⟩⟩⟩⟩⟩⟩⟩⟩⟩⟩⟩⟩⟩⟩⟩⟩⟩⟩⟩)
theorem c21 : C 21 = I21 := by kernel_rfl
theorem c51 : C 51 = I51 := by kernel_rfl
theorem c78 : C 78 = I78 := by kernel_rfl
theorem c25 : C 25 = I25 := by kernel_rfl
theorem c38 : C 38 = I38 := by kernel_rfl
theorem c57 : C 57 = I57 := by kernel_rfl
theorem exts {L : Laid} (h21 : ExtOk Tryd.prog L I21) (h51 : ExtOk Tryd.prog L I51) (h78 : ExtOk Tryd.prog L I78) (h25 : ExtOk Tryd.prog L I25) (h38 : ExtOk Tryd.prog L I38) (h57 : ExtOk Tryd.prog L I57) : ∀ j, ExtOk Tryd.prog L (C j) := by
  have hC : C = find I19 CL := by delta C; with_reducible rfl
  refine fun j => exts_of (C := C) _ _ [21, 51, 78, 25, 38, 57] hC (by kernel_rfl) (by kernel_rfl) ?_ j
  intro e he
  change ExtOk _ _ (C e)
  simp only [List.mem_cons, List.not_mem_nil, or_false] at he
  rcases he with rfl | rfl | rfl | rfl | rfl | rfl
  · rw [c21]; exact h21
  · rw [c51]; exact h51
  · rw [c78]; exact h78
  · rw [c25]; exact h25
  · rw [c38]; exact h38
  · rw [c57]; exact h57
end Go.Proofs.YtjeakogmccogmaaDoor.LRp
