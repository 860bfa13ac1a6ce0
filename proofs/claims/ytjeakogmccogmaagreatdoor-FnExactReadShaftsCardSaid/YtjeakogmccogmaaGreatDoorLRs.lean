/- The types and the functions that a law reaches, told for the reading (Fw). Written by a program (gen.py). -/
import Derived.Test.YtjeakogmccogmaaGreatDoorFwC
import Derived.Test.YtjeakogmccogmaaGreatDoorProg
import Derived.Lib.TrailingZeros
import Derived.Lib.ItoaNum
import Derived.Lib.Join
import Derived.Lib.Split
import Derived.Lib.ParseIntB
import Derived.Lib.IndexMore
namespace Go.Proofs.YtjeakogmccogmaaGreatDoor.LRs
open Go Go.Fw
open Go.Proofs
noncomputable def tyL : List (Nat × TI) := [(2, ⟨(.int .i64), 0, 8⟩),
  (3, ⟨(.int .i64), 0, 8⟩),
  (4, ⟨.bool, 0, 1⟩),
  (5, ⟨(.int .u8), 0, 1⟩),
  (9, ⟨.str, 0, 16⟩),
  (23, ⟨(.slc (.int .i16)), 52, 24⟩),
  (31, ⟨(.slc (.pair (.int .i16) (.pair (.int .i16) (.pair (.int .i16) (.pair (.slc (.int .i16)) .unit))))), 74, 24⟩),
  (36, ⟨(.slc (.int .u8)), 5, 24⟩),
  (52, ⟨(.int .i16), 0, 2⟩),
  (57, ⟨(.slc .str), 9, 24⟩),
  (74, ⟨(.pair (.int .i16) (.pair (.int .i16) (.pair (.int .i16) (.pair (.slc (.int .i16)) .unit)))), 0, 32⟩),
  (97, ⟨.err, 0, 16⟩),
  (101, ⟨(.ptr (.pair (.ptr .unit) (.pair (.slc (.int .u8)) .unit))), 0, 8⟩),
  (103, ⟨(.pair (.ptr .unit) (.pair (.slc (.int .u8)) .unit)), 5, 32⟩),
  (128, ⟨.fn, 0, 8⟩),
  (160, ⟨.fn, 0, 8⟩)]
noncomputable def T : Nat → Option TI := findT tyL
/- spec.l01Split -/
noncomputable def I28 : Inst := { f := 28, nt := 35, params := [((.ro .str), false), ((.ro (.int .u8)), false)], res := [(.row false .str)], slots := [.tmp 4], code := bd Tryz.f28, loops := fun b => find [] [(0, [.own 0 (.ro .str), .own 1 (.ro (.int .u8)), .own 5 (.row false .str), .own 6 (.ro (.int .i64)), .own 7 (.ro (.int .i64))])] b, deep := fun r i => find false [(1000, true), (7005, true), (7006, true), (9004, true), (9005, true)] (r * 1000 + i) }
/- spec.l01Number -/
noncomputable def I84 : Inst := { f := 84, nt := 48, params := [((.ro .str), false)], res := [(.ro (.int .i64)), (.ro .bool)], slots := [.tmp 2, .tmp 3], code := bd Tryz.f84, loops := fun b => find [] [(0, [.own 0 (.ro .str), .own 4 (.ro (.int .i64)), .own 5 (.ro (.int .i64))])] b }
/- spec.l00In -/
noncomputable def I85 : Inst := { f := 85, nt := 15, params := [((.ro (.int .i64)), false), ((.ro (.int .i64)), false), ((.ro (.int .i64)), false)], res := [(.ro .bool)], slots := [.tmp 6], code := bd Tryz.f85 }
/- spec.l01Lift -/
noncomputable def I108 : Inst := { f := 108, nt := 5, params := [((.ro (.int .i64)), false)], res := [(.ro .bool)], slots := [.tmp 2], code := bd Tryz.f108, callee := fun r i => find 0 [(1001, 85)] (r * 1000 + i) }
/- spec.l01Steps -/
noncomputable def I110 : Inst := { f := 110, nt := 5, params := [((.ro (.int .i64)), false)], res := [(.ro .bool)], slots := [.tmp 2], code := bd Tryz.f110, callee := fun r i => find 0 [(1001, 85)] (r * 1000 + i) }
/- spec.l01Ok -/
noncomputable def I73 : Inst := { f := 73, nt := 21, params := [((.ro (.slc (.int .i16))), false)], res := [(.ro .bool)], slots := [.tmp 2], code := bd Tryz.f73, callee := fun r i => find 0 [(1002, 110), (6005, 108)] (r * 1000 + i), loops := fun b => find [] [(0, [.own 0 (.ro (.slc (.int .i16))), .own 3 (.ro (.int .i64))])] b }
/- spec.l01Read -/
noncomputable def I71 : Inst := { f := 71, nt := 104, params := [((.ro .str), false)], res := [(.row false (.int .i16)), (.ro .bool)], slots := [.tmp 2, .tmp 3], code := bd Tryz.f71, callee := fun r i => find 0 [(1001, 28), (6004, 28), (7003, 84), (11003, 84), (13008, 108), (19002, 73)] (r * 1000 + i), loops := fun b => find [] [(2, [.own 4 (.ro (.slc .str)), .own 5 (.row false (.int .i16)), .own 6 (.ro (.int .i64)), .own 8 (.ro (.int .i64)), .own 10 (.ro (.int .i64)), .own 12 (.ro (.int .i64))]), (0, [.own 4 (.ro (.slc .str)), .own 5 (.row false (.int .i16)), .own 6 (.ro (.int .i64))])] b, deep := fun r i => find false [(2000, true), (14000, true), (18003, true), (18004, true)] (r * 1000 + i) }
/- spec.l04Read -/
noncomputable def I40 : Inst := { f := 40, nt := 96, params := [((.ro .str), false)], res := [(.pr (.ro (.int .i16)) (.pr (.ro (.int .i16)) (.pr (.ro (.int .i16)) (.pr (.row false (.int .i16)) (.ro .unit))))), (.ro .bool)], slots := [.cell 2 74, .tmp 3], code := bd Tryz.f40, callee := fun r i => find 0 [(1001, 28), (4003, 84), (5003, 84), (6003, 84), (7017, 71)] (r * 1000 + i) }
/- spec.l04Ok -/
noncomputable def I41 : Inst := { f := 41, nt := 57, params := [((.ro (.slc (.pair (.int .i16) (.pair (.int .i16) (.pair (.int .i16) (.pair (.slc (.int .i16)) .unit)))))), false)], res := [(.ro .bool)], slots := [.tmp 2], code := bd Tryz.f41, callee := fun r i => find 0 [(1002, 85), (7005, 85), (7013, 85), (7021, 73), (7036, 85)] (r * 1000 + i), loops := fun b => find [] [(0, [.own 0 (.ro (.slc (.pair (.int .i16) (.pair (.int .i16) (.pair (.int .i16) (.pair (.slc (.int .i16)) .unit)))))), .own 3 (.ro (.int .i64))])] b }
/- spec.ReadShafts -/
noncomputable def I11 : Inst := { f := 11, nt := 52, params := [((.ro .str), false)], res := [(.row true (.pair (.int .i16) (.pair (.int .i16) (.pair (.int .i16) (.pair (.slc (.int .i16)) .unit))))), (.ro (.int .i64))], slots := [.tmp 2, .tmp 3], code := bd Tryz.f11, callee := fun r i => find 0 [(1001, 28), (7004, 40), (10004, 41)] (r * 1000 + i), loops := fun b => find [] [(0, [.own 4 (.ro (.slc .str)), .own 5 (.row true (.pair (.int .i16) (.pair (.int .i16) (.pair (.int .i16) (.pair (.slc (.int .i16)) .unit))))), .own 6 (.ro .bool), .own 7 (.ro (.int .i64))])] b, deep := fun r i => find false [(2000, true), (9002, true), (9003, true), (11000, true)] (r * 1000 + i) }
/- strings.TrimSuffix: told by its contract -/
noncomputable def I33 : Inst := { f := 33, nt := 0, params := [((.ro .str), false), ((.ro .str), false)], res := [(.ro .str)], slots := [], code := .skip, ext := some (fun x => if x.1.size ≤ 4294967281 then some (((⟨(Lib.trimSuffix x.1.data.toList x.2.1.data.toList).toArray⟩ : ByteArray), ()), ()) else none) }
/- strings.Split: told by its contract -/
noncomputable def I42 : Inst := { f := 42, nt := 0, params := [((.ro .str), false), ((.ro .str), false)], res := [(.row false .str)], slots := [], code := .skip, ext := some (fun x => if x.1.size < 4294967281 ∧ 1 ≤ x.2.1.size then some ((Lib.splitB x.2.1 0 (Lib.countB x.1 x.2.1) x.1, ()), ()) else none) }
/- strings.SplitN: told by its contract -/
noncomputable def I31 : Inst := { f := 31, nt := 0, params := [((.ro .str), false), ((.ro .str), false), ((.ro (.int .i64)), false)], res := [(.row false .str)], slots := [], code := .skip, ext := some (fun x => if x.1.size < 4294967281 ∧ 1 ≤ x.2.1.size ∧ 1 ≤ x.2.2.1 ∧ x.2.2.1 ≤ 1000 then some ((Lib.splitB x.2.1 0 (min x.2.2.1.toNat (x.1.size + 1) - 1) x.1, ()), ()) else none) }
/- strings.Cut: told by its contract -/
noncomputable def I32 : Inst := { f := 32, nt := 0, params := [((.ro .str), false), ((.ro .str), false)], res := [(.ro .str), (.ro .str), (.ro .bool)], slots := [], code := .skip, ext := some (fun x => if x.1.size < 4294967281 then some (((⟨(Lib.cut x.1.data.toList x.2.1.data.toList).1.toArray⟩ : ByteArray), (⟨(Lib.cut x.1.data.toList x.2.1.data.toList).2.1.toArray⟩ : ByteArray), (Lib.cut x.1.data.toList x.2.1.data.toList).2.2, ()), ()) else none) }
/- strconv.ParseInt: told by its contract -/
noncomputable def I57 : Inst := { f := 57, nt := 0, params := [((.ro .str), false), ((.ro (.int .i64)), false), ((.ro (.int .i64)), false)], res := [(.ro (.int .i64)), (.ro .err)], slots := [], code := .skip, ext := some (fun x => if x.1.size ≤ 281474976710656 ∧ x.2.1 = 10 ∧ x.2.2.1 = 64 then (match Lib.parseIntB 64 x.1.data.toList with | .ok v => some ((v, false, ()), ()) | .range => some ((Lib.intSat 64 x.1.data.toList, true, ()), ()) | _ => some (((0 : Int), true, ()), ())) else none) }
/- strconv.FormatInt: told by its contract -/
noncomputable def I101 : Inst := { f := 101, nt := 0, params := [((.ro (.int .i64)), false), ((.ro (.int .i64)), false)], res := [(.ro .str)], slots := [], code := .skip, ext := some (fun x => if x.2.1 = 10 ∧ -9223372036854775808 ≤ x.1 ∧ x.1 ≤ 9223372036854775807 then some (((⟨(Lib.itoa x.1).toArray⟩ : ByteArray), ()), ()) else none) }
/- impl.decimal -/
noncomputable def I60 : Inst := { f := 60, nt := 5, params := [((.ro (.int .i64)), false)], res := [(.ro .str)], slots := [.tmp 2], code := bd Tryz.f60, callee := fun r i => find 0 [(1001, 101)] (r * 1000 + i) }
/- impl.number -/
noncomputable def I77 : Inst := { f := 77, nt := 20, params := [((.ro .str), false)], res := [(.ro (.int .i64)), (.ro .bool)], slots := [.tmp 2, .tmp 3], code := bd Tryz.f77, callee := fun r i => find 0 [(1001, 57), (2005, 60)] (r * 1000 + i) }
/- impl.inRange -/
noncomputable def I78 : Inst := { f := 78, nt := 15, params := [((.ro (.int .i64)), false), ((.ro (.int .i64)), false), ((.ro (.int .i64)), false)], res := [(.ro .bool)], slots := [.tmp 6], code := bd Tryz.f78 }
/- impl.isLift -/
noncomputable def I69 : Inst := { f := 69, nt := 5, params := [((.ro (.int .i64)), false)], res := [(.ro .bool)], slots := [.tmp 2], code := bd Tryz.f69, callee := fun r i => find 0 [(1001, 78)] (r * 1000 + i) }
/- impl.Cam).steps -/
noncomputable def I79 : Inst := { f := 79, nt := 5, params := [((.ro (.slc (.int .i16))), false)], res := [(.ro (.int .i64))], slots := [.tmp 2], code := bd Tryz.f79 }
/- impl.Cam,int16]: told by its contract -/
noncomputable def I80 : Inst := { f := 80, nt := 0, params := [((.ro (.slc (.int .i16))), false), ((.ro (.int .i64)), false)], res := [(.row false (.int .i16))], slots := [], code := .skip, ext := some (fun x => if x.1.length = 1 ∧ 1 ≤ x.2.1 ∧ x.2.1 ≤ 360 then some ((List.replicate x.2.1.toNat (x.1.headD 0), ()), ()) else none) }
/- impl.isSteps -/
noncomputable def I117 : Inst := { f := 117, nt := 5, params := [((.ro (.int .i64)), false)], res := [(.ro .bool)], slots := [.tmp 2], code := bd Tryz.f117, callee := fun r i => find 0 [(1001, 78)] (r * 1000 + i) }
/- impl.ValidCam$1 -/
noncomputable def I119 : Inst := { f := 119, nt := 7, params := [((.ro (.int .i16)), false)], res := [(.ro .bool)], slots := [.tmp 2], code := bd Tryz.f119, callee := fun r i => find 0 [(1002, 69)] (r * 1000 + i) }
/- impl.Cam,int16] -/
noncomputable def I149 : Inst := { f := 149, nt := 19, params := [((.ro (.slc (.int .i16))), false), ((.clo 119 (.ro .unit) (.ro .unit)), false)], res := [(.ro (.int .i64))], slots := [.tmp 4], code := bd Tryz.f149, callee := fun r i => find 0 [(4005, 119)] (r * 1000 + i), loops := fun b => find [] [(0, [.own 0 (.ro (.slc (.int .i16))), .own 1 (.clo 119 (.ro .unit) (.ro .unit)), .own 7 (.ro (.int .i64)), .own 8 (.ro (.int .i64))])] b }
/- impl.Cam,int16] -/
noncomputable def I118 : Inst := { f := 118, nt := 9, params := [((.ro (.slc (.int .i16))), false), ((.clo 119 (.ro .unit) (.ro .unit)), false)], res := [(.ro .bool)], slots := [.tmp 4], code := bd Tryz.f118, callee := fun r i => find 0 [(1002, 149)] (r * 1000 + i) }
/- impl.ValidCam -/
noncomputable def I81 : Inst := { f := 81, nt := 11, params := [((.ro (.slc (.int .i16))), false)], res := [(.ro .bool)], slots := [.tmp 2], code := bd Tryz.f81, callee := fun r i => find 0 [(1001, 79), (1002, 117), (1005, 118)] (r * 1000 + i) }
/- strings.Join: told by its contract -/
noncomputable def I120 : Inst := { f := 120, nt := 0, params := [((.row false .str), true), ((.ro .str), false)], res := [(.ro .str)], slots := [], code := .skip, ext := some (fun x => if x.1.length ≤ 140737488355328 ∧ (Lib.join (x.1.map fun s => s.data.toList) x.2.1.data.toList).length ≤ 140737488355328 then some (((⟨(Lib.join (x.1.map fun s => s.data.toList) x.2.1.data.toList).toArray⟩ : ByteArray), ()), (x.1, ())) else none) }
/- impl.CamText -/
noncomputable def I82 : Inst := { f := 82, nt := 57, params := [((.ro (.slc (.int .i16))), false)], res := [(.ro .str)], slots := [.tmp 2], code := bd Tryz.f82, callee := fun r i => find 0 [(1001, 81), (9005, 60), (11004, 60), (13001, 120)] (r * 1000 + i), loops := fun b => find [] [(2, [.own 0 (.ro (.slc (.int .i16))), .own 3 (.row false .str), .own 4 (.ro (.int .i64)), .own 5 (.ro (.int .i64))]), (0, [.own 0 (.ro (.slc (.int .i16))), .own 3 (.row false .str), .own 4 (.ro (.int .i64))])] b, deep := fun r i => find false [(3000, true), (12002, true), (12003, true)] (r * 1000 + i) }
/- impl.Cam,int16] -/
noncomputable def I53 : Inst := { f := 53, nt := 8, params := [((.ro (.slc (.int .i16))), false)], res := [(.row false (.int .i16))], slots := [.tmp 2], code := bd Tryz.f53 }
/- impl.ReadCam -/
noncomputable def I34 : Inst := { f := 34, nt := 70, params := [((.ro .str), false)], res := [(.row false (.int .i16)), (.ro (.int .i64))], slots := [.tmp 2, .tmp 3], code := bd Tryz.f34, callee := fun r i => find 0 [(2001, 42), (5001, 32), (6001, 77), (7001, 77), (10001, 69), (10006, 79), (10008, 78), (12005, 80), (14001, 81), (14005, 82), (16001, 53)] (r * 1000 + i), loops := fun b => find [] [(0, [.own 0 (.ro .str), .own 4 (.row false (.int .i16)), .own 16 (.ro (.slc .str)), .own 17 (.ro (.int .i64)), .own 18 (.ro (.int .i64))])] b, deep := fun r i => find false [(1000, true), (12003, true), (12006, true)] (r * 1000 + i), frz := fun r i => find false [(12003, true)] (r * 1000 + i) }
/- impl.short -/
noncomputable def I43 : Inst := { f := 43, nt := 17, params := [((.ro .str), false)], res := [(.ro (.int .i16))], slots := [.tmp 2], code := bd Tryz.f43, callee := fun r i => find 0 [(1001, 77)] (r * 1000 + i) }
/- impl.isPlace -/
noncomputable def I68 : Inst := { f := 68, nt := 9, params := [((.ro (.int .i64)), false), ((.ro (.int .i64)), false)], res := [(.ro .bool)], slots := [.tmp 4], code := bd Tryz.f68, callee := fun r i => find 0 [(1003, 78)] (r * 1000 + i) }
/- impl.ValidShafts$1 -/
noncomputable def I87 : Inst := { f := 87, nt := 31, params := [((.ro (.pair (.int .i16) (.pair (.int .i16) (.pair (.int .i16) (.pair (.slc (.int .i16)) .unit))))), false)], res := [(.ro .bool)], slots := [.tmp 2], code := bd Tryz.f87, callee := fun r i => find 0 [(1003, 78), (1009, 78), (1015, 81), (1025, 68)] (r * 1000 + i) }
/- impl.Shaft] -/
noncomputable def I121 : Inst := { f := 121, nt := 19, params := [((.ro (.slc (.pair (.int .i16) (.pair (.int .i16) (.pair (.int .i16) (.pair (.slc (.int .i16)) .unit)))))), false), ((.clo 87 (.ro .unit) (.ro .unit)), false)], res := [(.ro (.int .i64))], slots := [.tmp 4], code := bd Tryz.f121, callee := fun r i => find 0 [(4005, 87)] (r * 1000 + i), loops := fun b => find [] [(0, [.own 0 (.ro (.slc (.pair (.int .i16) (.pair (.int .i16) (.pair (.int .i16) (.pair (.slc (.int .i16)) .unit)))))), .own 1 (.clo 87 (.ro .unit) (.ro .unit)), .own 7 (.ro (.int .i64)), .own 8 (.ro (.int .i64))])] b }
/- impl.Shaft] -/
noncomputable def I86 : Inst := { f := 86, nt := 9, params := [((.ro (.slc (.pair (.int .i16) (.pair (.int .i16) (.pair (.int .i16) (.pair (.slc (.int .i16)) .unit)))))), false), ((.clo 87 (.ro .unit) (.ro .unit)), false)], res := [(.ro .bool)], slots := [.tmp 4], code := bd Tryz.f86, callee := fun r i => find 0 [(1002, 121)] (r * 1000 + i) }
/- impl.ValidShafts -/
noncomputable def I44 : Inst := { f := 44, nt := 11, params := [((.ro (.slc (.pair (.int .i16) (.pair (.int .i16) (.pair (.int .i16) (.pair (.slc (.int .i16)) .unit)))))), false)], res := [(.ro .bool)], slots := [.tmp 2], code := bd Tryz.f44, callee := fun r i => find 0 [(1002, 78), (1005, 86)] (r * 1000 + i) }
/- (*strings.Builder).WriteString: told by its contract -/
noncomputable def I59 : Inst := { f := 59, nt := 0, params := [((.bld 103 5), true), ((.ro .str), false)], res := [(.ro (.int .i64)), (.ro .err)], slots := [], code := .skip, ext := some (fun x => if x.1.size + x.2.1.size ≤ 140737488355328 then some ((((x.2.1.size : Nat) : Int), false, ()), (x.1 ++ x.2.1, ())) else none) }
/- (*strings.Builder).String: told by its contract -/
noncomputable def I61 : Inst := { f := 61, nt := 0, params := [((.bld 103 5), false)], res := [(.ro .str)], slots := [], code := .skip, ext := some (fun x => some ((x.1, ()), ())) }
/- impl.ShaftsText -/
noncomputable def I45 : Inst := { f := 45, nt := 40, params := [((.ro (.slc (.pair (.int .i16) (.pair (.int .i16) (.pair (.int .i16) (.pair (.slc (.int .i16)) .unit)))))), false)], res := [(.ro .str)], slots := [.tmp 2], code := bd Tryz.f45, callee := fun r i => find 0 [(1001, 44), (7003, 60), (7008, 60), (7014, 60), (7019, 82), (7022, 59), (9000, 61)] (r * 1000 + i), loops := fun b => find [] [(0, [.own 3 (.bld 103 5), .own 9 (.ro (.slc (.pair (.int .i16) (.pair (.int .i16) (.pair (.int .i16) (.pair (.slc (.int .i16)) .unit)))))), .own 10 (.ro (.int .i64)), .own 11 (.ro (.int .i64))])] b, frz := fun r i => find false [(3000, true)] (r * 1000 + i) }
/- impl.ReadShafts -/
noncomputable def I12 : Inst := { f := 12, nt := 61, params := [((.ro .str), false)], res := [(.row true (.pair (.int .i16) (.pair (.int .i16) (.pair (.int .i16) (.pair (.slc (.int .i16)) .unit))))), (.ro (.int .i64))], slots := [.tmp 2, .tmp 3], code := bd Tryz.f12, callee := fun r i => find 0 [(2001, 33), (2002, 42), (5001, 31), (8003, 34), (11004, 43), (11008, 43), (11012, 43), (13001, 44), (13005, 45)] (r * 1000 + i), loops := fun b => find [] [(0, [.own 0 (.ro .str), .own 4 (.row true (.pair (.int .i16) (.pair (.int .i16) (.pair (.int .i16) (.pair (.slc (.int .i16)) .unit))))), .own 13 (.ro (.slc .str)), .own 14 (.ro (.int .i64)), .own 15 (.ro (.int .i64))])] b, deep := fun r i => find false [(1000, true), (11015, true), (11016, true)] (r * 1000 + i) }
/- laws.eqCam -/
noncomputable def I37 : Inst := { f := 37, nt := 26, params := [((.ro (.slc (.int .i16))), false), ((.ro (.slc (.int .i16))), false)], res := [(.ro .bool)], slots := [.tmp 4], code := bd Tryz.f37, loops := fun b => find [] [(0, [.own 0 (.ro (.slc (.int .i16))), .own 1 (.ro (.slc (.int .i16))), .own 5 (.ro (.int .i64))])] b }
/- laws.eqShaft -/
noncomputable def I46 : Inst := { f := 46, nt := 26, params := [((.ro (.pair (.int .i16) (.pair (.int .i16) (.pair (.int .i16) (.pair (.slc (.int .i16)) .unit))))), false), ((.ro (.pair (.int .i16) (.pair (.int .i16) (.pair (.int .i16) (.pair (.slc (.int .i16)) .unit))))), false)], res := [(.ro .bool)], slots := [.tmp 4], code := bd Tryz.f46, callee := fun r i => find 0 [(7004, 37)] (r * 1000 + i) }
/- laws.eqShaftS -/
noncomputable def I13 : Inst := { f := 13, nt := 27, params := [((.ro (.slc (.pair (.int .i16) (.pair (.int .i16) (.pair (.int .i16) (.pair (.slc (.int .i16)) .unit)))))), false), ((.ro (.slc (.pair (.int .i16) (.pair (.int .i16) (.pair (.int .i16) (.pair (.slc (.int .i16)) .unit)))))), false)], res := [(.ro .bool)], slots := [.tmp 4], code := bd Tryz.f13, callee := fun r i => find 0 [(6008, 46)] (r * 1000 + i), loops := fun b => find [] [(0, [.own 0 (.ro (.slc (.pair (.int .i16) (.pair (.int .i16) (.pair (.int .i16) (.pair (.slc (.int .i16)) .unit)))))), .own 1 (.ro (.slc (.pair (.int .i16) (.pair (.int .i16) (.pair (.int .i16) (.pair (.slc (.int .i16)) .unit)))))), .own 5 (.ro (.int .i64))])] b }
/- laws.markCam -/
noncomputable def I38 : Inst := { f := 38, nt := 20, params := [((.row false (.int .i16)), true), ((.ro (.int .i64)), false)], res := [(.ro (.int .i64))], slots := [.tmp 4], code := bd Tryz.f38, loops := fun b => find [] [(0, [.own 0 (.row false (.int .i16)), .own 1 (.ro (.int .i64)), .own 5 (.ro (.int .i64))])] b, pins := [0] }
/- laws.markShaftS -/
noncomputable def I14 : Inst := { f := 14, nt := 44, params := [((.row true (.pair (.int .i16) (.pair (.int .i16) (.pair (.int .i16) (.pair (.slc (.int .i16)) .unit))))), true), ((.ro (.int .i64)), false)], res := [(.ro (.int .i64))], slots := [.tmp 4], code := bd Tryz.f14, callee := fun r i => find 0 [(10006, 38)] (r * 1000 + i), loops := fun b => find [] [(0, [.own 0 (.row true (.pair (.int .i16) (.pair (.int .i16) (.pair (.int .i16) (.pair (.slc (.int .i16)) .unit))))), .own 1 (.ro (.int .i64)), .own 5 (.ro (.int .i64))])] b, pins := [0], deep := fun r i => find false [(10004, true)] (r * 1000 + i) }
/- laws.heldCam -/
noncomputable def I39 : Inst := { f := 39, nt := 22, params := [((.ro (.slc (.int .i16))), false), ((.ro (.int .i64)), false)], res := [(.ro (.int .i64))], slots := [.tmp 4], code := bd Tryz.f39, loops := fun b => find [] [(0, [.own 0 (.ro (.slc (.int .i16))), .own 1 (.ro (.int .i64)), .own 5 (.ro (.int .i64))])] b }
/- laws.heldShaftS -/
noncomputable def I15 : Inst := { f := 15, nt := 52, params := [((.ro (.slc (.pair (.int .i16) (.pair (.int .i16) (.pair (.int .i16) (.pair (.slc (.int .i16)) .unit)))))), false), ((.ro (.int .i64)), false)], res := [(.ro (.int .i64))], slots := [.tmp 4], code := bd Tryz.f15, callee := fun r i => find 0 [(13006, 39)] (r * 1000 + i), loops := fun b => find [] [(0, [.own 0 (.ro (.slc (.pair (.int .i16) (.pair (.int .i16) (.pair (.int .i16) (.pair (.slc (.int .i16)) .unit)))))), .own 1 (.ro (.int .i64)), .own 5 (.ro (.int .i64))])] b }
/- laws.FnExactReadShafts -/
noncomputable def I4 : Inst := { f := 4, nt := 66, params := [((.ro .str), false)], res := [(.ro .bool)], slots := [.tmp 2], code := bd Tryz.f4, callee := fun r i => find 0 [(3001, 11), (4001, 12), (5002, 13), (8002, 14), (10002, 15), (15001, 12), (16002, 13), (19002, 15)] (r * 1000 + i) }
noncomputable def CL : List (Nat × Inst) := [(28, I28), (84, I84), (85, I85), (108, I108), (110, I110), (73, I73), (71, I71), (40, I40), (41, I41), (11, I11), (33, I33), (42, I42), (31, I31), (32, I32), (57, I57), (101, I101), (60, I60), (77, I77), (78, I78), (69, I69), (79, I79), (80, I80), (117, I117), (119, I119), (149, I149), (118, I118), (81, I81), (120, I120), (82, I82), (53, I53), (34, I34), (43, I43), (68, I68), (87, I87), (121, I121), (86, I86), (44, I44), (59, I59), (61, I61), (45, I45), (12, I12), (37, I37), (46, I46), (13, I13), (38, I38), (14, I14), (39, I39), (15, I15), (4, I4)]
noncomputable def C : Nat → Inst := find I28 CL
theorem tsOk : TsOk Tryz.prog T := tsOkB_sound (by kernel_rfl)
theorem ok28 : InstOk Tryz.prog I28 := instOk_of Tryz.func28 (by kernel_rfl) (by kernel_rfl) (by kernel_rfl) (by kernel_rfl)
theorem ok84 : InstOk Tryz.prog I84 := instOk_of Tryz.func84 (by kernel_rfl) (by kernel_rfl) (by kernel_rfl) (by kernel_rfl)
theorem ok85 : InstOk Tryz.prog I85 := instOk_of Tryz.func85 (by kernel_rfl) (by kernel_rfl) (by kernel_rfl) (by kernel_rfl)
theorem ok108 : InstOk Tryz.prog I108 := instOk_of Tryz.func108 (by kernel_rfl) (by kernel_rfl) (by kernel_rfl) (by kernel_rfl)
theorem ok110 : InstOk Tryz.prog I110 := instOk_of Tryz.func110 (by kernel_rfl) (by kernel_rfl) (by kernel_rfl) (by kernel_rfl)
theorem ok73 : InstOk Tryz.prog I73 := instOk_of Tryz.func73 (by kernel_rfl) (by kernel_rfl) (by kernel_rfl) (by kernel_rfl)
theorem ok71 : InstOk Tryz.prog I71 := instOk_of Tryz.func71 (by kernel_rfl) (by kernel_rfl) (by kernel_rfl) (by kernel_rfl)
theorem ok40 : InstOk Tryz.prog I40 := instOk_of Tryz.func40 (by kernel_rfl) (by kernel_rfl) (by kernel_rfl) (by kernel_rfl)
theorem ok41 : InstOk Tryz.prog I41 := instOk_of Tryz.func41 (by kernel_rfl) (by kernel_rfl) (by kernel_rfl) (by kernel_rfl)
theorem ok11 : InstOk Tryz.prog I11 := instOk_of Tryz.func11 (by kernel_rfl) (by kernel_rfl) (by kernel_rfl) (by kernel_rfl)
theorem ok33 : InstOk Tryz.prog I33 := instOk_ext rfl
theorem ok42 : InstOk Tryz.prog I42 := instOk_ext rfl
theorem ok31 : InstOk Tryz.prog I31 := instOk_ext rfl
theorem ok32 : InstOk Tryz.prog I32 := instOk_ext rfl
theorem ok57 : InstOk Tryz.prog I57 := instOk_ext rfl
theorem ok101 : InstOk Tryz.prog I101 := instOk_ext rfl
theorem ok60 : InstOk Tryz.prog I60 := instOk_of Tryz.func60 (by kernel_rfl) (by kernel_rfl) (by kernel_rfl) (by kernel_rfl)
theorem ok77 : InstOk Tryz.prog I77 := instOk_of Tryz.func77 (by kernel_rfl) (by kernel_rfl) (by kernel_rfl) (by kernel_rfl)
theorem ok78 : InstOk Tryz.prog I78 := instOk_of Tryz.func78 (by kernel_rfl) (by kernel_rfl) (by kernel_rfl) (by kernel_rfl)
theorem ok69 : InstOk Tryz.prog I69 := instOk_of Tryz.func69 (by kernel_rfl) (by kernel_rfl) (by kernel_rfl) (by kernel_rfl)
theorem ok79 : InstOk Tryz.prog I79 := instOk_of Tryz.func79 (by kernel_rfl) (by kernel_rfl) (by kernel_rfl) (by kernel_rfl)
theorem ok80 : InstOk Tryz.prog I80 := instOk_ext rfl
theorem ok117 : InstOk Tryz.prog I117 := instOk_of Tryz.func117 (by kernel_rfl) (by kernel_rfl) (by kernel_rfl) (by kernel_rfl)
theorem ok119 : InstOk Tryz.prog I119 := instOk_of Tryz.func119 (by kernel_rfl) (by kernel_rfl) (by kernel_rfl) (by kernel_rfl)
theorem ok149 : InstOk Tryz.prog I149 := instOk_of Tryz.func149 (by kernel_rfl) (by kernel_rfl) (by kernel_rfl) (by kernel_rfl)
theorem ok118 : InstOk Tryz.prog I118 := instOk_of Tryz.func118 (by kernel_rfl) (by kernel_rfl) (by kernel_rfl) (by kernel_rfl)
theorem ok81 : InstOk Tryz.prog I81 := instOk_of Tryz.func81 (by kernel_rfl) (by kernel_rfl) (by kernel_rfl) (by kernel_rfl)
theorem ok120 : InstOk Tryz.prog I120 := instOk_ext rfl
theorem ok82 : InstOk Tryz.prog I82 := instOk_of Tryz.func82 (by kernel_rfl) (by kernel_rfl) (by kernel_rfl) (by kernel_rfl)
theorem ok53 : InstOk Tryz.prog I53 := instOk_of Tryz.func53 (by kernel_rfl) (by kernel_rfl) (by kernel_rfl) (by kernel_rfl)
theorem ok34 : InstOk Tryz.prog I34 := instOk_of Tryz.func34 (by kernel_rfl) (by kernel_rfl) (by kernel_rfl) (by kernel_rfl)
theorem ok43 : InstOk Tryz.prog I43 := instOk_of Tryz.func43 (by kernel_rfl) (by kernel_rfl) (by kernel_rfl) (by kernel_rfl)
theorem ok68 : InstOk Tryz.prog I68 := instOk_of Tryz.func68 (by kernel_rfl) (by kernel_rfl) (by kernel_rfl) (by kernel_rfl)
theorem ok87 : InstOk Tryz.prog I87 := instOk_of Tryz.func87 (by kernel_rfl) (by kernel_rfl) (by kernel_rfl) (by kernel_rfl)
theorem ok121 : InstOk Tryz.prog I121 := instOk_of Tryz.func121 (by kernel_rfl) (by kernel_rfl) (by kernel_rfl) (by kernel_rfl)
theorem ok86 : InstOk Tryz.prog I86 := instOk_of Tryz.func86 (by kernel_rfl) (by kernel_rfl) (by kernel_rfl) (by kernel_rfl)
theorem ok44 : InstOk Tryz.prog I44 := instOk_of Tryz.func44 (by kernel_rfl) (by kernel_rfl) (by kernel_rfl) (by kernel_rfl)
theorem ok59 : InstOk Tryz.prog I59 := instOk_ext rfl
theorem ok61 : InstOk Tryz.prog I61 := instOk_ext rfl
theorem ok45 : InstOk Tryz.prog I45 := instOk_of Tryz.func45 (by kernel_rfl) (by kernel_rfl) (by kernel_rfl) (by kernel_rfl)
theorem ok12 : InstOk Tryz.prog I12 := instOk_of Tryz.func12 (by kernel_rfl) (by kernel_rfl) (by kernel_rfl) (by kernel_rfl)
theorem ok37 : InstOk Tryz.prog I37 := instOk_of Tryz.func37 (by kernel_rfl) (by kernel_rfl) (by kernel_rfl) (by kernel_rfl)
theorem ok46 : InstOk Tryz.prog I46 := instOk_of Tryz.func46 (by kernel_rfl) (by kernel_rfl) (by kernel_rfl) (by kernel_rfl)
theorem ok13 : InstOk Tryz.prog I13 := instOk_of Tryz.func13 (by kernel_rfl) (by kernel_rfl) (by kernel_rfl) (by kernel_rfl)
theorem ok38 : InstOk Tryz.prog I38 := instOk_of Tryz.func38 (by kernel_rfl) (by kernel_rfl) (by kernel_rfl) (by kernel_rfl)
theorem ok14 : InstOk Tryz.prog I14 := instOk_of Tryz.func14 (by kernel_rfl) (by kernel_rfl) (by kernel_rfl) (by kernel_rfl)
theorem ok39 : InstOk Tryz.prog I39 := instOk_of Tryz.func39 (by kernel_rfl) (by kernel_rfl) (by kernel_rfl) (by kernel_rfl)
theorem ok15 : InstOk Tryz.prog I15 := instOk_of Tryz.func15 (by kernel_rfl) (by kernel_rfl) (by kernel_rfl) (by kernel_rfl)
theorem ok4 : InstOk Tryz.prog I4 := instOk_of Tryz.func4 (by kernel_rfl) (by kernel_rfl) (by kernel_rfl) (by kernel_rfl)
theorem insts : ∀ j, InstOk Tryz.prog (C j) := find_all ok28 (List.forall_mem_cons.2 ⟨ok28, List.forall_mem_cons.2 ⟨ok84, List.forall_mem_cons.2 ⟨ok85, List.forall_mem_cons.2 ⟨ok108, List.forall_mem_cons.2 ⟨ok110, List.forall_mem_cons.2 ⟨ok73, List.forall_mem_cons.2 ⟨ok71, List.forall_mem_cons.2 ⟨ok40, List.forall_mem_cons.2 ⟨ok41, List.forall_mem_cons.2 ⟨ok11, List.forall_mem_cons.2 ⟨ok33, List.forall_mem_cons.2 ⟨ok42, List.forall_mem_cons.2 ⟨ok31, List.forall_mem_cons.2 ⟨ok32, List.forall_mem_cons.2 ⟨ok57, List.forall_mem_cons.2 ⟨ok101, List.forall_mem_cons.2 ⟨ok60, List.forall_mem_cons.2 ⟨ok77, List.forall_mem_cons.2 ⟨ok78, List.forall_mem_cons.2 ⟨ok69, List.forall_mem_cons.2 ⟨ok79, List.forall_mem_cons.2 ⟨ok80, List.forall_mem_cons.2 ⟨ok117, List.forall_mem_cons.2 ⟨ok119, List.forall_mem_cons.2 ⟨ok149, List.forall_mem_cons.2 ⟨ok118, List.forall_mem_cons.2 ⟨ok81, List.forall_mem_cons.2 ⟨ok120, List.forall_mem_cons.2 ⟨ok82, List.forall_mem_cons.2 ⟨ok53, List.forall_mem_cons.2 ⟨ok34, List.forall_mem_cons.2 ⟨ok43, List.forall_mem_cons.2 ⟨ok68, List.forall_mem_cons.2 ⟨ok87, List.forall_mem_cons.2 ⟨ok121, List.forall_mem_cons.2 ⟨ok86, List.forall_mem_cons.2 ⟨ok44, List.forall_mem_cons.2 ⟨ok59, List.forall_mem_cons.2 ⟨ok61, List.forall_mem_cons.2 ⟨ok45, List.forall_mem_cons.2 ⟨ok12, List.forall_mem_cons.2 ⟨ok37, List.forall_mem_cons.2 ⟨ok46, List.forall_mem_cons.2 ⟨ok13, List.forall_mem_cons.2 ⟨ok38, List.forall_mem_cons.2 ⟨ok14, List.forall_mem_cons.2 ⟨ok39, List.forall_mem_cons.2 ⟨ok15, List.forall_mem_cons.2 ⟨ok4, fun _ h => absurd h List.not_mem_nil⟩⟩⟩⟩⟩⟩⟩⟩⟩⟩⟩⟩⟩⟩⟩⟩⟩⟩⟩⟩⟩⟩⟩⟩⟩⟩⟩⟩⟩⟩⟩⟩⟩⟩⟩⟩⟩⟩⟩⟩⟩⟩⟩⟩⟩⟩⟩⟩⟩)
theorem c33 : C 33 = I33 := by kernel_rfl
theorem c42 : C 42 = I42 := by kernel_rfl
theorem c31 : C 31 = I31 := by kernel_rfl
theorem c32 : C 32 = I32 := by kernel_rfl
theorem c57 : C 57 = I57 := by kernel_rfl
theorem c101 : C 101 = I101 := by kernel_rfl
theorem c80 : C 80 = I80 := by kernel_rfl
theorem c120 : C 120 = I120 := by kernel_rfl
theorem c59 : C 59 = I59 := by kernel_rfl
theorem c61 : C 61 = I61 := by kernel_rfl
theorem exts {L : Laid} (h33 : ExtOk Tryz.prog L I33) (h42 : ExtOk Tryz.prog L I42) (h31 : ExtOk Tryz.prog L I31) (h32 : ExtOk Tryz.prog L I32) (h57 : ExtOk Tryz.prog L I57) (h101 : ExtOk Tryz.prog L I101) (h80 : ExtOk Tryz.prog L I80) (h120 : ExtOk Tryz.prog L I120) (h59 : ExtOk Tryz.prog L I59) (h61 : ExtOk Tryz.prog L I61) : ∀ j, ExtOk Tryz.prog L (C j) := by
  have hC : C = find I28 CL := by delta C; with_reducible rfl
  refine fun j => exts_of (C := C) _ _ [33, 42, 31, 32, 57, 101, 80, 120, 59, 61] hC (by kernel_rfl) (by kernel_rfl) ?_ j
  intro e he
  change ExtOk _ _ (C e)
  simp only [List.mem_cons, List.not_mem_nil, or_false] at he
  rcases he with rfl | rfl | rfl | rfl | rfl | rfl | rfl | rfl | rfl | rfl
  · rw [c33]; exact h33
  · rw [c42]; exact h42
  · rw [c31]; exact h31
  · rw [c32]; exact h32
  · rw [c57]; exact h57
  · rw [c101]; exact h101
  · rw [c80]; exact h80
  · rw [c120]; exact h120
  · rw [c59]; exact h59
  · rw [c61]; exact h61
end Go.Proofs.YtjeakogmccogmaaGreatDoor.LRs
