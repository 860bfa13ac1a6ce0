/- The types and the functions that a law reaches, told for the reading (Fw). Written by a program (gen.py). -/
import Derived.Test.YtphcammdpmmlpaaGreatDoorFwC
import Derived.Test.YtphcammdpmmlpaaGreatDoorProg
import Derived.Lib.TrailingZeros
import Derived.Lib.ItoaNum
import Derived.Lib.Join
import Derived.Lib.Split
import Derived.Lib.ParseIntB
import Derived.Lib.IndexMore
import Derived.Lib.Bytealg
namespace Go.Proofs.YtphcammdpmmlpaaGreatDoor.LSh
open Go Go.Fw
open Go.Proofs
noncomputable def tyL : List (Nat × TI) := [(2, ⟨(.int .i64), 0, 8⟩),
  (3, ⟨(.int .i64), 0, 8⟩),
  (4, ⟨.bool, 0, 1⟩),
  (5, ⟨(.int .u8), 0, 1⟩),
  (9, ⟨.str, 0, 16⟩),
  (22, ⟨(.slc (.int .u8)), 5, 24⟩),
  (24, ⟨(.slc (.pair (.int .i16) (.pair (.int .i16) (.pair (.int .i16) (.pair (.slc (.int .i16)) .unit))))), 45, 24⟩),
  (34, ⟨(.slc (.int .i64)), 2, 24⟩),
  (41, ⟨(.int .i16), 0, 2⟩),
  (43, ⟨(.slc (.int .i16)), 41, 24⟩),
  (45, ⟨(.pair (.int .i16) (.pair (.int .i16) (.pair (.int .i16) (.pair (.slc (.int .i16)) .unit)))), 0, 32⟩),
  (66, ⟨(.int .u64), 0, 8⟩),
  (122, ⟨(.ptr (.pair (.slc (.int .u8)) (.pair (.int .i64) (.pair (.int .u64) .unit)))), 0, 8⟩),
  (124, ⟨(.slc .str), 9, 24⟩),
  (129, ⟨(.ptr (.pair (.ptr .unit) (.pair (.slc (.int .u8)) .unit))), 0, 8⟩),
  (131, ⟨(.pair (.ptr .unit) (.pair (.slc (.int .u8)) .unit)), 5, 32⟩),
  (133, ⟨.err, 0, 16⟩),
  (140, ⟨.fn, 0, 8⟩),
  (144, ⟨.fn, 0, 8⟩),
  (152, ⟨(.ptr (.pair (.int .i16) (.pair (.int .i16) (.pair (.int .i16) (.pair (.slc (.int .i16)) .unit))))), 0, 8⟩),
  (165, ⟨.fn, 0, 8⟩),
  (223, ⟨(.pair (.slc (.int .u8)) (.pair (.int .i64) (.pair (.int .u64) .unit))), 0, 40⟩)]
noncomputable def T : Nat → Option TI := findT tyL
/- laws.a2Long -/
noncomputable def I8 : Inst := { f := 8, nt := 13, params := [((.ro (.slc (.int .u8))), false), ((.ro (.slc (.int .u8))), false)], res := [(.ro .bool)], slots := [.tmp 4], code := bd Tryz.f8 }
/- spec.l00From -/
noncomputable def I97 : Inst := { f := 97, nt := 6, params := [((.ro (.slc (.int .u8))), false)], res := [(.box (.ro (.pair (.slc (.int .u8)) (.pair (.int .i64) (.pair (.int .u64) .unit)))))], slots := [.tmp 2], code := bd Tryz.f97, strict := true }
/- spec.l00Src).next -/
noncomputable def I226 : Inst := { f := 226, nt := 62, params := [((.box (.ro (.pair (.slc (.int .u8)) (.pair (.int .i64) (.pair (.int .u64) .unit))))), true)], res := [(.ro (.int .i64))], slots := [.tmp 2], code := bd Tryz.f226, strict := true, pins := [0] }
/- spec.l00Src).pick -/
noncomputable def I143 : Inst := { f := 143, nt := 20, params := [((.box (.ro (.pair (.slc (.int .u8)) (.pair (.int .i64) (.pair (.int .u64) .unit))))), true), ((.ro (.int .i64)), false)], res := [(.ro (.int .i64))], slots := [.tmp 4], code := bd Tryz.f143, strict := true, callee := fun r i => find 0 [(3001, 226), (5003, 226)] (r * 1000 + i), pins := [0] }
/- spec.l00Src).among -/
noncomputable def I215 : Inst := { f := 215, nt := 12, params := [((.box (.ro (.pair (.slc (.int .u8)) (.pair (.int .i64) (.pair (.int .u64) .unit))))), true), ((.ro (.slc (.int .i64))), false)], res := [(.ro (.int .i64))], slots := [.tmp 4], code := bd Tryz.f215, strict := true, callee := fun r i => find 0 [(1004, 143)] (r * 1000 + i), pins := [0] }
/- spec.l00Src).one -/
noncomputable def I218 : Inst := { f := 218, nt := 9, params := [((.box (.ro (.pair (.slc (.int .u8)) (.pair (.int .i64) (.pair (.int .u64) .unit))))), true), ((.ro (.int .i64)), false)], res := [(.ro .bool)], slots := [.tmp 4], code := bd Tryz.f218, strict := true, callee := fun r i => find 0 [(1002, 143)] (r * 1000 + i), pins := [0] }
/- spec.l04Cam -/
noncomputable def I205 : Inst := { f := 205, nt := 24, params := [((.box (.ro (.pair (.slc (.int .u8)) (.pair (.int .i64) (.pair (.int .u64) .unit))))), true)], res := [(.ro (.slc (.int .i16)))], slots := [.tmp 2], code := bd Tryz.f205, strict := true, callee := fun r i => find 0 [(2002, 215), (6001, 218), (7001, 143)] (r * 1000 + i), loops := fun b => find [] [(0, [.own 0 (.box (.ro (.pair (.slc (.int .u8)) (.pair (.int .i64) (.pair (.int .u64) .unit))))), .own 3 (.row false (.int .i16)), .own 4 (.ro (.int .i64))])] b, pins := [0], frz := fun r i => find false [(2001, true)] (r * 1000 + i) }
/- spec.l04Drawn -/
noncomputable def I96 : Inst := { f := 96, nt := 38, params := [((.box (.ro (.pair (.slc (.int .u8)) (.pair (.int .i64) (.pair (.int .u64) .unit))))), true)], res := [(.ro (.slc (.pair (.int .i16) (.pair (.int .i16) (.pair (.int .i16) (.pair (.slc (.int .i16)) .unit))))))], slots := [.tmp 2], code := bd Tryz.f96, strict := true, callee := fun r i => find 0 [(2001, 143), (5001, 143), (5005, 143), (6001, 205), (7004, 143)] (r * 1000 + i), loops := fun b => find [] [(0, [.own 0 (.box (.ro (.pair (.slc (.int .u8)) (.pair (.int .i64) (.pair (.int .u64) .unit))))), .own 3 (.row false (.pair (.int .i16) (.pair (.int .i16) (.pair (.int .i16) (.pair (.slc (.int .i16)) .unit))))), .own 4 (.ro (.int .i64))])] b, pins := [0] }
/- spec.A2Shafts -/
noncomputable def I9 : Inst := { f := 9, nt := 6, params := [((.ro (.slc (.int .u8))), false)], res := [(.ro (.slc (.pair (.int .i16) (.pair (.int .i16) (.pair (.int .i16) (.pair (.slc (.int .i16)) .unit))))))], slots := [.tmp 2], code := bd Tryz.f9, strict := true, callee := fun r i => find 0 [(1001, 97), (1002, 96)] (r * 1000 + i) }
/- impl.inRange -/
noncomputable def I111 : Inst := { f := 111, nt := 15, params := [((.ro (.int .i64)), false), ((.ro (.int .i64)), false), ((.ro (.int .i64)), false)], res := [(.ro .bool)], slots := [.tmp 6], code := bd Tryz.f111 }
/- impl.Cam).steps -/
noncomputable def I128 : Inst := { f := 128, nt := 5, params := [((.ro (.slc (.int .i16))), false)], res := [(.ro (.int .i64))], slots := [.tmp 2], code := bd Tryz.f128 }
/- impl.isSteps -/
noncomputable def I139 : Inst := { f := 139, nt := 5, params := [((.ro (.int .i64)), false)], res := [(.ro .bool)], slots := [.tmp 2], code := bd Tryz.f139, callee := fun r i => find 0 [(1001, 111)] (r * 1000 + i) }
/- impl.isLift -/
noncomputable def I127 : Inst := { f := 127, nt := 5, params := [((.ro (.int .i64)), false)], res := [(.ro .bool)], slots := [.tmp 2], code := bd Tryz.f127, callee := fun r i => find 0 [(1001, 111)] (r * 1000 + i) }
/- impl.ValidCam$1 -/
noncomputable def I141 : Inst := { f := 141, nt := 7, params := [((.ro (.int .i16)), false)], res := [(.ro .bool)], slots := [.tmp 2], code := bd Tryz.f141, callee := fun r i => find 0 [(1002, 127)] (r * 1000 + i) }
/- impl.Cam,int16] -/
noncomputable def I225 : Inst := { f := 225, nt := 19, params := [((.ro (.slc (.int .i16))), false), ((.clo 141 (.ro .unit) (.ro .unit)), false)], res := [(.ro (.int .i64))], slots := [.tmp 4], code := bd Tryz.f225, callee := fun r i => find 0 [(4005, 141)] (r * 1000 + i), loops := fun b => find [] [(0, [.own 0 (.ro (.slc (.int .i16))), .own 1 (.clo 141 (.ro .unit) (.ro .unit)), .own 7 (.ro (.int .i64)), .own 8 (.ro (.int .i64))])] b }
/- impl.Cam,int16] -/
noncomputable def I140 : Inst := { f := 140, nt := 9, params := [((.ro (.slc (.int .i16))), false), ((.clo 141 (.ro .unit) (.ro .unit)), false)], res := [(.ro .bool)], slots := [.tmp 4], code := bd Tryz.f140, callee := fun r i => find 0 [(1002, 225)] (r * 1000 + i) }
/- impl.ValidCam -/
noncomputable def I34 : Inst := { f := 34, nt := 11, params := [((.ro (.slc (.int .i16))), false)], res := [(.ro .bool)], slots := [.tmp 2], code := bd Tryz.f34, callee := fun r i => find 0 [(1001, 128), (1002, 139), (1005, 140)] (r * 1000 + i) }
/- impl.isPlace -/
noncomputable def I114 : Inst := { f := 114, nt := 9, params := [((.ro (.int .i64)), false), ((.ro (.int .i64)), false)], res := [(.ro .bool)], slots := [.tmp 4], code := bd Tryz.f114, callee := fun r i => find 0 [(1003, 111)] (r * 1000 + i) }
/- impl.ValidShafts$1 -/
noncomputable def I113 : Inst := { f := 113, nt := 31, params := [((.ro (.pair (.int .i16) (.pair (.int .i16) (.pair (.int .i16) (.pair (.slc (.int .i16)) .unit))))), false)], res := [(.ro .bool)], slots := [.tmp 2], code := bd Tryz.f113, callee := fun r i => find 0 [(1003, 111), (1009, 111), (1015, 34), (1025, 114)] (r * 1000 + i) }
/- impl.Shaft] -/
noncomputable def I212 : Inst := { f := 212, nt := 19, params := [((.ro (.slc (.pair (.int .i16) (.pair (.int .i16) (.pair (.int .i16) (.pair (.slc (.int .i16)) .unit)))))), false), ((.clo 113 (.ro .unit) (.ro .unit)), false)], res := [(.ro (.int .i64))], slots := [.tmp 4], code := bd Tryz.f212, callee := fun r i => find 0 [(4005, 113)] (r * 1000 + i), loops := fun b => find [] [(0, [.own 0 (.ro (.slc (.pair (.int .i16) (.pair (.int .i16) (.pair (.int .i16) (.pair (.slc (.int .i16)) .unit)))))), .own 1 (.clo 113 (.ro .unit) (.ro .unit)), .own 7 (.ro (.int .i64)), .own 8 (.ro (.int .i64))])] b }
/- impl.Shaft] -/
noncomputable def I112 : Inst := { f := 112, nt := 9, params := [((.ro (.slc (.pair (.int .i16) (.pair (.int .i16) (.pair (.int .i16) (.pair (.slc (.int .i16)) .unit)))))), false), ((.clo 113 (.ro .unit) (.ro .unit)), false)], res := [(.ro .bool)], slots := [.tmp 4], code := bd Tryz.f112, callee := fun r i => find 0 [(1002, 212)] (r * 1000 + i) }
/- impl.ValidShafts -/
noncomputable def I16 : Inst := { f := 16, nt := 11, params := [((.ro (.slc (.pair (.int .i16) (.pair (.int .i16) (.pair (.int .i16) (.pair (.slc (.int .i16)) .unit)))))), false)], res := [(.ro .bool)], slots := [.tmp 2], code := bd Tryz.f16, callee := fun r i => find 0 [(1002, 111), (1005, 112)] (r * 1000 + i) }
/- strconv.FormatInt: told by its contract -/
noncomputable def I209 : Inst := { f := 209, nt := 0, params := [((.ro (.int .i64)), false), ((.ro (.int .i64)), false)], res := [(.ro .str)], slots := [], code := .skip, ext := some (fun x => if x.2.1 = 10 ∧ -9223372036854775808 ≤ x.1 ∧ x.1 ≤ 9223372036854775807 then some (((⟨(Lib.itoa x.1).toArray⟩ : ByteArray), ()), ()) else none) }
/- impl.decimal -/
noncomputable def I103 : Inst := { f := 103, nt := 5, params := [((.ro (.int .i64)), false)], res := [(.ro .str)], slots := [.tmp 2], code := bd Tryz.f103, callee := fun r i => find 0 [(1001, 209)] (r * 1000 + i) }
/- strings.Join: told by its contract -/
noncomputable def I131 : Inst := { f := 131, nt := 0, params := [((.row false .str), true), ((.ro .str), false)], res := [(.ro .str)], slots := [], code := .skip, ext := some (fun x => if x.1.length ≤ 140737488355328 ∧ (Lib.join (x.1.map fun s => s.data.toList) x.2.1.data.toList).length ≤ 140737488355328 then some (((⟨(Lib.join (x.1.map fun s => s.data.toList) x.2.1.data.toList).toArray⟩ : ByteArray), ()), (x.1, ())) else none) }
/- impl.CamText -/
noncomputable def I27 : Inst := { f := 27, nt := 57, params := [((.ro (.slc (.int .i16))), false)], res := [(.ro .str)], slots := [.tmp 2], code := bd Tryz.f27, callee := fun r i => find 0 [(1001, 34), (9005, 103), (11004, 103), (13001, 131)] (r * 1000 + i), loops := fun b => find [] [(2, [.own 0 (.ro (.slc (.int .i16))), .own 3 (.row false .str), .own 4 (.ro (.int .i64)), .own 5 (.ro (.int .i64))]), (0, [.own 0 (.ro (.slc (.int .i16))), .own 3 (.row false .str), .own 4 (.ro (.int .i64))])] b, deep := fun r i => find false [(3000, true), (12002, true), (12003, true)] (r * 1000 + i) }
/- (*strings.Builder).WriteString: told by its contract -/
noncomputable def I102 : Inst := { f := 102, nt := 0, params := [((.bld 131 5), true), ((.ro .str), false)], res := [(.ro (.int .i64)), (.ro .err)], slots := [], code := .skip, ext := some (fun x => if x.1.size + x.2.1.size ≤ 140737488355328 then some ((((x.2.1.size : Nat) : Int), false, ()), (x.1 ++ x.2.1, ())) else none) }
/- (*strings.Builder).String: told by its contract -/
noncomputable def I104 : Inst := { f := 104, nt := 0, params := [((.bld 131 5), false)], res := [(.ro .str)], slots := [], code := .skip, ext := some (fun x => some ((x.1, ()), ())) }
/- impl.ShaftsText -/
noncomputable def I11 : Inst := { f := 11, nt := 40, params := [((.ro (.slc (.pair (.int .i16) (.pair (.int .i16) (.pair (.int .i16) (.pair (.slc (.int .i16)) .unit)))))), false)], res := [(.ro .str)], slots := [.tmp 2], code := bd Tryz.f11, callee := fun r i => find 0 [(1001, 16), (7003, 103), (7008, 103), (7014, 103), (7019, 27), (7022, 102), (9000, 104)] (r * 1000 + i), loops := fun b => find [] [(0, [.own 3 (.bld 131 5), .own 9 (.ro (.slc (.pair (.int .i16) (.pair (.int .i16) (.pair (.int .i16) (.pair (.slc (.int .i16)) .unit)))))), .own 10 (.ro (.int .i64)), .own 11 (.ro (.int .i64))])] b, frz := fun r i => find false [(3000, true)] (r * 1000 + i) }
/- strings.TrimSuffix: told by its contract -/
noncomputable def I99 : Inst := { f := 99, nt := 0, params := [((.ro .str), false), ((.ro .str), false)], res := [(.ro .str)], slots := [], code := .skip, ext := some (fun x => if x.1.size ≤ 4294967281 then some (((⟨(Lib.trimSuffix x.1.data.toList x.2.1.data.toList).toArray⟩ : ByteArray), ()), ()) else none) }
/- strings.Split: told by its contract -/
noncomputable def I98 : Inst := { f := 98, nt := 0, params := [((.ro .str), false), ((.ro .str), false)], res := [(.row false .str)], slots := [], code := .skip, ext := some (fun x => if x.1.size < 4294967281 ∧ 1 ≤ x.2.1.size then some ((Lib.splitB x.2.1 0 (Lib.countB x.1 x.2.1) x.1, ()), ()) else none) }
/- strings.SplitN: told by its contract -/
noncomputable def I100 : Inst := { f := 100, nt := 0, params := [((.ro .str), false), ((.ro .str), false), ((.ro (.int .i64)), false)], res := [(.row false .str)], slots := [], code := .skip, ext := some (fun x => if x.1.size < 4294967281 ∧ 1 ≤ x.2.1.size ∧ 1 ≤ x.2.2.1 ∧ x.2.2.1 ≤ 1000 then some ((Lib.splitB x.2.1 0 (min x.2.2.1.toNat (x.1.size + 1) - 1) x.1, ()), ()) else none) }
/- strings.Cut: told by its contract -/
noncomputable def I125 : Inst := { f := 125, nt := 0, params := [((.ro .str), false), ((.ro .str), false)], res := [(.ro .str), (.ro .str), (.ro .bool)], slots := [], code := .skip, ext := some (fun x => if x.1.size < 4294967281 then some (((⟨(Lib.cut x.1.data.toList x.2.1.data.toList).1.toArray⟩ : ByteArray), (⟨(Lib.cut x.1.data.toList x.2.1.data.toList).2.1.toArray⟩ : ByteArray), (Lib.cut x.1.data.toList x.2.1.data.toList).2.2, ()), ()) else none) }
/- strconv.ParseInt: told by its contract -/
noncomputable def I220 : Inst := { f := 220, nt := 0, params := [((.ro .str), false), ((.ro (.int .i64)), false), ((.ro (.int .i64)), false)], res := [(.ro (.int .i64)), (.ro .err)], slots := [], code := .skip, ext := some (fun x => if x.1.size ≤ 281474976710656 ∧ x.2.1 = 10 ∧ x.2.2.1 = 64 then (match Lib.parseIntB 64 x.1.data.toList with | .ok v => some ((v, false, ()), ()) | .range => some ((Lib.intSat 64 x.1.data.toList, true, ()), ()) | _ => some (((0 : Int), true, ()), ())) else if x.1.size ≤ 281474976710656 ∧ x.2.1 = 10 ∧ x.2.2.1 = 8 then (match Lib.parseIntB 8 x.1.data.toList with | .ok v => some ((v, false, ()), ()) | .range => some ((Lib.intSat 8 x.1.data.toList, true, ()), ()) | _ => some (((0 : Int), true, ()), ())) else none) }
/- impl.number -/
noncomputable def I126 : Inst := { f := 126, nt := 20, params := [((.ro .str), false)], res := [(.ro (.int .i64)), (.ro .bool)], slots := [.tmp 2, .tmp 3], code := bd Tryz.f126, callee := fun r i => find 0 [(1001, 220), (2005, 103)] (r * 1000 + i) }
/- impl.Cam,int16]: told by its contract -/
noncomputable def I129 : Inst := { f := 129, nt := 0, params := [((.ro (.slc (.int .i16))), false), ((.ro (.int .i64)), false)], res := [(.row false (.int .i16))], slots := [], code := .skip, ext := some (fun x => if x.1.length = 1 ∧ 1 ≤ x.2.1 ∧ x.2.1 ≤ 360 then some ((List.replicate x.2.1.toNat (x.1.headD 0), ()), ()) else none) }
/- impl.Cam,int16] -/
noncomputable def I130 : Inst := { f := 130, nt := 8, params := [((.ro (.slc (.int .i16))), false)], res := [(.row false (.int .i16))], slots := [.tmp 2], code := bd Tryz.f130 }
/- impl.ReadCam -/
noncomputable def I26 : Inst := { f := 26, nt := 70, params := [((.ro .str), false)], res := [(.row false (.int .i16)), (.ro (.int .i64))], slots := [.tmp 2, .tmp 3], code := bd Tryz.f26, callee := fun r i => find 0 [(2001, 98), (5001, 125), (6001, 126), (7001, 126), (10001, 127), (10006, 128), (10008, 111), (12005, 129), (14001, 34), (14005, 27), (16001, 130)] (r * 1000 + i), loops := fun b => find [] [(0, [.own 0 (.ro .str), .own 4 (.row false (.int .i16)), .own 16 (.ro (.slc .str)), .own 17 (.ro (.int .i64)), .own 18 (.ro (.int .i64))])] b, deep := fun r i => find false [(1000, true), (12003, true), (12006, true)] (r * 1000 + i), frz := fun r i => find false [(12003, true)] (r * 1000 + i) }
/- impl.short -/
noncomputable def I101 : Inst := { f := 101, nt := 17, params := [((.ro .str), false)], res := [(.ro (.int .i16))], slots := [.tmp 2], code := bd Tryz.f101, callee := fun r i => find 0 [(1001, 126)] (r * 1000 + i) }
/- impl.ReadShafts -/
noncomputable def I10 : Inst := { f := 10, nt := 61, params := [((.ro .str), false)], res := [(.row true (.pair (.int .i16) (.pair (.int .i16) (.pair (.int .i16) (.pair (.slc (.int .i16)) .unit))))), (.ro (.int .i64))], slots := [.tmp 2, .tmp 3], code := bd Tryz.f10, callee := fun r i => find 0 [(2001, 99), (2002, 98), (5001, 100), (8003, 26), (11004, 101), (11008, 101), (11012, 101), (13001, 16), (13005, 11)] (r * 1000 + i), loops := fun b => find [] [(0, [.own 0 (.ro .str), .own 4 (.row true (.pair (.int .i16) (.pair (.int .i16) (.pair (.int .i16) (.pair (.slc (.int .i16)) .unit))))), .own 13 (.ro (.slc .str)), .own 14 (.ro (.int .i64)), .own 15 (.ro (.int .i64))])] b, deep := fun r i => find false [(1000, true), (11015, true), (11016, true)] (r * 1000 + i) }
/- impl.codeIf -/
noncomputable def I116 : Inst := { f := 116, nt := 7, params := [((.ro .bool), false), ((.ro (.int .i64)), false)], res := [(.ro (.int .i64))], slots := [.tmp 4], code := bd Tryz.f116 }
/- impl.firstCode -/
noncomputable def I115 : Inst := { f := 115, nt := 15, params := [((.ro (.slc (.int .i64))), false)], res := [(.ro (.int .i64))], slots := [.tmp 2], code := bd Tryz.f115, loops := fun b => find [] [(0, [.own 5 (.ro (.slc (.int .i64))), .own 6 (.ro (.int .i64)), .own 7 (.ro (.int .i64))])] b }
/- impl.common -/
noncomputable def I214 : Inst := { f := 214, nt := 12, params := [((.ro (.int .i64)), false), ((.ro (.int .i64)), false)], res := [(.ro (.int .i64))], slots := [.tmp 4], code := bd Tryz.f214, loops := fun b => find [] [(0, [.own 0 (.ro (.int .i64)), .own 1 (.ro (.int .i64))])] b }
/- impl.Shaft).period -/
noncomputable def I120 : Inst := { f := 120, nt := 18, params := [((.ro (.pair (.int .i16) (.pair (.int .i16) (.pair (.int .i16) (.pair (.slc (.int .i16)) .unit))))), false)], res := [(.ro (.int .i64))], slots := [.tmp 2], code := bd Tryz.f120, callee := fun r i => find 0 [(1005, 128), (2005, 214)] (r * 1000 + i) }
/- impl.periodOf -/
noncomputable def I210 : Inst := { f := 210, nt := 27, params := [((.ro (.slc (.pair (.int .i16) (.pair (.int .i16) (.pair (.int .i16) (.pair (.slc (.int .i16)) .unit)))))), false)], res := [(.ro (.int .i64)), (.ro .bool)], slots := [.tmp 2, .tmp 3], code := bd Tryz.f210, callee := fun r i => find 0 [(5001, 120), (6003, 214)] (r * 1000 + i), loops := fun b => find [] [(0, [.own 4 (.ro (.int .i64)), .own 8 (.ro (.slc (.pair (.int .i16) (.pair (.int .i16) (.pair (.int .i16) (.pair (.slc (.int .i16)) .unit)))))), .own 9 (.ro (.int .i64)), .own 10 (.ro (.int .i64))])] b }
/- impl.shaftsCode -/
noncomputable def I105 : Inst := { f := 105, nt := 30, params := [((.ro (.slc (.pair (.int .i16) (.pair (.int .i16) (.pair (.int .i16) (.pair (.slc (.int .i16)) .unit)))))), false), ((.ro .bool), false)], res := [(.ro (.int .i64)), (.ro (.int .i64))], slots := [.tmp 4, .tmp 5], code := bd Tryz.f105, callee := fun r i => find 0 [(1001, 16), (1003, 116), (1006, 116), (1008, 115), (4001, 210), (5003, 116)] (r * 1000 + i), deep := fun r i => find false [(1007, true)] (r * 1000 + i), frz := fun r i => find false [(1007, true)] (r * 1000 + i) }
/- impl.PeriodOfAll -/
noncomputable def I12 : Inst := { f := 12, nt := 15, params := [((.ro (.slc (.pair (.int .i16) (.pair (.int .i16) (.pair (.int .i16) (.pair (.slc (.int .i16)) .unit)))))), false)], res := [(.ro (.int .i64)), (.ro (.int .i64))], slots := [.tmp 2, .tmp 3], code := bd Tryz.f12, callee := fun r i => find 0 [(1001, 105)] (r * 1000 + i) }
/- spec.l00In -/
noncomputable def I182 : Inst := { f := 182, nt := 15, params := [((.ro (.int .i64)), false), ((.ro (.int .i64)), false), ((.ro (.int .i64)), false)], res := [(.ro .bool)], slots := [.tmp 6], code := bd Tryz.f182 }
/- spec.l01Steps -/
noncomputable def I223 : Inst := { f := 223, nt := 5, params := [((.ro (.int .i64)), false)], res := [(.ro .bool)], slots := [.tmp 2], code := bd Tryz.f223, callee := fun r i => find 0 [(1001, 182)] (r * 1000 + i) }
/- spec.l01Lift -/
noncomputable def I224 : Inst := { f := 224, nt := 5, params := [((.ro (.int .i64)), false)], res := [(.ro .bool)], slots := [.tmp 2], code := bd Tryz.f224, callee := fun r i => find 0 [(1001, 182)] (r * 1000 + i) }
/- spec.l01Ok -/
noncomputable def I135 : Inst := { f := 135, nt := 21, params := [((.ro (.slc (.int .i16))), false)], res := [(.ro .bool)], slots := [.tmp 2], code := bd Tryz.f135, callee := fun r i => find 0 [(1002, 223), (6005, 224)] (r * 1000 + i), loops := fun b => find [] [(0, [.own 0 (.ro (.slc (.int .i16))), .own 3 (.ro (.int .i64))])] b }
/- spec.l04Ok -/
noncomputable def I121 : Inst := { f := 121, nt := 57, params := [((.ro (.slc (.pair (.int .i16) (.pair (.int .i16) (.pair (.int .i16) (.pair (.slc (.int .i16)) .unit)))))), false)], res := [(.ro .bool)], slots := [.tmp 2], code := bd Tryz.f121, callee := fun r i => find 0 [(1002, 182), (7005, 182), (7013, 182), (7021, 135), (7036, 182)] (r * 1000 + i), loops := fun b => find [] [(0, [.own 0 (.ro (.slc (.pair (.int .i16) (.pair (.int .i16) (.pair (.int .i16) (.pair (.slc (.int .i16)) .unit)))))), .own 3 (.ro (.int .i64))])] b }
/- spec.l04Gcd -/
noncomputable def I211 : Inst := { f := 211, nt := 13, params := [((.ro (.int .i64)), false), ((.ro (.int .i64)), false)], res := [(.ro (.int .i64))], slots := [.tmp 4], code := bd Tryz.f211, callee := fun r i => find 0 [(3004, 211)] (r * 1000 + i) }
/- spec.l04Own -/
noncomputable def I123 : Inst := { f := 123, nt := 24, params := [((.ro (.ptr (.pair (.int .i16) (.pair (.int .i16) (.pair (.int .i16) (.pair (.slc (.int .i16)) .unit)))))), false)], res := [(.ro (.int .i64))], slots := [.tmp 2], code := bd Tryz.f123, callee := fun r i => find 0 [(2007, 211)] (r * 1000 + i) }
/- spec.l04All -/
noncomputable def I106 : Inst := { f := 106, nt := 30, params := [((.ro (.slc (.pair (.int .i16) (.pair (.int .i16) (.pair (.int .i16) (.pair (.slc (.int .i16)) .unit)))))), false)], res := [(.ro (.int .i64)), (.ro (.int .i64))], slots := [.tmp 2, .tmp 3], code := bd Tryz.f106, callee := fun r i => find 0 [(1001, 121), (7003, 123), (8003, 211)] (r * 1000 + i), loops := fun b => find [] [(0, [.own 0 (.ro (.slc (.pair (.int .i16) (.pair (.int .i16) (.pair (.int .i16) (.pair (.slc (.int .i16)) .unit)))))), .own 4 (.ro (.int .i64)), .own 5 (.ro (.int .i64))])] b }
/- spec.PeriodOfAll -/
noncomputable def I13 : Inst := { f := 13, nt := 8, params := [((.ro (.slc (.pair (.int .i16) (.pair (.int .i16) (.pair (.int .i16) (.pair (.slc (.int .i16)) .unit)))))), false)], res := [(.ro (.int .i64)), (.ro (.int .i64))], slots := [.tmp 2, .tmp 3], code := bd Tryz.f13, callee := fun r i => find 0 [(1001, 106)] (r * 1000 + i) }
/- impl.Cam,int16] -/
noncomputable def I109 : Inst := { f := 109, nt := 26, params := [((.ro (.slc (.int .i16))), false), ((.ro (.slc (.int .i16))), false)], res := [(.ro .bool)], slots := [.tmp 4], code := bd Tryz.f109, loops := fun b => find [] [(0, [.own 0 (.ro (.slc (.int .i16))), .own 1 (.ro (.slc (.int .i16))), .own 12 (.ro (.int .i64)), .own 13 (.ro (.int .i64))])] b }
/- impl.SameShafts$1 -/
noncomputable def I108 : Inst := { f := 108, nt := 31, params := [((.ro (.pair (.int .i16) (.pair (.int .i16) (.pair (.int .i16) (.pair (.slc (.int .i16)) .unit))))), false), ((.ro (.pair (.int .i16) (.pair (.int .i16) (.pair (.int .i16) (.pair (.slc (.int .i16)) .unit))))), false)], res := [(.ro .bool)], slots := [.tmp 4], code := bd Tryz.f108, callee := fun r i => find 0 [(1024, 109)] (r * 1000 + i) }
/- impl.Shaft] -/
noncomputable def I107 : Inst := { f := 107, nt := 32, params := [((.ro (.slc (.pair (.int .i16) (.pair (.int .i16) (.pair (.int .i16) (.pair (.slc (.int .i16)) .unit)))))), false), ((.ro (.slc (.pair (.int .i16) (.pair (.int .i16) (.pair (.int .i16) (.pair (.slc (.int .i16)) .unit)))))), false), ((.clo 108 (.ro .unit) (.ro .unit)), false)], res := [(.ro .bool)], slots := [.tmp 6], code := bd Tryz.f107, callee := fun r i => find 0 [(7003, 108)] (r * 1000 + i), loops := fun b => find [] [(0, [.own 1 (.ro (.slc (.pair (.int .i16) (.pair (.int .i16) (.pair (.int .i16) (.pair (.slc (.int .i16)) .unit)))))), .own 2 (.clo 108 (.ro .unit) (.ro .unit)), .own 15 (.ro (.slc (.pair (.int .i16) (.pair (.int .i16) (.pair (.int .i16) (.pair (.slc (.int .i16)) .unit)))))), .own 16 (.ro (.int .i64)), .own 17 (.ro (.int .i64))])] b }
/- impl.SameShafts -/
noncomputable def I14 : Inst := { f := 14, nt := 8, params := [((.ro (.slc (.pair (.int .i16) (.pair (.int .i16) (.pair (.int .i16) (.pair (.slc (.int .i16)) .unit)))))), false), ((.ro (.slc (.pair (.int .i16) (.pair (.int .i16) (.pair (.int .i16) (.pair (.slc (.int .i16)) .unit)))))), false)], res := [(.ro .bool)], slots := [.tmp 4], code := bd Tryz.f14, callee := fun r i => find 0 [(1002, 107)] (r * 1000 + i) }
/- spec.l01Same -/
noncomputable def I138 : Inst := { f := 138, nt := 26, params := [((.ro (.slc (.int .i16))), false), ((.ro (.slc (.int .i16))), false)], res := [(.ro .bool)], slots := [.tmp 4], code := bd Tryz.f138, loops := fun b => find [] [(0, [.own 0 (.ro (.slc (.int .i16))), .own 1 (.ro (.slc (.int .i16))), .own 5 (.ro (.int .i64))])] b }
/- spec.l04Same -/
noncomputable def I110 : Inst := { f := 110, nt := 68, params := [((.ro (.slc (.pair (.int .i16) (.pair (.int .i16) (.pair (.int .i16) (.pair (.slc (.int .i16)) .unit)))))), false), ((.ro (.slc (.pair (.int .i16) (.pair (.int .i16) (.pair (.int .i16) (.pair (.slc (.int .i16)) .unit)))))), false)], res := [(.ro .bool)], slots := [.tmp 4], code := bd Tryz.f110, callee := fun r i => find 0 [(6048, 138)] (r * 1000 + i), loops := fun b => find [] [(0, [.own 0 (.ro (.slc (.pair (.int .i16) (.pair (.int .i16) (.pair (.int .i16) (.pair (.slc (.int .i16)) .unit)))))), .own 1 (.ro (.slc (.pair (.int .i16) (.pair (.int .i16) (.pair (.int .i16) (.pair (.slc (.int .i16)) .unit)))))), .own 5 (.ro (.int .i64))])] b }
/- spec.SameShafts -/
noncomputable def I15 : Inst := { f := 15, nt := 8, params := [((.ro (.slc (.pair (.int .i16) (.pair (.int .i16) (.pair (.int .i16) (.pair (.slc (.int .i16)) .unit)))))), false), ((.ro (.slc (.pair (.int .i16) (.pair (.int .i16) (.pair (.int .i16) (.pair (.slc (.int .i16)) .unit)))))), false)], res := [(.ro .bool)], slots := [.tmp 4], code := bd Tryz.f15, callee := fun r i => find 0 [(1002, 110)] (r * 1000 + i) }
/- laws.a2At -/
noncomputable def I17 : Inst := { f := 17, nt := 22, params := [((.ro (.slc (.int .u8))), false), ((.ro (.int .i64)), false), ((.ro (.int .i64)), false)], res := [(.ro (.int .i64))], slots := [.tmp 6], code := bd Tryz.f17 }
/- impl.Shaft).step -/
noncomputable def I119 : Inst := { f := 119, nt := 22, params := [((.ro (.pair (.int .i16) (.pair (.int .i16) (.pair (.int .i16) (.pair (.slc (.int .i16)) .unit))))), false), ((.ro (.int .i64)), false), ((.ro (.int .i64)), false)], res := [(.ro (.int .i64))], slots := [.tmp 6], code := bd Tryz.f119, callee := fun r i => find 0 [(1013, 128)] (r * 1000 + i) }
/- impl.Shaft).lift -/
noncomputable def I261 : Inst := { f := 261, nt := 16, params := [((.ro (.pair (.int .i16) (.pair (.int .i16) (.pair (.int .i16) (.pair (.slc (.int .i16)) .unit))))), false), ((.ro (.int .i64)), false), ((.ro (.int .i64)), false)], res := [(.ro (.int .i64))], slots := [.tmp 6], code := bd Tryz.f261, callee := fun r i => find 0 [(1005, 119)] (r * 1000 + i) }
/- impl.Shaft).now -/
noncomputable def I213 : Inst := { f := 213, nt := 11, params := [((.ro (.pair (.int .i16) (.pair (.int .i16) (.pair (.int .i16) (.pair (.slc (.int .i16)) .unit))))), false), ((.ro (.int .i64)), false)], res := [(.ro (.int .i64))], slots := [.tmp 4], code := bd Tryz.f213, callee := fun r i => find 0 [(1005, 261)] (r * 1000 + i) }
/- impl.liftsOn -/
noncomputable def I117 : Inst := { f := 117, nt := 23, params := [((.ro (.slc (.pair (.int .i16) (.pair (.int .i16) (.pair (.int .i16) (.pair (.slc (.int .i16)) .unit)))))), false), ((.ro (.int .i64)), false)], res := [(.row false (.int .i64))], slots := [.tmp 4], code := bd Tryz.f117, callee := fun r i => find 0 [(5003, 213)] (r * 1000 + i), loops := fun b => find [] [(0, [.own 1 (.ro (.int .i64)), .own 5 (.row false (.int .i64)), .own 9 (.ro (.slc (.pair (.int .i16) (.pair (.int .i16) (.pair (.int .i16) (.pair (.slc (.int .i16)) .unit)))))), .own 10 (.ro (.int .i64)), .own 11 (.ro (.int .i64))])] b, deep := fun r i => find false [(1000, true), (5004, true), (5005, true)] (r * 1000 + i) }
/- impl.LiftsOn -/
noncomputable def I18 : Inst := { f := 18, nt := 23, params := [((.ro (.slc (.pair (.int .i16) (.pair (.int .i16) (.pair (.int .i16) (.pair (.slc (.int .i16)) .unit)))))), false), ((.ro (.int .i64)), false)], res := [(.row false (.int .i64)), (.ro (.int .i64))], slots := [.tmp 4, .tmp 5], code := bd Tryz.f18, callee := fun r i => find 0 [(1001, 16), (1003, 116), (1005, 111), (1007, 116), (1009, 115), (4002, 117)] (r * 1000 + i), deep := fun r i => find false [(1008, true)] (r * 1000 + i), frz := fun r i => find false [(1008, true)] (r * 1000 + i) }
/- impl.SumOfLifts -/
noncomputable def I19 : Inst := { f := 19, nt := 42, params := [((.ro (.slc (.pair (.int .i16) (.pair (.int .i16) (.pair (.int .i16) (.pair (.slc (.int .i16)) .unit)))))), false)], res := [(.row false (.int .i64)), (.ro (.int .i64))], slots := [.tmp 2, .tmp 3], code := bd Tryz.f19, callee := fun r i => find 0 [(1001, 105), (9002, 117)] (r * 1000 + i), loops := fun b => find [] [(2, [.own 0 (.ro (.slc (.pair (.int .i16) (.pair (.int .i16) (.pair (.int .i16) (.pair (.slc (.int .i16)) .unit)))))), .own 6 (.row false (.int .i64)), .own 8 (.ro (.int .i64)), .own 20 (.ro (.int .i64)), .own 21 (.ro (.int .i64)), .own 26 (.ro (.slc (.int .i64))), .own 27 (.ro (.int .i64)), .own 28 (.ro (.int .i64))]), (0, [.own 0 (.ro (.slc (.pair (.int .i16) (.pair (.int .i16) (.pair (.int .i16) (.pair (.slc (.int .i16)) .unit)))))), .own 6 (.row false (.int .i64)), .own 20 (.ro (.int .i64)), .own 21 (.ro (.int .i64))])] b, deep := fun r i => find false [(4000, true), (14002, true), (14003, true)] (r * 1000 + i) }
/- spec.l00Same -/
noncomputable def I118 : Inst := { f := 118, nt := 26, params := [((.ro (.slc (.int .i64))), false), ((.ro (.slc (.int .i64))), false)], res := [(.ro .bool)], slots := [.tmp 4], code := bd Tryz.f118, loops := fun b => find [] [(0, [.own 0 (.ro (.slc (.int .i64))), .own 1 (.ro (.slc (.int .i64))), .own 5 (.ro (.int .i64))])] b }
/- spec.A2Same -/
noncomputable def I20 : Inst := { f := 20, nt := 8, params := [((.ro (.slc (.int .i64))), false), ((.ro (.slc (.int .i64))), false)], res := [(.ro .bool)], slots := [.tmp 4], code := bd Tryz.f20, callee := fun r i => find 0 [(1002, 118)] (r * 1000 + i) }
/- impl.StepOn -/
noncomputable def I21 : Inst := { f := 21, nt := 41, params := [((.ro (.slc (.pair (.int .i16) (.pair (.int .i16) (.pair (.int .i16) (.pair (.slc (.int .i16)) .unit)))))), false), ((.ro (.int .i64)), false), ((.ro (.int .i64)), false)], res := [(.ro (.int .i64)), (.ro (.int .i64))], slots := [.tmp 6, .tmp 7], code := bd Tryz.f21, callee := fun r i => find 0 [(1001, 16), (1003, 116), (1007, 114), (1011, 111), (1014, 116), (1016, 115), (4011, 119)] (r * 1000 + i), deep := fun r i => find false [(1015, true)] (r * 1000 + i), frz := fun r i => find false [(1015, true)] (r * 1000 + i) }
/- impl.PeriodOfShaft -/
noncomputable def I22 : Inst := { f := 22, nt := 27, params := [((.ro (.slc (.pair (.int .i16) (.pair (.int .i16) (.pair (.int .i16) (.pair (.slc (.int .i16)) .unit)))))), false), ((.ro (.int .i64)), false)], res := [(.ro (.int .i64)), (.ro (.int .i64))], slots := [.tmp 4, .tmp 5], code := bd Tryz.f22, callee := fun r i => find 0 [(1001, 16), (1003, 116), (1007, 114), (1009, 116), (1011, 115), (4004, 120)] (r * 1000 + i), deep := fun r i => find false [(1010, true)] (r * 1000 + i), frz := fun r i => find false [(1010, true)] (r * 1000 + i) }
/- spec.l04Index -/
noncomputable def I122 : Inst := { f := 122, nt := 10, params := [((.ro (.slc (.pair (.int .i16) (.pair (.int .i16) (.pair (.int .i16) (.pair (.slc (.int .i16)) .unit)))))), false), ((.ro (.int .i64)), false)], res := [(.ro .bool)], slots := [.tmp 4], code := bd Tryz.f122, callee := fun r i => find 0 [(1004, 182)] (r * 1000 + i) }
/- spec.PeriodOfShaft -/
noncomputable def I23 : Inst := { f := 23, nt := 17, params := [((.ro (.slc (.pair (.int .i16) (.pair (.int .i16) (.pair (.int .i16) (.pair (.slc (.int .i16)) .unit)))))), false), ((.ro (.int .i64)), false)], res := [(.ro (.int .i64)), (.ro (.int .i64))], slots := [.tmp 4, .tmp 5], code := bd Tryz.f23, callee := fun r i => find 0 [(1001, 121), (3002, 122), (5003, 123)] (r * 1000 + i) }
/- laws.FnShafts -/
noncomputable def I3 : Inst := { f := 3, nt := 257, params := [((.ro (.slc (.int .u8))), false), ((.ro (.slc (.int .u8))), false)], res := [(.ro .bool)], slots := [.tmp 4], code := bd Tryz.f3, callee := fun r i => find 0 [(1002, 8), (3001, 9), (4001, 11), (4002, 10), (5001, 12), (6001, 13), (7005, 14), (7011, 15), (7016, 16), (11001, 17), (12002, 18), (13004, 18), (14001, 19), (15016, 20), (21003, 21), (22002, 22), (23002, 23)] (r * 1000 + i), loops := fun b => find [] [(2, [.own 5 (.ro (.slc (.pair (.int .i16) (.pair (.int .i16) (.pair (.int .i16) (.pair (.slc (.int .i16)) .unit)))))), .own 10 (.ro (.int .i64)), .own 12 (.ro (.int .i64)), .own 13 (.ro (.slc (.int .i64))), .own 17 (.ro (.slc (.int .i64))), .own 19 (.ro (.int .i64)), .own 20 (.ro (.int .i64)), .own 25 (.ro (.int .i64)), .own 27 (.ro (.int .i64)), .own 28 (.ro (.int .i64))]), (0, [.own 5 (.ro (.slc (.pair (.int .i16) (.pair (.int .i16) (.pair (.int .i16) (.pair (.slc (.int .i16)) .unit)))))), .own 10 (.ro (.int .i64)), .own 12 (.ro (.int .i64)), .own 13 (.ro (.slc (.int .i64))), .own 17 (.ro (.slc (.int .i64))), .own 19 (.ro (.int .i64)), .own 20 (.ro (.int .i64))])] b }
noncomputable def CL : List (Nat × Inst) := [(8, I8), (97, I97), (226, I226), (143, I143), (215, I215), (218, I218), (205, I205), (96, I96), (9, I9), (111, I111), (128, I128), (139, I139), (127, I127), (141, I141), (225, I225), (140, I140), (34, I34), (114, I114), (113, I113), (212, I212), (112, I112), (16, I16), (209, I209), (103, I103), (131, I131), (27, I27), (102, I102), (104, I104), (11, I11), (99, I99), (98, I98), (100, I100), (125, I125), (220, I220), (126, I126), (129, I129), (130, I130), (26, I26), (101, I101), (10, I10), (116, I116), (115, I115), (214, I214), (120, I120), (210, I210), (105, I105), (12, I12), (182, I182), (223, I223), (224, I224), (135, I135), (121, I121), (211, I211), (123, I123), (106, I106), (13, I13), (109, I109), (108, I108), (107, I107), (14, I14), (138, I138), (110, I110), (15, I15), (17, I17), (119, I119), (261, I261), (213, I213), (117, I117), (18, I18), (19, I19), (118, I118), (20, I20), (21, I21), (22, I22), (122, I122), (23, I23), (3, I3)]
noncomputable def C : Nat → Inst := find I8 CL
theorem tsOk : TsOk Tryz.prog T := tsOkB_sound (by kernel_rfl)
theorem ok8 : InstOk Tryz.prog I8 := instOk_of Tryz.func8 (by kernel_rfl) (by kernel_rfl) (by kernel_rfl) (by kernel_rfl)
theorem ok97 : InstOk Tryz.prog I97 := instOk_of Tryz.func97 (by kernel_rfl) (by kernel_rfl) (by kernel_rfl) (by kernel_rfl)
theorem ok226 : InstOk Tryz.prog I226 := instOk_of Tryz.func226 (by kernel_rfl) (by kernel_rfl) (by kernel_rfl) (by kernel_rfl)
theorem ok143 : InstOk Tryz.prog I143 := instOk_of Tryz.func143 (by kernel_rfl) (by kernel_rfl) (by kernel_rfl) (by kernel_rfl)
theorem ok215 : InstOk Tryz.prog I215 := instOk_of Tryz.func215 (by kernel_rfl) (by kernel_rfl) (by kernel_rfl) (by kernel_rfl)
theorem ok218 : InstOk Tryz.prog I218 := instOk_of Tryz.func218 (by kernel_rfl) (by kernel_rfl) (by kernel_rfl) (by kernel_rfl)
theorem ok205 : InstOk Tryz.prog I205 := instOk_of Tryz.func205 (by kernel_rfl) (by kernel_rfl) (by kernel_rfl) (by kernel_rfl)
theorem ok96 : InstOk Tryz.prog I96 := instOk_of Tryz.func96 (by kernel_rfl) (by kernel_rfl) (by kernel_rfl) (by kernel_rfl)
theorem ok9 : InstOk Tryz.prog I9 := instOk_of Tryz.func9 (by kernel_rfl) (by kernel_rfl) (by kernel_rfl) (by kernel_rfl)
theorem ok111 : InstOk Tryz.prog I111 := instOk_of Tryz.func111 (by kernel_rfl) (by kernel_rfl) (by kernel_rfl) (by kernel_rfl)
theorem ok128 : InstOk Tryz.prog I128 := instOk_of Tryz.func128 (by kernel_rfl) (by kernel_rfl) (by kernel_rfl) (by kernel_rfl)
theorem ok139 : InstOk Tryz.prog I139 := instOk_of Tryz.func139 (by kernel_rfl) (by kernel_rfl) (by kernel_rfl) (by kernel_rfl)
theorem ok127 : InstOk Tryz.prog I127 := instOk_of Tryz.func127 (by kernel_rfl) (by kernel_rfl) (by kernel_rfl) (by kernel_rfl)
theorem ok141 : InstOk Tryz.prog I141 := instOk_of Tryz.func141 (by kernel_rfl) (by kernel_rfl) (by kernel_rfl) (by kernel_rfl)
theorem ok225 : InstOk Tryz.prog I225 := instOk_of Tryz.func225 (by kernel_rfl) (by kernel_rfl) (by kernel_rfl) (by kernel_rfl)
theorem ok140 : InstOk Tryz.prog I140 := instOk_of Tryz.func140 (by kernel_rfl) (by kernel_rfl) (by kernel_rfl) (by kernel_rfl)
theorem ok34 : InstOk Tryz.prog I34 := instOk_of Tryz.func34 (by kernel_rfl) (by kernel_rfl) (by kernel_rfl) (by kernel_rfl)
theorem ok114 : InstOk Tryz.prog I114 := instOk_of Tryz.func114 (by kernel_rfl) (by kernel_rfl) (by kernel_rfl) (by kernel_rfl)
theorem ok113 : InstOk Tryz.prog I113 := instOk_of Tryz.func113 (by kernel_rfl) (by kernel_rfl) (by kernel_rfl) (by kernel_rfl)
theorem ok212 : InstOk Tryz.prog I212 := instOk_of Tryz.func212 (by kernel_rfl) (by kernel_rfl) (by kernel_rfl) (by kernel_rfl)
theorem ok112 : InstOk Tryz.prog I112 := instOk_of Tryz.func112 (by kernel_rfl) (by kernel_rfl) (by kernel_rfl) (by kernel_rfl)
theorem ok16 : InstOk Tryz.prog I16 := instOk_of Tryz.func16 (by kernel_rfl) (by kernel_rfl) (by kernel_rfl) (by kernel_rfl)
theorem ok209 : InstOk Tryz.prog I209 := instOk_ext rfl
theorem ok103 : InstOk Tryz.prog I103 := instOk_of Tryz.func103 (by kernel_rfl) (by kernel_rfl) (by kernel_rfl) (by kernel_rfl)
theorem ok131 : InstOk Tryz.prog I131 := instOk_ext rfl
theorem ok27 : InstOk Tryz.prog I27 := instOk_of Tryz.func27 (by kernel_rfl) (by kernel_rfl) (by kernel_rfl) (by kernel_rfl)
theorem ok102 : InstOk Tryz.prog I102 := instOk_ext rfl
theorem ok104 : InstOk Tryz.prog I104 := instOk_ext rfl
theorem ok11 : InstOk Tryz.prog I11 := instOk_of Tryz.func11 (by kernel_rfl) (by kernel_rfl) (by kernel_rfl) (by kernel_rfl)
theorem ok99 : InstOk Tryz.prog I99 := instOk_ext rfl
theorem ok98 : InstOk Tryz.prog I98 := instOk_ext rfl
theorem ok100 : InstOk Tryz.prog I100 := instOk_ext rfl
theorem ok125 : InstOk Tryz.prog I125 := instOk_ext rfl
theorem ok220 : InstOk Tryz.prog I220 := instOk_ext rfl
theorem ok126 : InstOk Tryz.prog I126 := instOk_of Tryz.func126 (by kernel_rfl) (by kernel_rfl) (by kernel_rfl) (by kernel_rfl)
theorem ok129 : InstOk Tryz.prog I129 := instOk_ext rfl
theorem ok130 : InstOk Tryz.prog I130 := instOk_of Tryz.func130 (by kernel_rfl) (by kernel_rfl) (by kernel_rfl) (by kernel_rfl)
theorem ok26 : InstOk Tryz.prog I26 := instOk_of Tryz.func26 (by kernel_rfl) (by kernel_rfl) (by kernel_rfl) (by kernel_rfl)
theorem ok101 : InstOk Tryz.prog I101 := instOk_of Tryz.func101 (by kernel_rfl) (by kernel_rfl) (by kernel_rfl) (by kernel_rfl)
theorem ok10 : InstOk Tryz.prog I10 := instOk_of Tryz.func10 (by kernel_rfl) (by kernel_rfl) (by kernel_rfl) (by kernel_rfl)
theorem ok116 : InstOk Tryz.prog I116 := instOk_of Tryz.func116 (by kernel_rfl) (by kernel_rfl) (by kernel_rfl) (by kernel_rfl)
theorem ok115 : InstOk Tryz.prog I115 := instOk_of Tryz.func115 (by kernel_rfl) (by kernel_rfl) (by kernel_rfl) (by kernel_rfl)
theorem ok214 : InstOk Tryz.prog I214 := instOk_of Tryz.func214 (by kernel_rfl) (by kernel_rfl) (by kernel_rfl) (by kernel_rfl)
theorem ok120 : InstOk Tryz.prog I120 := instOk_of Tryz.func120 (by kernel_rfl) (by kernel_rfl) (by kernel_rfl) (by kernel_rfl)
theorem ok210 : InstOk Tryz.prog I210 := instOk_of Tryz.func210 (by kernel_rfl) (by kernel_rfl) (by kernel_rfl) (by kernel_rfl)
theorem ok105 : InstOk Tryz.prog I105 := instOk_of Tryz.func105 (by kernel_rfl) (by kernel_rfl) (by kernel_rfl) (by kernel_rfl)
theorem ok12 : InstOk Tryz.prog I12 := instOk_of Tryz.func12 (by kernel_rfl) (by kernel_rfl) (by kernel_rfl) (by kernel_rfl)
theorem ok182 : InstOk Tryz.prog I182 := instOk_of Tryz.func182 (by kernel_rfl) (by kernel_rfl) (by kernel_rfl) (by kernel_rfl)
theorem ok223 : InstOk Tryz.prog I223 := instOk_of Tryz.func223 (by kernel_rfl) (by kernel_rfl) (by kernel_rfl) (by kernel_rfl)
theorem ok224 : InstOk Tryz.prog I224 := instOk_of Tryz.func224 (by kernel_rfl) (by kernel_rfl) (by kernel_rfl) (by kernel_rfl)
theorem ok135 : InstOk Tryz.prog I135 := instOk_of Tryz.func135 (by kernel_rfl) (by kernel_rfl) (by kernel_rfl) (by kernel_rfl)
theorem ok121 : InstOk Tryz.prog I121 := instOk_of Tryz.func121 (by kernel_rfl) (by kernel_rfl) (by kernel_rfl) (by kernel_rfl)
theorem ok211 : InstOk Tryz.prog I211 := instOk_of Tryz.func211 (by kernel_rfl) (by kernel_rfl) (by kernel_rfl) (by kernel_rfl)
theorem ok123 : InstOk Tryz.prog I123 := instOk_of Tryz.func123 (by kernel_rfl) (by kernel_rfl) (by kernel_rfl) (by kernel_rfl)
theorem ok106 : InstOk Tryz.prog I106 := instOk_of Tryz.func106 (by kernel_rfl) (by kernel_rfl) (by kernel_rfl) (by kernel_rfl)
theorem ok13 : InstOk Tryz.prog I13 := instOk_of Tryz.func13 (by kernel_rfl) (by kernel_rfl) (by kernel_rfl) (by kernel_rfl)
theorem ok109 : InstOk Tryz.prog I109 := instOk_of Tryz.func109 (by kernel_rfl) (by kernel_rfl) (by kernel_rfl) (by kernel_rfl)
theorem ok108 : InstOk Tryz.prog I108 := instOk_of Tryz.func108 (by kernel_rfl) (by kernel_rfl) (by kernel_rfl) (by kernel_rfl)
theorem ok107 : InstOk Tryz.prog I107 := instOk_of Tryz.func107 (by kernel_rfl) (by kernel_rfl) (by kernel_rfl) (by kernel_rfl)
theorem ok14 : InstOk Tryz.prog I14 := instOk_of Tryz.func14 (by kernel_rfl) (by kernel_rfl) (by kernel_rfl) (by kernel_rfl)
theorem ok138 : InstOk Tryz.prog I138 := instOk_of Tryz.func138 (by kernel_rfl) (by kernel_rfl) (by kernel_rfl) (by kernel_rfl)
theorem ok110 : InstOk Tryz.prog I110 := instOk_of Tryz.func110 (by kernel_rfl) (by kernel_rfl) (by kernel_rfl) (by kernel_rfl)
theorem ok15 : InstOk Tryz.prog I15 := instOk_of Tryz.func15 (by kernel_rfl) (by kernel_rfl) (by kernel_rfl) (by kernel_rfl)
theorem ok17 : InstOk Tryz.prog I17 := instOk_of Tryz.func17 (by kernel_rfl) (by kernel_rfl) (by kernel_rfl) (by kernel_rfl)
theorem ok119 : InstOk Tryz.prog I119 := instOk_of Tryz.func119 (by kernel_rfl) (by kernel_rfl) (by kernel_rfl) (by kernel_rfl)
theorem ok261 : InstOk Tryz.prog I261 := instOk_of Tryz.func261 (by kernel_rfl) (by kernel_rfl) (by kernel_rfl) (by kernel_rfl)
theorem ok213 : InstOk Tryz.prog I213 := instOk_of Tryz.func213 (by kernel_rfl) (by kernel_rfl) (by kernel_rfl) (by kernel_rfl)
theorem ok117 : InstOk Tryz.prog I117 := instOk_of Tryz.func117 (by kernel_rfl) (by kernel_rfl) (by kernel_rfl) (by kernel_rfl)
theorem ok18 : InstOk Tryz.prog I18 := instOk_of Tryz.func18 (by kernel_rfl) (by kernel_rfl) (by kernel_rfl) (by kernel_rfl)
theorem ok19 : InstOk Tryz.prog I19 := instOk_of Tryz.func19 (by kernel_rfl) (by kernel_rfl) (by kernel_rfl) (by kernel_rfl)
theorem ok118 : InstOk Tryz.prog I118 := instOk_of Tryz.func118 (by kernel_rfl) (by kernel_rfl) (by kernel_rfl) (by kernel_rfl)
theorem ok20 : InstOk Tryz.prog I20 := instOk_of Tryz.func20 (by kernel_rfl) (by kernel_rfl) (by kernel_rfl) (by kernel_rfl)
theorem ok21 : InstOk Tryz.prog I21 := instOk_of Tryz.func21 (by kernel_rfl) (by kernel_rfl) (by kernel_rfl) (by kernel_rfl)
theorem ok22 : InstOk Tryz.prog I22 := instOk_of Tryz.func22 (by kernel_rfl) (by kernel_rfl) (by kernel_rfl) (by kernel_rfl)
theorem ok122 : InstOk Tryz.prog I122 := instOk_of Tryz.func122 (by kernel_rfl) (by kernel_rfl) (by kernel_rfl) (by kernel_rfl)
theorem ok23 : InstOk Tryz.prog I23 := instOk_of Tryz.func23 (by kernel_rfl) (by kernel_rfl) (by kernel_rfl) (by kernel_rfl)
theorem ok3 : InstOk Tryz.prog I3 := instOk_of Tryz.func3 (by kernel_rfl) (by kernel_rfl) (by kernel_rfl) (by kernel_rfl)
theorem insts : ∀ j, InstOk Tryz.prog (C j) := find_all ok8 (List.forall_mem_cons.2 ⟨ok8, List.forall_mem_cons.2 ⟨ok97, List.forall_mem_cons.2 ⟨ok226, List.forall_mem_cons.2 ⟨ok143, List.forall_mem_cons.2 ⟨ok215, List.forall_mem_cons.2 ⟨ok218, List.forall_mem_cons.2 ⟨ok205, List.forall_mem_cons.2 ⟨ok96, List.forall_mem_cons.2 ⟨ok9, List.forall_mem_cons.2 ⟨ok111, List.forall_mem_cons.2 ⟨ok128, List.forall_mem_cons.2 ⟨ok139, List.forall_mem_cons.2 ⟨ok127, List.forall_mem_cons.2 ⟨ok141, List.forall_mem_cons.2 ⟨ok225, List.forall_mem_cons.2 ⟨ok140, List.forall_mem_cons.2 ⟨ok34, List.forall_mem_cons.2 ⟨ok114, List.forall_mem_cons.2 ⟨ok113, List.forall_mem_cons.2 ⟨ok212, List.forall_mem_cons.2 ⟨ok112, List.forall_mem_cons.2 ⟨ok16, List.forall_mem_cons.2 ⟨ok209, List.forall_mem_cons.2 ⟨ok103, List.forall_mem_cons.2 ⟨ok131, List.forall_mem_cons.2 ⟨ok27, List.forall_mem_cons.2 ⟨ok102, List.forall_mem_cons.2 ⟨ok104, List.forall_mem_cons.2 ⟨ok11, List.forall_mem_cons.2 ⟨ok99, List.forall_mem_cons.2 ⟨ok98, List.forall_mem_cons.2 ⟨ok100, List.forall_mem_cons.2 ⟨ok125, List.forall_mem_cons.2 ⟨ok220, List.forall_mem_cons.2 ⟨ok126, List.forall_mem_cons.2 ⟨ok129, List.forall_mem_cons.2 ⟨ok130, List.forall_mem_cons.2 ⟨ok26, List.forall_mem_cons.2 ⟨ok101, List.forall_mem_cons.2 ⟨ok10, List.forall_mem_cons.2 ⟨ok116, List.forall_mem_cons.2 ⟨ok115, List.forall_mem_cons.2 ⟨ok214, List.forall_mem_cons.2 ⟨ok120, List.forall_mem_cons.2 ⟨ok210, List.forall_mem_cons.2 ⟨ok105, List.forall_mem_cons.2 ⟨ok12, List.forall_mem_cons.2 ⟨ok182, List.forall_mem_cons.2 ⟨ok223, List.forall_mem_cons.2 ⟨ok224, List.forall_mem_cons.2 ⟨ok135, List.forall_mem_cons.2 ⟨ok121, List.forall_mem_cons.2 ⟨ok211, List.forall_mem_cons.2 ⟨ok123, List.forall_mem_cons.2 ⟨ok106, List.forall_mem_cons.2 ⟨ok13, List.forall_mem_cons.2 ⟨ok109, List.forall_mem_cons.2 ⟨ok108, List.forall_mem_cons.2 ⟨ok107, List.forall_mem_cons.2 ⟨ok14, List.forall_mem_cons.2 ⟨ok138, List.forall_mem_cons.2 ⟨ok110, List.forall_mem_cons.2 ⟨ok15, List.forall_mem_cons.2 ⟨ok17, List.forall_mem_cons.2 ⟨ok119, List.forall_mem_cons.2 ⟨ok261, List.forall_mem_cons.2 ⟨ok213, List.forall_mem_cons.2 ⟨ok117, List.forall_mem_cons.2 ⟨ok18, List.forall_mem_cons.2 ⟨ok19, List.forall_mem_cons.2 ⟨ok118, List.forall_mem_cons.2 ⟨ok20, List.forall_mem_cons.2 ⟨ok21, List.forall_mem_cons.2 ⟨ok22, List.forall_mem_cons.2 ⟨ok122, List.forall_mem_cons.2 ⟨ok23, List.forall_mem_cons.2 ⟨ok3, fun _ h => absurd h List.not_mem_nil⟩⟩⟩⟩⟩⟩⟩⟩⟩⟩⟩⟩⟩⟩⟩⟩⟩⟩⟩⟩⟩⟩⟩⟩⟩⟩⟩⟩⟩⟩⟩⟩⟩⟩⟩⟩⟩⟩⟩⟩⟩⟩⟩⟩⟩⟩⟩⟩⟩⟩⟩⟩⟩⟩⟩⟩⟩⟩⟩⟩⟩⟩⟩⟩⟩⟩⟩⟩⟩⟩⟩⟩⟩⟩⟩⟩⟩)
theorem c209 : C 209 = I209 := by kernel_rfl
theorem c131 : C 131 = I131 := by kernel_rfl
theorem c102 : C 102 = I102 := by kernel_rfl
theorem c104 : C 104 = I104 := by kernel_rfl
theorem c99 : C 99 = I99 := by kernel_rfl
theorem c98 : C 98 = I98 := by kernel_rfl
theorem c100 : C 100 = I100 := by kernel_rfl
theorem c125 : C 125 = I125 := by kernel_rfl
theorem c220 : C 220 = I220 := by kernel_rfl
theorem c129 : C 129 = I129 := by kernel_rfl
theorem exts {L : Laid} (h209 : ExtOk Tryz.prog L I209) (h131 : ExtOk Tryz.prog L I131) (h102 : ExtOk Tryz.prog L I102) (h104 : ExtOk Tryz.prog L I104) (h99 : ExtOk Tryz.prog L I99) (h98 : ExtOk Tryz.prog L I98) (h100 : ExtOk Tryz.prog L I100) (h125 : ExtOk Tryz.prog L I125) (h220 : ExtOk Tryz.prog L I220) (h129 : ExtOk Tryz.prog L I129) : ∀ j, ExtOk Tryz.prog L (C j) := by
  have hC : C = find I8 CL := by delta C; with_reducible rfl
  refine fun j => exts_of (C := C) _ _ [209, 131, 102, 104, 99, 98, 100, 125, 220, 129] hC (by kernel_rfl) (by kernel_rfl) ?_ j
  intro e he
  change ExtOk _ _ (C e)
  simp only [List.mem_cons, List.not_mem_nil, or_false] at he
  rcases he with rfl | rfl | rfl | rfl | rfl | rfl | rfl | rfl | rfl | rfl
  · rw [c209]; exact h209
  · rw [c131]; exact h131
  · rw [c102]; exact h102
  · rw [c104]; exact h104
  · rw [c99]; exact h99
  · rw [c98]; exact h98
  · rw [c100]; exact h100
  · rw [c125]; exact h125
  · rw [c220]; exact h220
  · rw [c129]; exact h129
end Go.Proofs.YtphcammdpmmlpaaGreatDoor.LSh
