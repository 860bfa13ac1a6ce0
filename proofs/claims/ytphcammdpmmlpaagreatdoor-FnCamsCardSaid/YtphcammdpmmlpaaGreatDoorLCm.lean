/- The types and the functions that a law reaches, told for the reading (Fw). Written by a program (gen.py). -/
import Derived.Test.YtphcammdpmmlpaaGreatDoorFwC
import Derived.Test.YtphcammdpmmlpaaGreatDoorProg
import Derived.Lib.TrailingZeros
import Derived.Lib.ItoaNum
import Derived.Lib.Join
import Derived.Lib.Split
import Derived.Lib.ParseIntB
import Derived.Lib.IndexMore
import Derived.Lib.Bytealg
namespace Go.Proofs.YtphcammdpmmlpaaGreatDoor.LCm
open Go Go.Fw
open Go.Proofs
noncomputable def tyL : List (Nat × TI) := [(2, ⟨(.int .i64), 0, 8⟩),
  (3, ⟨(.int .i64), 0, 8⟩),
  (4, ⟨.bool, 0, 1⟩),
  (5, ⟨(.int .u8), 0, 1⟩),
  (9, ⟨.str, 0, 16⟩),
  (22, ⟨(.slc (.int .u8)), 5, 24⟩),
  (34, ⟨(.slc (.int .i64)), 2, 24⟩),
  (41, ⟨(.int .i16), 0, 2⟩),
  (43, ⟨(.slc (.int .i16)), 41, 24⟩),
  (54, ⟨.fn, 0, 8⟩),
  (66, ⟨(.int .u64), 0, 8⟩),
  (122, ⟨(.ptr (.pair (.slc (.int .u8)) (.pair (.int .i64) (.pair (.int .u64) .unit)))), 0, 8⟩),
  (124, ⟨(.slc .str), 9, 24⟩),
  (133, ⟨.err, 0, 16⟩),
  (165, ⟨.fn, 0, 8⟩),
  (223, ⟨(.pair (.slc (.int .u8)) (.pair (.int .i64) (.pair (.int .u64) .unit))), 0, 40⟩),
  (244, ⟨(.slc (.slc (.int .i16))), 43, 24⟩)]
noncomputable def T : Nat → Option TI := findT tyL
/- laws.f6big -/
noncomputable def I24 : Inst := { f := 24, nt := 6, params := [((.ro (.slc (.int .u8))), false)], res := [(.ro .bool)], slots := [.tmp 2], code := bd Tryz.f24 }
/- spec.l00From -/
noncomputable def I97 : Inst := { f := 97, nt := 6, params := [((.ro (.slc (.int .u8))), false)], res := [(.box (.ro (.pair (.slc (.int .u8)) (.pair (.int .i64) (.pair (.int .u64) .unit)))))], slots := [.tmp 2], code := bd Tryz.f97, strict := true }
/- spec.l00Src).next -/
noncomputable def I226 : Inst := { f := 226, nt := 62, params := [((.box (.ro (.pair (.slc (.int .u8)) (.pair (.int .i64) (.pair (.int .u64) .unit))))), true)], res := [(.ro (.int .i64))], slots := [.tmp 2], code := bd Tryz.f226, strict := true, pins := [0] }
/- spec.l00Src).pick -/
noncomputable def I143 : Inst := { f := 143, nt := 20, params := [((.box (.ro (.pair (.slc (.int .u8)) (.pair (.int .i64) (.pair (.int .u64) .unit))))), true), ((.ro (.int .i64)), false)], res := [(.ro (.int .i64))], slots := [.tmp 4], code := bd Tryz.f143, strict := true, callee := fun r i => find 0 [(3001, 226), (5003, 226)] (r * 1000 + i), pins := [0] }
/- spec.l00Src).among -/
noncomputable def I215 : Inst := { f := 215, nt := 12, params := [((.box (.ro (.pair (.slc (.int .u8)) (.pair (.int .i64) (.pair (.int .u64) .unit))))), true), ((.ro (.slc (.int .i64))), false)], res := [(.ro (.int .i64))], slots := [.tmp 4], code := bd Tryz.f215, strict := true, callee := fun r i => find 0 [(1004, 143)] (r * 1000 + i), pins := [0] }
/- spec.l00Min -/
noncomputable def I217 : Inst := { f := 217, nt := 10, params := [((.ro (.int .i64)), false), ((.ro (.int .i64)), false)], res := [(.ro (.int .i64))], slots := [.tmp 4], code := bd Tryz.f217 }
/- spec.l00Max -/
noncomputable def I216 : Inst := { f := 216, nt := 10, params := [((.ro (.int .i64)), false), ((.ro (.int .i64)), false)], res := [(.ro (.int .i64))], slots := [.tmp 4], code := bd Tryz.f216 }
/- spec.l00Src).one -/
noncomputable def I218 : Inst := { f := 218, nt := 9, params := [((.box (.ro (.pair (.slc (.int .u8)) (.pair (.int .i64) (.pair (.int .u64) .unit))))), true), ((.ro (.int .i64)), false)], res := [(.ro .bool)], slots := [.tmp 4], code := bd Tryz.f218, strict := true, callee := fun r i => find 0 [(1002, 143)] (r * 1000 + i), pins := [0] }
/- spec.l01Drawn -/
noncomputable def I124 : Inst := { f := 124, nt := 60, params := [((.box (.ro (.pair (.slc (.int .u8)) (.pair (.int .i64) (.pair (.int .u64) .unit))))), true)], res := [(.ro (.slc (.int .i16)))], slots := [.tmp 2], code := bd Tryz.f124, strict := true, callee := fun r i => find 0 [(1002, 215), (3001, 143), (5001, 143), (6001, 143), (9003, 217), (9004, 216), (11001, 218)] (r * 1000 + i), loops := fun b => find [] [(2, [.own 0 (.box (.ro (.pair (.slc (.int .u8)) (.pair (.int .i64) (.pair (.int .u64) .unit))))), .own 3 (.ro (.int .i64)), .own 4 (.row false (.int .i16)), .own 5 (.ro (.int .i64)), .own 6 (.ro (.int .i64)), .own 7 (.ro (.int .i64))]), (0, [.own 0 (.box (.ro (.pair (.slc (.int .u8)) (.pair (.int .i64) (.pair (.int .u64) .unit))))), .own 3 (.ro (.int .i64)), .own 4 (.row false (.int .i16)), .own 5 (.ro (.int .i64))])] b, pins := [0], deep := fun r i => find false [(1001, true), (2000, true), (10003, true), (10004, true), (14000, true), (14002, true), (14004, true)] (r * 1000 + i), frz := fun r i => find false [(1001, true)] (r * 1000 + i), ice := fun r i => find [] [(12003, [47, 4, 15])] (r * 1000 + i) }
/- spec.P6Cam -/
noncomputable def I25 : Inst := { f := 25, nt := 6, params := [((.ro (.slc (.int .u8))), false)], res := [(.ro (.slc (.int .i16)))], slots := [.tmp 2], code := bd Tryz.f25, strict := true, callee := fun r i => find 0 [(1001, 97), (1002, 124)] (r * 1000 + i) }
/- impl.Cam).steps -/
noncomputable def I128 : Inst := { f := 128, nt := 5, params := [((.ro (.slc (.int .i16))), false)], res := [(.ro (.int .i64))], slots := [.tmp 2], code := bd Tryz.f128 }
/- impl.inRange -/
noncomputable def I111 : Inst := { f := 111, nt := 15, params := [((.ro (.int .i64)), false), ((.ro (.int .i64)), false), ((.ro (.int .i64)), false)], res := [(.ro .bool)], slots := [.tmp 6], code := bd Tryz.f111 }
/- impl.isSteps -/
noncomputable def I139 : Inst := { f := 139, nt := 5, params := [((.ro (.int .i64)), false)], res := [(.ro .bool)], slots := [.tmp 2], code := bd Tryz.f139, callee := fun r i => find 0 [(1001, 111)] (r * 1000 + i) }
/- impl.isLift -/
noncomputable def I127 : Inst := { f := 127, nt := 5, params := [((.ro (.int .i64)), false)], res := [(.ro .bool)], slots := [.tmp 2], code := bd Tryz.f127, callee := fun r i => find 0 [(1001, 111)] (r * 1000 + i) }
/- impl.ValidCam$1 -/
noncomputable def I141 : Inst := { f := 141, nt := 7, params := [((.ro (.int .i16)), false)], res := [(.ro .bool)], slots := [.tmp 2], code := bd Tryz.f141, callee := fun r i => find 0 [(1002, 127)] (r * 1000 + i) }
/- impl.Cam,int16] -/
noncomputable def I225 : Inst := { f := 225, nt := 19, params := [((.ro (.slc (.int .i16))), false), ((.clo 141 (.ro .unit) (.ro .unit)), false)], res := [(.ro (.int .i64))], slots := [.tmp 4], code := bd Tryz.f225, callee := fun r i => find 0 [(4005, 141)] (r * 1000 + i), loops := fun b => find [] [(0, [.own 0 (.ro (.slc (.int .i16))), .own 1 (.clo 141 (.ro .unit) (.ro .unit)), .own 7 (.ro (.int .i64)), .own 8 (.ro (.int .i64))])] b }
/- impl.Cam,int16] -/
noncomputable def I140 : Inst := { f := 140, nt := 9, params := [((.ro (.slc (.int .i16))), false), ((.clo 141 (.ro .unit) (.ro .unit)), false)], res := [(.ro .bool)], slots := [.tmp 4], code := bd Tryz.f140, callee := fun r i => find 0 [(1002, 225)] (r * 1000 + i) }
/- impl.ValidCam -/
noncomputable def I34 : Inst := { f := 34, nt := 11, params := [((.ro (.slc (.int .i16))), false)], res := [(.ro .bool)], slots := [.tmp 2], code := bd Tryz.f34, callee := fun r i => find 0 [(1001, 128), (1002, 139), (1005, 140)] (r * 1000 + i) }
/- strconv.FormatInt: told by its contract -/
noncomputable def I209 : Inst := { f := 209, nt := 0, params := [((.ro (.int .i64)), false), ((.ro (.int .i64)), false)], res := [(.ro .str)], slots := [], code := .skip, ext := some (fun x => if x.2.1 = 10 ∧ -9223372036854775808 ≤ x.1 ∧ x.1 ≤ 9223372036854775807 then some (((⟨(Lib.itoa x.1).toArray⟩ : ByteArray), ()), ()) else none) }
/- impl.decimal -/
noncomputable def I103 : Inst := { f := 103, nt := 5, params := [((.ro (.int .i64)), false)], res := [(.ro .str)], slots := [.tmp 2], code := bd Tryz.f103, callee := fun r i => find 0 [(1001, 209)] (r * 1000 + i) }
/- strings.Join: told by its contract -/
noncomputable def I131 : Inst := { f := 131, nt := 0, params := [((.row false .str), true), ((.ro .str), false)], res := [(.ro .str)], slots := [], code := .skip, ext := some (fun x => if x.1.length ≤ 140737488355328 ∧ (Lib.join (x.1.map fun s => s.data.toList) x.2.1.data.toList).length ≤ 140737488355328 then some (((⟨(Lib.join (x.1.map fun s => s.data.toList) x.2.1.data.toList).toArray⟩ : ByteArray), ()), (x.1, ())) else none) }
/- impl.CamText -/
noncomputable def I27 : Inst := { f := 27, nt := 57, params := [((.ro (.slc (.int .i16))), false)], res := [(.ro .str)], slots := [.tmp 2], code := bd Tryz.f27, callee := fun r i => find 0 [(1001, 34), (9005, 103), (11004, 103), (13001, 131)] (r * 1000 + i), loops := fun b => find [] [(2, [.own 0 (.ro (.slc (.int .i16))), .own 3 (.row false .str), .own 4 (.ro (.int .i64)), .own 5 (.ro (.int .i64))]), (0, [.own 0 (.ro (.slc (.int .i16))), .own 3 (.row false .str), .own 4 (.ro (.int .i64))])] b, deep := fun r i => find false [(3000, true), (12002, true), (12003, true)] (r * 1000 + i) }
/- strings.Split: told by its contract -/
noncomputable def I98 : Inst := { f := 98, nt := 0, params := [((.ro .str), false), ((.ro .str), false)], res := [(.row false .str)], slots := [], code := .skip, ext := some (fun x => if x.1.size < 4294967281 ∧ 1 ≤ x.2.1.size then some ((Lib.splitB x.2.1 0 (Lib.countB x.1 x.2.1) x.1, ()), ()) else none) }
/- strings.Cut: told by its contract -/
noncomputable def I125 : Inst := { f := 125, nt := 0, params := [((.ro .str), false), ((.ro .str), false)], res := [(.ro .str), (.ro .str), (.ro .bool)], slots := [], code := .skip, ext := some (fun x => if x.1.size < 4294967281 then some (((⟨(Lib.cut x.1.data.toList x.2.1.data.toList).1.toArray⟩ : ByteArray), (⟨(Lib.cut x.1.data.toList x.2.1.data.toList).2.1.toArray⟩ : ByteArray), (Lib.cut x.1.data.toList x.2.1.data.toList).2.2, ()), ()) else none) }
/- strconv.ParseInt: told by its contract -/
noncomputable def I220 : Inst := { f := 220, nt := 0, params := [((.ro .str), false), ((.ro (.int .i64)), false), ((.ro (.int .i64)), false)], res := [(.ro (.int .i64)), (.ro .err)], slots := [], code := .skip, ext := some (fun x => if x.1.size ≤ 281474976710656 ∧ x.2.1 = 10 ∧ x.2.2.1 = 64 then (match Lib.parseIntB 64 x.1.data.toList with | .ok v => some ((v, false, ()), ()) | .range => some ((Lib.intSat 64 x.1.data.toList, true, ()), ()) | _ => some (((0 : Int), true, ()), ())) else if x.1.size ≤ 281474976710656 ∧ x.2.1 = 10 ∧ x.2.2.1 = 8 then (match Lib.parseIntB 8 x.1.data.toList with | .ok v => some ((v, false, ()), ()) | .range => some ((Lib.intSat 8 x.1.data.toList, true, ()), ()) | _ => some (((0 : Int), true, ()), ())) else none) }
/- impl.number -/
noncomputable def I126 : Inst := { f := 126, nt := 20, params := [((.ro .str), false)], res := [(.ro (.int .i64)), (.ro .bool)], slots := [.tmp 2, .tmp 3], code := bd Tryz.f126, callee := fun r i => find 0 [(1001, 220), (2005, 103)] (r * 1000 + i) }
/- impl.Cam,int16]: told by its contract -/
noncomputable def I129 : Inst := { f := 129, nt := 0, params := [((.ro (.slc (.int .i16))), false), ((.ro (.int .i64)), false)], res := [(.row false (.int .i16))], slots := [], code := .skip, ext := some (fun x => if x.1.length = 1 ∧ 1 ≤ x.2.1 ∧ x.2.1 ≤ 360 then some ((List.replicate x.2.1.toNat (x.1.headD 0), ()), ()) else none) }
/- impl.Cam,int16] -/
noncomputable def I130 : Inst := { f := 130, nt := 8, params := [((.ro (.slc (.int .i16))), false)], res := [(.row false (.int .i16))], slots := [.tmp 2], code := bd Tryz.f130 }
/- impl.ReadCam -/
noncomputable def I26 : Inst := { f := 26, nt := 70, params := [((.ro .str), false)], res := [(.row false (.int .i16)), (.ro (.int .i64))], slots := [.tmp 2, .tmp 3], code := bd Tryz.f26, callee := fun r i => find 0 [(2001, 98), (5001, 125), (6001, 126), (7001, 126), (10001, 127), (10006, 128), (10008, 111), (12005, 129), (14001, 34), (14005, 27), (16001, 130)] (r * 1000 + i), loops := fun b => find [] [(0, [.own 0 (.ro .str), .own 4 (.row false (.int .i16)), .own 16 (.ro (.slc .str)), .own 17 (.ro (.int .i64)), .own 18 (.ro (.int .i64))])] b, deep := fun r i => find false [(1000, true), (12003, true), (12006, true)] (r * 1000 + i), frz := fun r i => find false [(12003, true)] (r * 1000 + i) }
/- impl.floorDiv -/
noncomputable def I246 : Inst := { f := 246, nt := 16, params := [((.ro (.int .i64)), false), ((.ro (.int .i64)), false)], res := [(.ro (.int .i64))], slots := [.tmp 4], code := bd Tryz.f246 }
/- impl.mod -/
noncomputable def I194 : Inst := { f := 194, nt := 12, params := [((.ro (.int .i64)), false), ((.ro (.int .i64)), false)], res := [(.ro (.int .i64))], slots := [.tmp 4], code := bd Tryz.f194, callee := fun r i => find 0 [(1004, 246)] (r * 1000 + i) }
/- impl.Cam).at -/
noncomputable def I148 : Inst := { f := 148, nt := 13, params := [((.ro (.slc (.int .i16))), false), ((.ro (.int .i64)), false)], res := [(.ro (.int .i64))], slots := [.tmp 4], code := bd Tryz.f148, callee := fun r i => find 0 [(1003, 128), (1004, 194)] (r * 1000 + i) }
/- impl.Cam).change -/
noncomputable def I133 : Inst := { f := 133, nt := 13, params := [((.ro (.slc (.int .i16))), false), ((.ro (.int .i64)), false)], res := [(.ro (.int .i64))], slots := [.tmp 4], code := bd Tryz.f133, callee := fun r i => find 0 [(1003, 148), (1006, 148)] (r * 1000 + i) }
/- impl.Cam).numbers -/
noncomputable def I132 : Inst := { f := 132, nt := 21, params := [((.ro (.slc (.int .i16))), false), ((.clo 133 (.pr (.ro (.slc (.int .i16))) (.ro .unit)) (.ro .unit)), true)], res := [(.row false (.int .i64))], slots := [.tmp 4], code := bd Tryz.f132, strict := true, callee := fun r i => find 0 [(2001, 128), (5003, 133)] (r * 1000 + i), loops := fun b => find [] [(0, [.own 1 (.clo 133 (.pr (.ro (.slc (.int .i16))) (.ro .unit)) (.ro .unit)), .own 5 (.row false (.int .i64)), .own 9 (.ro (.int .i64)), .own 10 (.ro (.int .i64))])] b, pins := [1], deep := fun r i => find false [(1000, true), (5004, true), (5005, true)] (r * 1000 + i) }
/- impl.ChangesOf -/
noncomputable def I28 : Inst := { f := 28, nt := 11, params := [((.ro (.slc (.int .i16))), false)], res := [(.row false (.int .i64)), (.ro (.int .i64))], slots := [.tmp 2, .tmp 3], code := bd Tryz.f28, callee := fun r i => find 0 [(1001, 34), (3003, 132)] (r * 1000 + i) }
/- impl.Cam).bend -/
noncomputable def I134 : Inst := { f := 134, nt := 13, params := [((.ro (.slc (.int .i16))), false), ((.ro (.int .i64)), false)], res := [(.ro (.int .i64))], slots := [.tmp 4], code := bd Tryz.f134, callee := fun r i => find 0 [(1002, 133), (1006, 133)] (r * 1000 + i) }
/- impl.Cam).numbers -/
noncomputable def I1132 : Inst := { f := 132, nt := 21, params := [((.ro (.slc (.int .i16))), false), ((.clo 134 (.pr (.ro (.slc (.int .i16))) (.ro .unit)) (.ro .unit)), true)], res := [(.row false (.int .i64))], slots := [.tmp 4], code := bd Tryz.f132, strict := true, callee := fun r i => find 0 [(2001, 128), (5003, 134)] (r * 1000 + i), loops := fun b => find [] [(0, [.own 1 (.clo 134 (.pr (.ro (.slc (.int .i16))) (.ro .unit)) (.ro .unit)), .own 5 (.row false (.int .i64)), .own 9 (.ro (.int .i64)), .own 10 (.ro (.int .i64))])] b, pins := [1], deep := fun r i => find false [(1000, true), (5004, true), (5005, true)] (r * 1000 + i) }
/- impl.BendsOf -/
noncomputable def I29 : Inst := { f := 29, nt := 11, params := [((.ro (.slc (.int .i16))), false)], res := [(.row false (.int .i64)), (.ro (.int .i64))], slots := [.tmp 2, .tmp 3], code := bd Tryz.f29, callee := fun r i => find 0 [(1001, 34), (3003, 1132)] (r * 1000 + i) }
/- spec.l00In -/
noncomputable def I182 : Inst := { f := 182, nt := 15, params := [((.ro (.int .i64)), false), ((.ro (.int .i64)), false), ((.ro (.int .i64)), false)], res := [(.ro .bool)], slots := [.tmp 6], code := bd Tryz.f182 }
/- spec.l01Steps -/
noncomputable def I223 : Inst := { f := 223, nt := 5, params := [((.ro (.int .i64)), false)], res := [(.ro .bool)], slots := [.tmp 2], code := bd Tryz.f223, callee := fun r i => find 0 [(1001, 182)] (r * 1000 + i) }
/- spec.l01Lift -/
noncomputable def I224 : Inst := { f := 224, nt := 5, params := [((.ro (.int .i64)), false)], res := [(.ro .bool)], slots := [.tmp 2], code := bd Tryz.f224, callee := fun r i => find 0 [(1001, 182)] (r * 1000 + i) }
/- spec.l01Ok -/
noncomputable def I135 : Inst := { f := 135, nt := 21, params := [((.ro (.slc (.int .i16))), false)], res := [(.ro .bool)], slots := [.tmp 2], code := bd Tryz.f135, callee := fun r i => find 0 [(1002, 223), (6005, 224)] (r * 1000 + i), loops := fun b => find [] [(0, [.own 0 (.ro (.slc (.int .i16))), .own 3 (.ro (.int .i64))])] b }
/- spec.l01At -/
noncomputable def I187 : Inst := { f := 187, nt := 19, params := [((.ro (.slc (.int .i16))), false), ((.ro (.int .i64)), false)], res := [(.ro (.int .i64))], slots := [.tmp 4], code := bd Tryz.f187 }
/- spec.l01Changes -/
noncomputable def I136 : Inst := { f := 136, nt := 24, params := [((.ro (.slc (.int .i16))), false)], res := [(.row false (.int .i64))], slots := [.tmp 2], code := bd Tryz.f136, callee := fun r i => find 0 [(5004, 187), (5007, 187)] (r * 1000 + i), loops := fun b => find [] [(0, [.own 0 (.ro (.slc (.int .i16))), .own 3 (.row false (.int .i64)), .own 4 (.ro (.int .i64))])] b, deep := fun r i => find false [(1000, true), (5009, true), (5010, true)] (r * 1000 + i) }
/- spec.ChangesOf -/
noncomputable def I30 : Inst := { f := 30, nt := 10, params := [((.ro (.slc (.int .i16))), false)], res := [(.row false (.int .i64)), (.ro (.int .i64))], slots := [.tmp 2, .tmp 3], code := bd Tryz.f30, callee := fun r i => find 0 [(1001, 135), (3001, 136)] (r * 1000 + i), deep := fun r i => find false [(2000, true)] (r * 1000 + i) }
/- spec.l01Bends -/
noncomputable def I137 : Inst := { f := 137, nt := 30, params := [((.ro (.slc (.int .i16))), false)], res := [(.row false (.int .i64))], slots := [.tmp 2], code := bd Tryz.f137, callee := fun r i => find 0 [(5004, 187), (5007, 187), (5013, 187)] (r * 1000 + i), loops := fun b => find [] [(0, [.own 0 (.ro (.slc (.int .i16))), .own 3 (.row false (.int .i64)), .own 4 (.ro (.int .i64))])] b, deep := fun r i => find false [(1000, true), (5015, true), (5016, true)] (r * 1000 + i) }
/- spec.BendsOf -/
noncomputable def I31 : Inst := { f := 31, nt := 10, params := [((.ro (.slc (.int .i16))), false)], res := [(.row false (.int .i64)), (.ro (.int .i64))], slots := [.tmp 2, .tmp 3], code := bd Tryz.f31, callee := fun r i => find 0 [(1001, 135), (3001, 137)] (r * 1000 + i), deep := fun r i => find false [(2000, true)] (r * 1000 + i) }
/- spec.l01Same -/
noncomputable def I138 : Inst := { f := 138, nt := 26, params := [((.ro (.slc (.int .i16))), false), ((.ro (.slc (.int .i16))), false)], res := [(.ro .bool)], slots := [.tmp 4], code := bd Tryz.f138, loops := fun b => find [] [(0, [.own 0 (.ro (.slc (.int .i16))), .own 1 (.ro (.slc (.int .i16))), .own 5 (.ro (.int .i64))])] b }
/- spec.SameCam -/
noncomputable def I32 : Inst := { f := 32, nt := 8, params := [((.ro (.slc (.int .i16))), false), ((.ro (.slc (.int .i16))), false)], res := [(.ro .bool)], slots := [.tmp 4], code := bd Tryz.f32, callee := fun r i => find 0 [(1002, 138)] (r * 1000 + i) }
/- impl.Cam,int16] -/
noncomputable def I109 : Inst := { f := 109, nt := 26, params := [((.ro (.slc (.int .i16))), false), ((.ro (.slc (.int .i16))), false)], res := [(.ro .bool)], slots := [.tmp 4], code := bd Tryz.f109, loops := fun b => find [] [(0, [.own 0 (.ro (.slc (.int .i16))), .own 1 (.ro (.slc (.int .i16))), .own 12 (.ro (.int .i64)), .own 13 (.ro (.int .i64))])] b }
/- impl.SameCam -/
noncomputable def I33 : Inst := { f := 33, nt := 8, params := [((.ro (.slc (.int .i16))), false), ((.ro (.slc (.int .i16))), false)], res := [(.ro .bool)], slots := [.tmp 4], code := bd Tryz.f33, callee := fun r i => find 0 [(1002, 109)] (r * 1000 + i) }
/- spec.l00Same -/
noncomputable def I118 : Inst := { f := 118, nt := 26, params := [((.ro (.slc (.int .i64))), false), ((.ro (.slc (.int .i64))), false)], res := [(.ro .bool)], slots := [.tmp 4], code := bd Tryz.f118, loops := fun b => find [] [(0, [.own 0 (.ro (.slc (.int .i64))), .own 1 (.ro (.slc (.int .i64))), .own 5 (.ro (.int .i64))])] b }
/- spec.SameNumbers -/
noncomputable def I35 : Inst := { f := 35, nt := 8, params := [((.ro (.slc (.int .i64))), false), ((.ro (.slc (.int .i64))), false)], res := [(.ro .bool)], slots := [.tmp 4], code := bd Tryz.f35, callee := fun r i => find 0 [(1002, 118)] (r * 1000 + i) }
/- laws.f6size -/
noncomputable def I36 : Inst := { f := 36, nt := 7, params := [((.ro (.int .i64)), false)], res := [(.ro (.int .i64))], slots := [.tmp 2], code := bd Tryz.f36 }
/- impl.abs -/
noncomputable def I193 : Inst := { f := 193, nt := 7, params := [((.ro (.int .i64)), false)], res := [(.ro (.int .i64))], slots := [.tmp 2], code := bd Tryz.f193 }
/- impl.greatest -/
noncomputable def I142 : Inst := { f := 142, nt := 25, params := [((.ro (.slc (.int .i64))), false)], res := [(.ro (.int .i64)), (.ro (.int .i64))], slots := [.tmp 2, .tmp 3], code := bd Tryz.f142, callee := fun r i => find 0 [(5001, 193), (6002, 193)] (r * 1000 + i), loops := fun b => find [] [(0, [.own 4 (.ro (.int .i64)), .own 5 (.ro (.int .i64)), .own 8 (.ro (.slc (.int .i64))), .own 9 (.ro (.int .i64)), .own 10 (.ro (.int .i64))])] b }
/- impl.SteepestOf -/
noncomputable def I37 : Inst := { f := 37, nt := 20, params := [((.ro (.slc (.int .i16))), false)], res := [(.ro (.int .i64)), (.ro (.int .i64)), (.ro (.int .i64))], slots := [.tmp 2, .tmp 3, .tmp 4], code := bd Tryz.f37, callee := fun r i => find 0 [(1001, 34), (3003, 132), (3004, 142)] (r * 1000 + i) }
/- impl.RoughestOf -/
noncomputable def I38 : Inst := { f := 38, nt := 20, params := [((.ro (.slc (.int .i16))), false)], res := [(.ro (.int .i64)), (.ro (.int .i64)), (.ro (.int .i64))], slots := [.tmp 2, .tmp 3, .tmp 4], code := bd Tryz.f38, callee := fun r i => find 0 [(1001, 34), (3003, 1132), (3004, 142)] (r * 1000 + i) }
/- spec.P6Pick -/
noncomputable def I39 : Inst := { f := 39, nt := 9, params := [((.ro (.slc (.int .u8))), false), ((.ro (.int .i64)), false)], res := [(.ro (.int .i64))], slots := [.tmp 4], code := bd Tryz.f39, callee := fun r i => find 0 [(1001, 97), (1003, 143)] (r * 1000 + i) }
/- impl.isShift -/
noncomputable def I144 : Inst := { f := 144, nt := 5, params := [((.ro (.int .i64)), false)], res := [(.ro .bool)], slots := [.tmp 2], code := bd Tryz.f144, callee := fun r i => find 0 [(1001, 111)] (r * 1000 + i) }
/- impl.Cam,int16] -/
noncomputable def I233 : Inst := { f := 233, nt := 27, params := [((.nl), false), ((.ro (.int .i64)), false)], res := [(.row false (.int .i16))], slots := [.tmp 4], code := bd Tryz.f233, deep := fun r i => find false [(5003, true), (5008, true)] (r * 1000 + i) }
/- impl.Cam,int16] -/
noncomputable def I163 : Inst := { f := 163, nt := 36, params := [((.ro (.slc (.slc (.int .i16)))), false)], res := [(.row false (.int .i16))], slots := [.tmp 2], code := bd Tryz.f163, callee := fun r i => find 0 [(9001, 233)] (r * 1000 + i), loops := fun b => find [] [(2, [.own 6 (.row false (.int .i16)), .own 25 (.ro (.slc (.slc (.int .i16)))), .own 26 (.ro (.int .i64)), .own 27 (.ro (.int .i64))]), (0, [.own 0 (.ro (.slc (.slc (.int .i16)))), .own 3 (.ro (.int .i64)), .own 9 (.ro (.slc (.slc (.int .i16)))), .own 10 (.ro (.int .i64)), .own 11 (.ro (.int .i64))])] b }
/- impl.Cam).turned -/
noncomputable def I145 : Inst := { f := 145, nt := 18, params := [((.ro (.slc (.int .i16))), false), ((.ro (.int .i64)), false)], res := [(.row false (.int .i16))], slots := [.tmp 4], code := bd Tryz.f145, callee := fun r i => find 0 [(1002, 128), (1003, 194), (2007, 163)] (r * 1000 + i), frz := fun r i => find false [(2006, true)] (r * 1000 + i) }
/- impl.TurnCam -/
noncomputable def I40 : Inst := { f := 40, nt := 17, params := [((.ro (.slc (.int .i16))), false), ((.ro (.int .i64)), false)], res := [(.row false (.int .i16)), (.ro (.int .i64))], slots := [.tmp 4, .tmp 5], code := bd Tryz.f40, callee := fun r i => find 0 [(1001, 34), (3001, 144), (5002, 145)] (r * 1000 + i) }
/- impl.MirrorCam$1 -/
noncomputable def I147 : Inst := { f := 147, nt := 8, params := [((.ro (.int .i64)), false), ((.box (.ro (.slc (.int .i16)))), true)], res := [(.ro (.int .i64))], slots := [.tmp 3], code := bd Tryz.f147, strict := true, callee := fun r i => find 0 [(1003, 148)] (r * 1000 + i), pins := [1] }
/- impl.camOf -/
noncomputable def I146 : Inst := { f := 146, nt := 27, params := [((.ro (.int .i64)), false), ((.clo 147 (.ro .unit) (.pr (.box (.ro (.slc (.int .i16)))) (.ro .unit))), true)], res := [(.row false (.int .i16)), (.ro (.int .i64))], slots := [.tmp 4, .tmp 5], code := bd Tryz.f146, strict := true, callee := fun r i => find 0 [(5002, 147), (6001, 127)] (r * 1000 + i), loops := fun b => find [] [(0, [.own 1 (.clo 147 (.ro .unit) (.pr (.box (.ro (.slc (.int .i16)))) (.ro .unit))), .own 6 (.row false (.int .i16)), .own 10 (.ro (.int .i64)), .own 11 (.ro (.int .i64))])] b, pins := [1], deep := fun r i => find false [(1000, true), (8003, true), (8004, true)] (r * 1000 + i) }
/- impl.MirrorCam -/
noncomputable def I41 : Inst := { f := 41, nt := 13, params := [((.ro (.slc (.int .i16))), false)], res := [(.row false (.int .i16)), (.ro (.int .i64))], slots := [.tmp 2, .tmp 3], code := bd Tryz.f41, callee := fun r i => find 0 [(1001, 34), (3001, 128), (3003, 146)] (r * 1000 + i) }
/- impl.pairCode -/
noncomputable def I149 : Inst := { f := 149, nt := 20, params := [((.ro (.slc (.int .i16))), false), ((.ro (.slc (.int .i16))), false)], res := [(.ro (.int .i64))], slots := [.tmp 4], code := bd Tryz.f149, callee := fun r i => find 0 [(1001, 34), (1005, 34)] (r * 1000 + i) }
/- impl.turnsLike -/
noncomputable def I150 : Inst := { f := 150, nt := 21, params := [((.ro (.slc (.int .i16))), false), ((.ro (.slc (.int .i16))), false), ((.ro (.int .i64)), false)], res := [(.ro (.int .i64))], slots := [.tmp 6], code := bd Tryz.f150, callee := fun r i => find 0 [(2002, 128), (4002, 145), (4004, 109)] (r * 1000 + i), loops := fun b => find [] [(0, [.own 0 (.ro (.slc (.int .i16))), .own 1 (.ro (.slc (.int .i16))), .own 7 (.ro (.int .i64))])] b }
/- impl.TurnsLike -/
noncomputable def I42 : Inst := { f := 42, nt := 20, params := [((.ro (.slc (.int .i16))), false), ((.ro (.slc (.int .i16))), false)], res := [(.ro (.int .i64)), (.ro (.int .i64))], slots := [.tmp 4, .tmp 5], code := bd Tryz.f42, callee := fun r i => find 0 [(1002, 149), (4002, 150)] (r * 1000 + i) }
/- impl.PeriodOf -/
noncomputable def I43 : Inst := { f := 43, nt := 10, params := [((.ro (.slc (.int .i16))), false)], res := [(.ro (.int .i64)), (.ro (.int .i64))], slots := [.tmp 2, .tmp 3], code := bd Tryz.f43, callee := fun r i => find 0 [(1001, 34), (3002, 150)] (r * 1000 + i) }
/- cmp.isNaN[int16] -/
noncomputable def I268 : Inst := { f := 268, nt := 6, params := [((.ro (.int .i16)), false)], res := [(.ro .bool)], slots := [.tmp 2], code := bd Tryz.f268 }
/- cmp.Compare[int16] -/
noncomputable def I227 : Inst := { f := 227, nt := 20, params := [((.ro (.int .i16)), false), ((.ro (.int .i16)), false)], res := [(.ro (.int .i64))], slots := [.tmp 4], code := bd Tryz.f227, callee := fun r i => find 0 [(1001, 268), (2001, 268)] (r * 1000 + i) }
/- impl.Cam,int16] -/
noncomputable def I151 : Inst := { f := 151, nt := 36, params := [((.ro (.slc (.int .i16))), false), ((.ro (.slc (.int .i16))), false)], res := [(.ro (.int .i64))], slots := [.tmp 4], code := bd Tryz.f151, callee := fun r i => find 0 [(7002, 227)] (r * 1000 + i), loops := fun b => find [] [(0, [.own 0 (.ro (.slc (.int .i16))), .own 1 (.ro (.slc (.int .i16))), .own 9 (.ro (.slc (.int .i16))), .own 10 (.ro (.int .i64)), .own 11 (.ro (.int .i64))])] b }
/- impl.LeastTurn -/
noncomputable def I44 : Inst := { f := 44, nt := 28, params := [((.ro (.slc (.int .i16))), false)], res := [(.ro (.int .i64)), (.ro (.int .i64))], slots := [.tmp 2, .tmp 3], code := bd Tryz.f44, callee := fun r i => find 0 [(1001, 34), (5002, 128), (7002, 145), (8002, 151)] (r * 1000 + i), loops := fun b => find [] [(0, [.own 0 (.ro (.slc (.int .i16))), .own 4 (.ro (.slc (.int .i16))), .own 5 (.ro (.int .i64)), .own 6 (.ro (.int .i64))])] b }
/- spec.l01Before -/
noncomputable def I152 : Inst := { f := 152, nt := 32, params := [((.ro (.slc (.int .i16))), false), ((.ro (.int .i64)), false), ((.ro (.int .i64)), false)], res := [(.ro .bool)], slots := [.tmp 6], code := bd Tryz.f152, callee := fun r i => find 0 [(4004, 187), (5004, 187)] (r * 1000 + i), loops := fun b => find [] [(0, [.own 0 (.ro (.slc (.int .i16))), .own 1 (.ro (.int .i64)), .own 2 (.ro (.int .i64)), .own 7 (.ro (.int .i64))])] b }
/- spec.LeastTurn -/
noncomputable def I45 : Inst := { f := 45, nt := 21, params := [((.ro (.slc (.int .i16))), false)], res := [(.ro (.int .i64)), (.ro (.int .i64))], slots := [.tmp 2, .tmp 3], code := bd Tryz.f45, callee := fun r i => find 0 [(1001, 135), (7003, 152)] (r * 1000 + i), loops := fun b => find [] [(0, [.own 0 (.ro (.slc (.int .i16))), .own 4 (.ro (.int .i64)), .own 5 (.ro (.int .i64))])] b }
/- impl.LiftAt -/
noncomputable def I46 : Inst := { f := 46, nt := 17, params := [((.ro (.slc (.int .i16))), false), ((.ro (.int .i64)), false)], res := [(.ro (.int .i64)), (.ro (.int .i64))], slots := [.tmp 4, .tmp 5], code := bd Tryz.f46, callee := fun r i => find 0 [(1001, 34), (3001, 144), (5002, 148)] (r * 1000 + i) }
/- impl.Cam,int16] -/
noncomputable def I153 : Inst := { f := 153, nt := 25, params := [((.ro (.slc (.int .i16))), false)], res := [(.ro (.int .i16))], slots := [.tmp 2], code := bd Tryz.f153, loops := fun b => find [] [(0, [.own 0 (.ro (.slc (.int .i16))), .own 3 (.ro (.int .i16)), .own 4 (.ro (.int .i64))])] b }
/- impl.Cam,int16] -/
noncomputable def I154 : Inst := { f := 154, nt := 25, params := [((.ro (.slc (.int .i16))), false)], res := [(.ro (.int .i16))], slots := [.tmp 2], code := bd Tryz.f154, loops := fun b => find [] [(0, [.own 0 (.ro (.slc (.int .i16))), .own 3 (.ro (.int .i16)), .own 4 (.ro (.int .i64))])] b }
/- impl.RangeOf -/
noncomputable def I47 : Inst := { f := 47, nt := 14, params := [((.ro (.slc (.int .i16))), false)], res := [(.ro (.int .i64)), (.ro (.int .i64)), (.ro (.int .i64))], slots := [.tmp 2, .tmp 3, .tmp 4], code := bd Tryz.f47, callee := fun r i => find 0 [(1001, 34), (3001, 153), (3004, 154)] (r * 1000 + i) }
/- laws.FnCams -/
noncomputable def I4 : Inst := { f := 4, nt := 410, params := [((.ro (.slc (.int .u8))), false), ((.ro (.slc (.int .u8))), false)], res := [(.ro .bool)], slots := [.tmp 4], code := bd Tryz.f4, callee := fun r i => find 0 [(1001, 24), (1004, 24), (3001, 25), (5001, 27), (5002, 26), (6001, 28), (7001, 29), (8001, 30), (9001, 31), (10005, 32), (10011, 33), (10016, 34), (10031, 35), (10046, 35), (21005, 36), (22005, 36), (23001, 37), (24001, 38), (25029, 36), (25056, 36), (27001, 39), (28002, 40), (29003, 40), (30001, 41), (31001, 41), (32002, 42), (33001, 43), (34009, 32), (34023, 32), (36001, 44), (37001, 45), (38001, 46), (39003, 46), (40001, 47)] (r * 1000 + i), loops := fun b => find [] [(0, [.own 1 (.ro (.slc (.int .u8))), .own 5 (.ro (.slc (.int .i16))), .own 6 (.ro (.int .i64)), .own 13 (.ro (.slc (.int .i64))), .own 15 (.ro (.slc (.int .i64))), .own 17 (.ro (.int .i64)), .own 18 (.ro (.int .i64)), .own 19 (.ro (.int .i64)), .own 20 (.ro (.int .i64)), .own 21 (.ro (.int .i64))])] b }
noncomputable def CL : List (Nat × Inst) := [(24, I24), (97, I97), (226, I226), (143, I143), (215, I215), (217, I217), (216, I216), (218, I218), (124, I124), (25, I25), (128, I128), (111, I111), (139, I139), (127, I127), (141, I141), (225, I225), (140, I140), (34, I34), (209, I209), (103, I103), (131, I131), (27, I27), (98, I98), (125, I125), (220, I220), (126, I126), (129, I129), (130, I130), (26, I26), (246, I246), (194, I194), (148, I148), (133, I133), (132, I132), (28, I28), (134, I134), (1132, I1132), (29, I29), (182, I182), (223, I223), (224, I224), (135, I135), (187, I187), (136, I136), (30, I30), (137, I137), (31, I31), (138, I138), (32, I32), (109, I109), (33, I33), (118, I118), (35, I35), (36, I36), (193, I193), (142, I142), (37, I37), (38, I38), (39, I39), (144, I144), (233, I233), (163, I163), (145, I145), (40, I40), (147, I147), (146, I146), (41, I41), (149, I149), (150, I150), (42, I42), (43, I43), (268, I268), (227, I227), (151, I151), (44, I44), (152, I152), (45, I45), (46, I46), (153, I153), (154, I154), (47, I47), (4, I4)]
noncomputable def C : Nat → Inst := find I24 CL
theorem tsOk : TsOk Tryz.prog T := tsOkB_sound (by kernel_rfl)
theorem ok24 : InstOk Tryz.prog I24 := instOk_of Tryz.func24 (by kernel_rfl) (by kernel_rfl) (by kernel_rfl) (by kernel_rfl)
theorem ok97 : InstOk Tryz.prog I97 := instOk_of Tryz.func97 (by kernel_rfl) (by kernel_rfl) (by kernel_rfl) (by kernel_rfl)
theorem ok226 : InstOk Tryz.prog I226 := instOk_of Tryz.func226 (by kernel_rfl) (by kernel_rfl) (by kernel_rfl) (by kernel_rfl)
theorem ok143 : InstOk Tryz.prog I143 := instOk_of Tryz.func143 (by kernel_rfl) (by kernel_rfl) (by kernel_rfl) (by kernel_rfl)
theorem ok215 : InstOk Tryz.prog I215 := instOk_of Tryz.func215 (by kernel_rfl) (by kernel_rfl) (by kernel_rfl) (by kernel_rfl)
theorem ok217 : InstOk Tryz.prog I217 := instOk_of Tryz.func217 (by kernel_rfl) (by kernel_rfl) (by kernel_rfl) (by kernel_rfl)
theorem ok216 : InstOk Tryz.prog I216 := instOk_of Tryz.func216 (by kernel_rfl) (by kernel_rfl) (by kernel_rfl) (by kernel_rfl)
theorem ok218 : InstOk Tryz.prog I218 := instOk_of Tryz.func218 (by kernel_rfl) (by kernel_rfl) (by kernel_rfl) (by kernel_rfl)
theorem ok124 : InstOk Tryz.prog I124 := instOk_of Tryz.func124 (by kernel_rfl) (by kernel_rfl) (by kernel_rfl) (by kernel_rfl)
theorem ok25 : InstOk Tryz.prog I25 := instOk_of Tryz.func25 (by kernel_rfl) (by kernel_rfl) (by kernel_rfl) (by kernel_rfl)
theorem ok128 : InstOk Tryz.prog I128 := instOk_of Tryz.func128 (by kernel_rfl) (by kernel_rfl) (by kernel_rfl) (by kernel_rfl)
theorem ok111 : InstOk Tryz.prog I111 := instOk_of Tryz.func111 (by kernel_rfl) (by kernel_rfl) (by kernel_rfl) (by kernel_rfl)
theorem ok139 : InstOk Tryz.prog I139 := instOk_of Tryz.func139 (by kernel_rfl) (by kernel_rfl) (by kernel_rfl) (by kernel_rfl)
theorem ok127 : InstOk Tryz.prog I127 := instOk_of Tryz.func127 (by kernel_rfl) (by kernel_rfl) (by kernel_rfl) (by kernel_rfl)
theorem ok141 : InstOk Tryz.prog I141 := instOk_of Tryz.func141 (by kernel_rfl) (by kernel_rfl) (by kernel_rfl) (by kernel_rfl)
theorem ok225 : InstOk Tryz.prog I225 := instOk_of Tryz.func225 (by kernel_rfl) (by kernel_rfl) (by kernel_rfl) (by kernel_rfl)
theorem ok140 : InstOk Tryz.prog I140 := instOk_of Tryz.func140 (by kernel_rfl) (by kernel_rfl) (by kernel_rfl) (by kernel_rfl)
theorem ok34 : InstOk Tryz.prog I34 := instOk_of Tryz.func34 (by kernel_rfl) (by kernel_rfl) (by kernel_rfl) (by kernel_rfl)
theorem ok209 : InstOk Tryz.prog I209 := instOk_ext rfl
theorem ok103 : InstOk Tryz.prog I103 := instOk_of Tryz.func103 (by kernel_rfl) (by kernel_rfl) (by kernel_rfl) (by kernel_rfl)
theorem ok131 : InstOk Tryz.prog I131 := instOk_ext rfl
theorem ok27 : InstOk Tryz.prog I27 := instOk_of Tryz.func27 (by kernel_rfl) (by kernel_rfl) (by kernel_rfl) (by kernel_rfl)
theorem ok98 : InstOk Tryz.prog I98 := instOk_ext rfl
theorem ok125 : InstOk Tryz.prog I125 := instOk_ext rfl
theorem ok220 : InstOk Tryz.prog I220 := instOk_ext rfl
theorem ok126 : InstOk Tryz.prog I126 := instOk_of Tryz.func126 (by kernel_rfl) (by kernel_rfl) (by kernel_rfl) (by kernel_rfl)
theorem ok129 : InstOk Tryz.prog I129 := instOk_ext rfl
theorem ok130 : InstOk Tryz.prog I130 := instOk_of Tryz.func130 (by kernel_rfl) (by kernel_rfl) (by kernel_rfl) (by kernel_rfl)
theorem ok26 : InstOk Tryz.prog I26 := instOk_of Tryz.func26 (by kernel_rfl) (by kernel_rfl) (by kernel_rfl) (by kernel_rfl)
theorem ok246 : InstOk Tryz.prog I246 := instOk_of Tryz.func246 (by kernel_rfl) (by kernel_rfl) (by kernel_rfl) (by kernel_rfl)
theorem ok194 : InstOk Tryz.prog I194 := instOk_of Tryz.func194 (by kernel_rfl) (by kernel_rfl) (by kernel_rfl) (by kernel_rfl)
theorem ok148 : InstOk Tryz.prog I148 := instOk_of Tryz.func148 (by kernel_rfl) (by kernel_rfl) (by kernel_rfl) (by kernel_rfl)
theorem ok133 : InstOk Tryz.prog I133 := instOk_of Tryz.func133 (by kernel_rfl) (by kernel_rfl) (by kernel_rfl) (by kernel_rfl)
theorem ok132 : InstOk Tryz.prog I132 := instOk_of Tryz.func132 (by kernel_rfl) (by kernel_rfl) (by kernel_rfl) (by kernel_rfl)
theorem ok28 : InstOk Tryz.prog I28 := instOk_of Tryz.func28 (by kernel_rfl) (by kernel_rfl) (by kernel_rfl) (by kernel_rfl)
theorem ok134 : InstOk Tryz.prog I134 := instOk_of Tryz.func134 (by kernel_rfl) (by kernel_rfl) (by kernel_rfl) (by kernel_rfl)
theorem ok1132 : InstOk Tryz.prog I1132 := instOk_of Tryz.func132 (by kernel_rfl) (by kernel_rfl) (by kernel_rfl) (by kernel_rfl)
theorem ok29 : InstOk Tryz.prog I29 := instOk_of Tryz.func29 (by kernel_rfl) (by kernel_rfl) (by kernel_rfl) (by kernel_rfl)
theorem ok182 : InstOk Tryz.prog I182 := instOk_of Tryz.func182 (by kernel_rfl) (by kernel_rfl) (by kernel_rfl) (by kernel_rfl)
theorem ok223 : InstOk Tryz.prog I223 := instOk_of Tryz.func223 (by kernel_rfl) (by kernel_rfl) (by kernel_rfl) (by kernel_rfl)
theorem ok224 : InstOk Tryz.prog I224 := instOk_of Tryz.func224 (by kernel_rfl) (by kernel_rfl) (by kernel_rfl) (by kernel_rfl)
theorem ok135 : InstOk Tryz.prog I135 := instOk_of Tryz.func135 (by kernel_rfl) (by kernel_rfl) (by kernel_rfl) (by kernel_rfl)
theorem ok187 : InstOk Tryz.prog I187 := instOk_of Tryz.func187 (by kernel_rfl) (by kernel_rfl) (by kernel_rfl) (by kernel_rfl)
theorem ok136 : InstOk Tryz.prog I136 := instOk_of Tryz.func136 (by kernel_rfl) (by kernel_rfl) (by kernel_rfl) (by kernel_rfl)
theorem ok30 : InstOk Tryz.prog I30 := instOk_of Tryz.func30 (by kernel_rfl) (by kernel_rfl) (by kernel_rfl) (by kernel_rfl)
theorem ok137 : InstOk Tryz.prog I137 := instOk_of Tryz.func137 (by kernel_rfl) (by kernel_rfl) (by kernel_rfl) (by kernel_rfl)
theorem ok31 : InstOk Tryz.prog I31 := instOk_of Tryz.func31 (by kernel_rfl) (by kernel_rfl) (by kernel_rfl) (by kernel_rfl)
theorem ok138 : InstOk Tryz.prog I138 := instOk_of Tryz.func138 (by kernel_rfl) (by kernel_rfl) (by kernel_rfl) (by kernel_rfl)
theorem ok32 : InstOk Tryz.prog I32 := instOk_of Tryz.func32 (by kernel_rfl) (by kernel_rfl) (by kernel_rfl) (by kernel_rfl)
theorem ok109 : InstOk Tryz.prog I109 := instOk_of Tryz.func109 (by kernel_rfl) (by kernel_rfl) (by kernel_rfl) (by kernel_rfl)
theorem ok33 : InstOk Tryz.prog I33 := instOk_of Tryz.func33 (by kernel_rfl) (by kernel_rfl) (by kernel_rfl) (by kernel_rfl)
theorem ok118 : InstOk Tryz.prog I118 := instOk_of Tryz.func118 (by kernel_rfl) (by kernel_rfl) (by kernel_rfl) (by kernel_rfl)
theorem ok35 : InstOk Tryz.prog I35 := instOk_of Tryz.func35 (by kernel_rfl) (by kernel_rfl) (by kernel_rfl) (by kernel_rfl)
theorem ok36 : InstOk Tryz.prog I36 := instOk_of Tryz.func36 (by kernel_rfl) (by kernel_rfl) (by kernel_rfl) (by kernel_rfl)
theorem ok193 : InstOk Tryz.prog I193 := instOk_of Tryz.func193 (by kernel_rfl) (by kernel_rfl) (by kernel_rfl) (by kernel_rfl)
theorem ok142 : InstOk Tryz.prog I142 := instOk_of Tryz.func142 (by kernel_rfl) (by kernel_rfl) (by kernel_rfl) (by kernel_rfl)
theorem ok37 : InstOk Tryz.prog I37 := instOk_of Tryz.func37 (by kernel_rfl) (by kernel_rfl) (by kernel_rfl) (by kernel_rfl)
theorem ok38 : InstOk Tryz.prog I38 := instOk_of Tryz.func38 (by kernel_rfl) (by kernel_rfl) (by kernel_rfl) (by kernel_rfl)
theorem ok39 : InstOk Tryz.prog I39 := instOk_of Tryz.func39 (by kernel_rfl) (by kernel_rfl) (by kernel_rfl) (by kernel_rfl)
theorem ok144 : InstOk Tryz.prog I144 := instOk_of Tryz.func144 (by kernel_rfl) (by kernel_rfl) (by kernel_rfl) (by kernel_rfl)
theorem ok233 : InstOk Tryz.prog I233 := instOk_of Tryz.func233 (by kernel_rfl) (by kernel_rfl) (by kernel_rfl) (by kernel_rfl)
theorem ok163 : InstOk Tryz.prog I163 := instOk_of Tryz.func163 (by kernel_rfl) (by kernel_rfl) (by kernel_rfl) (by kernel_rfl)
theorem ok145 : InstOk Tryz.prog I145 := instOk_of Tryz.func145 (by kernel_rfl) (by kernel_rfl) (by kernel_rfl) (by kernel_rfl)
theorem ok40 : InstOk Tryz.prog I40 := instOk_of Tryz.func40 (by kernel_rfl) (by kernel_rfl) (by kernel_rfl) (by kernel_rfl)
theorem ok147 : InstOk Tryz.prog I147 := instOk_of Tryz.func147 (by kernel_rfl) (by kernel_rfl) (by kernel_rfl) (by kernel_rfl)
theorem ok146 : InstOk Tryz.prog I146 := instOk_of Tryz.func146 (by kernel_rfl) (by kernel_rfl) (by kernel_rfl) (by kernel_rfl)
theorem ok41 : InstOk Tryz.prog I41 := instOk_of Tryz.func41 (by kernel_rfl) (by kernel_rfl) (by kernel_rfl) (by kernel_rfl)
theorem ok149 : InstOk Tryz.prog I149 := instOk_of Tryz.func149 (by kernel_rfl) (by kernel_rfl) (by kernel_rfl) (by kernel_rfl)
theorem ok150 : InstOk Tryz.prog I150 := instOk_of Tryz.func150 (by kernel_rfl) (by kernel_rfl) (by kernel_rfl) (by kernel_rfl)
theorem ok42 : InstOk Tryz.prog I42 := instOk_of Tryz.func42 (by kernel_rfl) (by kernel_rfl) (by kernel_rfl) (by kernel_rfl)
theorem ok43 : InstOk Tryz.prog I43 := instOk_of Tryz.func43 (by kernel_rfl) (by kernel_rfl) (by kernel_rfl) (by kernel_rfl)
theorem ok268 : InstOk Tryz.prog I268 := instOk_of Tryz.func268 (by kernel_rfl) (by kernel_rfl) (by kernel_rfl) (by kernel_rfl)
theorem ok227 : InstOk Tryz.prog I227 := instOk_of Tryz.func227 (by kernel_rfl) (by kernel_rfl) (by kernel_rfl) (by kernel_rfl)
theorem ok151 : InstOk Tryz.prog I151 := instOk_of Tryz.func151 (by kernel_rfl) (by kernel_rfl) (by kernel_rfl) (by kernel_rfl)
theorem ok44 : InstOk Tryz.prog I44 := instOk_of Tryz.func44 (by kernel_rfl) (by kernel_rfl) (by kernel_rfl) (by kernel_rfl)
theorem ok152 : InstOk Tryz.prog I152 := instOk_of Tryz.func152 (by kernel_rfl) (by kernel_rfl) (by kernel_rfl) (by kernel_rfl)
theorem ok45 : InstOk Tryz.prog I45 := instOk_of Tryz.func45 (by kernel_rfl) (by kernel_rfl) (by kernel_rfl) (by kernel_rfl)
theorem ok46 : InstOk Tryz.prog I46 := instOk_of Tryz.func46 (by kernel_rfl) (by kernel_rfl) (by kernel_rfl) (by kernel_rfl)
theorem ok153 : InstOk Tryz.prog I153 := instOk_of Tryz.func153 (by kernel_rfl) (by kernel_rfl) (by kernel_rfl) (by kernel_rfl)
theorem ok154 : InstOk Tryz.prog I154 := instOk_of Tryz.func154 (by kernel_rfl) (by kernel_rfl) (by kernel_rfl) (by kernel_rfl)
theorem ok47 : InstOk Tryz.prog I47 := instOk_of Tryz.func47 (by kernel_rfl) (by kernel_rfl) (by kernel_rfl) (by kernel_rfl)
theorem ok4 : InstOk Tryz.prog I4 := instOk_of Tryz.func4 (by kernel_rfl) (by kernel_rfl) (by kernel_rfl) (by kernel_rfl)
theorem insts : ∀ j, InstOk Tryz.prog (C j) := find_all ok24 (List.forall_mem_cons.2 ⟨ok24, List.forall_mem_cons.2 ⟨ok97, List.forall_mem_cons.2 ⟨ok226, List.forall_mem_cons.2 ⟨ok143, List.forall_mem_cons.2 ⟨ok215, List.forall_mem_cons.2 ⟨ok217, List.forall_mem_cons.2 ⟨ok216, List.forall_mem_cons.2 ⟨ok218, List.forall_mem_cons.2 ⟨ok124, List.forall_mem_cons.2 ⟨ok25, List.forall_mem_cons.2 ⟨ok128, List.forall_mem_cons.2 ⟨ok111, List.forall_mem_cons.2 ⟨ok139, List.forall_mem_cons.2 ⟨ok127, List.forall_mem_cons.2 ⟨ok141, List.forall_mem_cons.2 ⟨ok225, List.forall_mem_cons.2 ⟨ok140, List.forall_mem_cons.2 ⟨ok34, List.forall_mem_cons.2 ⟨ok209, List.forall_mem_cons.2 ⟨ok103, List.forall_mem_cons.2 ⟨ok131, List.forall_mem_cons.2 ⟨ok27, List.forall_mem_cons.2 ⟨ok98, List.forall_mem_cons.2 ⟨ok125, List.forall_mem_cons.2 ⟨ok220, List.forall_mem_cons.2 ⟨ok126, List.forall_mem_cons.2 ⟨ok129, List.forall_mem_cons.2 ⟨ok130, List.forall_mem_cons.2 ⟨ok26, List.forall_mem_cons.2 ⟨ok246, List.forall_mem_cons.2 ⟨ok194, List.forall_mem_cons.2 ⟨ok148, List.forall_mem_cons.2 ⟨ok133, List.forall_mem_cons.2 ⟨ok132, List.forall_mem_cons.2 ⟨ok28, List.forall_mem_cons.2 ⟨ok134, List.forall_mem_cons.2 ⟨ok1132, List.forall_mem_cons.2 ⟨ok29, List.forall_mem_cons.2 ⟨ok182, List.forall_mem_cons.2 ⟨ok223, List.forall_mem_cons.2 ⟨ok224, List.forall_mem_cons.2 ⟨ok135, List.forall_mem_cons.2 ⟨ok187, List.forall_mem_cons.2 ⟨ok136, List.forall_mem_cons.2 ⟨ok30, List.forall_mem_cons.2 ⟨ok137, List.forall_mem_cons.2 ⟨ok31, List.forall_mem_cons.2 ⟨ok138, List.forall_mem_cons.2 ⟨ok32, List.forall_mem_cons.2 ⟨ok109, List.forall_mem_cons.2 ⟨ok33, List.forall_mem_cons.2 ⟨ok118, List.forall_mem_cons.2 ⟨ok35, List.forall_mem_cons.2 ⟨ok36, List.forall_mem_cons.2 ⟨ok193, List.forall_mem_cons.2 ⟨ok142, List.forall_mem_cons.2 ⟨ok37, List.forall_mem_cons.2 ⟨ok38, List.forall_mem_cons.2 ⟨ok39, List.forall_mem_cons.2 ⟨ok144, List.forall_mem_cons.2 ⟨ok233, List.forall_mem_cons.2 ⟨ok163, List.forall_mem_cons.2 ⟨ok145, List.forall_mem_cons.2 ⟨ok40, List.forall_mem_cons.2 ⟨ok147, List.forall_mem_cons.2 ⟨ok146, List.forall_mem_cons.2 ⟨ok41, List.forall_mem_cons.2 ⟨ok149, List.forall_mem_cons.2 ⟨ok150, List.forall_mem_cons.2 ⟨ok42, List.forall_mem_cons.2 ⟨ok43, List.forall_mem_cons.2 ⟨ok268, List.forall_mem_cons.2 ⟨ok227, List.forall_mem_cons.2 ⟨ok151, List.forall_mem_cons.2 ⟨ok44, List.forall_mem_cons.2 ⟨ok152, List.forall_mem_cons.2 ⟨ok45, List.forall_mem_cons.2 ⟨ok46, List.forall_mem_cons.2 ⟨ok153, List.forall_mem_cons.2 ⟨ok154, List.forall_mem_cons.2 ⟨ok47, List.forall_mem_cons.2 ⟨ok4, fun _ h => absurd h List.not_mem_nil⟩⟩⟩⟩⟩⟩⟩⟩⟩⟩⟩⟩⟩⟩⟩⟩⟩⟩⟩⟩⟩⟩⟩⟩⟩⟩⟩⟩⟩⟩⟩⟩⟩⟩⟩⟩⟩⟩⟩⟩⟩⟩⟩⟩⟩⟩⟩⟩⟩⟩⟩⟩⟩⟩⟩⟩⟩⟩⟩⟩⟩⟩⟩⟩⟩⟩⟩⟩⟩⟩⟩⟩⟩⟩⟩⟩⟩⟩⟩⟩⟩⟩)
theorem c209 : C 209 = I209 := by kernel_rfl
theorem c131 : C 131 = I131 := by kernel_rfl
theorem c98 : C 98 = I98 := by kernel_rfl
theorem c125 : C 125 = I125 := by kernel_rfl
theorem c220 : C 220 = I220 := by kernel_rfl
theorem c129 : C 129 = I129 := by kernel_rfl
theorem exts {L : Laid} (h209 : ExtOk Tryz.prog L I209) (h131 : ExtOk Tryz.prog L I131) (h98 : ExtOk Tryz.prog L I98) (h125 : ExtOk Tryz.prog L I125) (h220 : ExtOk Tryz.prog L I220) (h129 : ExtOk Tryz.prog L I129) : ∀ j, ExtOk Tryz.prog L (C j) := by
  have hC : C = find I24 CL := by delta C; with_reducible rfl
  refine fun j => exts_of (C := C) _ _ [209, 131, 98, 125, 220, 129] hC (by kernel_rfl) (by kernel_rfl) ?_ j
  intro e he
  change ExtOk _ _ (C e)
  simp only [List.mem_cons, List.not_mem_nil, or_false] at he
  rcases he with rfl | rfl | rfl | rfl | rfl | rfl
  · rw [c209]; exact h209
  · rw [c131]; exact h131
  · rw [c98]; exact h98
  · rw [c125]; exact h125
  · rw [c220]; exact h220
  · rw [c129]; exact h129
end Go.Proofs.YtphcammdpmmlpaaGreatDoor.LCm
