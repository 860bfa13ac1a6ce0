/- The types and the functions that a law reaches, told for the reading (Fw). Written by a program (gen.py). -/
import Derived.Test.YtipjblnjaicbfaaGreatDoorFwC
import Derived.Test.YtipjblnjaicbfaaGreatDoorPuAll
import Derived.Test.YtipjblnjaicbfaaGreatDoorProg
import Derived.Lib.TrailingZeros
import Derived.Lib.ItoaNum
import Derived.Lib.Join
import Derived.Lib.Split
import Derived.Lib.ParseIntB
import Derived.Lib.IndexMore
import Derived.Lib.Bytealg
namespace Go.Proofs.YtipjblnjaicbfaaGreatDoor.LPg
open Go Go.Fw
open Go.Proofs
noncomputable def tyL : List (Nat × TI) := [(2, ⟨(.int .i64), 0, 8⟩),
  (3, ⟨(.int .i64), 0, 8⟩),
  (4, ⟨.bool, 0, 1⟩),
  (5, ⟨(.int .u8), 0, 1⟩),
  (9, ⟨.str, 0, 16⟩),
  (22, ⟨(.slc (.int .u8)), 5, 24⟩),
  (25, ⟨(.slc (.int .i16)), 40, 24⟩),
  (29, ⟨(.int .u64), 0, 8⟩),
  (40, ⟨(.int .i16), 0, 2⟩),
  (58, ⟨(.slc (.pair (.int .i8) (.pair (.int .i16) (.pair (.int .i16) .unit)))), 77, 24⟩),
  (60, ⟨(.pair (.int .i16) (.pair (.slc (.pair (.int .i8) (.pair (.int .i16) (.pair (.int .i16) .unit)))) .unit)), 0, 32⟩),
  (75, ⟨(.int .i8), 0, 1⟩),
  (77, ⟨(.pair (.int .i8) (.pair (.int .i16) (.pair (.int .i16) .unit))), 0, 6⟩),
  (86, ⟨(.slc (.int .i64)), 2, 24⟩),
  (100, ⟨(.ptr (.pair (.slc (.int .u8)) (.pair (.int .i64) (.pair (.int .u64) .unit)))), 0, 8⟩),
  (111, ⟨.fn, 0, 8⟩),
  (123, ⟨(.slc .str), 9, 24⟩),
  (136, ⟨.err, 0, 16⟩),
  (144, ⟨(.ptr (.pair (.int .i16) (.pair (.slc (.pair (.int .i8) (.pair (.int .i16) (.pair (.int .i16) .unit)))) .unit))), 0, 8⟩),
  (155, ⟨.fn, 0, 8⟩),
  (157, ⟨.fn, 0, 8⟩),
  (187, ⟨(.pair (.slc (.int .u8)) (.pair (.int .i64) (.pair (.int .u64) .unit))), 0, 40⟩),
  (214, ⟨(.slc (.slc (.pair (.int .i8) (.pair (.int .i16) (.pair (.int .i16) .unit))))), 58, 24⟩)]
noncomputable def T : Nat → Option TI := findT tyL
/- laws.a2Long -/
noncomputable def I28 : Inst := { f := 28, nt := 13, params := [((.ro (.slc (.int .u8))), false), ((.ro (.slc (.int .u8))), false)], res := [(.ro .bool)], slots := [.tmp 4], code := bd Tryz.f28 }
/- spec.l00From -/
noncomputable def I63 : Inst := { f := 63, nt := 6, params := [((.ro (.slc (.int .u8))), false)], res := [(.box (.ro (.pair (.slc (.int .u8)) (.pair (.int .i64) (.pair (.int .u64) .unit)))))], slots := [.tmp 2], code := bd Tryz.f63, strict := true }
/- spec.l00Src).next -/
noncomputable def I157 : Inst := { f := 157, nt := 62, params := [((.box (.ro (.pair (.slc (.int .u8)) (.pair (.int .i64) (.pair (.int .u64) .unit))))), true)], res := [(.ro (.int .i64))], slots := [.tmp 2], code := bd Tryz.f157, strict := true, pins := [0] }
/- spec.l00Src).pick -/
noncomputable def I72 : Inst := { f := 72, nt := 20, params := [((.box (.ro (.pair (.slc (.int .u8)) (.pair (.int .i64) (.pair (.int .u64) .unit))))), true), ((.ro (.int .i64)), false)], res := [(.ro (.int .i64))], slots := [.tmp 4], code := bd Tryz.f72, strict := true, callee := fun r i => find 0 [(3001, 157), (5003, 157)] (r * 1000 + i), pins := [0] }
/- spec.l00Src).one -/
noncomputable def I151 : Inst := { f := 151, nt := 9, params := [((.box (.ro (.pair (.slc (.int .u8)) (.pair (.int .i64) (.pair (.int .u64) .unit))))), true), ((.ro (.int .i64)), false)], res := [(.ro .bool)], slots := [.tmp 4], code := bd Tryz.f151, strict := true, callee := fun r i => find 0 [(1002, 72)] (r * 1000 + i), pins := [0] }
/- spec.l02Drawn -/
noncomputable def I96 : Inst := { f := 96, nt := 84, params := [((.box (.ro (.pair (.slc (.int .u8)) (.pair (.int .i64) (.pair (.int .u64) .unit))))), true)], res := [(.pr (.ro (.int .i16)) (.pr (.row false (.pair (.int .i8) (.pair (.int .i16) (.pair (.int .i16) .unit)))) (.ro .unit)))], slots := [.cell 2 60], code := bd Tryz.f96, strict := true, callee := fun r i => find 0 [(1001, 72), (3001, 72), (6001, 72), (6004, 72), (6008, 72), (7001, 151)] (r * 1000 + i), loops := fun b => find [] [(0, [.own 0 (.box (.ro (.pair (.slc (.int .u8)) (.pair (.int .i64) (.pair (.int .u64) .unit))))), .own 2 (.box (.ro (.pair (.int .i16) (.pair (.slc (.pair (.int .i8) (.pair (.int .i16) (.pair (.int .i16) .unit)))) .unit)))), .own 3 (.box (.pr (.ro (.int .i16)) (.pr (.row false (.pair (.int .i8) (.pair (.int .i16) (.pair (.int .i16) .unit)))) (.ro .unit)))), .own 4 (.ro (.int .i64)), .own 5 (.ro (.int .i64))])] b, pins := [0], deep := fun r i => find false [(10003, true), (10004, true)] (r * 1000 + i) }
/- spec.A2Program -/
noncomputable def I29 : Inst := { f := 29, nt := 6, params := [((.ro (.slc (.int .u8))), false)], res := [(.ro (.pair (.int .i16) (.pair (.slc (.pair (.int .i8) (.pair (.int .i16) (.pair (.int .i16) .unit)))) .unit)))], slots := [.cell 2 60], code := bd Tryz.f29, strict := true, callee := fun r i => find 0 [(1001, 63), (1002, 96)] (r * 1000 + i) }
/- impl.inRange -/
noncomputable def I103 : Inst := { f := 103, nt := 15, params := [((.ro (.int .i64)), false), ((.ro (.int .i64)), false), ((.ro (.int .i64)), false)], res := [(.ro .bool)], slots := [.tmp 6], code := bd Tryz.f103 }
/- impl.isLift -/
noncomputable def I102 : Inst := { f := 102, nt := 5, params := [((.ro (.int .i64)), false)], res := [(.ro .bool)], slots := [.tmp 2], code := bd Tryz.f102, callee := fun r i => find 0 [(1001, 103)] (r * 1000 + i) }
/- impl.isLaw -/
noncomputable def I111 : Inst := { f := 111, nt := 5, params := [((.ro (.int .i64)), false)], res := [(.ro .bool)], slots := [.tmp 2], code := bd Tryz.f111, callee := fun r i => find 0 [(1001, 103)] (r * 1000 + i) }
/- impl.ValidProgram$1 -/
noncomputable def I110 : Inst := { f := 110, nt := 20, params := [((.ro (.pair (.int .i8) (.pair (.int .i16) (.pair (.int .i16) .unit)))), false)], res := [(.ro .bool)], slots := [.tmp 2], code := bd Tryz.f110, callee := fun r i => find 0 [(1003, 111), (1014, 102)] (r * 1000 + i) }
/- impl.Motion] -/
noncomputable def I180 : Inst := { f := 180, nt := 19, params := [((.ro (.slc (.pair (.int .i8) (.pair (.int .i16) (.pair (.int .i16) .unit))))), false), ((.clo 110 (.ro .unit) (.ro .unit)), false)], res := [(.ro (.int .i64))], slots := [.tmp 4], code := bd Tryz.f180, callee := fun r i => find 0 [(4005, 110)] (r * 1000 + i), loops := fun b => find [] [(0, [.own 0 (.ro (.slc (.pair (.int .i8) (.pair (.int .i16) (.pair (.int .i16) .unit))))), .own 1 (.clo 110 (.ro .unit) (.ro .unit)), .own 7 (.ro (.int .i64)), .own 8 (.ro (.int .i64))])] b }
/- impl.Motion] -/
noncomputable def I109 : Inst := { f := 109, nt := 9, params := [((.ro (.slc (.pair (.int .i8) (.pair (.int .i16) (.pair (.int .i16) .unit))))), false), ((.clo 110 (.ro .unit) (.ro .unit)), false)], res := [(.ro .bool)], slots := [.tmp 4], code := bd Tryz.f109, callee := fun r i => find 0 [(1002, 180)] (r * 1000 + i) }
/- impl.Program).steps -/
noncomputable def I100 : Inst := { f := 100, nt := 20, params := [((.ro (.pair (.int .i16) (.pair (.slc (.pair (.int .i8) (.pair (.int .i16) (.pair (.int .i16) .unit)))) .unit))), false)], res := [(.ro (.int .i64))], slots := [.tmp 2], code := bd Tryz.f100, loops := fun b => find [] [(0, [.own 3 (.ro (.int .i64)), .own 7 (.ro (.slc (.pair (.int .i8) (.pair (.int .i16) (.pair (.int .i16) .unit))))), .own 8 (.ro (.int .i64)), .own 9 (.ro (.int .i64))])] b }
/- impl.isSteps -/
noncomputable def I112 : Inst := { f := 112, nt := 5, params := [((.ro (.int .i64)), false)], res := [(.ro .bool)], slots := [.tmp 2], code := bd Tryz.f112, callee := fun r i => find 0 [(1001, 103)] (r * 1000 + i) }
/- impl.ValidProgram -/
noncomputable def I38 : Inst := { f := 38, nt := 40, params := [((.ro (.pair (.int .i16) (.pair (.slc (.pair (.int .i8) (.pair (.int .i16) (.pair (.int .i16) .unit)))) .unit))), false)], res := [(.ro .bool)], slots := [.tmp 2], code := bd Tryz.f38, callee := fun r i => find 0 [(1003, 103), (1009, 102), (3002, 109), (4004, 100), (4005, 112)] (r * 1000 + i) }
/- impl.shape -/
noncomputable def I182 : Inst := { f := 182, nt := 90, params := [((.ro (.int .i64)), false), ((.ro (.int .i64)), false), ((.ro (.int .i64)), false)], res := [(.ro (.int .i64)), (.ro (.int .i64))], slots := [.tmp 6, .tmp 7], code := bd Tryz.f182 }
/- impl.floorDiv -/
noncomputable def I187 : Inst := { f := 187, nt := 16, params := [((.ro (.int .i64)), false), ((.ro (.int .i64)), false)], res := [(.ro (.int .i64))], slots := [.tmp 4], code := bd Tryz.f187 }
/- impl.nearest -/
noncomputable def I183 : Inst := { f := 183, nt := 12, params := [((.ro (.int .i64)), false), ((.ro (.int .i64)), false)], res := [(.ro (.int .i64))], slots := [.tmp 4], code := bd Tryz.f183, callee := fun r i => find 0 [(1006, 187)] (r * 1000 + i) }
/- impl.liftIn -/
noncomputable def I119 : Inst := { f := 119, nt := 31, params := [((.ro (.int .i64)), false), ((.ro (.int .i64)), false), ((.ro (.int .i64)), false), ((.ro (.int .i64)), false), ((.ro (.int .i64)), false)], res := [(.ro (.int .i64))], slots := [.tmp 10], code := bd Tryz.f119, callee := fun r i => find 0 [(1003, 182), (2010, 183)] (r * 1000 + i) }
/- impl.Program).profile -/
noncomputable def I97 : Inst := { f := 97, nt := 47, params := [((.ro (.pair (.int .i16) (.pair (.slc (.pair (.int .i8) (.pair (.int .i16) (.pair (.int .i16) .unit)))) .unit))), false)], res := [(.row false (.int .i16))], slots := [.tmp 2], code := bd Tryz.f97, callee := fun r i => find 0 [(8012, 119)] (r * 1000 + i), loops := fun b => find [] [(2, [.own 3 (.row false (.int .i16)), .own 4 (.ro (.int .i64)), .own 6 (.box (.ro (.pair (.int .i8) (.pair (.int .i16) (.pair (.int .i16) .unit))))), .own 13 (.ro (.slc (.pair (.int .i8) (.pair (.int .i16) (.pair (.int .i16) .unit))))), .own 14 (.ro (.int .i64)), .own 15 (.ro (.int .i64)), .own 21 (.ro (.int .i64)), .own 22 (.ro (.int .i64))]), (0, [.own 3 (.row false (.int .i16)), .own 4 (.ro (.int .i64)), .own 13 (.ro (.slc (.pair (.int .i8) (.pair (.int .i16) (.pair (.int .i16) .unit))))), .own 14 (.ro (.int .i64)), .own 15 (.ro (.int .i64))])] b, deep := fun r i => find false [(1000, true), (8014, true), (8015, true)] (r * 1000 + i) }
/- impl.MakeProfile -/
noncomputable def I30 : Inst := { f := 30, nt := 9, params := [((.ro (.pair (.int .i16) (.pair (.slc (.pair (.int .i8) (.pair (.int .i16) (.pair (.int .i16) .unit)))) .unit))), false)], res := [(.row false (.int .i16)), (.ro (.int .i64))], slots := [.tmp 2, .tmp 3], code := bd Tryz.f30, callee := fun r i => find 0 [(1001, 38), (3001, 97)] (r * 1000 + i) }
/- spec.l00In -/
noncomputable def I116 : Inst := { f := 116, nt := 15, params := [((.ro (.int .i64)), false), ((.ro (.int .i64)), false), ((.ro (.int .i64)), false)], res := [(.ro .bool)], slots := [.tmp 6], code := bd Tryz.f116 }
/- spec.l01Lift -/
noncomputable def I172 : Inst := { f := 172, nt := 5, params := [((.ro (.int .i64)), false)], res := [(.ro .bool)], slots := [.tmp 2], code := bd Tryz.f172, callee := fun r i => find 0 [(1001, 116)] (r * 1000 + i) }
/- spec.l02Law -/
noncomputable def I173 : Inst := { f := 173, nt := 5, params := [((.ro (.int .i64)), false)], res := [(.ro .bool)], slots := [.tmp 2], code := bd Tryz.f173, callee := fun r i => find 0 [(1001, 116)] (r * 1000 + i) }
/- spec.l01Steps -/
noncomputable def I174 : Inst := { f := 174, nt := 5, params := [((.ro (.int .i64)), false)], res := [(.ro .bool)], slots := [.tmp 2], code := bd Tryz.f174, callee := fun r i => find 0 [(1001, 116)] (r * 1000 + i) }
/- spec.l02Ok -/
noncomputable def I98 : Inst := { f := 98, nt := 83, params := [((.ro (.ptr (.pair (.int .i16) (.pair (.slc (.pair (.int .i8) (.pair (.int .i16) (.pair (.int .i16) .unit)))) .unit)))), false)], res := [(.ro .bool)], slots := [.tmp 2], code := bd Tryz.f98, callee := fun r i => find 0 [(2001, 116), (2009, 172), (9005, 173), (9020, 172), (12001, 174)] (r * 1000 + i), loops := fun b => find [] [(0, [.own 0 (.ro (.ptr (.pair (.int .i16) (.pair (.slc (.pair (.int .i8) (.pair (.int .i16) (.pair (.int .i16) .unit)))) .unit)))), .own 3 (.ro (.int .i64)), .own 4 (.ro (.int .i64)), .own 5 (.ro (.int .i64))])] b }
/- spec.l02Shape -/
noncomputable def I211 : Inst := { f := 211, nt := 90, params := [((.ro (.int .i64)), false), ((.ro (.int .i64)), false), ((.ro (.int .i64)), false)], res := [(.ro (.int .i64)), (.ro (.int .i64))], slots := [.tmp 6, .tmp 7], code := bd Tryz.f211 }
/- spec.l01Near -/
noncomputable def I212 : Inst := { f := 212, nt := 23, params := [((.ro (.int .i64)), false), ((.ro (.int .i64)), false)], res := [(.ro (.int .i64))], slots := [.tmp 4], code := bd Tryz.f212 }
/- spec.l02Lift -/
noncomputable def I175 : Inst := { f := 175, nt := 31, params := [((.ro (.int .i64)), false), ((.ro (.int .i64)), false), ((.ro (.int .i64)), false), ((.ro (.int .i64)), false), ((.ro (.int .i64)), false)], res := [(.ro (.int .i64))], slots := [.tmp 10], code := bd Tryz.f175, callee := fun r i => find 0 [(1003, 211), (2010, 212)] (r * 1000 + i) }
/- spec.l02Make -/
noncomputable def I99 : Inst := { f := 99, nt := 66, params := [((.ro (.ptr (.pair (.int .i16) (.pair (.slc (.pair (.int .i8) (.pair (.int .i16) (.pair (.int .i16) .unit)))) .unit)))), false)], res := [(.row false (.int .i16))], slots := [.tmp 2], code := bd Tryz.f99, callee := fun r i => find 0 [(10018, 175)] (r * 1000 + i), loops := fun b => find [] [(2, [.own 0 (.ro (.ptr (.pair (.int .i16) (.pair (.slc (.pair (.int .i8) (.pair (.int .i16) (.pair (.int .i16) .unit)))) .unit)))), .own 3 (.row false (.int .i16)), .own 4 (.ro (.int .i64)), .own 5 (.ro (.int .i64)), .own 6 (.ro (.ptr (.pair (.int .i8) (.pair (.int .i16) (.pair (.int .i16) .unit))))), .own 7 (.ro (.int .i64))]), (0, [.own 0 (.ro (.ptr (.pair (.int .i16) (.pair (.slc (.pair (.int .i8) (.pair (.int .i16) (.pair (.int .i16) .unit)))) .unit)))), .own 3 (.row false (.int .i16)), .own 4 (.ro (.int .i64)), .own 5 (.ro (.int .i64))])] b, deep := fun r i => find false [(1000, true), (10020, true), (10021, true)] (r * 1000 + i) }
/- spec.MakeProfile -/
noncomputable def I31 : Inst := { f := 31, nt := 8, params := [((.ro (.pair (.int .i16) (.pair (.slc (.pair (.int .i8) (.pair (.int .i16) (.pair (.int .i16) .unit)))) .unit))), false)], res := [(.row false (.int .i16)), (.ro (.int .i64))], slots := [.tmp 2, .tmp 3], code := bd Tryz.f31, callee := fun r i => find 0 [(1000, 98), (3000, 99)] (r * 1000 + i), deep := fun r i => find false [(2000, true)] (r * 1000 + i) }
/- impl.StepsIn -/
noncomputable def I32 : Inst := { f := 32, nt := 9, params := [((.ro (.pair (.int .i16) (.pair (.slc (.pair (.int .i8) (.pair (.int .i16) (.pair (.int .i16) .unit)))) .unit))), false)], res := [(.ro (.int .i64)), (.ro (.int .i64))], slots := [.tmp 2, .tmp 3], code := bd Tryz.f32, callee := fun r i => find 0 [(1001, 38), (3001, 100)] (r * 1000 + i) }
/- strconv.FormatInt: told by its contract -/
noncomputable def I178 : Inst := { f := 178, nt := 0, params := [((.ro (.int .i64)), false), ((.ro (.int .i64)), false)], res := [(.ro .str)], slots := [], code := .skip, ext := some (fun x => if x.2.1 = 10 ∧ -9223372036854775808 ≤ x.1 ∧ x.1 ≤ 9223372036854775807 then some (((⟨(Lib.itoa x.1).toArray⟩ : ByteArray), ()), ()) else none) }
/- impl.decimal -/
noncomputable def I105 : Inst := { f := 105, nt := 5, params := [((.ro (.int .i64)), false)], res := [(.ro .str)], slots := [.tmp 2], code := bd Tryz.f105, callee := fun r i => find 0 [(1001, 178)] (r * 1000 + i) }
/- strings.Join: told by its contract -/
noncomputable def I106 : Inst := { f := 106, nt := 0, params := [((.row false .str), true), ((.ro .str), false)], res := [(.ro .str)], slots := [], code := .skip, ext := some (fun x => if x.1.length ≤ 140737488355328 ∧ (Lib.join (x.1.map fun s => s.data.toList) x.2.1.data.toList).length ≤ 140737488355328 then some (((⟨(Lib.join (x.1.map fun s => s.data.toList) x.2.1.data.toList).toArray⟩ : ByteArray), ()), (x.1, ())) else none) }
/- impl.ProgramText -/
noncomputable def I34 : Inst := { f := 34, nt := 44, params := [((.ro (.pair (.int .i16) (.pair (.slc (.pair (.int .i8) (.pair (.int .i16) (.pair (.int .i16) .unit)))) .unit))), false)], res := [(.ro .str)], slots := [.tmp 2], code := bd Tryz.f34, callee := fun r i => find 0 [(1001, 38), (3003, 105), (7010, 105), (7016, 105), (9001, 106)] (r * 1000 + i), loops := fun b => find [] [(0, [.own 3 (.row false .str), .own 15 (.ro (.slc (.pair (.int .i8) (.pair (.int .i16) (.pair (.int .i16) .unit))))), .own 16 (.ro (.int .i64)), .own 17 (.ro (.int .i64))])] b, deep := fun r i => find false [(3004, true), (7018, true), (7019, true)] (r * 1000 + i) }
/- strings.Split: told by its contract -/
noncomputable def I90 : Inst := { f := 90, nt := 0, params := [((.ro .str), false), ((.ro .str), false)], res := [(.row false .str)], slots := [], code := .skip, ext := some (fun x => if x.1.size < 4294967281 ∧ 1 ≤ x.2.1.size then some ((Lib.splitB x.2.1 0 (Lib.countB x.1 x.2.1) x.1, ()), ()) else none) }
/- strconv.ParseInt: told by its contract -/
noncomputable def I176 : Inst := { f := 176, nt := 0, params := [((.ro .str), false), ((.ro (.int .i64)), false), ((.ro (.int .i64)), false)], res := [(.ro (.int .i64)), (.ro .err)], slots := [], code := .skip, ext := some (fun x => if x.1.size ≤ 281474976710656 ∧ x.2.1 = 10 ∧ x.2.2.1 = 64 then (match Lib.parseIntB 64 x.1.data.toList with | .ok v => some ((v, false, ()), ()) | .range => some ((Lib.intSat 64 x.1.data.toList, true, ()), ()) | _ => some (((0 : Int), true, ()), ())) else if x.1.size ≤ 281474976710656 ∧ x.2.1 = 10 ∧ x.2.2.1 = 8 then (match Lib.parseIntB 8 x.1.data.toList with | .ok v => some ((v, false, ()), ()) | .range => some ((Lib.intSat 8 x.1.data.toList, true, ()), ()) | _ => some (((0 : Int), true, ()), ())) else none) }
/- impl.number -/
noncomputable def I101 : Inst := { f := 101, nt := 20, params := [((.ro .str), false)], res := [(.ro (.int .i64)), (.ro .bool)], slots := [.tmp 2, .tmp 3], code := bd Tryz.f101, callee := fun r i => find 0 [(1001, 176), (2005, 105)] (r * 1000 + i) }
/- strings.Cut: told by its contract -/
noncomputable def I86 : Inst := { f := 86, nt := 0, params := [((.ro .str), false), ((.ro .str), false)], res := [(.ro .str), (.ro .str), (.ro .bool)], slots := [], code := .skip, ext := some (fun x => if x.1.size < 4294967281 then some (((⟨(Lib.cut x.1.data.toList x.2.1.data.toList).1.toArray⟩ : ByteArray), (⟨(Lib.cut x.1.data.toList x.2.1.data.toList).2.1.toArray⟩ : ByteArray), (Lib.cut x.1.data.toList x.2.1.data.toList).2.2, ()), ()) else none) }
/- strings.IndexByte: told by its contract -/
noncomputable def I104 : Inst := { f := 104, nt := 0, params := [((.ro .str), false), ((.ro (.int .u8)), false)], res := [(.ro (.int .i64))], slots := [], code := .skip, ext := some (fun x => if 0 ≤ x.2.1 ∧ x.2.1 < 256 then some ((Lib.indexByte x.1.data.toList x.2.1.toNat.toUInt8, ()), ()) else none) }
/- impl.ReadProgram -/
noncomputable def I33 : Inst := { f := 33, nt := 95, params := [((.ro .str), false)], res := [(.pr (.ro (.int .i16)) (.pr (.row false (.pair (.int .i8) (.pair (.int .i16) (.pair (.int .i16) .unit)))) (.ro .unit))), (.ro (.int .i64))], slots := [.cell 2 60, .tmp 3], code := bd Tryz.f33, callee := fun r i => find 0 [(1001, 90), (2003, 101), (3001, 102), (11002, 86), (12001, 101), (13001, 101), (14001, 102), (14005, 103), (16004, 104), (18001, 38), (18005, 34)] (r * 1000 + i), loops := fun b => find [] [(0, [.own 0 (.ro .str), .own 2 (.box (.ro (.pair (.int .i16) (.pair (.slc (.pair (.int .i8) (.pair (.int .i16) (.pair (.int .i16) .unit)))) .unit)))), .own 7 (.box (.pr (.ro (.int .i16)) (.pr (.row false (.pair (.int .i8) (.pair (.int .i16) (.pair (.int .i16) .unit)))) (.ro .unit)))), .own 34 (.ro (.slc .str)), .own 35 (.ro (.int .i64)), .own 36 (.ro (.int .i64))])] b, deep := fun r i => find false [(16011, true), (16012, true)] (r * 1000 + i), ice := fun r i => find [] [(6001, [33, 4, 18, 20])] (r * 1000 + i) }
/- spec.l01Same -/
noncomputable def I75 : Inst := { f := 75, nt := 26, params := [((.ro (.slc (.int .i16))), false), ((.ro (.slc (.int .i16))), false)], res := [(.ro .bool)], slots := [.tmp 4], code := bd Tryz.f75, loops := fun b => find [] [(0, [.own 0 (.ro (.slc (.int .i16))), .own 1 (.ro (.slc (.int .i16))), .own 5 (.ro (.int .i64))])] b }
/- spec.SameCam -/
noncomputable def I35 : Inst := { f := 35, nt := 8, params := [((.ro (.slc (.int .i16))), false), ((.ro (.slc (.int .i16))), false)], res := [(.ro .bool)], slots := [.tmp 4], code := bd Tryz.f35, callee := fun r i => find 0 [(1002, 75)] (r * 1000 + i) }
/- impl.Motion] -/
noncomputable def I107 : Inst := { f := 107, nt := 26, params := [((.ro (.slc (.pair (.int .i8) (.pair (.int .i16) (.pair (.int .i16) .unit))))), false), ((.ro (.slc (.pair (.int .i8) (.pair (.int .i16) (.pair (.int .i16) .unit))))), false)], res := [(.ro .bool)], slots := [.tmp 4], code := bd Tryz.f107, loops := fun b => find [] [(0, [.own 0 (.ro (.slc (.pair (.int .i8) (.pair (.int .i16) (.pair (.int .i16) .unit))))), .own 1 (.ro (.slc (.pair (.int .i8) (.pair (.int .i16) (.pair (.int .i16) .unit))))), .own 12 (.ro (.int .i64)), .own 13 (.ro (.int .i64))])] b }
/- impl.SameProgram -/
noncomputable def I36 : Inst := { f := 36, nt := 17, params := [((.ro (.pair (.int .i16) (.pair (.slc (.pair (.int .i8) (.pair (.int .i16) (.pair (.int .i16) .unit)))) .unit))), false), ((.ro (.pair (.int .i16) (.pair (.slc (.pair (.int .i8) (.pair (.int .i16) (.pair (.int .i16) .unit)))) .unit))), false)], res := [(.ro .bool)], slots := [.tmp 4], code := bd Tryz.f36, callee := fun r i => find 0 [(1010, 107)] (r * 1000 + i) }
/- spec.l02Same -/
noncomputable def I108 : Inst := { f := 108, nt := 52, params := [((.ro (.ptr (.pair (.int .i16) (.pair (.slc (.pair (.int .i8) (.pair (.int .i16) (.pair (.int .i16) .unit)))) .unit)))), false), ((.ro (.ptr (.pair (.int .i16) (.pair (.slc (.pair (.int .i8) (.pair (.int .i16) (.pair (.int .i16) .unit)))) .unit)))), false)], res := [(.ro .bool)], slots := [.tmp 4], code := bd Tryz.f108, loops := fun b => find [] [(0, [.own 0 (.ro (.ptr (.pair (.int .i16) (.pair (.slc (.pair (.int .i8) (.pair (.int .i16) (.pair (.int .i16) .unit)))) .unit)))), .own 1 (.ro (.ptr (.pair (.int .i16) (.pair (.slc (.pair (.int .i8) (.pair (.int .i16) (.pair (.int .i16) .unit)))) .unit)))), .own 5 (.ro (.int .i64))])] b }
/- spec.SameProgram -/
noncomputable def I37 : Inst := { f := 37, nt := 6, params := [((.ro (.pair (.int .i16) (.pair (.slc (.pair (.int .i8) (.pair (.int .i16) (.pair (.int .i16) .unit)))) .unit))), false), ((.ro (.pair (.int .i16) (.pair (.slc (.pair (.int .i8) (.pair (.int .i16) (.pair (.int .i16) .unit)))) .unit))), false)], res := [(.ro .bool)], slots := [.tmp 4], code := bd Tryz.f37, callee := fun r i => find 0 [(1000, 108)] (r * 1000 + i) }
/- impl.Cam).steps -/
noncomputable def I113 : Inst := { f := 113, nt := 5, params := [((.ro (.slc (.int .i16))), false)], res := [(.ro (.int .i64))], slots := [.tmp 2], code := bd Tryz.f113 }
/- impl.ValidCam$1 -/
noncomputable def I115 : Inst := { f := 115, nt := 7, params := [((.ro (.int .i16)), false)], res := [(.ro .bool)], slots := [.tmp 2], code := bd Tryz.f115, callee := fun r i => find 0 [(1002, 102)] (r * 1000 + i) }
/- impl.Cam,int16] -/
noncomputable def I181 : Inst := { f := 181, nt := 19, params := [((.ro (.slc (.int .i16))), false), ((.clo 115 (.ro .unit) (.ro .unit)), false)], res := [(.ro (.int .i64))], slots := [.tmp 4], code := bd Tryz.f181, callee := fun r i => find 0 [(4005, 115)] (r * 1000 + i), loops := fun b => find [] [(0, [.own 0 (.ro (.slc (.int .i16))), .own 1 (.clo 115 (.ro .unit) (.ro .unit)), .own 7 (.ro (.int .i64)), .own 8 (.ro (.int .i64))])] b }
/- impl.Cam,int16] -/
noncomputable def I114 : Inst := { f := 114, nt := 9, params := [((.ro (.slc (.int .i16))), false), ((.clo 115 (.ro .unit) (.ro .unit)), false)], res := [(.ro .bool)], slots := [.tmp 4], code := bd Tryz.f114, callee := fun r i => find 0 [(1002, 181)] (r * 1000 + i) }
/- impl.ValidCam -/
noncomputable def I39 : Inst := { f := 39, nt := 11, params := [((.ro (.slc (.int .i16))), false)], res := [(.ro .bool)], slots := [.tmp 2], code := bd Tryz.f39, callee := fun r i => find 0 [(1001, 113), (1002, 112), (1005, 114)] (r * 1000 + i) }
/- laws.a2At -/
noncomputable def I40 : Inst := { f := 40, nt := 22, params := [((.ro (.slc (.int .u8))), false), ((.ro (.int .i64)), false), ((.ro (.int .i64)), false)], res := [(.ro (.int .i64))], slots := [.tmp 6], code := bd Tryz.f40 }
/- impl.MotionAt -/
noncomputable def I41 : Inst := { f := 41, nt := 41, params := [((.ro (.pair (.int .i16) (.pair (.slc (.pair (.int .i8) (.pair (.int .i16) (.pair (.int .i16) .unit)))) .unit))), false), ((.ro (.int .i64)), false)], res := [(.ro (.int .i64)), (.ro (.int .i64)), (.ro (.int .i64))], slots := [.tmp 4, .tmp 5, .tmp 6], code := bd Tryz.f41, callee := fun r i => find 0 [(1001, 38), (3002, 100), (3004, 103)] (r * 1000 + i), loops := fun b => find [] [(1, [.own 1 (.ro (.int .i64)), .own 2 (.box (.ro (.pair (.int .i16) (.pair (.slc (.pair (.int .i8) (.pair (.int .i16) (.pair (.int .i16) .unit)))) .unit)))), .own 7 (.ro (.int .i64))])] b }
/- spec.l02Steps -/
noncomputable def I117 : Inst := { f := 117, nt := 26, params := [((.ro (.ptr (.pair (.int .i16) (.pair (.slc (.pair (.int .i8) (.pair (.int .i16) (.pair (.int .i16) .unit)))) .unit)))), false)], res := [(.ro (.int .i64))], slots := [.tmp 2], code := bd Tryz.f117, loops := fun b => find [] [(0, [.own 0 (.ro (.ptr (.pair (.int .i16) (.pair (.slc (.pair (.int .i8) (.pair (.int .i16) (.pair (.int .i16) .unit)))) .unit)))), .own 3 (.ro (.int .i64)), .own 4 (.ro (.int .i64))])] b }
/- spec.MotionAt -/
noncomputable def I42 : Inst := { f := 42, nt := 37, params := [((.ro (.pair (.int .i16) (.pair (.slc (.pair (.int .i8) (.pair (.int .i16) (.pair (.int .i16) .unit)))) .unit))), false), ((.ro (.int .i64)), false)], res := [(.ro (.int .i64)), (.ro (.int .i64)), (.ro (.int .i64))], slots := [.tmp 4, .tmp 5, .tmp 6], code := bd Tryz.f42, callee := fun r i => find 0 [(1000, 98), (3001, 117), (3003, 116)] (r * 1000 + i), loops := fun b => find [] [(0, [.own 1 (.ro (.int .i64)), .own 2 (.box (.ro (.pair (.int .i16) (.pair (.slc (.pair (.int .i8) (.pair (.int .i16) (.pair (.int .i16) .unit)))) .unit)))), .own 7 (.ro (.int .i64))])] b }
/- impl.isShape -/
noncomputable def I118 : Inst := { f := 118, nt := 18, params := [((.ro (.int .i64)), false), ((.ro (.int .i64)), false), ((.ro (.int .i64)), false)], res := [(.ro .bool)], slots := [.tmp 6], code := bd Tryz.f118, callee := fun r i => find 0 [(1001, 111), (1004, 103), (1009, 103)] (r * 1000 + i) }
/- impl.LiftIn -/
noncomputable def I43 : Inst := { f := 43, nt := 33, params := [((.ro (.int .i64)), false), ((.ro (.int .i64)), false), ((.ro (.int .i64)), false), ((.ro (.int .i64)), false), ((.ro (.int .i64)), false)], res := [(.ro (.int .i64)), (.ro (.int .i64))], slots := [.tmp 10, .tmp 11], code := bd Tryz.f43, callee := fun r i => find 0 [(1003, 118), (1007, 102), (1012, 102), (3005, 119)] (r * 1000 + i) }
/- impl.ReverseProgram: told by its contract -/
noncomputable def I44 : Inst := { f := 44, nt := 0, params := [((.ro (.pair (.int .i16) (.pair (.slc (.pair (.int .i8) (.pair (.int .i16) (.pair (.int .i16) .unit)))) .unit))), false)], res := [(.pr (.ro (.int .i16)) (.pr (.row false (.pair (.int .i8) (.pair (.int .i16) (.pair (.int .i16) .unit)))) (.ro .unit))), (.ro (.int .i64))], slots := [], code := .skip, ext := some (fun x => if Go.Cams.pgIn x.1 = true then some ((Go.Cams.revP x.1, 0, ()), ()) else none) }
/- spec.ReverseProgram -/
noncomputable def I45 : Inst := { f := 45, nt := 46, params := [((.ro (.pair (.int .i16) (.pair (.slc (.pair (.int .i8) (.pair (.int .i16) (.pair (.int .i16) .unit)))) .unit))), false)], res := [(.ro (.pair (.int .i16) (.pair (.slc (.pair (.int .i8) (.pair (.int .i16) (.pair (.int .i16) .unit)))) .unit))), (.ro (.int .i64))], slots := [.cell 2 60, .tmp 3], code := bd Tryz.f45, strict := true, callee := fun r i => find 0 [(1000, 98)] (r * 1000 + i), loops := fun b => find [] [(0, [.own 1 (.box (.ro (.pair (.int .i16) (.pair (.slc (.pair (.int .i8) (.pair (.int .i16) (.pair (.int .i16) .unit)))) .unit)))), .own 2 (.box (.ro (.pair (.int .i16) (.pair (.slc (.pair (.int .i8) (.pair (.int .i16) (.pair (.int .i16) .unit)))) .unit)))), .own 4 (.box (.pr (.ro (.int .i16)) (.pr (.row false (.pair (.int .i8) (.pair (.int .i16) (.pair (.int .i16) .unit)))) (.ro .unit)))), .own 5 (.ro (.int .i64))])] b }
/- spec.l01Ok -/
noncomputable def I121 : Inst := { f := 121, nt := 21, params := [((.ro (.slc (.int .i16))), false)], res := [(.ro .bool)], slots := [.tmp 2], code := bd Tryz.f121, callee := fun r i => find 0 [(1002, 174), (6005, 172)] (r * 1000 + i), loops := fun b => find [] [(0, [.own 0 (.ro (.slc (.int .i16))), .own 3 (.ro (.int .i64))])] b }
/- spec.l01At -/
noncomputable def I122 : Inst := { f := 122, nt := 19, params := [((.ro (.slc (.int .i16))), false), ((.ro (.int .i64)), false)], res := [(.ro (.int .i64))], slots := [.tmp 4], code := bd Tryz.f122 }
/- spec.MirrorCam -/
noncomputable def I46 : Inst := { f := 46, nt := 26, params := [((.ro (.slc (.int .i16))), false)], res := [(.row false (.int .i16)), (.ro (.int .i64))], slots := [.tmp 2, .tmp 3], code := bd Tryz.f46, callee := fun r i => find 0 [(1001, 121), (7004, 122)] (r * 1000 + i), loops := fun b => find [] [(0, [.own 0 (.ro (.slc (.int .i16))), .own 4 (.row false (.int .i16)), .own 5 (.ro (.int .i64))])] b, deep := fun r i => find false [(2000, true), (3000, true), (7006, true), (7007, true)] (r * 1000 + i) }
/- impl.Motion] -/
noncomputable def I123 : Inst := { f := 123, nt := 8, params := [((.ro (.slc (.pair (.int .i8) (.pair (.int .i16) (.pair (.int .i16) .unit))))), false)], res := [(.row false (.pair (.int .i8) (.pair (.int .i16) (.pair (.int .i16) .unit))))], slots := [.tmp 2], code := bd Tryz.f123 }
/- impl.orLimit -/
noncomputable def I124 : Inst := { f := 124, nt := 9, params := [((.ro (.pair (.int .i16) (.pair (.slc (.pair (.int .i8) (.pair (.int .i16) (.pair (.int .i16) .unit)))) .unit))), false)], res := [(.ro (.pair (.int .i16) (.pair (.slc (.pair (.int .i8) (.pair (.int .i16) (.pair (.int .i16) .unit)))) .unit))), (.ro (.int .i64))], slots := [.cell 2 60, .tmp 3], code := bd Tryz.f124, strict := true, callee := fun r i => find 0 [(1001, 38)] (r * 1000 + i) }
/- impl.RaiseProgram -/
noncomputable def I47 : Inst := { f := 47, nt := 49, params := [((.ro (.pair (.int .i16) (.pair (.slc (.pair (.int .i8) (.pair (.int .i16) (.pair (.int .i16) .unit)))) .unit))), false), ((.ro (.int .i64)), false)], res := [(.ro (.pair (.int .i16) (.pair (.slc (.pair (.int .i8) (.pair (.int .i16) (.pair (.int .i16) .unit)))) .unit))), (.ro (.int .i64))], slots := [.cell 4 60, .tmp 5], code := bd Tryz.f47, strict := true, callee := fun r i => find 0 [(1001, 38), (3001, 103), (5007, 123), (11001, 124)] (r * 1000 + i), loops := fun b => find [] [(1, [.own 1 (.ro (.int .i64)), .own 4 (.box (.ro (.pair (.int .i16) (.pair (.slc (.pair (.int .i8) (.pair (.int .i16) (.pair (.int .i16) .unit)))) .unit)))), .own 6 (.box (.pr (.ro (.int .i16)) (.pr (.row false (.pair (.int .i8) (.pair (.int .i16) (.pair (.int .i16) .unit)))) (.ro .unit)))), .own 29 (.ro (.int .i64)), .own 30 (.ro (.int .i64))])] b, ice := fun r i => find [] [(11001, [45])] (r * 1000 + i) }
/- spec.l01Made -/
noncomputable def I125 : Inst := { f := 125, nt := 29, params := [((.ro (.slc (.int .i64))), false)], res := [(.row false (.int .i16)), (.ro (.int .i64))], slots := [.tmp 2, .tmp 3], code := bd Tryz.f125, callee := fun r i => find 0 [(5004, 172)] (r * 1000 + i), loops := fun b => find [] [(0, [.own 0 (.ro (.slc (.int .i64))), .own 4 (.row false (.int .i16)), .own 5 (.ro (.int .i64))])] b, deep := fun r i => find false [(1000, true), (6000, true), (7006, true), (7007, true)] (r * 1000 + i) }
/- spec.RaiseCam -/
noncomputable def I48 : Inst := { f := 48, nt := 37, params := [((.ro (.slc (.int .i16))), false), ((.ro (.int .i64)), false)], res := [(.row false (.int .i16)), (.ro (.int .i64))], slots := [.tmp 4, .tmp 5], code := bd Tryz.f48, callee := fun r i => find 0 [(1001, 121), (3001, 116), (10001, 125)] (r * 1000 + i), loops := fun b => find [] [(0, [.own 0 (.ro (.slc (.int .i16))), .own 1 (.ro (.int .i64)), .own 6 (.row false (.int .i64)), .own 7 (.ro (.int .i64))])] b, deep := fun r i => find false [(2000, true), (4000, true), (5000, true), (9008, true), (9009, true)] (r * 1000 + i) }
/- impl.Motion] -/
noncomputable def I185 : Inst := { f := 185, nt := 27, params := [((.nl), false), ((.ro (.int .i64)), false)], res := [(.row false (.pair (.int .i8) (.pair (.int .i16) (.pair (.int .i16) .unit))))], slots := [.tmp 4], code := bd Tryz.f185, deep := fun r i => find false [(5003, true), (5008, true)] (r * 1000 + i) }
/- impl.Motion] -/
noncomputable def I126 : Inst := { f := 126, nt := 36, params := [((.ro (.slc (.slc (.pair (.int .i8) (.pair (.int .i16) (.pair (.int .i16) .unit)))))), false)], res := [(.row false (.pair (.int .i8) (.pair (.int .i16) (.pair (.int .i16) .unit))))], slots := [.tmp 2], code := bd Tryz.f126, callee := fun r i => find 0 [(9001, 185)] (r * 1000 + i), loops := fun b => find [] [(2, [.own 6 (.row false (.pair (.int .i8) (.pair (.int .i16) (.pair (.int .i16) .unit)))), .own 25 (.ro (.slc (.slc (.pair (.int .i8) (.pair (.int .i16) (.pair (.int .i16) .unit)))))), .own 26 (.ro (.int .i64)), .own 27 (.ro (.int .i64))]), (0, [.own 0 (.ro (.slc (.slc (.pair (.int .i8) (.pair (.int .i16) (.pair (.int .i16) .unit)))))), .own 3 (.ro (.int .i64)), .own 9 (.ro (.slc (.slc (.pair (.int .i8) (.pair (.int .i16) (.pair (.int .i16) .unit)))))), .own 10 (.ro (.int .i64)), .own 11 (.ro (.int .i64))])] b }
/- impl.JoinPrograms -/
noncomputable def I49 : Inst := { f := 49, nt := 35, params := [((.ro (.pair (.int .i16) (.pair (.slc (.pair (.int .i8) (.pair (.int .i16) (.pair (.int .i16) .unit)))) .unit))), false), ((.ro (.pair (.int .i16) (.pair (.slc (.pair (.int .i8) (.pair (.int .i16) (.pair (.int .i16) .unit)))) .unit))), false)], res := [(.ro (.pair (.int .i16) (.pair (.slc (.pair (.int .i8) (.pair (.int .i16) (.pair (.int .i16) .unit)))) .unit))), (.ro (.int .i64))], slots := [.cell 4 60, .tmp 5], code := bd Tryz.f49, strict := true, callee := fun r i => find 0 [(1001, 38), (1005, 38), (5007, 126), (5009, 124)] (r * 1000 + i), frz := fun r i => find false [(5006, true)] (r * 1000 + i), ice := fun r i => find [] [(5009, [31])] (r * 1000 + i) }
/- impl.mod -/
noncomputable def I136 : Inst := { f := 136, nt := 12, params := [((.ro (.int .i64)), false), ((.ro (.int .i64)), false)], res := [(.ro (.int .i64))], slots := [.tmp 4], code := bd Tryz.f136, callee := fun r i => find 0 [(1004, 187)] (r * 1000 + i) }
/- impl.Cam).at -/
noncomputable def I160 : Inst := { f := 160, nt := 13, params := [((.ro (.slc (.int .i16))), false), ((.ro (.int .i64)), false)], res := [(.ro (.int .i64))], slots := [.tmp 4], code := bd Tryz.f160, callee := fun r i => find 0 [(1003, 113), (1004, 136)] (r * 1000 + i) }
/- impl.Cam).change -/
noncomputable def I129 : Inst := { f := 129, nt := 13, params := [((.ro (.slc (.int .i16))), false), ((.ro (.int .i64)), false)], res := [(.ro (.int .i64))], slots := [.tmp 4], code := bd Tryz.f129, callee := fun r i => find 0 [(1003, 160), (1006, 160)] (r * 1000 + i) }
/- impl.Cam).numbers -/
noncomputable def I128 : Inst := { f := 128, nt := 21, params := [((.ro (.slc (.int .i16))), false), ((.clo 129 (.pr (.ro (.slc (.int .i16))) (.ro .unit)) (.ro .unit)), true)], res := [(.row false (.int .i64))], slots := [.tmp 4], code := bd Tryz.f128, strict := true, callee := fun r i => find 0 [(2001, 113), (5003, 129)] (r * 1000 + i), loops := fun b => find [] [(0, [.own 1 (.clo 129 (.pr (.ro (.slc (.int .i16))) (.ro .unit)) (.ro .unit)), .own 5 (.row false (.int .i64)), .own 9 (.ro (.int .i64)), .own 10 (.ro (.int .i64))])] b, pins := [1], deep := fun r i => find false [(1000, true), (5004, true), (5005, true)] (r * 1000 + i) }
/- impl.abs -/
noncomputable def I134 : Inst := { f := 134, nt := 7, params := [((.ro (.int .i64)), false)], res := [(.ro (.int .i64))], slots := [.tmp 2], code := bd Tryz.f134 }
/- impl.greatest -/
noncomputable def I127 : Inst := { f := 127, nt := 25, params := [((.ro (.slc (.int .i64))), false)], res := [(.ro (.int .i64)), (.ro (.int .i64))], slots := [.tmp 2, .tmp 3], code := bd Tryz.f127, callee := fun r i => find 0 [(5001, 134), (6002, 134)] (r * 1000 + i), loops := fun b => find [] [(0, [.own 4 (.ro (.int .i64)), .own 5 (.ro (.int .i64)), .own 8 (.ro (.slc (.int .i64))), .own 9 (.ro (.int .i64)), .own 10 (.ro (.int .i64))])] b }
/- impl.GreatestChange -/
noncomputable def I50 : Inst := { f := 50, nt := 21, params := [((.ro (.pair (.int .i16) (.pair (.slc (.pair (.int .i8) (.pair (.int .i16) (.pair (.int .i16) .unit)))) .unit))), false)], res := [(.ro (.int .i64)), (.ro (.int .i64))], slots := [.tmp 2, .tmp 3], code := bd Tryz.f50, callee := fun r i => find 0 [(1001, 38), (3001, 97), (4003, 128), (4004, 127)] (r * 1000 + i), ice := fun r i => find [] [(4000, [4, 11])] (r * 1000 + i) }
/- spec.l01Changes -/
noncomputable def I131 : Inst := { f := 131, nt := 24, params := [((.ro (.slc (.int .i16))), false)], res := [(.row false (.int .i64))], slots := [.tmp 2], code := bd Tryz.f131, callee := fun r i => find 0 [(5004, 122), (5007, 122)] (r * 1000 + i), loops := fun b => find [] [(0, [.own 0 (.ro (.slc (.int .i16))), .own 3 (.row false (.int .i64)), .own 4 (.ro (.int .i64))])] b, deep := fun r i => find false [(1000, true), (5009, true), (5010, true)] (r * 1000 + i) }
/- spec.l01Size -/
noncomputable def I142 : Inst := { f := 142, nt := 8, params := [((.ro (.int .i64)), false)], res := [(.ro (.int .i64))], slots := [.tmp 2], code := bd Tryz.f142 }
/- spec.l01Greatest -/
noncomputable def I130 : Inst := { f := 130, nt := 30, params := [((.ro (.slc (.int .i64))), false)], res := [(.ro (.int .i64)), (.ro (.int .i64))], slots := [.tmp 2, .tmp 3], code := bd Tryz.f130, callee := fun r i => find 0 [(5004, 142), (5009, 142), (7005, 142)] (r * 1000 + i), loops := fun b => find [] [(0, [.own 0 (.ro (.slc (.int .i64))), .own 4 (.ro (.int .i64)), .own 5 (.ro (.int .i64))])] b }
/- spec.SteepestOf -/
noncomputable def I51 : Inst := { f := 51, nt := 18, params := [((.ro (.slc (.int .i16))), false)], res := [(.ro (.int .i64)), (.ro (.int .i64)), (.ro (.int .i64))], slots := [.tmp 2, .tmp 3, .tmp 4], code := bd Tryz.f51, callee := fun r i => find 0 [(1001, 121), (3001, 131), (3002, 130)] (r * 1000 + i) }
/- laws.FnPrograms -/
noncomputable def I4 : Inst := { f := 4, nt := 367, params := [((.ro (.slc (.int .u8))), false), ((.ro (.slc (.int .u8))), false)], res := [(.ro .bool)], slots := [.tmp 4], code := bd Tryz.f4, callee := fun r i => find 0 [(1002, 28), (3001, 29), (4001, 30), (5001, 31), (6001, 32), (7001, 34), (7002, 33), (8010, 35), (8030, 36), (8036, 37), (8041, 38), (8046, 39), (10002, 40), (11002, 41), (12002, 42), (18023, 43), (19001, 44), (20001, 45), (21001, 30), (22001, 46), (23023, 37), (23037, 35), (25001, 40), (26002, 47), (27001, 30), (28002, 48), (29002, 49), (30001, 30), (31013, 35), (33001, 50), (34001, 51)] (r * 1000 + i) }
noncomputable def CL : List (Nat × Inst) := [(28, I28), (63, I63), (157, I157), (72, I72), (151, I151), (96, I96), (29, I29), (103, I103), (102, I102), (111, I111), (110, I110), (180, I180), (109, I109), (100, I100), (112, I112), (38, I38), (182, I182), (187, I187), (183, I183), (119, I119), (97, I97), (30, I30), (116, I116), (172, I172), (173, I173), (174, I174), (98, I98), (211, I211), (212, I212), (175, I175), (99, I99), (31, I31), (32, I32), (178, I178), (105, I105), (106, I106), (34, I34), (90, I90), (176, I176), (101, I101), (86, I86), (104, I104), (33, I33), (75, I75), (35, I35), (107, I107), (36, I36), (108, I108), (37, I37), (113, I113), (115, I115), (181, I181), (114, I114), (39, I39), (40, I40), (41, I41), (117, I117), (42, I42), (118, I118), (43, I43), (44, I44), (45, I45), (121, I121), (122, I122), (46, I46), (123, I123), (124, I124), (47, I47), (125, I125), (48, I48), (185, I185), (126, I126), (49, I49), (136, I136), (160, I160), (129, I129), (128, I128), (134, I134), (127, I127), (50, I50), (131, I131), (142, I142), (130, I130), (51, I51), (4, I4)]
noncomputable def C : Nat → Inst := find I28 CL
theorem tsOk : TsOk Tryz.prog T := tsOkB_sound (by kernel_rfl)
theorem ok28 : InstOk Tryz.prog I28 := instOk_of Tryz.func28 (by kernel_rfl) (by kernel_rfl) (by kernel_rfl) (by kernel_rfl)
theorem ok63 : InstOk Tryz.prog I63 := instOk_of Tryz.func63 (by kernel_rfl) (by kernel_rfl) (by kernel_rfl) (by kernel_rfl)
theorem ok157 : InstOk Tryz.prog I157 := instOk_of Tryz.func157 (by kernel_rfl) (by kernel_rfl) (by kernel_rfl) (by kernel_rfl)
theorem ok72 : InstOk Tryz.prog I72 := instOk_of Tryz.func72 (by kernel_rfl) (by kernel_rfl) (by kernel_rfl) (by kernel_rfl)
theorem ok151 : InstOk Tryz.prog I151 := instOk_of Tryz.func151 (by kernel_rfl) (by kernel_rfl) (by kernel_rfl) (by kernel_rfl)
theorem ok96 : InstOk Tryz.prog I96 := instOk_of Tryz.func96 (by kernel_rfl) (by kernel_rfl) (by kernel_rfl) (by kernel_rfl)
theorem ok29 : InstOk Tryz.prog I29 := instOk_of Tryz.func29 (by kernel_rfl) (by kernel_rfl) (by kernel_rfl) (by kernel_rfl)
theorem ok103 : InstOk Tryz.prog I103 := instOk_of Tryz.func103 (by kernel_rfl) (by kernel_rfl) (by kernel_rfl) (by kernel_rfl)
theorem ok102 : InstOk Tryz.prog I102 := instOk_of Tryz.func102 (by kernel_rfl) (by kernel_rfl) (by kernel_rfl) (by kernel_rfl)
theorem ok111 : InstOk Tryz.prog I111 := instOk_of Tryz.func111 (by kernel_rfl) (by kernel_rfl) (by kernel_rfl) (by kernel_rfl)
theorem ok110 : InstOk Tryz.prog I110 := instOk_of Tryz.func110 (by kernel_rfl) (by kernel_rfl) (by kernel_rfl) (by kernel_rfl)
theorem ok180 : InstOk Tryz.prog I180 := instOk_of Tryz.func180 (by kernel_rfl) (by kernel_rfl) (by kernel_rfl) (by kernel_rfl)
theorem ok109 : InstOk Tryz.prog I109 := instOk_of Tryz.func109 (by kernel_rfl) (by kernel_rfl) (by kernel_rfl) (by kernel_rfl)
theorem ok100 : InstOk Tryz.prog I100 := instOk_of Tryz.func100 (by kernel_rfl) (by kernel_rfl) (by kernel_rfl) (by kernel_rfl)
theorem ok112 : InstOk Tryz.prog I112 := instOk_of Tryz.func112 (by kernel_rfl) (by kernel_rfl) (by kernel_rfl) (by kernel_rfl)
theorem ok38 : InstOk Tryz.prog I38 := instOk_of Tryz.func38 (by kernel_rfl) (by kernel_rfl) (by kernel_rfl) (by kernel_rfl)
theorem ok182 : InstOk Tryz.prog I182 := instOk_of Tryz.func182 (by kernel_rfl) (by kernel_rfl) (by kernel_rfl) (by kernel_rfl)
theorem ok187 : InstOk Tryz.prog I187 := instOk_of Tryz.func187 (by kernel_rfl) (by kernel_rfl) (by kernel_rfl) (by kernel_rfl)
theorem ok183 : InstOk Tryz.prog I183 := instOk_of Tryz.func183 (by kernel_rfl) (by kernel_rfl) (by kernel_rfl) (by kernel_rfl)
theorem ok119 : InstOk Tryz.prog I119 := instOk_of Tryz.func119 (by kernel_rfl) (by kernel_rfl) (by kernel_rfl) (by kernel_rfl)
theorem ok97 : InstOk Tryz.prog I97 := instOk_of Tryz.func97 (by kernel_rfl) (by kernel_rfl) (by kernel_rfl) (by kernel_rfl)
theorem ok30 : InstOk Tryz.prog I30 := instOk_of Tryz.func30 (by kernel_rfl) (by kernel_rfl) (by kernel_rfl) (by kernel_rfl)
theorem ok116 : InstOk Tryz.prog I116 := instOk_of Tryz.func116 (by kernel_rfl) (by kernel_rfl) (by kernel_rfl) (by kernel_rfl)
theorem ok172 : InstOk Tryz.prog I172 := instOk_of Tryz.func172 (by kernel_rfl) (by kernel_rfl) (by kernel_rfl) (by kernel_rfl)
theorem ok173 : InstOk Tryz.prog I173 := instOk_of Tryz.func173 (by kernel_rfl) (by kernel_rfl) (by kernel_rfl) (by kernel_rfl)
theorem ok174 : InstOk Tryz.prog I174 := instOk_of Tryz.func174 (by kernel_rfl) (by kernel_rfl) (by kernel_rfl) (by kernel_rfl)
theorem ok98 : InstOk Tryz.prog I98 := instOk_of Tryz.func98 (by kernel_rfl) (by kernel_rfl) (by kernel_rfl) (by kernel_rfl)
theorem ok211 : InstOk Tryz.prog I211 := instOk_of Tryz.func211 (by kernel_rfl) (by kernel_rfl) (by kernel_rfl) (by kernel_rfl)
theorem ok212 : InstOk Tryz.prog I212 := instOk_of Tryz.func212 (by kernel_rfl) (by kernel_rfl) (by kernel_rfl) (by kernel_rfl)
theorem ok175 : InstOk Tryz.prog I175 := instOk_of Tryz.func175 (by kernel_rfl) (by kernel_rfl) (by kernel_rfl) (by kernel_rfl)
theorem ok99 : InstOk Tryz.prog I99 := instOk_of Tryz.func99 (by kernel_rfl) (by kernel_rfl) (by kernel_rfl) (by kernel_rfl)
theorem ok31 : InstOk Tryz.prog I31 := instOk_of Tryz.func31 (by kernel_rfl) (by kernel_rfl) (by kernel_rfl) (by kernel_rfl)
theorem ok32 : InstOk Tryz.prog I32 := instOk_of Tryz.func32 (by kernel_rfl) (by kernel_rfl) (by kernel_rfl) (by kernel_rfl)
theorem ok178 : InstOk Tryz.prog I178 := instOk_ext rfl
theorem ok105 : InstOk Tryz.prog I105 := instOk_of Tryz.func105 (by kernel_rfl) (by kernel_rfl) (by kernel_rfl) (by kernel_rfl)
theorem ok106 : InstOk Tryz.prog I106 := instOk_ext rfl
theorem ok34 : InstOk Tryz.prog I34 := instOk_of Tryz.func34 (by kernel_rfl) (by kernel_rfl) (by kernel_rfl) (by kernel_rfl)
theorem ok90 : InstOk Tryz.prog I90 := instOk_ext rfl
theorem ok176 : InstOk Tryz.prog I176 := instOk_ext rfl
theorem ok101 : InstOk Tryz.prog I101 := instOk_of Tryz.func101 (by kernel_rfl) (by kernel_rfl) (by kernel_rfl) (by kernel_rfl)
theorem ok86 : InstOk Tryz.prog I86 := instOk_ext rfl
theorem ok104 : InstOk Tryz.prog I104 := instOk_ext rfl
theorem ok33 : InstOk Tryz.prog I33 := instOk_of Tryz.func33 (by kernel_rfl) (by kernel_rfl) (by kernel_rfl) (by kernel_rfl)
theorem ok75 : InstOk Tryz.prog I75 := instOk_of Tryz.func75 (by kernel_rfl) (by kernel_rfl) (by kernel_rfl) (by kernel_rfl)
theorem ok35 : InstOk Tryz.prog I35 := instOk_of Tryz.func35 (by kernel_rfl) (by kernel_rfl) (by kernel_rfl) (by kernel_rfl)
theorem ok107 : InstOk Tryz.prog I107 := instOk_of Tryz.func107 (by kernel_rfl) (by kernel_rfl) (by kernel_rfl) (by kernel_rfl)
theorem ok36 : InstOk Tryz.prog I36 := instOk_of Tryz.func36 (by kernel_rfl) (by kernel_rfl) (by kernel_rfl) (by kernel_rfl)
theorem ok108 : InstOk Tryz.prog I108 := instOk_of Tryz.func108 (by kernel_rfl) (by kernel_rfl) (by kernel_rfl) (by kernel_rfl)
theorem ok37 : InstOk Tryz.prog I37 := instOk_of Tryz.func37 (by kernel_rfl) (by kernel_rfl) (by kernel_rfl) (by kernel_rfl)
theorem ok113 : InstOk Tryz.prog I113 := instOk_of Tryz.func113 (by kernel_rfl) (by kernel_rfl) (by kernel_rfl) (by kernel_rfl)
theorem ok115 : InstOk Tryz.prog I115 := instOk_of Tryz.func115 (by kernel_rfl) (by kernel_rfl) (by kernel_rfl) (by kernel_rfl)
theorem ok181 : InstOk Tryz.prog I181 := instOk_of Tryz.func181 (by kernel_rfl) (by kernel_rfl) (by kernel_rfl) (by kernel_rfl)
theorem ok114 : InstOk Tryz.prog I114 := instOk_of Tryz.func114 (by kernel_rfl) (by kernel_rfl) (by kernel_rfl) (by kernel_rfl)
theorem ok39 : InstOk Tryz.prog I39 := instOk_of Tryz.func39 (by kernel_rfl) (by kernel_rfl) (by kernel_rfl) (by kernel_rfl)
theorem ok40 : InstOk Tryz.prog I40 := instOk_of Tryz.func40 (by kernel_rfl) (by kernel_rfl) (by kernel_rfl) (by kernel_rfl)
theorem ok41 : InstOk Tryz.prog I41 := instOk_of Tryz.func41 (by kernel_rfl) (by kernel_rfl) (by kernel_rfl) (by kernel_rfl)
theorem ok117 : InstOk Tryz.prog I117 := instOk_of Tryz.func117 (by kernel_rfl) (by kernel_rfl) (by kernel_rfl) (by kernel_rfl)
theorem ok42 : InstOk Tryz.prog I42 := instOk_of Tryz.func42 (by kernel_rfl) (by kernel_rfl) (by kernel_rfl) (by kernel_rfl)
theorem ok118 : InstOk Tryz.prog I118 := instOk_of Tryz.func118 (by kernel_rfl) (by kernel_rfl) (by kernel_rfl) (by kernel_rfl)
theorem ok43 : InstOk Tryz.prog I43 := instOk_of Tryz.func43 (by kernel_rfl) (by kernel_rfl) (by kernel_rfl) (by kernel_rfl)
theorem ok44 : InstOk Tryz.prog I44 := instOk_ext rfl
theorem ok45 : InstOk Tryz.prog I45 := instOk_of Tryz.func45 (by kernel_rfl) (by kernel_rfl) (by kernel_rfl) (by kernel_rfl)
theorem ok121 : InstOk Tryz.prog I121 := instOk_of Tryz.func121 (by kernel_rfl) (by kernel_rfl) (by kernel_rfl) (by kernel_rfl)
theorem ok122 : InstOk Tryz.prog I122 := instOk_of Tryz.func122 (by kernel_rfl) (by kernel_rfl) (by kernel_rfl) (by kernel_rfl)
theorem ok46 : InstOk Tryz.prog I46 := instOk_of Tryz.func46 (by kernel_rfl) (by kernel_rfl) (by kernel_rfl) (by kernel_rfl)
theorem ok123 : InstOk Tryz.prog I123 := instOk_of Tryz.func123 (by kernel_rfl) (by kernel_rfl) (by kernel_rfl) (by kernel_rfl)
theorem ok124 : InstOk Tryz.prog I124 := instOk_of Tryz.func124 (by kernel_rfl) (by kernel_rfl) (by kernel_rfl) (by kernel_rfl)
theorem ok47 : InstOk Tryz.prog I47 := instOk_of Tryz.func47 (by kernel_rfl) (by kernel_rfl) (by kernel_rfl) (by kernel_rfl)
theorem ok125 : InstOk Tryz.prog I125 := instOk_of Tryz.func125 (by kernel_rfl) (by kernel_rfl) (by kernel_rfl) (by kernel_rfl)
theorem ok48 : InstOk Tryz.prog I48 := instOk_of Tryz.func48 (by kernel_rfl) (by kernel_rfl) (by kernel_rfl) (by kernel_rfl)
theorem ok185 : InstOk Tryz.prog I185 := instOk_of Tryz.func185 (by kernel_rfl) (by kernel_rfl) (by kernel_rfl) (by kernel_rfl)
theorem ok126 : InstOk Tryz.prog I126 := instOk_of Tryz.func126 (by kernel_rfl) (by kernel_rfl) (by kernel_rfl) (by kernel_rfl)
theorem ok49 : InstOk Tryz.prog I49 := instOk_of Tryz.func49 (by kernel_rfl) (by kernel_rfl) (by kernel_rfl) (by kernel_rfl)
theorem ok136 : InstOk Tryz.prog I136 := instOk_of Tryz.func136 (by kernel_rfl) (by kernel_rfl) (by kernel_rfl) (by kernel_rfl)
theorem ok160 : InstOk Tryz.prog I160 := instOk_of Tryz.func160 (by kernel_rfl) (by kernel_rfl) (by kernel_rfl) (by kernel_rfl)
theorem ok129 : InstOk Tryz.prog I129 := instOk_of Tryz.func129 (by kernel_rfl) (by kernel_rfl) (by kernel_rfl) (by kernel_rfl)
theorem ok128 : InstOk Tryz.prog I128 := instOk_of Tryz.func128 (by kernel_rfl) (by kernel_rfl) (by kernel_rfl) (by kernel_rfl)
theorem ok134 : InstOk Tryz.prog I134 := instOk_of Tryz.func134 (by kernel_rfl) (by kernel_rfl) (by kernel_rfl) (by kernel_rfl)
theorem ok127 : InstOk Tryz.prog I127 := instOk_of Tryz.func127 (by kernel_rfl) (by kernel_rfl) (by kernel_rfl) (by kernel_rfl)
theorem ok50 : InstOk Tryz.prog I50 := instOk_of Tryz.func50 (by kernel_rfl) (by kernel_rfl) (by kernel_rfl) (by kernel_rfl)
theorem ok131 : InstOk Tryz.prog I131 := instOk_of Tryz.func131 (by kernel_rfl) (by kernel_rfl) (by kernel_rfl) (by kernel_rfl)
theorem ok142 : InstOk Tryz.prog I142 := instOk_of Tryz.func142 (by kernel_rfl) (by kernel_rfl) (by kernel_rfl) (by kernel_rfl)
theorem ok130 : InstOk Tryz.prog I130 := instOk_of Tryz.func130 (by kernel_rfl) (by kernel_rfl) (by kernel_rfl) (by kernel_rfl)
theorem ok51 : InstOk Tryz.prog I51 := instOk_of Tryz.func51 (by kernel_rfl) (by kernel_rfl) (by kernel_rfl) (by kernel_rfl)
theorem ok4 : InstOk Tryz.prog I4 := instOk_of Tryz.func4 (by kernel_rfl) (by kernel_rfl) (by kernel_rfl) (by kernel_rfl)
theorem insts : ∀ j, InstOk Tryz.prog (C j) := find_all ok28 (List.forall_mem_cons.2 ⟨ok28, List.forall_mem_cons.2 ⟨ok63, List.forall_mem_cons.2 ⟨ok157, List.forall_mem_cons.2 ⟨ok72, List.forall_mem_cons.2 ⟨ok151, List.forall_mem_cons.2 ⟨ok96, List.forall_mem_cons.2 ⟨ok29, List.forall_mem_cons.2 ⟨ok103, List.forall_mem_cons.2 ⟨ok102, List.forall_mem_cons.2 ⟨ok111, List.forall_mem_cons.2 ⟨ok110, List.forall_mem_cons.2 ⟨ok180, List.forall_mem_cons.2 ⟨ok109, List.forall_mem_cons.2 ⟨ok100, List.forall_mem_cons.2 ⟨ok112, List.forall_mem_cons.2 ⟨ok38, List.forall_mem_cons.2 ⟨ok182, List.forall_mem_cons.2 ⟨ok187, List.forall_mem_cons.2 ⟨ok183, List.forall_mem_cons.2 ⟨ok119, List.forall_mem_cons.2 ⟨ok97, List.forall_mem_cons.2 ⟨ok30, List.forall_mem_cons.2 ⟨ok116, List.forall_mem_cons.2 ⟨ok172, List.forall_mem_cons.2 ⟨ok173, List.forall_mem_cons.2 ⟨ok174, List.forall_mem_cons.2 ⟨ok98, List.forall_mem_cons.2 ⟨ok211, List.forall_mem_cons.2 ⟨ok212, List.forall_mem_cons.2 ⟨ok175, List.forall_mem_cons.2 ⟨ok99, List.forall_mem_cons.2 ⟨ok31, List.forall_mem_cons.2 ⟨ok32, List.forall_mem_cons.2 ⟨ok178, List.forall_mem_cons.2 ⟨ok105, List.forall_mem_cons.2 ⟨ok106, List.forall_mem_cons.2 ⟨ok34, List.forall_mem_cons.2 ⟨ok90, List.forall_mem_cons.2 ⟨ok176, List.forall_mem_cons.2 ⟨ok101, List.forall_mem_cons.2 ⟨ok86, List.forall_mem_cons.2 ⟨ok104, List.forall_mem_cons.2 ⟨ok33, List.forall_mem_cons.2 ⟨ok75, List.forall_mem_cons.2 ⟨ok35, List.forall_mem_cons.2 ⟨ok107, List.forall_mem_cons.2 ⟨ok36, List.forall_mem_cons.2 ⟨ok108, List.forall_mem_cons.2 ⟨ok37, List.forall_mem_cons.2 ⟨ok113, List.forall_mem_cons.2 ⟨ok115, List.forall_mem_cons.2 ⟨ok181, List.forall_mem_cons.2 ⟨ok114, List.forall_mem_cons.2 ⟨ok39, List.forall_mem_cons.2 ⟨ok40, List.forall_mem_cons.2 ⟨ok41, List.forall_mem_cons.2 ⟨ok117, List.forall_mem_cons.2 ⟨ok42, List.forall_mem_cons.2 ⟨ok118, List.forall_mem_cons.2 ⟨ok43, List.forall_mem_cons.2 ⟨ok44, List.forall_mem_cons.2 ⟨ok45, List.forall_mem_cons.2 ⟨ok121, List.forall_mem_cons.2 ⟨ok122, List.forall_mem_cons.2 ⟨ok46, List.forall_mem_cons.2 ⟨ok123, List.forall_mem_cons.2 ⟨ok124, List.forall_mem_cons.2 ⟨ok47, List.forall_mem_cons.2 ⟨ok125, List.forall_mem_cons.2 ⟨ok48, List.forall_mem_cons.2 ⟨ok185, List.forall_mem_cons.2 ⟨ok126, List.forall_mem_cons.2 ⟨ok49, List.forall_mem_cons.2 ⟨ok136, List.forall_mem_cons.2 ⟨ok160, List.forall_mem_cons.2 ⟨ok129, List.forall_mem_cons.2 ⟨ok128, List.forall_mem_cons.2 ⟨ok134, List.forall_mem_cons.2 ⟨ok127, List.forall_mem_cons.2 ⟨ok50, List.forall_mem_cons.2 ⟨ok131, List.forall_mem_cons.2 ⟨ok142, List.forall_mem_cons.2 ⟨ok130, List.forall_mem_cons.2 ⟨ok51, List.forall_mem_cons.2 ⟨ok4, fun _ h => absurd h List.not_mem_nil⟩⟩⟩⟩⟩⟩⟩⟩⟩⟩⟩⟩⟩⟩⟩⟩⟩⟩⟩⟩⟩⟩⟩⟩⟩⟩⟩⟩⟩⟩⟩⟩⟩⟩⟩⟩⟩⟩⟩⟩⟩⟩⟩⟩⟩⟩⟩⟩⟩⟩⟩⟩⟩⟩⟩⟩⟩⟩⟩⟩⟩⟩⟩⟩⟩⟩⟩⟩⟩⟩⟩⟩⟩⟩⟩⟩⟩⟩⟩⟩⟩⟩⟩⟩⟩)
theorem c178 : C 178 = I178 := by kernel_rfl
theorem c106 : C 106 = I106 := by kernel_rfl
theorem c90 : C 90 = I90 := by kernel_rfl
theorem c176 : C 176 = I176 := by kernel_rfl
theorem c86 : C 86 = I86 := by kernel_rfl
theorem c104 : C 104 = I104 := by kernel_rfl
theorem c44 : C 44 = I44 := by kernel_rfl
theorem exts {L : Laid} (h178 : ExtOk Tryz.prog L I178) (h106 : ExtOk Tryz.prog L I106) (h90 : ExtOk Tryz.prog L I90) (h176 : ExtOk Tryz.prog L I176) (h86 : ExtOk Tryz.prog L I86) (h104 : ExtOk Tryz.prog L I104) (h44 : ExtOk Tryz.prog L I44) : ∀ j, ExtOk Tryz.prog L (C j) := by
  have hC : C = find I28 CL := by delta C; with_reducible rfl
  refine fun j => exts_of (C := C) _ _ [178, 106, 90, 176, 86, 104, 44] hC (by kernel_rfl) (by kernel_rfl) ?_ j
  intro e he
  change ExtOk _ _ (C e)
  simp only [List.mem_cons, List.not_mem_nil, or_false] at he
  rcases he with rfl | rfl | rfl | rfl | rfl | rfl | rfl
  · rw [c178]; exact h178
  · rw [c106]; exact h106
  · rw [c90]; exact h90
  · rw [c176]; exact h176
  · rw [c86]; exact h86
  · rw [c104]; exact h104
  · rw [c44]; exact h44
end Go.Proofs.YtipjblnjaicbfaaGreatDoor.LPg
