/- The types and the functions that a law reaches, told for the reading (Fw). Written by a program (gen.py). -/
import Derived.Test.YtipjblnjaicbfaaGreatDoorFwC
import Derived.Test.YtipjblnjaicbfaaGreatDoorProg
import Derived.Lib.TrailingZeros
import Derived.Lib.ItoaNum
import Derived.Lib.Join
import Derived.Lib.Split
import Derived.Lib.ParseIntB
import Derived.Lib.IndexMore
import Derived.Lib.Bytealg
namespace Go.Proofs.YtipjblnjaicbfaaGreatDoor.LRq
open Go Go.Fw
open Go.Proofs
noncomputable def tyL : List (Nat × TI) := [(2, ⟨(.int .i64), 0, 8⟩),
  (3, ⟨(.int .i64), 0, 8⟩),
  (4, ⟨.bool, 0, 1⟩),
  (5, ⟨(.int .u8), 0, 1⟩),
  (9, ⟨.str, 0, 16⟩),
  (22, ⟨(.slc (.int .u8)), 5, 24⟩),
  (25, ⟨(.slc (.int .i16)), 40, 24⟩),
  (29, ⟨(.int .u64), 0, 8⟩),
  (40, ⟨(.int .i16), 0, 2⟩),
  (86, ⟨(.slc (.int .i64)), 2, 24⟩),
  (90, ⟨(.slc (.arr 64 (.int .u64))), 93, 24⟩),
  (93, ⟨(.arr 64 (.int .u64)), 29, 512⟩),
  (100, ⟨(.ptr (.pair (.slc (.int .u8)) (.pair (.int .i64) (.pair (.int .u64) .unit)))), 0, 8⟩),
  (123, ⟨(.slc .str), 9, 24⟩),
  (132, ⟨(.ptr (.pair (.ptr .unit) (.pair (.slc (.int .u8)) .unit))), 0, 8⟩),
  (134, ⟨(.pair (.ptr .unit) (.pair (.slc (.int .u8)) .unit)), 5, 32⟩),
  (136, ⟨.err, 0, 16⟩),
  (157, ⟨.fn, 0, 8⟩),
  (173, ⟨(.pair (.slc (.int .i16)) (.pair (.int .i64) (.pair (.int .i64) (.pair (.int .i64) .unit)))), 0, 48⟩),
  (181, ⟨(.ptr (.pair (.slc (.int .i16)) (.pair (.int .i64) (.pair (.int .i64) (.pair (.int .i64) (.pair (.int .i64) .unit)))))), 0, 8⟩),
  (183, ⟨(.pair (.slc (.int .i16)) (.pair (.int .i64) (.pair (.int .i64) (.pair (.int .i64) (.pair (.int .i64) .unit))))), 0, 56⟩),
  (187, ⟨(.pair (.slc (.int .u8)) (.pair (.int .i64) (.pair (.int .u64) .unit))), 0, 40⟩),
  (195, ⟨(.int .u64), 0, 8⟩),
  (217, ⟨(.arr 4 (.int .i64)), 2, 32⟩)]
noncomputable def T : Nat → Option TI := findT tyL
/- laws.f6big -/
noncomputable def I6 : Inst := { f := 6, nt := 6, params := [((.ro (.slc (.int .u8))), false)], res := [(.ro .bool)], slots := [.tmp 2], code := bd Tryz.f6 }
/- spec.l00From -/
noncomputable def I63 : Inst := { f := 63, nt := 6, params := [((.ro (.slc (.int .u8))), false)], res := [(.box (.ro (.pair (.slc (.int .u8)) (.pair (.int .i64) (.pair (.int .u64) .unit)))))], slots := [.tmp 2], code := bd Tryz.f63, strict := true }
/- spec.l00Src).next -/
noncomputable def I157 : Inst := { f := 157, nt := 62, params := [((.box (.ro (.pair (.slc (.int .u8)) (.pair (.int .i64) (.pair (.int .u64) .unit))))), true)], res := [(.ro (.int .i64))], slots := [.tmp 2], code := bd Tryz.f157, strict := true, pins := [0] }
/- spec.l00Src).pick -/
noncomputable def I72 : Inst := { f := 72, nt := 20, params := [((.box (.ro (.pair (.slc (.int .u8)) (.pair (.int .i64) (.pair (.int .u64) .unit))))), true), ((.ro (.int .i64)), false)], res := [(.ro (.int .i64))], slots := [.tmp 4], code := bd Tryz.f72, strict := true, callee := fun r i => find 0 [(3001, 157), (5003, 157)] (r * 1000 + i), pins := [0] }
/- spec.l00Src).among -/
noncomputable def I186 : Inst := { f := 186, nt := 12, params := [((.box (.ro (.pair (.slc (.int .u8)) (.pair (.int .i64) (.pair (.int .u64) .unit))))), true), ((.ro (.slc (.int .i64))), false)], res := [(.ro (.int .i64))], slots := [.tmp 4], code := bd Tryz.f186, strict := true, callee := fun r i => find 0 [(1004, 72)] (r * 1000 + i), pins := [0] }
/- spec.l00Min -/
noncomputable def I150 : Inst := { f := 150, nt := 10, params := [((.ro (.int .i64)), false), ((.ro (.int .i64)), false)], res := [(.ro (.int .i64))], slots := [.tmp 4], code := bd Tryz.f150 }
/- spec.l00Max -/
noncomputable def I149 : Inst := { f := 149, nt := 10, params := [((.ro (.int .i64)), false), ((.ro (.int .i64)), false)], res := [(.ro (.int .i64))], slots := [.tmp 4], code := bd Tryz.f149 }
/- spec.l00Src).one -/
noncomputable def I151 : Inst := { f := 151, nt := 9, params := [((.box (.ro (.pair (.slc (.int .u8)) (.pair (.int .i64) (.pair (.int .u64) .unit))))), true), ((.ro (.int .i64)), false)], res := [(.ro .bool)], slots := [.tmp 4], code := bd Tryz.f151, strict := true, callee := fun r i => find 0 [(1002, 72)] (r * 1000 + i), pins := [0] }
/- spec.l01Drawn -/
noncomputable def I132 : Inst := { f := 132, nt := 60, params := [((.box (.ro (.pair (.slc (.int .u8)) (.pair (.int .i64) (.pair (.int .u64) .unit))))), true)], res := [(.ro (.slc (.int .i16)))], slots := [.tmp 2], code := bd Tryz.f132, strict := true, callee := fun r i => find 0 [(1002, 186), (3001, 72), (5001, 72), (6001, 72), (9003, 150), (9004, 149), (11001, 151)] (r * 1000 + i), loops := fun b => find [] [(2, [.own 0 (.box (.ro (.pair (.slc (.int .u8)) (.pair (.int .i64) (.pair (.int .u64) .unit))))), .own 3 (.ro (.int .i64)), .own 4 (.row false (.int .i16)), .own 5 (.ro (.int .i64)), .own 6 (.ro (.int .i64)), .own 7 (.ro (.int .i64))]), (0, [.own 0 (.box (.ro (.pair (.slc (.int .u8)) (.pair (.int .i64) (.pair (.int .u64) .unit))))), .own 3 (.ro (.int .i64)), .own 4 (.row false (.int .i16)), .own 5 (.ro (.int .i64))])] b, pins := [0], deep := fun r i => find false [(1001, true), (2000, true), (10003, true), (10004, true), (14000, true), (14002, true), (14004, true)] (r * 1000 + i), frz := fun r i => find false [(1001, true)] (r * 1000 + i), ice := fun r i => find [] [(12003, [47, 4, 15])] (r * 1000 + i) }
/- spec.P6Cam -/
noncomputable def I52 : Inst := { f := 52, nt := 6, params := [((.ro (.slc (.int .u8))), false)], res := [(.ro (.slc (.int .i16)))], slots := [.tmp 2], code := bd Tryz.f52, strict := true, callee := fun r i => find 0 [(1001, 63), (1002, 132)] (r * 1000 + i) }
/- spec.l00In -/
noncomputable def I116 : Inst := { f := 116, nt := 15, params := [((.ro (.int .i64)), false), ((.ro (.int .i64)), false), ((.ro (.int .i64)), false)], res := [(.ro .bool)], slots := [.tmp 6], code := bd Tryz.f116 }
/- spec.l01Steps -/
noncomputable def I174 : Inst := { f := 174, nt := 5, params := [((.ro (.int .i64)), false)], res := [(.ro .bool)], slots := [.tmp 2], code := bd Tryz.f174, callee := fun r i => find 0 [(1001, 116)] (r * 1000 + i) }
/- spec.l01Lift -/
noncomputable def I172 : Inst := { f := 172, nt := 5, params := [((.ro (.int .i64)), false)], res := [(.ro .bool)], slots := [.tmp 2], code := bd Tryz.f172, callee := fun r i => find 0 [(1001, 116)] (r * 1000 + i) }
/- spec.l01Ok -/
noncomputable def I121 : Inst := { f := 121, nt := 21, params := [((.ro (.slc (.int .i16))), false)], res := [(.ro .bool)], slots := [.tmp 2], code := bd Tryz.f121, callee := fun r i => find 0 [(1002, 174), (6005, 172)] (r * 1000 + i), loops := fun b => find [] [(0, [.own 0 (.ro (.slc (.int .i16))), .own 3 (.ro (.int .i64))])] b }
/- spec.l01At -/
noncomputable def I122 : Inst := { f := 122, nt := 19, params := [((.ro (.slc (.int .i16))), false), ((.ro (.int .i64)), false)], res := [(.ro (.int .i64))], slots := [.tmp 4], code := bd Tryz.f122 }
/- spec.l01Bends -/
noncomputable def I133 : Inst := { f := 133, nt := 30, params := [((.ro (.slc (.int .i16))), false)], res := [(.row false (.int .i64))], slots := [.tmp 2], code := bd Tryz.f133, callee := fun r i => find 0 [(5004, 122), (5007, 122), (5013, 122)] (r * 1000 + i), loops := fun b => find [] [(0, [.own 0 (.ro (.slc (.int .i16))), .own 3 (.row false (.int .i64)), .own 4 (.ro (.int .i64))])] b, deep := fun r i => find false [(1000, true), (5015, true), (5016, true)] (r * 1000 + i) }
/- spec.l01Size -/
noncomputable def I142 : Inst := { f := 142, nt := 8, params := [((.ro (.int .i64)), false)], res := [(.ro (.int .i64))], slots := [.tmp 2], code := bd Tryz.f142 }
/- spec.l01Greatest -/
noncomputable def I130 : Inst := { f := 130, nt := 30, params := [((.ro (.slc (.int .i64))), false)], res := [(.ro (.int .i64)), (.ro (.int .i64))], slots := [.tmp 2, .tmp 3], code := bd Tryz.f130, callee := fun r i => find 0 [(5004, 142), (5009, 142), (7005, 142)] (r * 1000 + i), loops := fun b => find [] [(0, [.own 0 (.ro (.slc (.int .i64))), .own 4 (.ro (.int .i64)), .own 5 (.ro (.int .i64))])] b }
/- spec.RoughestOf -/
noncomputable def I53 : Inst := { f := 53, nt := 18, params := [((.ro (.slc (.int .i16))), false)], res := [(.ro (.int .i64)), (.ro (.int .i64)), (.ro (.int .i64))], slots := [.tmp 2, .tmp 3, .tmp 4], code := bd Tryz.f53, callee := fun r i => find 0 [(1001, 121), (3001, 133), (3002, 130)] (r * 1000 + i) }
/- impl.Cam).steps -/
noncomputable def I113 : Inst := { f := 113, nt := 5, params := [((.ro (.slc (.int .i16))), false)], res := [(.ro (.int .i64))], slots := [.tmp 2], code := bd Tryz.f113 }
/- impl.inRange -/
noncomputable def I103 : Inst := { f := 103, nt := 15, params := [((.ro (.int .i64)), false), ((.ro (.int .i64)), false), ((.ro (.int .i64)), false)], res := [(.ro .bool)], slots := [.tmp 6], code := bd Tryz.f103 }
/- impl.isSteps -/
noncomputable def I112 : Inst := { f := 112, nt := 5, params := [((.ro (.int .i64)), false)], res := [(.ro .bool)], slots := [.tmp 2], code := bd Tryz.f112, callee := fun r i => find 0 [(1001, 103)] (r * 1000 + i) }
/- impl.isLift -/
noncomputable def I102 : Inst := { f := 102, nt := 5, params := [((.ro (.int .i64)), false)], res := [(.ro .bool)], slots := [.tmp 2], code := bd Tryz.f102, callee := fun r i => find 0 [(1001, 103)] (r * 1000 + i) }
/- impl.ValidCam$1 -/
noncomputable def I115 : Inst := { f := 115, nt := 7, params := [((.ro (.int .i16)), false)], res := [(.ro .bool)], slots := [.tmp 2], code := bd Tryz.f115, callee := fun r i => find 0 [(1002, 102)] (r * 1000 + i) }
/- impl.Cam,int16] -/
noncomputable def I181 : Inst := { f := 181, nt := 19, params := [((.ro (.slc (.int .i16))), false), ((.clo 115 (.ro .unit) (.ro .unit)), false)], res := [(.ro (.int .i64))], slots := [.tmp 4], code := bd Tryz.f181, callee := fun r i => find 0 [(4005, 115)] (r * 1000 + i), loops := fun b => find [] [(0, [.own 0 (.ro (.slc (.int .i16))), .own 1 (.clo 115 (.ro .unit) (.ro .unit)), .own 7 (.ro (.int .i64)), .own 8 (.ro (.int .i64))])] b }
/- impl.Cam,int16] -/
noncomputable def I114 : Inst := { f := 114, nt := 9, params := [((.ro (.slc (.int .i16))), false), ((.clo 115 (.ro .unit) (.ro .unit)), false)], res := [(.ro .bool)], slots := [.tmp 4], code := bd Tryz.f114, callee := fun r i => find 0 [(1002, 181)] (r * 1000 + i) }
/- impl.ValidCam -/
noncomputable def I39 : Inst := { f := 39, nt := 11, params := [((.ro (.slc (.int .i16))), false)], res := [(.ro .bool)], slots := [.tmp 2], code := bd Tryz.f39, callee := fun r i => find 0 [(1001, 113), (1002, 112), (1005, 114)] (r * 1000 + i) }
/- impl.codeIf -/
noncomputable def I69 : Inst := { f := 69, nt := 7, params := [((.ro .bool), false), ((.ro (.int .i64)), false)], res := [(.ro (.int .i64))], slots := [.tmp 4], code := bd Tryz.f69 }
/- impl.firstCode -/
noncomputable def I68 : Inst := { f := 68, nt := 15, params := [((.ro (.slc (.int .i64))), false)], res := [(.ro (.int .i64))], slots := [.tmp 2], code := bd Tryz.f68, loops := fun b => find [] [(0, [.own 5 (.ro (.slc (.int .i64))), .own 6 (.ro (.int .i64)), .own 7 (.ro (.int .i64))])] b }
/- impl.Cam,int16] -/
noncomputable def I74 : Inst := { f := 74, nt := 8, params := [((.ro (.slc (.int .i16))), false)], res := [(.row false (.int .i16))], slots := [.tmp 2], code := bd Tryz.f74 }
/- impl.floorDiv -/
noncomputable def I187 : Inst := { f := 187, nt := 16, params := [((.ro (.int .i64)), false), ((.ro (.int .i64)), false)], res := [(.ro (.int .i64))], slots := [.tmp 4], code := bd Tryz.f187 }
/- impl.mod -/
noncomputable def I136 : Inst := { f := 136, nt := 12, params := [((.ro (.int .i64)), false), ((.ro (.int .i64)), false)], res := [(.ro (.int .i64))], slots := [.tmp 4], code := bd Tryz.f136, callee := fun r i => find 0 [(1004, 187)] (r * 1000 + i) }
/- impl.Cam).at -/
noncomputable def I160 : Inst := { f := 160, nt := 13, params := [((.ro (.slc (.int .i16))), false), ((.ro (.int .i64)), false)], res := [(.ro (.int .i64))], slots := [.tmp 4], code := bd Tryz.f160, callee := fun r i => find 0 [(1003, 113), (1004, 136)] (r * 1000 + i) }
/- impl.Cam).change -/
noncomputable def I129 : Inst := { f := 129, nt := 13, params := [((.ro (.slc (.int .i16))), false), ((.ro (.int .i64)), false)], res := [(.ro (.int .i64))], slots := [.tmp 4], code := bd Tryz.f129, callee := fun r i => find 0 [(1003, 160), (1006, 160)] (r * 1000 + i) }
/- impl.Cam).bend -/
noncomputable def I135 : Inst := { f := 135, nt := 13, params := [((.ro (.slc (.int .i16))), false), ((.ro (.int .i64)), false)], res := [(.ro (.int .i64))], slots := [.tmp 4], code := bd Tryz.f135, callee := fun r i => find 0 [(1002, 129), (1006, 129)] (r * 1000 + i) }
/- impl.abs -/
noncomputable def I134 : Inst := { f := 134, nt := 7, params := [((.ro (.int .i64)), false)], res := [(.ro (.int .i64))], slots := [.tmp 2], code := bd Tryz.f134 }
/- impl.isPlace -/
noncomputable def I148 : Inst := { f := 148, nt := 9, params := [((.ro (.int .i64)), false), ((.ro (.int .i64)), false)], res := [(.ro .bool)], slots := [.tmp 4], code := bd Tryz.f148, callee := fun r i => find 0 [(1003, 103)] (r * 1000 + i) }
/- impl.stretch).height -/
noncomputable def I188 : Inst := { f := 188, nt := 12, params := [((.ro (.pair (.slc (.int .i16)) (.pair (.int .i64) (.pair (.int .i64) (.pair (.int .i64) .unit))))), false), ((.ro (.int .i64)), false)], res := [(.ro (.int .i64))], slots := [.tmp 4], code := bd Tryz.f188, callee := fun r i => find 0 [(1003, 160)] (r * 1000 + i) }
/- impl.stretch).code -/
noncomputable def I137 : Inst := { f := 137, nt := 77, params := [((.ro (.pair (.slc (.int .i16)) (.pair (.int .i64) (.pair (.int .i64) (.pair (.int .i64) .unit))))), false), ((.ro (.int .i64)), false)], res := [(.ro (.int .i64))], slots := [.tmp 4], code := bd Tryz.f137, callee := fun r i => find 0 [(1002, 113), (2002, 39), (2004, 69), (2010, 148), (2018, 103), (2024, 103), (2029, 103), (2032, 69), (2034, 68), (8002, 188), (8003, 103)] (r * 1000 + i), loops := fun b => find [] [(0, [.own 2 (.box (.ro (.pair (.slc (.int .i16)) (.pair (.int .i64) (.pair (.int .i64) (.pair (.int .i64) .unit)))))), .own 67 (.ro (.arr 4 (.int .i64))), .own 68 (.ro (.int .i64))])] b, deep := fun r i => find false [(2033, true)] (r * 1000 + i), frz := fun r i => find false [(2033, true)] (r * 1000 + i) }
/- impl.span -/
noncomputable def I218 : Inst := { f := 218, nt := 19, params := [((.ro (.int .i64)), false), ((.ro (.int .i64)), false)], res := [(.ro (.int .u64))], slots := [.tmp 4], code := bd Tryz.f218 }
/- impl.leads -/
noncomputable def I192 : Inst := { f := 192, nt := 20, params := [((.ro (.int .i64)), false), ((.ro (.int .i64)), false), ((.ro (.int .i64)), false)], res := [(.ro (.int .u64))], slots := [.tmp 6], code := bd Tryz.f192, callee := fun r i => find 0 [(1012, 218)] (r * 1000 + i) }
/- impl.stretch).allowed -/
noncomputable def I217 : Inst := { f := 217, nt := 16, params := [((.ro (.pair (.slc (.int .i16)) (.pair (.int .i64) (.pair (.int .i64) (.pair (.int .i64) .unit))))), false), ((.ro (.int .i64)), false)], res := [(.ro (.int .u64))], slots := [.tmp 4], code := bd Tryz.f217, callee := fun r i => find 0 [(3005, 188)] (r * 1000 + i) }
/- impl.stretch).behind -/
noncomputable def I189 : Inst := { f := 189, nt := 69, params := [((.ro (.pair (.slc (.int .i16)) (.pair (.int .i64) (.pair (.int .i64) (.pair (.int .i64) .unit))))), false), ((.ro (.int .i64)), false)], res := [(.row false (.arr 64 (.int .u64)))], slots := [.tmp 4], code := bd Tryz.f189, callee := fun r i => find 0 [(17003, 192), (17006, 217)] (r * 1000 + i), loops := fun b => find [] [(6, [.own 1 (.ro (.int .i64)), .own 2 (.box (.ro (.pair (.slc (.int .i16)) (.pair (.int .i64) (.pair (.int .i64) (.pair (.int .i64) .unit)))))), .own 6 (.row false (.arr 64 (.int .u64))), .own 8 (.ro (.int .i64)), .own 9 (.ro (.int .i64)), .own 32 (.ro (.int .i64)), .own 35 (.ro (.int .i64))]), (4, [.own 1 (.ro (.int .i64)), .own 2 (.box (.ro (.pair (.slc (.int .i16)) (.pair (.int .i64) (.pair (.int .i64) (.pair (.int .i64) .unit)))))), .own 6 (.row false (.arr 64 (.int .u64))), .own 8 (.ro (.int .i64)), .own 32 (.ro (.int .i64))]), (2, [.own 1 (.ro (.int .i64)), .own 2 (.box (.ro (.pair (.slc (.int .i16)) (.pair (.int .i64) (.pair (.int .i64) (.pair (.int .i64) .unit)))))), .own 6 (.row false (.arr 64 (.int .u64))), .own 8 (.ro (.int .i64))]), (0, [.own 1 (.ro (.int .i64)), .own 2 (.box (.ro (.pair (.slc (.int .i16)) (.pair (.int .i64) (.pair (.int .i64) (.pair (.int .i64) .unit)))))), .own 5 (.ro (.int .i64)), .own 6 (.row false (.arr 64 (.int .u64))), .own 17 (.ro (.int .i64))])] b, deep := fun r i => find false [(2002, true)] (r * 1000 + i) }
/- impl.stretch).pair -/
noncomputable def I190 : Inst := { f := 190, nt := 14, params := [((.ro (.pair (.slc (.int .i16)) (.pair (.int .i64) (.pair (.int .i64) (.pair (.int .i64) .unit))))), false)], res := [(.ro (.int .i64)), (.ro (.int .i64))], slots := [.tmp 2, .tmp 3], code := bd Tryz.f190, callee := fun r i => find 0 [(1004, 188), (1009, 188)] (r * 1000 + i) }
/- impl.HasPair -/
noncomputable def I60 : Inst := { f := 60, nt := 22, params := [((.ro (.arr 64 (.int .u64))), false), ((.ro (.int .i64)), false), ((.ro (.int .i64)), false)], res := [(.ro .bool)], slots := [.tmp 6], code := bd Tryz.f60, callee := fun r i => find 0 [(1001, 148), (1004, 148)] (r * 1000 + i) }
/- bits.TrailingZeros64: told by its contract -/
noncomputable def I191 : Inst := { f := 191, nt := 0, params := [((.ro (.int .u64)), false)], res := [(.ro (.int .i64))], slots := [], code := .skip, ext := some (fun x => if 0 ≤ x.1 ∧ x.1 < 18446744073709551616 then some ((((Lib.ctz 64 x.1.toNat : Nat) : Int), ()), ()) else none) }
/- impl.stretch).fill -/
noncomputable def I138 : Inst := { f := 138, nt := 57, params := [((.ro (.pair (.slc (.int .i16)) (.pair (.int .i64) (.pair (.int .i64) (.pair (.int .i64) .unit))))), false), ((.ro (.int .i64)), false)], res := [(.row false (.int .i64)), (.ro .bool)], slots := [.tmp 4, .tmp 5], code := bd Tryz.f138, callee := fun r i => find 0 [(1002, 189), (2001, 190), (3005, 60), (9003, 192), (9012, 191)] (r * 1000 + i), loops := fun b => find [] [(0, [.own 1 (.ro (.int .i64)), .own 2 (.box (.ro (.pair (.slc (.int .i16)) (.pair (.int .i64) (.pair (.int .i64) (.pair (.int .i64) .unit)))))), .own 6 (.ro (.slc (.arr 64 (.int .u64)))), .own 7 (.ro (.int .i64)), .own 8 (.ro (.int .i64)), .own 9 (.row false (.int .i64)), .own 29 (.ro (.int .i64)), .own 30 (.ro (.int .i64))])] b, deep := fun r i => find false [(5000, true), (10005, true), (10006, true)] (r * 1000 + i) }
/- impl.Cam).with -/
noncomputable def I139 : Inst := { f := 139, nt := 31, params := [((.ro (.slc (.int .i16))), false), ((.ro (.int .i64)), false), ((.ro (.slc (.int .i64))), false)], res := [(.row false (.int .i16))], slots := [.tmp 6], code := bd Tryz.f139, callee := fun r i => find 0 [(1001, 74), (5005, 113), (5006, 136)] (r * 1000 + i), loops := fun b => find [] [(0, [.own 0 (.ro (.slc (.int .i16))), .own 1 (.ro (.int .i64)), .own 7 (.row false (.int .i16)), .own 12 (.ro (.slc (.int .i64))), .own 13 (.ro (.int .i64)), .own 14 (.ro (.int .i64))])] b }
/- impl.RepairCam -/
noncomputable def I54 : Inst := { f := 54, nt := 79, params := [((.ro (.slc (.int .i16))), false), ((.ro (.int .i64)), false), ((.ro (.int .i64)), false)], res := [(.row false (.int .i16)), (.row false (.int .i64)), (.ro (.int .i64))], slots := [.tmp 6, .tmp 7, .tmp 8], code := bd Tryz.f54, callee := fun r i => find 0 [(1001, 39), (1003, 69), (1005, 103), (1009, 103), (1012, 69), (1014, 68), (4001, 74), (5001, 113), (8002, 135), (8003, 134), (9004, 113), (9005, 136), (10002, 137), (11002, 138), (13004, 139)] (r * 1000 + i), loops := fun b => find [] [(0, [.own 0 (.ro (.slc (.int .i16))), .own 1 (.ro (.int .i64)), .own 2 (.ro (.int .i64)), .own 10 (.row false (.int .i16)), .own 11 (.row false (.int .i64)), .own 38 (.ro (.int .i64)), .own 39 (.ro (.int .i64))])] b, deep := fun r i => find false [(1013, true), (4002, true), (13007, true), (13008, true)] (r * 1000 + i), frz := fun r i => find false [(1013, true)] (r * 1000 + i) }
/- spec.P6Pick -/
noncomputable def I11 : Inst := { f := 11, nt := 9, params := [((.ro (.slc (.int .u8))), false), ((.ro (.int .i64)), false)], res := [(.ro (.int .i64))], slots := [.tmp 4], code := bd Tryz.f11, callee := fun r i => find 0 [(1001, 63), (1003, 72)] (r * 1000 + i) }
/- spec.l05Bound -/
noncomputable def I140 : Inst := { f := 140, nt := 5, params := [((.ro (.int .i64)), false)], res := [(.ro .bool)], slots := [.tmp 2], code := bd Tryz.f140, callee := fun r i => find 0 [(1001, 116)] (r * 1000 + i) }
/- spec.l05Low -/
noncomputable def I141 : Inst := { f := 141, nt := 5, params := [((.ro (.int .i64)), false)], res := [(.ro .bool)], slots := [.tmp 2], code := bd Tryz.f141, callee := fun r i => find 0 [(1001, 116)] (r * 1000 + i) }
/- spec.l05Asked -/
noncomputable def I146 : Inst := { f := 146, nt := 72, params := [((.ro (.slc (.int .i16))), false), ((.ro (.int .i64)), false), ((.ro (.int .i64)), false), ((.ro (.int .i64)), false), ((.ro (.int .i64)), false)], res := [(.ro (.int .i64))], slots := [.tmp 10], code := bd Tryz.f146, callee := fun r i => find 0 [(1001, 121), (4003, 116), (4009, 150), (4010, 116), (4015, 141), (4020, 140), (10005, 122), (10010, 116)] (r * 1000 + i), loops := fun b => find [] [(0, [.own 0 (.ro (.slc (.int .i16))), .own 3 (.ro (.int .i64)), .own 12 (.ro (.slc (.int .i64))), .own 13 (.ro (.int .i64))])] b, deep := fun r i => find false [(6011, true)] (r * 1000 + i) }
/- spec.l05Stretch).at -/
noncomputable def I219 : Inst := { f := 219, nt := 16, params := [((.ro (.ptr (.pair (.slc (.int .i16)) (.pair (.int .i64) (.pair (.int .i64) (.pair (.int .i64) (.pair (.int .i64) .unit))))))), false), ((.ro (.int .i64)), false)], res := [(.ro (.int .i64))], slots := [.tmp 4], code := bd Tryz.f219, callee := fun r i => find 0 [(1005, 122)] (r * 1000 + i) }
/- spec.l05Stretch).first -/
noncomputable def I194 : Inst := { f := 194, nt := 23, params := [((.ro (.ptr (.pair (.slc (.int .i16)) (.pair (.int .i64) (.pair (.int .i64) (.pair (.int .i64) (.pair (.int .i64) .unit))))))), false)], res := [(.ro (.arr 64 (.int .u64)))], slots := [.cell 2 93], code := bd Tryz.f194, callee := fun r i => find 0 [(2006, 219), (2013, 219)] (r * 1000 + i) }
/- spec.l05Stretch).may -/
noncomputable def I195 : Inst := { f := 195, nt := 66, params := [((.ro (.ptr (.pair (.slc (.int .i16)) (.pair (.int .i64) (.pair (.int .i64) (.pair (.int .i64) (.pair (.int .i64) .unit))))))), false), ((.ro (.int .i64)), false), ((.ro (.int .i64)), false), ((.ro (.int .i64)), false)], res := [(.ro (.int .u64))], slots := [.tmp 8], code := bd Tryz.f195, callee := fun r i => find 0 [(1009, 149), (2009, 150), (4008, 219), (5002, 149), (6002, 150)] (r * 1000 + i) }
/- spec.l05Stretch).reach -/
noncomputable def I147 : Inst := { f := 147, nt := 59, params := [((.ro (.ptr (.pair (.slc (.int .i16)) (.pair (.int .i64) (.pair (.int .i64) (.pair (.int .i64) (.pair (.int .i64) .unit))))))), false)], res := [(.row false (.arr 64 (.int .u64)))], slots := [.tmp 2], code := bd Tryz.f147, callee := fun r i => find 0 [(1001, 194), (14007, 195)] (r * 1000 + i), loops := fun b => find [] [(4, [.own 0 (.ro (.ptr (.pair (.slc (.int .i16)) (.pair (.int .i64) (.pair (.int .i64) (.pair (.int .i64) (.pair (.int .i64) .unit))))))), .own 3 (.row false (.arr 64 (.int .u64))), .own 4 (.ro (.int .i64)), .own 5 (.box (.ro (.arr 64 (.int .u64)))), .elt 6 3 (.arr 64 (.int .u64)), .own 7 (.ro (.int .i64)), .own 8 (.ro (.int .i64))]), (2, [.own 0 (.ro (.ptr (.pair (.slc (.int .i16)) (.pair (.int .i64) (.pair (.int .i64) (.pair (.int .i64) (.pair (.int .i64) .unit))))))), .own 3 (.row false (.arr 64 (.int .u64))), .own 4 (.ro (.int .i64)), .own 5 (.box (.ro (.arr 64 (.int .u64)))), .elt 6 3 (.arr 64 (.int .u64)), .own 7 (.ro (.int .i64))]), (0, [.own 0 (.ro (.ptr (.pair (.slc (.int .i16)) (.pair (.int .i64) (.pair (.int .i64) (.pair (.int .i64) (.pair (.int .i64) .unit))))))), .own 3 (.row false (.arr 64 (.int .u64))), .own 4 (.ro (.int .i64))])] b }
/- spec.l05Stretch).fill -/
noncomputable def I193 : Inst := { f := 193, nt := 139, params := [((.ro (.ptr (.pair (.slc (.int .i16)) (.pair (.int .i64) (.pair (.int .i64) (.pair (.int .i64) (.pair (.int .i64) .unit))))))), false)], res := [(.row false (.int .i64)), (.ro .bool)], slots := [.tmp 2, .tmp 3], code := bd Tryz.f193, callee := fun r i => find 0 [(1001, 147), (12015, 195), (14006, 219), (15006, 219), (22004, 195)] (r * 1000 + i), loops := fun b => find [] [(8, [.own 0 (.ro (.ptr (.pair (.slc (.int .i16)) (.pair (.int .i64) (.pair (.int .i64) (.pair (.int .i64) (.pair (.int .i64) .unit))))))), .own 4 (.row false (.arr 64 (.int .u64))), .own 10 (.ro (.int .i64)), .own 11 (.row false (.int .i64)), .own 12 (.ro (.int .i64)), .own 13 (.ro (.int .u64)), .own 14 (.ro (.int .i64))]), (6, [.own 0 (.ro (.ptr (.pair (.slc (.int .i16)) (.pair (.int .i64) (.pair (.int .i64) (.pair (.int .i64) (.pair (.int .i64) .unit))))))), .own 4 (.row false (.arr 64 (.int .u64))), .own 9 (.ro (.int .i64)), .own 10 (.ro (.int .i64)), .own 11 (.row false (.int .i64)), .own 12 (.ro (.int .i64))]), (4, [.own 0 (.ro (.ptr (.pair (.slc (.int .i16)) (.pair (.int .i64) (.pair (.int .i64) (.pair (.int .i64) (.pair (.int .i64) .unit))))))), .own 4 (.row false (.arr 64 (.int .u64))), .own 5 (.ro (.int .i64)), .own 6 (.ro (.int .i64)), .own 7 (.ro (.int .i64))]), (2, [.own 0 (.ro (.ptr (.pair (.slc (.int .i16)) (.pair (.int .i64) (.pair (.int .i64) (.pair (.int .i64) (.pair (.int .i64) .unit))))))), .own 4 (.row false (.arr 64 (.int .u64))), .own 5 (.ro (.int .i64)), .own 6 (.ro (.int .i64))]), (0, [.own 0 (.ro (.ptr (.pair (.slc (.int .i16)) (.pair (.int .i64) (.pair (.int .i64) (.pair (.int .i64) (.pair (.int .i64) .unit))))))), .own 4 (.row false (.arr 64 (.int .u64))), .own 5 (.ro (.int .i64))])] b }
/- spec.FillWithin -/
noncomputable def I143 : Inst := { f := 143, nt := 42, params := [((.ro (.slc (.int .i16))), false), ((.ro (.int .i64)), false), ((.ro (.int .i64)), false), ((.ro (.int .i64)), false), ((.ro (.int .i64)), false)], res := [(.row false (.int .i64)), (.ro (.int .i64))], slots := [.tmp 10, .tmp 11], code := bd Tryz.f143, callee := fun r i => find 0 [(1005, 146), (5001, 193)] (r * 1000 + i), deep := fun r i => find false [(3000, true), (7000, true)] (r * 1000 + i) }
/- spec.l05Put -/
noncomputable def I144 : Inst := { f := 144, nt := 32, params := [((.ro (.slc (.int .i16))), false), ((.ro (.int .i64)), false), ((.ro (.slc (.int .i64))), false)], res := [(.row false (.int .i16))], slots := [.tmp 6], code := bd Tryz.f144, loops := fun b => find [] [(0, [.own 0 (.ro (.slc (.int .i16))), .own 1 (.ro (.int .i64)), .own 2 (.ro (.slc (.int .i64))), .own 7 (.row false (.int .i16)), .own 8 (.ro (.int .i64))])] b, deep := fun r i => find false [(1000, true), (1002, true)] (r * 1000 + i) }
/- spec.RepairCam -/
noncomputable def I55 : Inst := { f := 55, nt := 85, params := [((.ro (.slc (.int .i16))), false), ((.ro (.int .i64)), false), ((.ro (.int .i64)), false)], res := [(.row false (.int .i16)), (.row false (.int .i64)), (.ro (.int .i64))], slots := [.tmp 6, .tmp 7, .tmp 8], code := bd Tryz.f55, callee := fun r i => find 0 [(1001, 121), (3001, 140), (3005, 141), (11003, 122), (11006, 122), (11012, 122), (11014, 142), (13004, 143), (15003, 144)] (r * 1000 + i), loops := fun b => find [] [(0, [.own 1 (.ro (.int .i64)), .own 2 (.ro (.int .i64)), .own 9 (.ro (.int .i64)), .own 10 (.row false (.int .i16)), .own 11 (.row false (.int .i64)), .own 12 (.ro (.int .i64))])] b, deep := fun r i => find false [(2000, true), (2001, true), (4000, true), (4001, true), (6000, true), (6002, true), (7000, true), (16002, true), (16003, true)] (r * 1000 + i) }
/- spec.l01Same -/
noncomputable def I75 : Inst := { f := 75, nt := 26, params := [((.ro (.slc (.int .i16))), false), ((.ro (.slc (.int .i16))), false)], res := [(.ro .bool)], slots := [.tmp 4], code := bd Tryz.f75, loops := fun b => find [] [(0, [.own 0 (.ro (.slc (.int .i16))), .own 1 (.ro (.slc (.int .i16))), .own 5 (.ro (.int .i64))])] b }
/- spec.SameCam -/
noncomputable def I35 : Inst := { f := 35, nt := 8, params := [((.ro (.slc (.int .i16))), false), ((.ro (.slc (.int .i16))), false)], res := [(.ro .bool)], slots := [.tmp 4], code := bd Tryz.f35, callee := fun r i => find 0 [(1002, 75)] (r * 1000 + i) }
/- spec.l00Same -/
noncomputable def I145 : Inst := { f := 145, nt := 26, params := [((.ro (.slc (.int .i64))), false), ((.ro (.slc (.int .i64))), false)], res := [(.ro .bool)], slots := [.tmp 4], code := bd Tryz.f145, loops := fun b => find [] [(0, [.own 0 (.ro (.slc (.int .i64))), .own 1 (.ro (.slc (.int .i64))), .own 5 (.ro (.int .i64))])] b }
/- spec.SameNumbers -/
noncomputable def I56 : Inst := { f := 56, nt := 8, params := [((.ro (.slc (.int .i64))), false), ((.ro (.slc (.int .i64))), false)], res := [(.ro .bool)], slots := [.tmp 4], code := bd Tryz.f56, callee := fun r i => find 0 [(1002, 145)] (r * 1000 + i) }
/- spec.ReachOf -/
noncomputable def I57 : Inst := { f := 57, nt := 33, params := [((.ro (.slc (.int .i16))), false), ((.ro (.int .i64)), false), ((.ro (.int .i64)), false), ((.ro (.int .i64)), false), ((.ro (.int .i64)), false)], res := [(.row false (.arr 64 (.int .u64))), (.ro (.int .i64))], slots := [.tmp 10, .tmp 11], code := bd Tryz.f57, callee := fun r i => find 0 [(1005, 146), (5001, 147)] (r * 1000 + i), deep := fun r i => find false [(3000, true)] (r * 1000 + i) }
/- strconv.FormatInt: told by its contract -/
noncomputable def I178 : Inst := { f := 178, nt := 0, params := [((.ro (.int .i64)), false), ((.ro (.int .i64)), false)], res := [(.ro .str)], slots := [], code := .skip, ext := some (fun x => if x.2.1 = 10 ∧ -9223372036854775808 ≤ x.1 ∧ x.1 ≤ 9223372036854775807 then some (((⟨(Lib.itoa x.1).toArray⟩ : ByteArray), ()), ()) else none) }
/- impl.decimal -/
noncomputable def I105 : Inst := { f := 105, nt := 5, params := [((.ro (.int .i64)), false)], res := [(.ro .str)], slots := [.tmp 2], code := bd Tryz.f105, callee := fun r i => find 0 [(1001, 178)] (r * 1000 + i) }
/- strconv.FormatUint: told by its contract -/
noncomputable def I170 : Inst := { f := 170, nt := 0, params := [((.ro (.int .u64)), false), ((.ro (.int .i64)), false)], res := [(.ro .str)], slots := [], code := .skip, ext := some (fun x => if 0 ≤ x.1 ∧ x.1 < 18446744073709551616 ∧ x.2.1 = 16 then some (((⟨(hexD x.1.toNat).toArray⟩ : ByteArray), ()), ()) else none) }
/- strings.Repeat: told by its contract -/
noncomputable def I171 : Inst := { f := 171, nt := 0, params := [((.ro .str), false), ((.ro (.int .i64)), false)], res := [(.ro .str)], slots := [], code := .skip, ext := some (fun x => if x.1.data = #[48] ∧ 0 ≤ x.2.1 ∧ x.2.1 ≤ 15 then some (((⟨(List.replicate x.2.1.toNat (48 : UInt8)).toArray⟩ : ByteArray), ()), ()) else none) }
/- impl.hex -/
noncomputable def I93 : Inst := { f := 93, nt := 12, params := [((.ro (.int .u64)), false)], res := [(.ro .str)], slots := [.tmp 2], code := bd Tryz.f93, callee := fun r i => find 0 [(1001, 170), (2003, 171)] (r * 1000 + i) }
/- (*strings.Builder).WriteString: told by its contract -/
noncomputable def I92 : Inst := { f := 92, nt := 0, params := [((.bld 134 5), true), ((.ro .str), false)], res := [(.ro (.int .i64)), (.ro .err)], slots := [], code := .skip, ext := some (fun x => if x.1.size + x.2.1.size ≤ 140737488355328 then some ((((x.2.1.size : Nat) : Int), false, ()), (x.1 ++ x.2.1, ())) else none) }
/- (*strings.Builder).String: told by its contract -/
noncomputable def I94 : Inst := { f := 94, nt := 0, params := [((.bld 134 5), false)], res := [(.ro .str)], slots := [], code := .skip, ext := some (fun x => some ((x.1, ()), ())) }
/- impl.GridText -/
noncomputable def I59 : Inst := { f := 59, nt := 23, params := [((.ro (.arr 64 (.int .u64))), false)], res := [(.ro .str)], slots := [.tmp 2], code := bd Tryz.f59, callee := fun r i => find 0 [(6001, 105), (6004, 93), (6007, 92), (8000, 94)] (r * 1000 + i), loops := fun b => find [] [(0, [.own 3 (.bld 134 5), .own 6 (.ro (.arr 64 (.int .u64))), .own 7 (.ro (.int .i64))])] b, frz := fun r i => find false [(1000, true)] (r * 1000 + i) }
/- strings.Split: told by its contract -/
noncomputable def I90 : Inst := { f := 90, nt := 0, params := [((.ro .str), false), ((.ro .str), false)], res := [(.row false .str)], slots := [], code := .skip, ext := some (fun x => if x.1.size < 4294967281 ∧ 1 ≤ x.2.1.size then some ((Lib.splitB x.2.1 0 (Lib.countB x.1 x.2.1) x.1, ()), ()) else none) }
/- strings.Cut: told by its contract -/
noncomputable def I86 : Inst := { f := 86, nt := 0, params := [((.ro .str), false), ((.ro .str), false)], res := [(.ro .str), (.ro .str), (.ro .bool)], slots := [], code := .skip, ext := some (fun x => if x.1.size < 4294967281 then some (((⟨(Lib.cut x.1.data.toList x.2.1.data.toList).1.toArray⟩ : ByteArray), (⟨(Lib.cut x.1.data.toList x.2.1.data.toList).2.1.toArray⟩ : ByteArray), (Lib.cut x.1.data.toList x.2.1.data.toList).2.2, ()), ()) else none) }
/- strconv.ParseInt: told by its contract -/
noncomputable def I176 : Inst := { f := 176, nt := 0, params := [((.ro .str), false), ((.ro (.int .i64)), false), ((.ro (.int .i64)), false)], res := [(.ro (.int .i64)), (.ro .err)], slots := [], code := .skip, ext := some (fun x => if x.1.size ≤ 281474976710656 ∧ x.2.1 = 10 ∧ x.2.2.1 = 64 then (match Lib.parseIntB 64 x.1.data.toList with | .ok v => some ((v, false, ()), ()) | .range => some ((Lib.intSat 64 x.1.data.toList, true, ()), ()) | _ => some (((0 : Int), true, ()), ())) else if x.1.size ≤ 281474976710656 ∧ x.2.1 = 10 ∧ x.2.2.1 = 8 then (match Lib.parseIntB 8 x.1.data.toList with | .ok v => some ((v, false, ()), ()) | .range => some ((Lib.intSat 8 x.1.data.toList, true, ()), ()) | _ => some (((0 : Int), true, ()), ())) else none) }
/- impl.number -/
noncomputable def I101 : Inst := { f := 101, nt := 20, params := [((.ro .str), false)], res := [(.ro (.int .i64)), (.ro .bool)], slots := [.tmp 2, .tmp 3], code := bd Tryz.f101, callee := fun r i => find 0 [(1001, 176), (2005, 105)] (r * 1000 + i) }
/- strconv.ParseUint: told by its contract -/
noncomputable def I168 : Inst := { f := 168, nt := 0, params := [((.ro .str), false), ((.ro (.int .i64)), false), ((.ro (.int .i64)), false)], res := [(.ro (.int .u64)), (.ro .err)], slots := [], code := .skip, ext := some (fun x => if x.1.size ≤ 4294967281 ∧ x.2.1 = 16 ∧ x.2.2.1 = 64 then some ((((puT x.1.data.toList).1 : Int), decide ((puT x.1.data.toList).2 ≠ 0), ()), ()) else none) }
/- impl.unhex -/
noncomputable def I91 : Inst := { f := 91, nt := 13, params := [((.ro .str), false)], res := [(.ro (.int .u64))], slots := [.tmp 2], code := bd Tryz.f91, callee := fun r i => find 0 [(1001, 168)] (r * 1000 + i) }
/- impl.ReadGrid -/
noncomputable def I58 : Inst := { f := 58, nt := 50, params := [((.ro .str), false)], res := [(.ro (.arr 64 (.int .u64))), (.ro (.int .i64))], slots := [.cell 2 93, .tmp 3], code := bd Tryz.f58, callee := fun r i => find 0 [(2001, 90), (5001, 86), (6001, 101), (7006, 148), (8002, 91), (10001, 59)] (r * 1000 + i), loops := fun b => find [] [(0, [.own 0 (.ro .str), .own 2 (.box (.ro (.arr 64 (.int .u64)))), .own 4 (.box (.ro (.arr 64 (.int .u64)))), .own 14 (.ro (.slc .str)), .own 15 (.ro (.int .i64)), .own 16 (.ro (.int .i64))])] b }
/- bits.OnesCount64 -/
noncomputable def I76 : Inst := { f := 76, nt := 35, params := [((.ro (.int .u64)), false)], res := [(.ro (.int .i64))], slots := [.tmp 2], code := bd Tryz.f76 }
/- impl.CountPairs -/
noncomputable def I61 : Inst := { f := 61, nt := 16, params := [((.ro (.arr 64 (.int .u64))), false)], res := [(.ro (.int .i64))], slots := [.tmp 2], code := bd Tryz.f61, callee := fun r i => find 0 [(5002, 76)] (r * 1000 + i), loops := fun b => find [] [(0, [.own 3 (.ro (.int .i64)), .own 6 (.ro (.arr 64 (.int .u64))), .own 7 (.ro (.int .i64))])] b }
/- laws.FnRepaired -/
noncomputable def I5 : Inst := { f := 5, nt := 169, params := [((.ro (.slc (.int .u8))), false), ((.ro (.slc (.int .u8))), false)], res := [(.ro .bool)], slots := [.tmp 4], code := bd Tryz.f5, callee := fun r i => find 0 [(1001, 6), (1004, 6), (3001, 52), (4001, 53), (5002, 54), (6001, 11), (7002, 54), (8002, 55), (9009, 35), (9029, 35), (9035, 56), (11006, 35), (13001, 57), (19004, 59), (19005, 58), (27006, 60), (29015, 61)] (r * 1000 + i), loops := fun b => find [] [(4, [.own 19 (.ro (.slc (.arr 64 (.int .u64)))), .own 21 (.ro (.int .i64)), .own 22 (.box (.ro (.arr 64 (.int .u64)))), .own 23 (.ro (.int .i64)), .own 24 (.ro (.int .i64)), .own 25 (.ro (.int .i64)), .own 26 (.ro (.int .i64))]), (2, [.own 19 (.ro (.slc (.arr 64 (.int .u64)))), .own 21 (.ro (.int .i64)), .own 22 (.box (.ro (.arr 64 (.int .u64)))), .own 23 (.ro (.int .i64)), .own 24 (.ro (.int .i64)), .own 25 (.ro (.int .i64))]), (0, [.own 19 (.ro (.slc (.arr 64 (.int .u64)))), .own 21 (.ro (.int .i64))])] b }
noncomputable def CL : List (Nat × Inst) := [(6, I6), (63, I63), (157, I157), (72, I72), (186, I186), (150, I150), (149, I149), (151, I151), (132, I132), (52, I52), (116, I116), (174, I174), (172, I172), (121, I121), (122, I122), (133, I133), (142, I142), (130, I130), (53, I53), (113, I113), (103, I103), (112, I112), (102, I102), (115, I115), (181, I181), (114, I114), (39, I39), (69, I69), (68, I68), (74, I74), (187, I187), (136, I136), (160, I160), (129, I129), (135, I135), (134, I134), (148, I148), (188, I188), (137, I137), (218, I218), (192, I192), (217, I217), (189, I189), (190, I190), (60, I60), (191, I191), (138, I138), (139, I139), (54, I54), (11, I11), (140, I140), (141, I141), (146, I146), (219, I219), (194, I194), (195, I195), (147, I147), (193, I193), (143, I143), (144, I144), (55, I55), (75, I75), (35, I35), (145, I145), (56, I56), (57, I57), (178, I178), (105, I105), (170, I170), (171, I171), (93, I93), (92, I92), (94, I94), (59, I59), (90, I90), (86, I86), (176, I176), (101, I101), (168, I168), (91, I91), (58, I58), (76, I76), (61, I61), (5, I5)]
noncomputable def C : Nat → Inst := find I6 CL
theorem tsOk : TsOk Tryz.prog T := tsOkB_sound (by kernel_rfl)
theorem ok6 : InstOk Tryz.prog I6 := instOk_of Tryz.func6 (by kernel_rfl) (by kernel_rfl) (by kernel_rfl) (by kernel_rfl)
theorem ok63 : InstOk Tryz.prog I63 := instOk_of Tryz.func63 (by kernel_rfl) (by kernel_rfl) (by kernel_rfl) (by kernel_rfl)
theorem ok157 : InstOk Tryz.prog I157 := instOk_of Tryz.func157 (by kernel_rfl) (by kernel_rfl) (by kernel_rfl) (by kernel_rfl)
theorem ok72 : InstOk Tryz.prog I72 := instOk_of Tryz.func72 (by kernel_rfl) (by kernel_rfl) (by kernel_rfl) (by kernel_rfl)
theorem ok186 : InstOk Tryz.prog I186 := instOk_of Tryz.func186 (by kernel_rfl) (by kernel_rfl) (by kernel_rfl) (by kernel_rfl)
theorem ok150 : InstOk Tryz.prog I150 := instOk_of Tryz.func150 (by kernel_rfl) (by kernel_rfl) (by kernel_rfl) (by kernel_rfl)
theorem ok149 : InstOk Tryz.prog I149 := instOk_of Tryz.func149 (by kernel_rfl) (by kernel_rfl) (by kernel_rfl) (by kernel_rfl)
theorem ok151 : InstOk Tryz.prog I151 := instOk_of Tryz.func151 (by kernel_rfl) (by kernel_rfl) (by kernel_rfl) (by kernel_rfl)
theorem ok132 : InstOk Tryz.prog I132 := instOk_of Tryz.func132 (by kernel_rfl) (by kernel_rfl) (by kernel_rfl) (by kernel_rfl)
theorem ok52 : InstOk Tryz.prog I52 := instOk_of Tryz.func52 (by kernel_rfl) (by kernel_rfl) (by kernel_rfl) (by kernel_rfl)
theorem ok116 : InstOk Tryz.prog I116 := instOk_of Tryz.func116 (by kernel_rfl) (by kernel_rfl) (by kernel_rfl) (by kernel_rfl)
theorem ok174 : InstOk Tryz.prog I174 := instOk_of Tryz.func174 (by kernel_rfl) (by kernel_rfl) (by kernel_rfl) (by kernel_rfl)
theorem ok172 : InstOk Tryz.prog I172 := instOk_of Tryz.func172 (by kernel_rfl) (by kernel_rfl) (by kernel_rfl) (by kernel_rfl)
theorem ok121 : InstOk Tryz.prog I121 := instOk_of Tryz.func121 (by kernel_rfl) (by kernel_rfl) (by kernel_rfl) (by kernel_rfl)
theorem ok122 : InstOk Tryz.prog I122 := instOk_of Tryz.func122 (by kernel_rfl) (by kernel_rfl) (by kernel_rfl) (by kernel_rfl)
theorem ok133 : InstOk Tryz.prog I133 := instOk_of Tryz.func133 (by kernel_rfl) (by kernel_rfl) (by kernel_rfl) (by kernel_rfl)
theorem ok142 : InstOk Tryz.prog I142 := instOk_of Tryz.func142 (by kernel_rfl) (by kernel_rfl) (by kernel_rfl) (by kernel_rfl)
theorem ok130 : InstOk Tryz.prog I130 := instOk_of Tryz.func130 (by kernel_rfl) (by kernel_rfl) (by kernel_rfl) (by kernel_rfl)
theorem ok53 : InstOk Tryz.prog I53 := instOk_of Tryz.func53 (by kernel_rfl) (by kernel_rfl) (by kernel_rfl) (by kernel_rfl)
theorem ok113 : InstOk Tryz.prog I113 := instOk_of Tryz.func113 (by kernel_rfl) (by kernel_rfl) (by kernel_rfl) (by kernel_rfl)
theorem ok103 : InstOk Tryz.prog I103 := instOk_of Tryz.func103 (by kernel_rfl) (by kernel_rfl) (by kernel_rfl) (by kernel_rfl)
theorem ok112 : InstOk Tryz.prog I112 := instOk_of Tryz.func112 (by kernel_rfl) (by kernel_rfl) (by kernel_rfl) (by kernel_rfl)
theorem ok102 : InstOk Tryz.prog I102 := instOk_of Tryz.func102 (by kernel_rfl) (by kernel_rfl) (by kernel_rfl) (by kernel_rfl)
theorem ok115 : InstOk Tryz.prog I115 := instOk_of Tryz.func115 (by kernel_rfl) (by kernel_rfl) (by kernel_rfl) (by kernel_rfl)
theorem ok181 : InstOk Tryz.prog I181 := instOk_of Tryz.func181 (by kernel_rfl) (by kernel_rfl) (by kernel_rfl) (by kernel_rfl)
theorem ok114 : InstOk Tryz.prog I114 := instOk_of Tryz.func114 (by kernel_rfl) (by kernel_rfl) (by kernel_rfl) (by kernel_rfl)
theorem ok39 : InstOk Tryz.prog I39 := instOk_of Tryz.func39 (by kernel_rfl) (by kernel_rfl) (by kernel_rfl) (by kernel_rfl)
theorem ok69 : InstOk Tryz.prog I69 := instOk_of Tryz.func69 (by kernel_rfl) (by kernel_rfl) (by kernel_rfl) (by kernel_rfl)
theorem ok68 : InstOk Tryz.prog I68 := instOk_of Tryz.func68 (by kernel_rfl) (by kernel_rfl) (by kernel_rfl) (by kernel_rfl)
theorem ok74 : InstOk Tryz.prog I74 := instOk_of Tryz.func74 (by kernel_rfl) (by kernel_rfl) (by kernel_rfl) (by kernel_rfl)
theorem ok187 : InstOk Tryz.prog I187 := instOk_of Tryz.func187 (by kernel_rfl) (by kernel_rfl) (by kernel_rfl) (by kernel_rfl)
theorem ok136 : InstOk Tryz.prog I136 := instOk_of Tryz.func136 (by kernel_rfl) (by kernel_rfl) (by kernel_rfl) (by kernel_rfl)
theorem ok160 : InstOk Tryz.prog I160 := instOk_of Tryz.func160 (by kernel_rfl) (by kernel_rfl) (by kernel_rfl) (by kernel_rfl)
theorem ok129 : InstOk Tryz.prog I129 := instOk_of Tryz.func129 (by kernel_rfl) (by kernel_rfl) (by kernel_rfl) (by kernel_rfl)
theorem ok135 : InstOk Tryz.prog I135 := instOk_of Tryz.func135 (by kernel_rfl) (by kernel_rfl) (by kernel_rfl) (by kernel_rfl)
theorem ok134 : InstOk Tryz.prog I134 := instOk_of Tryz.func134 (by kernel_rfl) (by kernel_rfl) (by kernel_rfl) (by kernel_rfl)
theorem ok148 : InstOk Tryz.prog I148 := instOk_of Tryz.func148 (by kernel_rfl) (by kernel_rfl) (by kernel_rfl) (by kernel_rfl)
theorem ok188 : InstOk Tryz.prog I188 := instOk_of Tryz.func188 (by kernel_rfl) (by kernel_rfl) (by kernel_rfl) (by kernel_rfl)
theorem ok137 : InstOk Tryz.prog I137 := instOk_of Tryz.func137 (by kernel_rfl) (by kernel_rfl) (by kernel_rfl) (by kernel_rfl)
theorem ok218 : InstOk Tryz.prog I218 := instOk_of Tryz.func218 (by kernel_rfl) (by kernel_rfl) (by kernel_rfl) (by kernel_rfl)
theorem ok192 : InstOk Tryz.prog I192 := instOk_of Tryz.func192 (by kernel_rfl) (by kernel_rfl) (by kernel_rfl) (by kernel_rfl)
theorem ok217 : InstOk Tryz.prog I217 := instOk_of Tryz.func217 (by kernel_rfl) (by kernel_rfl) (by kernel_rfl) (by kernel_rfl)
theorem ok189 : InstOk Tryz.prog I189 := instOk_of Tryz.func189 (by kernel_rfl) (by kernel_rfl) (by kernel_rfl) (by kernel_rfl)
theorem ok190 : InstOk Tryz.prog I190 := instOk_of Tryz.func190 (by kernel_rfl) (by kernel_rfl) (by kernel_rfl) (by kernel_rfl)
theorem ok60 : InstOk Tryz.prog I60 := instOk_of Tryz.func60 (by kernel_rfl) (by kernel_rfl) (by kernel_rfl) (by kernel_rfl)
theorem ok191 : InstOk Tryz.prog I191 := instOk_ext rfl
theorem ok138 : InstOk Tryz.prog I138 := instOk_of Tryz.func138 (by kernel_rfl) (by kernel_rfl) (by kernel_rfl) (by kernel_rfl)
theorem ok139 : InstOk Tryz.prog I139 := instOk_of Tryz.func139 (by kernel_rfl) (by kernel_rfl) (by kernel_rfl) (by kernel_rfl)
theorem ok54 : InstOk Tryz.prog I54 := instOk_of Tryz.func54 (by kernel_rfl) (by kernel_rfl) (by kernel_rfl) (by kernel_rfl)
theorem ok11 : InstOk Tryz.prog I11 := instOk_of Tryz.func11 (by kernel_rfl) (by kernel_rfl) (by kernel_rfl) (by kernel_rfl)
theorem ok140 : InstOk Tryz.prog I140 := instOk_of Tryz.func140 (by kernel_rfl) (by kernel_rfl) (by kernel_rfl) (by kernel_rfl)
theorem ok141 : InstOk Tryz.prog I141 := instOk_of Tryz.func141 (by kernel_rfl) (by kernel_rfl) (by kernel_rfl) (by kernel_rfl)
theorem ok146 : InstOk Tryz.prog I146 := instOk_of Tryz.func146 (by kernel_rfl) (by kernel_rfl) (by kernel_rfl) (by kernel_rfl)
theorem ok219 : InstOk Tryz.prog I219 := instOk_of Tryz.func219 (by kernel_rfl) (by kernel_rfl) (by kernel_rfl) (by kernel_rfl)
theorem ok194 : InstOk Tryz.prog I194 := instOk_of Tryz.func194 (by kernel_rfl) (by kernel_rfl) (by kernel_rfl) (by kernel_rfl)
theorem ok195 : InstOk Tryz.prog I195 := instOk_of Tryz.func195 (by kernel_rfl) (by kernel_rfl) (by kernel_rfl) (by kernel_rfl)
theorem ok147 : InstOk Tryz.prog I147 := instOk_of Tryz.func147 (by kernel_rfl) (by kernel_rfl) (by kernel_rfl) (by kernel_rfl)
theorem ok193 : InstOk Tryz.prog I193 := instOk_of Tryz.func193 (by kernel_rfl) (by kernel_rfl) (by kernel_rfl) (by kernel_rfl)
theorem ok143 : InstOk Tryz.prog I143 := instOk_of Tryz.func143 (by kernel_rfl) (by kernel_rfl) (by kernel_rfl) (by kernel_rfl)
theorem ok144 : InstOk Tryz.prog I144 := instOk_of Tryz.func144 (by kernel_rfl) (by kernel_rfl) (by kernel_rfl) (by kernel_rfl)
theorem ok55 : InstOk Tryz.prog I55 := instOk_of Tryz.func55 (by kernel_rfl) (by kernel_rfl) (by kernel_rfl) (by kernel_rfl)
theorem ok75 : InstOk Tryz.prog I75 := instOk_of Tryz.func75 (by kernel_rfl) (by kernel_rfl) (by kernel_rfl) (by kernel_rfl)
theorem ok35 : InstOk Tryz.prog I35 := instOk_of Tryz.func35 (by kernel_rfl) (by kernel_rfl) (by kernel_rfl) (by kernel_rfl)
theorem ok145 : InstOk Tryz.prog I145 := instOk_of Tryz.func145 (by kernel_rfl) (by kernel_rfl) (by kernel_rfl) (by kernel_rfl)
theorem ok56 : InstOk Tryz.prog I56 := instOk_of Tryz.func56 (by kernel_rfl) (by kernel_rfl) (by kernel_rfl) (by kernel_rfl)
theorem ok57 : InstOk Tryz.prog I57 := instOk_of Tryz.func57 (by kernel_rfl) (by kernel_rfl) (by kernel_rfl) (by kernel_rfl)
theorem ok178 : InstOk Tryz.prog I178 := instOk_ext rfl
theorem ok105 : InstOk Tryz.prog I105 := instOk_of Tryz.func105 (by kernel_rfl) (by kernel_rfl) (by kernel_rfl) (by kernel_rfl)
theorem ok170 : InstOk Tryz.prog I170 := instOk_ext rfl
theorem ok171 : InstOk Tryz.prog I171 := instOk_ext rfl
theorem ok93 : InstOk Tryz.prog I93 := instOk_of Tryz.func93 (by kernel_rfl) (by kernel_rfl) (by kernel_rfl) (by kernel_rfl)
theorem ok92 : InstOk Tryz.prog I92 := instOk_ext rfl
theorem ok94 : InstOk Tryz.prog I94 := instOk_ext rfl
theorem ok59 : InstOk Tryz.prog I59 := instOk_of Tryz.func59 (by kernel_rfl) (by kernel_rfl) (by kernel_rfl) (by kernel_rfl)
theorem ok90 : InstOk Tryz.prog I90 := instOk_ext rfl
theorem ok86 : InstOk Tryz.prog I86 := instOk_ext rfl
theorem ok176 : InstOk Tryz.prog I176 := instOk_ext rfl
theorem ok101 : InstOk Tryz.prog I101 := instOk_of Tryz.func101 (by kernel_rfl) (by kernel_rfl) (by kernel_rfl) (by kernel_rfl)
theorem ok168 : InstOk Tryz.prog I168 := instOk_ext rfl
theorem ok91 : InstOk Tryz.prog I91 := instOk_of Tryz.func91 (by kernel_rfl) (by kernel_rfl) (by kernel_rfl) (by kernel_rfl)
theorem ok58 : InstOk Tryz.prog I58 := instOk_of Tryz.func58 (by kernel_rfl) (by kernel_rfl) (by kernel_rfl) (by kernel_rfl)
theorem ok76 : InstOk Tryz.prog I76 := instOk_of Tryz.func76 (by kernel_rfl) (by kernel_rfl) (by kernel_rfl) (by kernel_rfl)
theorem ok61 : InstOk Tryz.prog I61 := instOk_of Tryz.func61 (by kernel_rfl) (by kernel_rfl) (by kernel_rfl) (by kernel_rfl)
theorem ok5 : InstOk Tryz.prog I5 := instOk_of Tryz.func5 (by kernel_rfl) (by kernel_rfl) (by kernel_rfl) (by kernel_rfl)
theorem insts : ∀ j, InstOk Tryz.prog (C j) := find_all ok6 (List.forall_mem_cons.2 ⟨ok6, List.forall_mem_cons.2 ⟨ok63, List.forall_mem_cons.2 ⟨ok157, List.forall_mem_cons.2 ⟨ok72, List.forall_mem_cons.2 ⟨ok186, List.forall_mem_cons.2 ⟨ok150, List.forall_mem_cons.2 ⟨ok149, List.forall_mem_cons.2 ⟨ok151, List.forall_mem_cons.2 ⟨ok132, List.forall_mem_cons.2 ⟨ok52, List.forall_mem_cons.2 ⟨ok116, List.forall_mem_cons.2 ⟨ok174, List.forall_mem_cons.2 ⟨ok172, List.forall_mem_cons.2 ⟨ok121, List.forall_mem_cons.2 ⟨ok122, List.forall_mem_cons.2 ⟨ok133, List.forall_mem_cons.2 ⟨ok142, List.forall_mem_cons.2 ⟨ok130, List.forall_mem_cons.2 ⟨ok53, List.forall_mem_cons.2 ⟨ok113, List.forall_mem_cons.2 ⟨ok103, List.forall_mem_cons.2 ⟨ok112, List.forall_mem_cons.2 ⟨ok102, List.forall_mem_cons.2 ⟨ok115, List.forall_mem_cons.2 ⟨ok181, List.forall_mem_cons.2 ⟨ok114, List.forall_mem_cons.2 ⟨ok39, List.forall_mem_cons.2 ⟨ok69, List.forall_mem_cons.2 ⟨ok68, List.forall_mem_cons.2 ⟨ok74, List.forall_mem_cons.2 ⟨ok187, List.forall_mem_cons.2 ⟨ok136, List.forall_mem_cons.2 ⟨ok160, List.forall_mem_cons.2 ⟨ok129, List.forall_mem_cons.2 ⟨ok135, List.forall_mem_cons.2 ⟨ok134, List.forall_mem_cons.2 ⟨ok148, List.forall_mem_cons.2 ⟨ok188, List.forall_mem_cons.2 ⟨ok137, List.forall_mem_cons.2 ⟨ok218, List.forall_mem_cons.2 ⟨ok192, List.forall_mem_cons.2 ⟨ok217, List.forall_mem_cons.2 ⟨ok189, List.forall_mem_cons.2 ⟨ok190, List.forall_mem_cons.2 ⟨ok60, List.forall_mem_cons.2 ⟨ok191, List.forall_mem_cons.2 ⟨ok138, List.forall_mem_cons.2 ⟨ok139, List.forall_mem_cons.2 ⟨ok54, List.forall_mem_cons.2 ⟨ok11, List.forall_mem_cons.2 ⟨ok140, List.forall_mem_cons.2 ⟨ok141, List.forall_mem_cons.2 ⟨ok146, List.forall_mem_cons.2 ⟨ok219, List.forall_mem_cons.2 ⟨ok194, List.forall_mem_cons.2 ⟨ok195, List.forall_mem_cons.2 ⟨ok147, List.forall_mem_cons.2 ⟨ok193, List.forall_mem_cons.2 ⟨ok143, List.forall_mem_cons.2 ⟨ok144, List.forall_mem_cons.2 ⟨ok55, List.forall_mem_cons.2 ⟨ok75, List.forall_mem_cons.2 ⟨ok35, List.forall_mem_cons.2 ⟨ok145, List.forall_mem_cons.2 ⟨ok56, List.forall_mem_cons.2 ⟨ok57, List.forall_mem_cons.2 ⟨ok178, List.forall_mem_cons.2 ⟨ok105, List.forall_mem_cons.2 ⟨ok170, List.forall_mem_cons.2 ⟨ok171, List.forall_mem_cons.2 ⟨ok93, List.forall_mem_cons.2 ⟨ok92, List.forall_mem_cons.2 ⟨ok94, List.forall_mem_cons.2 ⟨ok59, List.forall_mem_cons.2 ⟨ok90, List.forall_mem_cons.2 ⟨ok86, List.forall_mem_cons.2 ⟨ok176, List.forall_mem_cons.2 ⟨ok101, List.forall_mem_cons.2 ⟨ok168, List.forall_mem_cons.2 ⟨ok91, List.forall_mem_cons.2 ⟨ok58, List.forall_mem_cons.2 ⟨ok76, List.forall_mem_cons.2 ⟨ok61, List.forall_mem_cons.2 ⟨ok5, fun _ h => absurd h List.not_mem_nil⟩⟩⟩⟩⟩⟩⟩⟩⟩⟩⟩⟩⟩⟩⟩⟩⟩⟩⟩⟩⟩⟩⟩⟩⟩⟩⟩⟩⟩⟩⟩⟩⟩⟩⟩⟩⟩⟩⟩⟩⟩⟩⟩⟩⟩⟩⟩⟩⟩⟩⟩⟩⟩⟩⟩⟩⟩⟩⟩⟩⟩⟩⟩⟩⟩⟩⟩⟩⟩⟩⟩⟩⟩⟩⟩⟩⟩⟩⟩⟩⟩⟩⟩⟩)
theorem c191 : C 191 = I191 := by kernel_rfl
theorem c178 : C 178 = I178 := by kernel_rfl
theorem c170 : C 170 = I170 := by kernel_rfl
theorem c171 : C 171 = I171 := by kernel_rfl
theorem c92 : C 92 = I92 := by kernel_rfl
theorem c94 : C 94 = I94 := by kernel_rfl
theorem c90 : C 90 = I90 := by kernel_rfl
theorem c86 : C 86 = I86 := by kernel_rfl
theorem c176 : C 176 = I176 := by kernel_rfl
theorem c168 : C 168 = I168 := by kernel_rfl
theorem exts {L : Laid} (h191 : ExtOk Tryz.prog L I191) (h178 : ExtOk Tryz.prog L I178) (h170 : ExtOk Tryz.prog L I170) (h171 : ExtOk Tryz.prog L I171) (h92 : ExtOk Tryz.prog L I92) (h94 : ExtOk Tryz.prog L I94) (h90 : ExtOk Tryz.prog L I90) (h86 : ExtOk Tryz.prog L I86) (h176 : ExtOk Tryz.prog L I176) (h168 : ExtOk Tryz.prog L I168) : ∀ j, ExtOk Tryz.prog L (C j) := by
  have hC : C = find I6 CL := by delta C; with_reducible rfl
  refine fun j => exts_of (C := C) _ _ [191, 178, 170, 171, 92, 94, 90, 86, 176, 168] hC (by kernel_rfl) (by kernel_rfl) ?_ j
  intro e he
  change ExtOk _ _ (C e)
  simp only [List.mem_cons, List.not_mem_nil, or_false] at he
  rcases he with rfl | rfl | rfl | rfl | rfl | rfl | rfl | rfl | rfl | rfl
  · rw [c191]; exact h191
  · rw [c178]; exact h178
  · rw [c170]; exact h170
  · rw [c171]; exact h171
  · rw [c92]; exact h92
  · rw [c94]; exact h94
  · rw [c90]; exact h90
  · rw [c86]; exact h86
  · rw [c176]; exact h176
  · rw [c168]; exact h168
end Go.Proofs.YtipjblnjaicbfaaGreatDoor.LRq
