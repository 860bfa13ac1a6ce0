/- The types and the functions that a law reaches, told for the reading (Fw). Written by a program (gen.py). -/
import Derived.Test.YteeciijmkmdplaaDoorFwC
import Derived.Test.YteeciijmkmdplaaDoorProg
import Derived.Lib.TrailingZeros
namespace Go.Proofs.YteeciijmkmdplaaDoor.LFi
open Go Go.Fw
open Go.Proofs
noncomputable def tyL : List (Nat × TI) := [(2, ⟨(.int .i64), 0, 8⟩),
  (3, ⟨(.int .i64), 0, 8⟩),
  (4, ⟨.bool, 0, 1⟩),
  (5, ⟨(.int .u8), 0, 1⟩),
  (25, ⟨(.slc (.int .i16)), 62, 24⟩),
  (29, ⟨(.slc (.int .i64)), 2, 24⟩),
  (41, ⟨(.slc (.int .u8)), 5, 24⟩),
  (51, ⟨(.slc (.arr 64 (.int .u64))), 100, 24⟩),
  (59, ⟨(.int .u64), 0, 8⟩),
  (62, ⟨(.int .i16), 0, 2⟩),
  (78, ⟨(.pair (.slc (.int .i16)) (.pair (.int .i64) (.pair (.int .i64) (.pair (.int .i64) .unit)))), 0, 48⟩),
  (80, ⟨(.ptr (.pair (.slc (.int .i16)) (.pair (.int .i64) (.pair (.int .i64) (.pair (.int .i64) (.pair (.int .i64) .unit)))))), 0, 8⟩),
  (82, ⟨(.pair (.slc (.int .i16)) (.pair (.int .i64) (.pair (.int .i64) (.pair (.int .i64) (.pair (.int .i64) .unit))))), 0, 56⟩),
  (89, ⟨.fn, 0, 8⟩),
  (97, ⟨(.ptr (.pair (.slc (.int .u8)) (.pair (.int .i64) (.pair (.int .u64) .unit)))), 0, 8⟩),
  (100, ⟨(.arr 64 (.int .u64)), 59, 512⟩),
  (111, ⟨(.int .u64), 0, 8⟩),
  (117, ⟨(.arr 4 (.int .i64)), 2, 32⟩),
  (122, ⟨.fn, 0, 8⟩),
  (125, ⟨(.pair (.slc (.int .u8)) (.pair (.int .i64) (.pair (.int .u64) .unit))), 0, 40⟩)]
noncomputable def T : Nat → Option TI := findT tyL
/- laws.f6big -/
noncomputable def I24 : Inst := { f := 24, nt := 6, params := [((.ro (.slc (.int .u8))), false)], res := [(.ro .bool)], slots := [.tmp 2], code := bd Tryd.f24 }
/- spec.l00From -/
noncomputable def I67 : Inst := { f := 67, nt := 6, params := [((.ro (.slc (.int .u8))), false)], res := [(.box (.ro (.pair (.slc (.int .u8)) (.pair (.int .i64) (.pair (.int .u64) .unit)))))], slots := [.tmp 2], code := bd Tryd.f67, strict := true }
/- spec.l00Src).next -/
noncomputable def I106 : Inst := { f := 106, nt := 62, params := [((.box (.ro (.pair (.slc (.int .u8)) (.pair (.int .i64) (.pair (.int .u64) .unit))))), true)], res := [(.ro (.int .i64))], slots := [.tmp 2], code := bd Tryd.f106, strict := true, pins := [0] }
/- spec.l00Src).pick -/
noncomputable def I68 : Inst := { f := 68, nt := 20, params := [((.box (.ro (.pair (.slc (.int .u8)) (.pair (.int .i64) (.pair (.int .u64) .unit))))), true), ((.ro (.int .i64)), false)], res := [(.ro (.int .i64))], slots := [.tmp 4], code := bd Tryd.f68, strict := true, callee := fun r i => find 0 [(3001, 106), (5003, 106)] (r * 1000 + i), pins := [0] }
/- spec.l00Src).among -/
noncomputable def I103 : Inst := { f := 103, nt := 12, params := [((.box (.ro (.pair (.slc (.int .u8)) (.pair (.int .i64) (.pair (.int .u64) .unit))))), true), ((.ro (.slc (.int .i64))), false)], res := [(.ro (.int .i64))], slots := [.tmp 4], code := bd Tryd.f103, strict := true, callee := fun r i => find 0 [(1004, 68)] (r * 1000 + i), pins := [0] }
/- spec.l00Min -/
noncomputable def I87 : Inst := { f := 87, nt := 10, params := [((.ro (.int .i64)), false), ((.ro (.int .i64)), false)], res := [(.ro (.int .i64))], slots := [.tmp 4], code := bd Tryd.f87 }
/- spec.l00Max -/
noncomputable def I104 : Inst := { f := 104, nt := 10, params := [((.ro (.int .i64)), false), ((.ro (.int .i64)), false)], res := [(.ro (.int .i64))], slots := [.tmp 4], code := bd Tryd.f104 }
/- spec.l00Src).one -/
noncomputable def I105 : Inst := { f := 105, nt := 9, params := [((.box (.ro (.pair (.slc (.int .u8)) (.pair (.int .i64) (.pair (.int .u64) .unit))))), true), ((.ro (.int .i64)), false)], res := [(.ro .bool)], slots := [.tmp 4], code := bd Tryd.f105, strict := true, callee := fun r i => find 0 [(1002, 68)] (r * 1000 + i), pins := [0] }
/- spec.l01Drawn -/
noncomputable def I66 : Inst := { f := 66, nt := 60, params := [((.box (.ro (.pair (.slc (.int .u8)) (.pair (.int .i64) (.pair (.int .u64) .unit))))), true)], res := [(.ro (.slc (.int .i16)))], slots := [.tmp 2], code := bd Tryd.f66, strict := true, callee := fun r i => find 0 [(1002, 103), (3001, 68), (5001, 68), (6001, 68), (9003, 87), (9004, 104), (11001, 105)] (r * 1000 + i), loops := fun b => find [] [(2, [.own 0 (.box (.ro (.pair (.slc (.int .u8)) (.pair (.int .i64) (.pair (.int .u64) .unit))))), .own 3 (.ro (.int .i64)), .own 4 (.row false (.int .i16)), .own 5 (.ro (.int .i64)), .own 6 (.ro (.int .i64)), .own 7 (.ro (.int .i64))]), (0, [.own 0 (.box (.ro (.pair (.slc (.int .u8)) (.pair (.int .i64) (.pair (.int .u64) .unit))))), .own 3 (.ro (.int .i64)), .own 4 (.row false (.int .i16)), .own 5 (.ro (.int .i64))])] b, pins := [0], deep := fun r i => find false [(1001, true), (2000, true), (10003, true), (10004, true), (14000, true), (14002, true), (14004, true)] (r * 1000 + i), frz := fun r i => find false [(1001, true)] (r * 1000 + i), ice := fun r i => find [] [(12003, [47, 4, 15])] (r * 1000 + i) }
/- spec.P6Cam -/
noncomputable def I25 : Inst := { f := 25, nt := 6, params := [((.ro (.slc (.int .u8))), false)], res := [(.ro (.slc (.int .i16)))], slots := [.tmp 2], code := bd Tryd.f25, strict := true, callee := fun r i => find 0 [(1001, 67), (1002, 66)] (r * 1000 + i) }
/- spec.P6Pick -/
noncomputable def I26 : Inst := { f := 26, nt := 9, params := [((.ro (.slc (.int .u8))), false), ((.ro (.int .i64)), false)], res := [(.ro (.int .i64))], slots := [.tmp 4], code := bd Tryd.f26, callee := fun r i => find 0 [(1001, 67), (1003, 68)] (r * 1000 + i) }
/- impl.Cam).steps -/
noncomputable def I62 : Inst := { f := 62, nt := 5, params := [((.ro (.slc (.int .i16))), false)], res := [(.ro (.int .i64))], slots := [.tmp 2], code := bd Tryd.f62 }
/- impl.inRange -/
noncomputable def I60 : Inst := { f := 60, nt := 15, params := [((.ro (.int .i64)), false), ((.ro (.int .i64)), false), ((.ro (.int .i64)), false)], res := [(.ro .bool)], slots := [.tmp 6], code := bd Tryd.f60 }
/- impl.isSteps -/
noncomputable def I97 : Inst := { f := 97, nt := 5, params := [((.ro (.int .i64)), false)], res := [(.ro .bool)], slots := [.tmp 2], code := bd Tryd.f97, callee := fun r i => find 0 [(1001, 60)] (r * 1000 + i) }
/- impl.isLift -/
noncomputable def I100 : Inst := { f := 100, nt := 5, params := [((.ro (.int .i64)), false)], res := [(.ro .bool)], slots := [.tmp 2], code := bd Tryd.f100, callee := fun r i => find 0 [(1001, 60)] (r * 1000 + i) }
/- impl.ValidCam$1 -/
noncomputable def I99 : Inst := { f := 99, nt := 7, params := [((.ro (.int .i16)), false)], res := [(.ro .bool)], slots := [.tmp 2], code := bd Tryd.f99, callee := fun r i => find 0 [(1002, 100)] (r * 1000 + i) }
/- impl.Cam,int16] -/
noncomputable def I120 : Inst := { f := 120, nt := 19, params := [((.ro (.slc (.int .i16))), false), ((.clo 99 (.ro .unit) (.ro .unit)), false)], res := [(.ro (.int .i64))], slots := [.tmp 4], code := bd Tryd.f120, callee := fun r i => find 0 [(4005, 99)] (r * 1000 + i), loops := fun b => find [] [(0, [.own 0 (.ro (.slc (.int .i16))), .own 1 (.clo 99 (.ro .unit) (.ro .unit)), .own 7 (.ro (.int .i64)), .own 8 (.ro (.int .i64))])] b }
/- impl.Cam,int16] -/
noncomputable def I98 : Inst := { f := 98, nt := 9, params := [((.ro (.slc (.int .i16))), false), ((.clo 99 (.ro .unit) (.ro .unit)), false)], res := [(.ro .bool)], slots := [.tmp 4], code := bd Tryd.f98, callee := fun r i => find 0 [(1002, 120)] (r * 1000 + i) }
/- impl.ValidCam -/
noncomputable def I59 : Inst := { f := 59, nt := 11, params := [((.ro (.slc (.int .i16))), false)], res := [(.ro .bool)], slots := [.tmp 2], code := bd Tryd.f59, callee := fun r i => find 0 [(1001, 62), (1002, 97), (1005, 98)] (r * 1000 + i) }
/- impl.codeIf -/
noncomputable def I58 : Inst := { f := 58, nt := 7, params := [((.ro .bool), false), ((.ro (.int .i64)), false)], res := [(.ro (.int .i64))], slots := [.tmp 4], code := bd Tryd.f58 }
/- impl.isPlace -/
noncomputable def I88 : Inst := { f := 88, nt := 9, params := [((.ro (.int .i64)), false), ((.ro (.int .i64)), false)], res := [(.ro .bool)], slots := [.tmp 4], code := bd Tryd.f88, callee := fun r i => find 0 [(1003, 60)] (r * 1000 + i) }
/- impl.firstCode -/
noncomputable def I57 : Inst := { f := 57, nt := 15, params := [((.ro (.slc (.int .i64))), false)], res := [(.ro (.int .i64))], slots := [.tmp 2], code := bd Tryd.f57, loops := fun b => find [] [(0, [.own 5 (.ro (.slc (.int .i64))), .own 6 (.ro (.int .i64)), .own 7 (.ro (.int .i64))])] b }
/- impl.floorDiv -/
noncomputable def I102 : Inst := { f := 102, nt := 16, params := [((.ro (.int .i64)), false), ((.ro (.int .i64)), false)], res := [(.ro (.int .i64))], slots := [.tmp 4], code := bd Tryd.f102 }
/- impl.mod -/
noncomputable def I65 : Inst := { f := 65, nt := 12, params := [((.ro (.int .i64)), false), ((.ro (.int .i64)), false)], res := [(.ro (.int .i64))], slots := [.tmp 4], code := bd Tryd.f65, callee := fun r i => find 0 [(1004, 102)] (r * 1000 + i) }
/- impl.Cam).at -/
noncomputable def I118 : Inst := { f := 118, nt := 13, params := [((.ro (.slc (.int .i16))), false), ((.ro (.int .i64)), false)], res := [(.ro (.int .i64))], slots := [.tmp 4], code := bd Tryd.f118, callee := fun r i => find 0 [(1003, 62), (1004, 65)] (r * 1000 + i) }
/- impl.stretch).height -/
noncomputable def I89 : Inst := { f := 89, nt := 12, params := [((.ro (.pair (.slc (.int .i16)) (.pair (.int .i64) (.pair (.int .i64) (.pair (.int .i64) .unit))))), false), ((.ro (.int .i64)), false)], res := [(.ro (.int .i64))], slots := [.tmp 4], code := bd Tryd.f89, callee := fun r i => find 0 [(1003, 118)] (r * 1000 + i) }
/- impl.stretch).code -/
noncomputable def I46 : Inst := { f := 46, nt := 77, params := [((.ro (.pair (.slc (.int .i16)) (.pair (.int .i64) (.pair (.int .i64) (.pair (.int .i64) .unit))))), false), ((.ro (.int .i64)), false)], res := [(.ro (.int .i64))], slots := [.tmp 4], code := bd Tryd.f46, callee := fun r i => find 0 [(1002, 62), (2002, 59), (2004, 58), (2010, 88), (2018, 60), (2024, 60), (2029, 60), (2032, 58), (2034, 57), (8002, 89), (8003, 60)] (r * 1000 + i), loops := fun b => find [] [(0, [.own 2 (.box (.ro (.pair (.slc (.int .i16)) (.pair (.int .i64) (.pair (.int .i64) (.pair (.int .i64) .unit)))))), .own 67 (.ro (.arr 4 (.int .i64))), .own 68 (.ro (.int .i64))])] b, deep := fun r i => find false [(2033, true)] (r * 1000 + i), frz := fun r i => find false [(2033, true)] (r * 1000 + i) }
/- impl.span -/
noncomputable def I119 : Inst := { f := 119, nt := 19, params := [((.ro (.int .i64)), false), ((.ro (.int .i64)), false)], res := [(.ro (.int .u64))], slots := [.tmp 4], code := bd Tryd.f119 }
/- impl.leads -/
noncomputable def I94 : Inst := { f := 94, nt := 20, params := [((.ro (.int .i64)), false), ((.ro (.int .i64)), false), ((.ro (.int .i64)), false)], res := [(.ro (.int .u64))], slots := [.tmp 6], code := bd Tryd.f94, callee := fun r i => find 0 [(1012, 119)] (r * 1000 + i) }
/- impl.stretch).allowed -/
noncomputable def I76 : Inst := { f := 76, nt := 16, params := [((.ro (.pair (.slc (.int .i16)) (.pair (.int .i64) (.pair (.int .i64) (.pair (.int .i64) .unit))))), false), ((.ro (.int .i64)), false)], res := [(.ro (.int .u64))], slots := [.tmp 4], code := bd Tryd.f76, callee := fun r i => find 0 [(3005, 89)] (r * 1000 + i) }
/- impl.stretch).behind -/
noncomputable def I92 : Inst := { f := 92, nt := 69, params := [((.ro (.pair (.slc (.int .i16)) (.pair (.int .i64) (.pair (.int .i64) (.pair (.int .i64) .unit))))), false), ((.ro (.int .i64)), false)], res := [(.row false (.arr 64 (.int .u64)))], slots := [.tmp 4], code := bd Tryd.f92, callee := fun r i => find 0 [(17003, 94), (17006, 76)] (r * 1000 + i), loops := fun b => find [] [(6, [.own 1 (.ro (.int .i64)), .own 2 (.box (.ro (.pair (.slc (.int .i16)) (.pair (.int .i64) (.pair (.int .i64) (.pair (.int .i64) .unit)))))), .own 6 (.row false (.arr 64 (.int .u64))), .own 8 (.ro (.int .i64)), .own 9 (.ro (.int .i64)), .own 32 (.ro (.int .i64)), .own 35 (.ro (.int .i64))]), (4, [.own 1 (.ro (.int .i64)), .own 2 (.box (.ro (.pair (.slc (.int .i16)) (.pair (.int .i64) (.pair (.int .i64) (.pair (.int .i64) .unit)))))), .own 6 (.row false (.arr 64 (.int .u64))), .own 8 (.ro (.int .i64)), .own 32 (.ro (.int .i64))]), (2, [.own 1 (.ro (.int .i64)), .own 2 (.box (.ro (.pair (.slc (.int .i16)) (.pair (.int .i64) (.pair (.int .i64) (.pair (.int .i64) .unit)))))), .own 6 (.row false (.arr 64 (.int .u64))), .own 8 (.ro (.int .i64))]), (0, [.own 1 (.ro (.int .i64)), .own 2 (.box (.ro (.pair (.slc (.int .i16)) (.pair (.int .i64) (.pair (.int .i64) (.pair (.int .i64) .unit)))))), .own 5 (.ro (.int .i64)), .own 6 (.row false (.arr 64 (.int .u64))), .own 17 (.ro (.int .i64))])] b, deep := fun r i => find false [(2002, true)] (r * 1000 + i) }
/- impl.stretch).pair -/
noncomputable def I74 : Inst := { f := 74, nt := 14, params := [((.ro (.pair (.slc (.int .i16)) (.pair (.int .i64) (.pair (.int .i64) (.pair (.int .i64) .unit))))), false)], res := [(.ro (.int .i64)), (.ro (.int .i64))], slots := [.tmp 2, .tmp 3], code := bd Tryd.f74, callee := fun r i => find 0 [(1004, 89), (1009, 89)] (r * 1000 + i) }
/- impl.HasPair -/
noncomputable def I93 : Inst := { f := 93, nt := 22, params := [((.ro (.arr 64 (.int .u64))), false), ((.ro (.int .i64)), false), ((.ro (.int .i64)), false)], res := [(.ro .bool)], slots := [.tmp 6], code := bd Tryd.f93, callee := fun r i => find 0 [(1001, 88), (1004, 88)] (r * 1000 + i) }
/- bits.TrailingZeros64: told by its contract -/
noncomputable def I85 : Inst := { f := 85, nt := 0, params := [((.ro (.int .u64)), false)], res := [(.ro (.int .i64))], slots := [], code := .skip, ext := some (fun x => if 0 ≤ x.1 ∧ x.1 < 18446744073709551616 then some ((((Lib.ctz 64 x.1.toNat : Nat) : Int), ()), ()) else none) }
/- impl.stretch).fill -/
noncomputable def I49 : Inst := { f := 49, nt := 57, params := [((.ro (.pair (.slc (.int .i16)) (.pair (.int .i64) (.pair (.int .i64) (.pair (.int .i64) .unit))))), false), ((.ro (.int .i64)), false)], res := [(.row false (.int .i64)), (.ro .bool)], slots := [.tmp 4, .tmp 5], code := bd Tryd.f49, callee := fun r i => find 0 [(1002, 92), (2001, 74), (3005, 93), (9003, 94), (9012, 85)] (r * 1000 + i), loops := fun b => find [] [(0, [.own 1 (.ro (.int .i64)), .own 2 (.box (.ro (.pair (.slc (.int .i16)) (.pair (.int .i64) (.pair (.int .i64) (.pair (.int .i64) .unit)))))), .own 6 (.ro (.slc (.arr 64 (.int .u64)))), .own 7 (.ro (.int .i64)), .own 8 (.ro (.int .i64)), .own 9 (.row false (.int .i64)), .own 29 (.ro (.int .i64)), .own 30 (.ro (.int .i64))])] b, deep := fun r i => find false [(5000, true), (10005, true), (10006, true)] (r * 1000 + i) }
/- impl.stretch).leastBound -/
noncomputable def I47 : Inst := { f := 47, nt := 26, params := [((.ro (.pair (.slc (.int .i16)) (.pair (.int .i64) (.pair (.int .i64) (.pair (.int .i64) .unit))))), false)], res := [(.ro (.int .i64))], slots := [.tmp 2], code := bd Tryd.f47, callee := fun r i => find 0 [(4002, 49)] (r * 1000 + i), loops := fun b => find [] [(0, [.own 1 (.box (.ro (.pair (.slc (.int .i16)) (.pair (.int .i64) (.pair (.int .i64) (.pair (.int .i64) .unit)))))), .own 3 (.ro (.int .i64)), .own 4 (.ro (.int .i64))])] b }
/- impl.LeastBound -/
noncomputable def I11 : Inst := { f := 11, nt := 24, params := [((.ro (.slc (.int .i16))), false), ((.ro (.int .i64)), false), ((.ro (.int .i64)), false), ((.ro (.int .i64)), false)], res := [(.ro (.int .i64)), (.ro (.int .i64))], slots := [.tmp 8, .tmp 9], code := bd Tryd.f11, callee := fun r i => find 0 [(2001, 46), (5001, 47)] (r * 1000 + i) }
/- spec.l00In -/
noncomputable def I86 : Inst := { f := 86, nt := 15, params := [((.ro (.int .i64)), false), ((.ro (.int .i64)), false), ((.ro (.int .i64)), false)], res := [(.ro .bool)], slots := [.tmp 6], code := bd Tryd.f86 }
/- spec.l01Steps -/
noncomputable def I95 : Inst := { f := 95, nt := 5, params := [((.ro (.int .i64)), false)], res := [(.ro .bool)], slots := [.tmp 2], code := bd Tryd.f95, callee := fun r i => find 0 [(1001, 86)] (r * 1000 + i) }
/- spec.l01Lift -/
noncomputable def I96 : Inst := { f := 96, nt := 5, params := [((.ro (.int .i64)), false)], res := [(.ro .bool)], slots := [.tmp 2], code := bd Tryd.f96, callee := fun r i => find 0 [(1001, 86)] (r * 1000 + i) }
/- spec.l01Ok -/
noncomputable def I52 : Inst := { f := 52, nt := 21, params := [((.ro (.slc (.int .i16))), false)], res := [(.ro .bool)], slots := [.tmp 2], code := bd Tryd.f52, callee := fun r i => find 0 [(1002, 95), (6005, 96)] (r * 1000 + i), loops := fun b => find [] [(0, [.own 0 (.ro (.slc (.int .i16))), .own 3 (.ro (.int .i64))])] b }
/- spec.l05Low -/
noncomputable def I54 : Inst := { f := 54, nt := 5, params := [((.ro (.int .i64)), false)], res := [(.ro .bool)], slots := [.tmp 2], code := bd Tryd.f54, callee := fun r i => find 0 [(1001, 86)] (r * 1000 + i) }
/- spec.l05Bound -/
noncomputable def I53 : Inst := { f := 53, nt := 5, params := [((.ro (.int .i64)), false)], res := [(.ro .bool)], slots := [.tmp 2], code := bd Tryd.f53, callee := fun r i => find 0 [(1001, 86)] (r * 1000 + i) }
/- spec.l01At -/
noncomputable def I56 : Inst := { f := 56, nt := 19, params := [((.ro (.slc (.int .i16))), false), ((.ro (.int .i64)), false)], res := [(.ro (.int .i64))], slots := [.tmp 4], code := bd Tryd.f56 }
/- spec.l05Asked -/
noncomputable def I44 : Inst := { f := 44, nt := 72, params := [((.ro (.slc (.int .i16))), false), ((.ro (.int .i64)), false), ((.ro (.int .i64)), false), ((.ro (.int .i64)), false), ((.ro (.int .i64)), false)], res := [(.ro (.int .i64))], slots := [.tmp 10], code := bd Tryd.f44, callee := fun r i => find 0 [(1001, 52), (4003, 86), (4009, 87), (4010, 86), (4015, 54), (4020, 53), (10005, 56), (10010, 86)] (r * 1000 + i), loops := fun b => find [] [(0, [.own 0 (.ro (.slc (.int .i16))), .own 3 (.ro (.int .i64)), .own 12 (.ro (.slc (.int .i64))), .own 13 (.ro (.int .i64))])] b, deep := fun r i => find false [(6011, true)] (r * 1000 + i) }
/- spec.l05Stretch).at -/
noncomputable def I91 : Inst := { f := 91, nt := 16, params := [((.ro (.ptr (.pair (.slc (.int .i16)) (.pair (.int .i64) (.pair (.int .i64) (.pair (.int .i64) (.pair (.int .i64) .unit))))))), false), ((.ro (.int .i64)), false)], res := [(.ro (.int .i64))], slots := [.tmp 4], code := bd Tryd.f91, callee := fun r i => find 0 [(1005, 56)] (r * 1000 + i) }
/- spec.l05Stretch).first -/
noncomputable def I109 : Inst := { f := 109, nt := 23, params := [((.ro (.ptr (.pair (.slc (.int .i16)) (.pair (.int .i64) (.pair (.int .i64) (.pair (.int .i64) (.pair (.int .i64) .unit))))))), false)], res := [(.ro (.arr 64 (.int .u64)))], slots := [.cell 2 100], code := bd Tryd.f109, callee := fun r i => find 0 [(2006, 91), (2013, 91)] (r * 1000 + i) }
/- spec.l05Stretch).may -/
noncomputable def I90 : Inst := { f := 90, nt := 66, params := [((.ro (.ptr (.pair (.slc (.int .i16)) (.pair (.int .i64) (.pair (.int .i64) (.pair (.int .i64) (.pair (.int .i64) .unit))))))), false), ((.ro (.int .i64)), false), ((.ro (.int .i64)), false), ((.ro (.int .i64)), false)], res := [(.ro (.int .u64))], slots := [.tmp 8], code := bd Tryd.f90, callee := fun r i => find 0 [(1009, 104), (2009, 87), (4008, 91), (5002, 104), (6002, 87)] (r * 1000 + i) }
/- spec.l05Stretch).reach -/
noncomputable def I77 : Inst := { f := 77, nt := 59, params := [((.ro (.ptr (.pair (.slc (.int .i16)) (.pair (.int .i64) (.pair (.int .i64) (.pair (.int .i64) (.pair (.int .i64) .unit))))))), false)], res := [(.row false (.arr 64 (.int .u64)))], slots := [.tmp 2], code := bd Tryd.f77, callee := fun r i => find 0 [(1001, 109), (14007, 90)] (r * 1000 + i), loops := fun b => find [] [(4, [.own 0 (.ro (.ptr (.pair (.slc (.int .i16)) (.pair (.int .i64) (.pair (.int .i64) (.pair (.int .i64) (.pair (.int .i64) .unit))))))), .own 3 (.row false (.arr 64 (.int .u64))), .own 4 (.ro (.int .i64)), .own 5 (.box (.ro (.arr 64 (.int .u64)))), .elt 6 3 (.arr 64 (.int .u64)), .own 7 (.ro (.int .i64)), .own 8 (.ro (.int .i64))]), (2, [.own 0 (.ro (.ptr (.pair (.slc (.int .i16)) (.pair (.int .i64) (.pair (.int .i64) (.pair (.int .i64) (.pair (.int .i64) .unit))))))), .own 3 (.row false (.arr 64 (.int .u64))), .own 4 (.ro (.int .i64)), .own 5 (.box (.ro (.arr 64 (.int .u64)))), .elt 6 3 (.arr 64 (.int .u64)), .own 7 (.ro (.int .i64))]), (0, [.own 0 (.ro (.ptr (.pair (.slc (.int .i16)) (.pair (.int .i64) (.pair (.int .i64) (.pair (.int .i64) (.pair (.int .i64) .unit))))))), .own 3 (.row false (.arr 64 (.int .u64))), .own 4 (.ro (.int .i64))])] b }
/- spec.l05Least -/
noncomputable def I45 : Inst := { f := 45, nt := 41, params := [((.ro (.slc (.int .i16))), false), ((.ro (.int .i64)), false), ((.ro (.int .i64)), false), ((.ro (.int .i64)), false)], res := [(.ro (.int .i64))], slots := [.tmp 8], code := bd Tryd.f45, callee := fun r i => find 0 [(6001, 77)] (r * 1000 + i), loops := fun b => find [] [(0, [.own 0 (.ro (.slc (.int .i16))), .own 1 (.ro (.int .i64)), .own 2 (.ro (.int .i64)), .own 3 (.ro (.int .i64)), .own 9 (.ro (.int .i64)), .own 10 (.ro (.int .i64))])] b }
/- spec.LeastBound -/
noncomputable def I9 : Inst := { f := 9, nt := 24, params := [((.ro (.slc (.int .i16))), false), ((.ro (.int .i64)), false), ((.ro (.int .i64)), false), ((.ro (.int .i64)), false)], res := [(.ro (.int .i64)), (.ro (.int .i64))], slots := [.tmp 8, .tmp 9], code := bd Tryd.f9, callee := fun r i => find 0 [(1004, 44), (4004, 45)] (r * 1000 + i) }
/- impl.FillWithin -/
noncomputable def I14 : Inst := { f := 14, nt := 36, params := [((.ro (.slc (.int .i16))), false), ((.ro (.int .i64)), false), ((.ro (.int .i64)), false), ((.ro (.int .i64)), false), ((.ro (.int .i64)), false)], res := [(.row false (.int .i64)), (.ro (.int .i64))], slots := [.tmp 10, .tmp 11], code := bd Tryd.f14, callee := fun r i => find 0 [(2002, 46), (5002, 49)] (r * 1000 + i) }
/- spec.l05Stretch).fill -/
noncomputable def I48 : Inst := { f := 48, nt := 139, params := [((.ro (.ptr (.pair (.slc (.int .i16)) (.pair (.int .i64) (.pair (.int .i64) (.pair (.int .i64) (.pair (.int .i64) .unit))))))), false)], res := [(.row false (.int .i64)), (.ro .bool)], slots := [.tmp 2, .tmp 3], code := bd Tryd.f48, callee := fun r i => find 0 [(1001, 77), (12015, 90), (14006, 91), (15006, 91), (22004, 90)] (r * 1000 + i), loops := fun b => find [] [(8, [.own 0 (.ro (.ptr (.pair (.slc (.int .i16)) (.pair (.int .i64) (.pair (.int .i64) (.pair (.int .i64) (.pair (.int .i64) .unit))))))), .own 4 (.row false (.arr 64 (.int .u64))), .own 10 (.ro (.int .i64)), .own 11 (.row false (.int .i64)), .own 12 (.ro (.int .i64)), .own 13 (.ro (.int .u64)), .own 14 (.ro (.int .i64))]), (6, [.own 0 (.ro (.ptr (.pair (.slc (.int .i16)) (.pair (.int .i64) (.pair (.int .i64) (.pair (.int .i64) (.pair (.int .i64) .unit))))))), .own 4 (.row false (.arr 64 (.int .u64))), .own 9 (.ro (.int .i64)), .own 10 (.ro (.int .i64)), .own 11 (.row false (.int .i64)), .own 12 (.ro (.int .i64))]), (4, [.own 0 (.ro (.ptr (.pair (.slc (.int .i16)) (.pair (.int .i64) (.pair (.int .i64) (.pair (.int .i64) (.pair (.int .i64) .unit))))))), .own 4 (.row false (.arr 64 (.int .u64))), .own 5 (.ro (.int .i64)), .own 6 (.ro (.int .i64)), .own 7 (.ro (.int .i64))]), (2, [.own 0 (.ro (.ptr (.pair (.slc (.int .i16)) (.pair (.int .i64) (.pair (.int .i64) (.pair (.int .i64) (.pair (.int .i64) .unit))))))), .own 4 (.row false (.arr 64 (.int .u64))), .own 5 (.ro (.int .i64)), .own 6 (.ro (.int .i64))]), (0, [.own 0 (.ro (.ptr (.pair (.slc (.int .i16)) (.pair (.int .i64) (.pair (.int .i64) (.pair (.int .i64) (.pair (.int .i64) .unit))))))), .own 4 (.row false (.arr 64 (.int .u64))), .own 5 (.ro (.int .i64))])] b }
/- spec.FillWithin -/
noncomputable def I13 : Inst := { f := 13, nt := 42, params := [((.ro (.slc (.int .i16))), false), ((.ro (.int .i64)), false), ((.ro (.int .i64)), false), ((.ro (.int .i64)), false), ((.ro (.int .i64)), false)], res := [(.row false (.int .i64)), (.ro (.int .i64))], slots := [.tmp 10, .tmp 11], code := bd Tryd.f13, callee := fun r i => find 0 [(1005, 44), (5001, 48)] (r * 1000 + i), deep := fun r i => find false [(3000, true), (7000, true)] (r * 1000 + i) }
/- impl.putCode$1 -/
noncomputable def I108 : Inst := { f := 108, nt := 6, params := [((.ro (.int .i64)), false)], res := [(.ro .bool)], slots := [.tmp 2], code := bd Tryd.f108, callee := fun r i => find 0 [(1001, 100)] (r * 1000 + i) }
/- slices.IndexFunc[[]int64,int64] -/
noncomputable def I121 : Inst := { f := 121, nt := 19, params := [((.ro (.slc (.int .i64))), false), ((.clo 108 (.ro .unit) (.ro .unit)), false)], res := [(.ro (.int .i64))], slots := [.tmp 4], code := bd Tryd.f121, callee := fun r i => find 0 [(4005, 108)] (r * 1000 + i), loops := fun b => find [] [(0, [.own 0 (.ro (.slc (.int .i64))), .own 1 (.clo 108 (.ro .unit) (.ro .unit)), .own 7 (.ro (.int .i64)), .own 8 (.ro (.int .i64))])] b }
/- slices.ContainsFunc[[]int64,int64] -/
noncomputable def I107 : Inst := { f := 107, nt := 9, params := [((.ro (.slc (.int .i64))), false), ((.clo 108 (.ro .unit) (.ro .unit)), false)], res := [(.ro .bool)], slots := [.tmp 4], code := bd Tryd.f107, callee := fun r i => find 0 [(1002, 121)] (r * 1000 + i) }
/- impl.putCode -/
noncomputable def I69 : Inst := { f := 69, nt := 41, params := [((.ro (.slc (.int .i16))), false), ((.ro (.int .i64)), false), ((.ro (.slc (.int .i64))), false), ((.ro (.int .i64)), false)], res := [(.ro (.int .i64))], slots := [.tmp 8], code := bd Tryd.f69, callee := fun r i => find 0 [(2001, 59), (2003, 58), (2007, 88), (2012, 62), (2015, 60), (2020, 60), (2023, 58), (2025, 107), (2026, 58), (2028, 57)] (r * 1000 + i), deep := fun r i => find false [(2027, true)] (r * 1000 + i), frz := fun r i => find false [(2027, true)] (r * 1000 + i) }
/- impl.Cam,int16] -/
noncomputable def I61 : Inst := { f := 61, nt := 8, params := [((.ro (.slc (.int .i16))), false)], res := [(.row false (.int .i16))], slots := [.tmp 2], code := bd Tryd.f61 }
/- impl.Cam).with -/
noncomputable def I51 : Inst := { f := 51, nt := 31, params := [((.ro (.slc (.int .i16))), false), ((.ro (.int .i64)), false), ((.ro (.slc (.int .i64))), false)], res := [(.row false (.int .i16))], slots := [.tmp 6], code := bd Tryd.f51, callee := fun r i => find 0 [(1001, 61), (5005, 62), (5006, 65)] (r * 1000 + i), loops := fun b => find [] [(0, [.own 0 (.ro (.slc (.int .i16))), .own 1 (.ro (.int .i64)), .own 7 (.row false (.int .i16)), .own 12 (.ro (.slc (.int .i64))), .own 13 (.ro (.int .i64)), .own 14 (.ro (.int .i64))])] b }
/- impl.Cam).change -/
noncomputable def I101 : Inst := { f := 101, nt := 13, params := [((.ro (.slc (.int .i16))), false), ((.ro (.int .i64)), false)], res := [(.ro (.int .i64))], slots := [.tmp 4], code := bd Tryd.f101, callee := fun r i => find 0 [(1003, 118), (1006, 118)] (r * 1000 + i) }
/- impl.Cam).bend -/
noncomputable def I64 : Inst := { f := 64, nt := 13, params := [((.ro (.slc (.int .i16))), false), ((.ro (.int .i64)), false)], res := [(.ro (.int .i64))], slots := [.tmp 4], code := bd Tryd.f64, callee := fun r i => find 0 [(1002, 101), (1006, 101)] (r * 1000 + i) }
/- impl.abs -/
noncomputable def I63 : Inst := { f := 63, nt := 7, params := [((.ro (.int .i64)), false)], res := [(.ro (.int .i64))], slots := [.tmp 2], code := bd Tryd.f63 }
/- impl.CheckFill -/
noncomputable def I27 : Inst := { f := 27, nt := 41, params := [((.ro (.slc (.int .i16))), false), ((.ro (.int .i64)), false), ((.ro (.slc (.int .i64))), false), ((.ro (.int .i64)), false)], res := [(.ro .bool), (.ro (.int .i64))], slots := [.tmp 8, .tmp 9], code := bd Tryd.f27, callee := fun r i => find 0 [(1004, 69), (4003, 51), (8002, 64), (8003, 63)] (r * 1000 + i), loops := fun b => find [] [(0, [.own 1 (.ro (.int .i64)), .own 2 (.ro (.slc (.int .i64))), .own 3 (.ro (.int .i64)), .own 11 (.ro (.slc (.int .i16))), .own 12 (.ro (.int .i64))])] b }
/- spec.l00Same -/
noncomputable def I70 : Inst := { f := 70, nt := 26, params := [((.ro (.slc (.int .i64))), false), ((.ro (.slc (.int .i64))), false)], res := [(.ro .bool)], slots := [.tmp 4], code := bd Tryd.f70, loops := fun b => find [] [(0, [.own 0 (.ro (.slc (.int .i64))), .own 1 (.ro (.slc (.int .i64))), .own 5 (.ro (.int .i64))])] b }
/- spec.SameNumbers -/
noncomputable def I28 : Inst := { f := 28, nt := 8, params := [((.ro (.slc (.int .i64))), false), ((.ro (.slc (.int .i64))), false)], res := [(.ro .bool)], slots := [.tmp 4], code := bd Tryd.f28, callee := fun r i => find 0 [(1002, 70)] (r * 1000 + i) }
/- impl.PutLifts -/
noncomputable def I29 : Inst := { f := 29, nt := 20, params := [((.ro (.slc (.int .i16))), false), ((.ro (.int .i64)), false), ((.ro (.slc (.int .i64))), false)], res := [(.row false (.int .i16)), (.ro (.int .i64))], slots := [.tmp 6, .tmp 7], code := bd Tryd.f29, callee := fun r i => find 0 [(1003, 69), (4003, 51)] (r * 1000 + i) }
/- impl.SmoothStretch -/
noncomputable def I20 : Inst := { f := 20, nt := 39, params := [((.ro (.slc (.int .i16))), false), ((.ro (.int .i64)), false), ((.ro (.int .i64)), false), ((.ro (.int .i64)), false)], res := [(.row false (.int .i16)), (.ro (.int .i64)), (.ro (.int .i64))], slots := [.tmp 8, .tmp 9, .tmp 10], code := bd Tryd.f20, callee := fun r i => find 0 [(2001, 46), (5001, 47), (6002, 49), (7003, 51)] (r * 1000 + i) }
/- spec.l01Same -/
noncomputable def I71 : Inst := { f := 71, nt := 26, params := [((.ro (.slc (.int .i16))), false), ((.ro (.slc (.int .i16))), false)], res := [(.ro .bool)], slots := [.tmp 4], code := bd Tryd.f71, loops := fun b => find [] [(0, [.own 0 (.ro (.slc (.int .i16))), .own 1 (.ro (.slc (.int .i16))), .own 5 (.ro (.int .i64))])] b }
/- spec.SameCam -/
noncomputable def I30 : Inst := { f := 30, nt := 8, params := [((.ro (.slc (.int .i16))), false), ((.ro (.slc (.int .i16))), false)], res := [(.ro .bool)], slots := [.tmp 4], code := bd Tryd.f30, callee := fun r i => find 0 [(1002, 71)] (r * 1000 + i) }
/- spec.l01Far -/
noncomputable def I72 : Inst := { f := 72, nt := 5, params := [((.ro (.int .i64)), false)], res := [(.ro .bool)], slots := [.tmp 2], code := bd Tryd.f72, callee := fun r i => find 0 [(1001, 86)] (r * 1000 + i) }
/- spec.LiftAt -/
noncomputable def I31 : Inst := { f := 31, nt := 15, params := [((.ro (.slc (.int .i16))), false), ((.ro (.int .i64)), false)], res := [(.ro (.int .i64)), (.ro (.int .i64))], slots := [.tmp 4, .tmp 5], code := bd Tryd.f31, callee := fun r i => find 0 [(1001, 52), (3001, 72), (5002, 56)] (r * 1000 + i) }
/- laws.f6size -/
noncomputable def I32 : Inst := { f := 32, nt := 7, params := [((.ro (.int .i64)), false)], res := [(.ro (.int .i64))], slots := [.tmp 2], code := bd Tryd.f32 }
/- impl.onePair -/
noncomputable def I73 : Inst := { f := 73, nt := 12, params := [((.ro (.int .i64)), false), ((.ro (.int .i64)), false)], res := [(.ro (.arr 64 (.int .u64)))], slots := [.cell 4 100], code := bd Tryd.f73 }
/- impl.led -/
noncomputable def I75 : Inst := { f := 75, nt := 39, params := [((.ro (.arr 64 (.int .u64))), false), ((.ro (.int .i64)), false), ((.ro (.int .u64)), false)], res := [(.ro (.arr 64 (.int .u64)))], slots := [.cell 6 100], code := bd Tryd.f75, callee := fun r i => find 0 [(9006, 94)] (r * 1000 + i), loops := fun b => find [] [(2, [.own 1 (.ro (.int .i64)), .own 2 (.ro (.int .u64)), .own 6 (.box (.ro (.arr 64 (.int .u64)))), .own 7 (.box (.ro (.arr 64 (.int .u64)))), .own 8 (.ro (.int .i64)), .own 9 (.ro (.int .u64)), .own 12 (.ro (.arr 64 (.int .u64))), .own 13 (.ro (.int .i64)), .own 17 (.ro (.int .i64))]), (0, [.own 1 (.ro (.int .i64)), .own 2 (.ro (.int .u64)), .own 6 (.box (.ro (.arr 64 (.int .u64)))), .own 7 (.box (.ro (.arr 64 (.int .u64)))), .own 12 (.ro (.arr 64 (.int .u64))), .own 13 (.ro (.int .i64))])] b }
/- impl.ReachOf -/
noncomputable def I33 : Inst := { f := 33, nt := 52, params := [((.ro (.slc (.int .i16))), false), ((.ro (.int .i64)), false), ((.ro (.int .i64)), false), ((.ro (.int .i64)), false), ((.ro (.int .i64)), false)], res := [(.row false (.arr 64 (.int .u64))), (.ro (.int .i64))], slots := [.tmp 10, .tmp 11], code := bd Tryd.f33, callee := fun r i => find 0 [(2002, 46), (5001, 74), (5004, 73), (9008, 76), (9009, 75)] (r * 1000 + i), loops := fun b => find [] [(0, [.own 4 (.ro (.int .i64)), .own 12 (.box (.ro (.pair (.slc (.int .i16)) (.pair (.int .i64) (.pair (.int .i64) (.pair (.int .i64) .unit)))))), .own 14 (.row false (.arr 64 (.int .u64))), .own 34 (.ro (.int .i64)), .own 35 (.ro (.int .i64))])] b, deep := fun r i => find false [(5005, true), (9010, true), (9011, true)] (r * 1000 + i) }
/- spec.ReachOf -/
noncomputable def I34 : Inst := { f := 34, nt := 33, params := [((.ro (.slc (.int .i16))), false), ((.ro (.int .i64)), false), ((.ro (.int .i64)), false), ((.ro (.int .i64)), false), ((.ro (.int .i64)), false)], res := [(.row false (.arr 64 (.int .u64))), (.ro (.int .i64))], slots := [.tmp 10, .tmp 11], code := bd Tryd.f34, callee := fun r i => find 0 [(1005, 44), (5001, 77)] (r * 1000 + i), deep := fun r i => find false [(3000, true)] (r * 1000 + i) }
/- impl.isWithin -/
noncomputable def I78 : Inst := { f := 78, nt := 19, params := [((.ro (.arr 64 (.int .u64))), false), ((.ro (.arr 64 (.int .u64))), false)], res := [(.ro .bool)], slots := [.tmp 4], code := bd Tryd.f78, loops := fun b => find [] [(0, [.own 3 (.box (.ro (.arr 64 (.int .u64)))), .own 7 (.ro (.arr 64 (.int .u64))), .own 8 (.ro (.int .i64))])] b }
/- impl.CheckReach -/
noncomputable def I35 : Inst := { f := 35, nt := 71, params := [((.ro (.slc (.int .i16))), false), ((.ro (.int .i64)), false), ((.ro (.int .i64)), false), ((.ro (.int .i64)), false), ((.ro (.slc (.arr 64 (.int .u64)))), false)], res := [(.ro .bool), (.ro (.int .i64))], slots := [.tmp 10, .tmp 11], code := bd Tryd.f35, callee := fun r i => find 0 [(2002, 46), (5001, 74), (5004, 73), (5008, 78), (10007, 76), (10008, 75), (10014, 78)] (r * 1000 + i), loops := fun b => find [] [(0, [.own 3 (.ro (.int .i64)), .own 4 (.ro (.slc (.arr 64 (.int .u64)))), .own 12 (.box (.ro (.pair (.slc (.int .i16)) (.pair (.int .i64) (.pair (.int .i64) (.pair (.int .i64) .unit)))))), .own 50 (.ro (.int .i64)), .own 51 (.ro (.int .i64))])] b }
/- spec.SameGrids -/
noncomputable def I36 : Inst := { f := 36, nt := 26, params := [((.ro (.slc (.arr 64 (.int .u64)))), false), ((.ro (.slc (.arr 64 (.int .u64)))), false)], res := [(.ro .bool)], slots := [.tmp 4], code := bd Tryd.f36, loops := fun b => find [] [(0, [.own 0 (.ro (.slc (.arr 64 (.int .u64)))), .own 1 (.ro (.slc (.arr 64 (.int .u64)))), .own 5 (.ro (.int .i64))])] b }
/- laws.FnFilled -/
noncomputable def I7 : Inst := { f := 7, nt := 349, params := [((.ro (.slc (.int .u8))), false), ((.ro (.slc (.int .u8))), false)], res := [(.ro .bool)], slots := [.tmp 4], code := bd Tryd.f7, callee := fun r i => find 0 [(1001, 24), (1004, 24), (3001, 25), (5002, 26), (6004, 26), (7003, 11), (8003, 9), (11004, 14), (12004, 13), (13004, 27), (14010, 28), (16003, 29), (17003, 20), (18014, 30), (25005, 31), (26004, 31), (27005, 31), (30007, 32), (33004, 27), (38005, 14), (39005, 33), (40005, 34), (41005, 35), (42014, 36), (44004, 34), (45004, 35)] (r * 1000 + i), loops := fun b => find [] [(0, [.own 5 (.ro (.slc (.int .i16))), .own 7 (.ro (.int .i64)), .own 8 (.ro (.int .i64)), .own 11 (.ro (.int .i64)), .own 24 (.row false (.int .i64)), .own 25 (.ro (.int .i64)), .own 26 (.ro (.int .i64))])] b }
noncomputable def CL : List (Nat × Inst) := [(24, I24), (67, I67), (106, I106), (68, I68), (103, I103), (87, I87), (104, I104), (105, I105), (66, I66), (25, I25), (26, I26), (62, I62), (60, I60), (97, I97), (100, I100), (99, I99), (120, I120), (98, I98), (59, I59), (58, I58), (88, I88), (57, I57), (102, I102), (65, I65), (118, I118), (89, I89), (46, I46), (119, I119), (94, I94), (76, I76), (92, I92), (74, I74), (93, I93), (85, I85), (49, I49), (47, I47), (11, I11), (86, I86), (95, I95), (96, I96), (52, I52), (54, I54), (53, I53), (56, I56), (44, I44), (91, I91), (109, I109), (90, I90), (77, I77), (45, I45), (9, I9), (14, I14), (48, I48), (13, I13), (108, I108), (121, I121), (107, I107), (69, I69), (61, I61), (51, I51), (101, I101), (64, I64), (63, I63), (27, I27), (70, I70), (28, I28), (29, I29), (20, I20), (71, I71), (30, I30), (72, I72), (31, I31), (32, I32), (73, I73), (75, I75), (33, I33), (34, I34), (78, I78), (35, I35), (36, I36), (7, I7)]
noncomputable def C : Nat → Inst := find I24 CL
theorem tsOk : TsOk Tryd.prog T := tsOkB_sound (by kernel_rfl)
theorem ok24 : InstOk Tryd.prog I24 := instOk_of Tryd.func24 (by kernel_rfl) (by kernel_rfl) (by kernel_rfl) (by kernel_rfl)
theorem ok67 : InstOk Tryd.prog I67 := instOk_of Tryd.func67 (by kernel_rfl) (by kernel_rfl) (by kernel_rfl) (by kernel_rfl)
theorem ok106 : InstOk Tryd.prog I106 := instOk_of Tryd.func106 (by kernel_rfl) (by kernel_rfl) (by kernel_rfl) (by kernel_rfl)
theorem ok68 : InstOk Tryd.prog I68 := instOk_of Tryd.func68 (by kernel_rfl) (by kernel_rfl) (by kernel_rfl) (by kernel_rfl)
theorem ok103 : InstOk Tryd.prog I103 := instOk_of Tryd.func103 (by kernel_rfl) (by kernel_rfl) (by kernel_rfl) (by kernel_rfl)
theorem ok87 : InstOk Tryd.prog I87 := instOk_of Tryd.func87 (by kernel_rfl) (by kernel_rfl) (by kernel_rfl) (by kernel_rfl)
theorem ok104 : InstOk Tryd.prog I104 := instOk_of Tryd.func104 (by kernel_rfl) (by kernel_rfl) (by kernel_rfl) (by kernel_rfl)
theorem ok105 : InstOk Tryd.prog I105 := instOk_of Tryd.func105 (by kernel_rfl) (by kernel_rfl) (by kernel_rfl) (by kernel_rfl)
theorem ok66 : InstOk Tryd.prog I66 := instOk_of Tryd.func66 (by kernel_rfl) (by kernel_rfl) (by kernel_rfl) (by kernel_rfl)
theorem ok25 : InstOk Tryd.prog I25 := instOk_of Tryd.func25 (by kernel_rfl) (by kernel_rfl) (by kernel_rfl) (by kernel_rfl)
theorem ok26 : InstOk Tryd.prog I26 := instOk_of Tryd.func26 (by kernel_rfl) (by kernel_rfl) (by kernel_rfl) (by kernel_rfl)
theorem ok62 : InstOk Tryd.prog I62 := instOk_of Tryd.func62 (by kernel_rfl) (by kernel_rfl) (by kernel_rfl) (by kernel_rfl)
theorem ok60 : InstOk Tryd.prog I60 := instOk_of Tryd.func60 (by kernel_rfl) (by kernel_rfl) (by kernel_rfl) (by kernel_rfl)
theorem ok97 : InstOk Tryd.prog I97 := instOk_of Tryd.func97 (by kernel_rfl) (by kernel_rfl) (by kernel_rfl) (by kernel_rfl)
theorem ok100 : InstOk Tryd.prog I100 := instOk_of Tryd.func100 (by kernel_rfl) (by kernel_rfl) (by kernel_rfl) (by kernel_rfl)
theorem ok99 : InstOk Tryd.prog I99 := instOk_of Tryd.func99 (by kernel_rfl) (by kernel_rfl) (by kernel_rfl) (by kernel_rfl)
theorem ok120 : InstOk Tryd.prog I120 := instOk_of Tryd.func120 (by kernel_rfl) (by kernel_rfl) (by kernel_rfl) (by kernel_rfl)
theorem ok98 : InstOk Tryd.prog I98 := instOk_of Tryd.func98 (by kernel_rfl) (by kernel_rfl) (by kernel_rfl) (by kernel_rfl)
theorem ok59 : InstOk Tryd.prog I59 := instOk_of Tryd.func59 (by kernel_rfl) (by kernel_rfl) (by kernel_rfl) (by kernel_rfl)
theorem ok58 : InstOk Tryd.prog I58 := instOk_of Tryd.func58 (by kernel_rfl) (by kernel_rfl) (by kernel_rfl) (by kernel_rfl)
theorem ok88 : InstOk Tryd.prog I88 := instOk_of Tryd.func88 (by kernel_rfl) (by kernel_rfl) (by kernel_rfl) (by kernel_rfl)
theorem ok57 : InstOk Tryd.prog I57 := instOk_of Tryd.func57 (by kernel_rfl) (by kernel_rfl) (by kernel_rfl) (by kernel_rfl)
theorem ok102 : InstOk Tryd.prog I102 := instOk_of Tryd.func102 (by kernel_rfl) (by kernel_rfl) (by kernel_rfl) (by kernel_rfl)
theorem ok65 : InstOk Tryd.prog I65 := instOk_of Tryd.func65 (by kernel_rfl) (by kernel_rfl) (by kernel_rfl) (by kernel_rfl)
theorem ok118 : InstOk Tryd.prog I118 := instOk_of Tryd.func118 (by kernel_rfl) (by kernel_rfl) (by kernel_rfl) (by kernel_rfl)
theorem ok89 : InstOk Tryd.prog I89 := instOk_of Tryd.func89 (by kernel_rfl) (by kernel_rfl) (by kernel_rfl) (by kernel_rfl)
theorem ok46 : InstOk Tryd.prog I46 := instOk_of Tryd.func46 (by kernel_rfl) (by kernel_rfl) (by kernel_rfl) (by kernel_rfl)
theorem ok119 : InstOk Tryd.prog I119 := instOk_of Tryd.func119 (by kernel_rfl) (by kernel_rfl) (by kernel_rfl) (by kernel_rfl)
theorem ok94 : InstOk Tryd.prog I94 := instOk_of Tryd.func94 (by kernel_rfl) (by kernel_rfl) (by kernel_rfl) (by kernel_rfl)
theorem ok76 : InstOk Tryd.prog I76 := instOk_of Tryd.func76 (by kernel_rfl) (by kernel_rfl) (by kernel_rfl) (by kernel_rfl)
theorem ok92 : InstOk Tryd.prog I92 := instOk_of Tryd.func92 (by kernel_rfl) (by kernel_rfl) (by kernel_rfl) (by kernel_rfl)
theorem ok74 : InstOk Tryd.prog I74 := instOk_of Tryd.func74 (by kernel_rfl) (by kernel_rfl) (by kernel_rfl) (by kernel_rfl)
theorem ok93 : InstOk Tryd.prog I93 := instOk_of Tryd.func93 (by kernel_rfl) (by kernel_rfl) (by kernel_rfl) (by kernel_rfl)
theorem ok85 : InstOk Tryd.prog I85 := instOk_ext rfl
theorem ok49 : InstOk Tryd.prog I49 := instOk_of Tryd.func49 (by kernel_rfl) (by kernel_rfl) (by kernel_rfl) (by kernel_rfl)
theorem ok47 : InstOk Tryd.prog I47 := instOk_of Tryd.func47 (by kernel_rfl) (by kernel_rfl) (by kernel_rfl) (by kernel_rfl)
theorem ok11 : InstOk Tryd.prog I11 := instOk_of Tryd.func11 (by kernel_rfl) (by kernel_rfl) (by kernel_rfl) (by kernel_rfl)
theorem ok86 : InstOk Tryd.prog I86 := instOk_of Tryd.func86 (by kernel_rfl) (by kernel_rfl) (by kernel_rfl) (by kernel_rfl)
theorem ok95 : InstOk Tryd.prog I95 := instOk_of Tryd.func95 (by kernel_rfl) (by kernel_rfl) (by kernel_rfl) (by kernel_rfl)
theorem ok96 : InstOk Tryd.prog I96 := instOk_of Tryd.func96 (by kernel_rfl) (by kernel_rfl) (by kernel_rfl) (by kernel_rfl)
theorem ok52 : InstOk Tryd.prog I52 := instOk_of Tryd.func52 (by kernel_rfl) (by kernel_rfl) (by kernel_rfl) (by kernel_rfl)
theorem ok54 : InstOk Tryd.prog I54 := instOk_of Tryd.func54 (by kernel_rfl) (by kernel_rfl) (by kernel_rfl) (by kernel_rfl)
theorem ok53 : InstOk Tryd.prog I53 := instOk_of Tryd.func53 (by kernel_rfl) (by kernel_rfl) (by kernel_rfl) (by kernel_rfl)
theorem ok56 : InstOk Tryd.prog I56 := instOk_of Tryd.func56 (by kernel_rfl) (by kernel_rfl) (by kernel_rfl) (by kernel_rfl)
theorem ok44 : InstOk Tryd.prog I44 := instOk_of Tryd.func44 (by kernel_rfl) (by kernel_rfl) (by kernel_rfl) (by kernel_rfl)
theorem ok91 : InstOk Tryd.prog I91 := instOk_of Tryd.func91 (by kernel_rfl) (by kernel_rfl) (by kernel_rfl) (by kernel_rfl)
theorem ok109 : InstOk Tryd.prog I109 := instOk_of Tryd.func109 (by kernel_rfl) (by kernel_rfl) (by kernel_rfl) (by kernel_rfl)
theorem ok90 : InstOk Tryd.prog I90 := instOk_of Tryd.func90 (by kernel_rfl) (by kernel_rfl) (by kernel_rfl) (by kernel_rfl)
theorem ok77 : InstOk Tryd.prog I77 := instOk_of Tryd.func77 (by kernel_rfl) (by kernel_rfl) (by kernel_rfl) (by kernel_rfl)
theorem ok45 : InstOk Tryd.prog I45 := instOk_of Tryd.func45 (by kernel_rfl) (by kernel_rfl) (by kernel_rfl) (by kernel_rfl)
theorem ok9 : InstOk Tryd.prog I9 := instOk_of Tryd.func9 (by kernel_rfl) (by kernel_rfl) (by kernel_rfl) (by kernel_rfl)
theorem ok14 : InstOk Tryd.prog I14 := instOk_of Tryd.func14 (by kernel_rfl) (by kernel_rfl) (by kernel_rfl) (by kernel_rfl)
theorem ok48 : InstOk Tryd.prog I48 := instOk_of Tryd.func48 (by kernel_rfl) (by kernel_rfl) (by kernel_rfl) (by kernel_rfl)
theorem ok13 : InstOk Tryd.prog I13 := instOk_of Tryd.func13 (by kernel_rfl) (by kernel_rfl) (by kernel_rfl) (by kernel_rfl)
theorem ok108 : InstOk Tryd.prog I108 := instOk_of Tryd.func108 (by kernel_rfl) (by kernel_rfl) (by kernel_rfl) (by kernel_rfl)
theorem ok121 : InstOk Tryd.prog I121 := instOk_of Tryd.func121 (by kernel_rfl) (by kernel_rfl) (by kernel_rfl) (by kernel_rfl)
theorem ok107 : InstOk Tryd.prog I107 := instOk_of Tryd.func107 (by kernel_rfl) (by kernel_rfl) (by kernel_rfl) (by kernel_rfl)
theorem ok69 : InstOk Tryd.prog I69 := instOk_of Tryd.func69 (by kernel_rfl) (by kernel_rfl) (by kernel_rfl) (by kernel_rfl)
theorem ok61 : InstOk Tryd.prog I61 := instOk_of Tryd.func61 (by kernel_rfl) (by kernel_rfl) (by kernel_rfl) (by kernel_rfl)
theorem ok51 : InstOk Tryd.prog I51 := instOk_of Tryd.func51 (by kernel_rfl) (by kernel_rfl) (by kernel_rfl) (by kernel_rfl)
theorem ok101 : InstOk Tryd.prog I101 := instOk_of Tryd.func101 (by kernel_rfl) (by kernel_rfl) (by kernel_rfl) (by kernel_rfl)
theorem ok64 : InstOk Tryd.prog I64 := instOk_of Tryd.func64 (by kernel_rfl) (by kernel_rfl) (by kernel_rfl) (by kernel_rfl)
theorem ok63 : InstOk Tryd.prog I63 := instOk_of Tryd.func63 (by kernel_rfl) (by kernel_rfl) (by kernel_rfl) (by kernel_rfl)
theorem ok27 : InstOk Tryd.prog I27 := instOk_of Tryd.func27 (by kernel_rfl) (by kernel_rfl) (by kernel_rfl) (by kernel_rfl)
theorem ok70 : InstOk Tryd.prog I70 := instOk_of Tryd.func70 (by kernel_rfl) (by kernel_rfl) (by kernel_rfl) (by kernel_rfl)
theorem ok28 : InstOk Tryd.prog I28 := instOk_of Tryd.func28 (by kernel_rfl) (by kernel_rfl) (by kernel_rfl) (by kernel_rfl)
theorem ok29 : InstOk Tryd.prog I29 := instOk_of Tryd.func29 (by kernel_rfl) (by kernel_rfl) (by kernel_rfl) (by kernel_rfl)
theorem ok20 : InstOk Tryd.prog I20 := instOk_of Tryd.func20 (by kernel_rfl) (by kernel_rfl) (by kernel_rfl) (by kernel_rfl)
theorem ok71 : InstOk Tryd.prog I71 := instOk_of Tryd.func71 (by kernel_rfl) (by kernel_rfl) (by kernel_rfl) (by kernel_rfl)
theorem ok30 : InstOk Tryd.prog I30 := instOk_of Tryd.func30 (by kernel_rfl) (by kernel_rfl) (by kernel_rfl) (by kernel_rfl)
theorem ok72 : InstOk Tryd.prog I72 := instOk_of Tryd.func72 (by kernel_rfl) (by kernel_rfl) (by kernel_rfl) (by kernel_rfl)
theorem ok31 : InstOk Tryd.prog I31 := instOk_of Tryd.func31 (by kernel_rfl) (by kernel_rfl) (by kernel_rfl) (by kernel_rfl)
theorem ok32 : InstOk Tryd.prog I32 := instOk_of Tryd.func32 (by kernel_rfl) (by kernel_rfl) (by kernel_rfl) (by kernel_rfl)
theorem ok73 : InstOk Tryd.prog I73 := instOk_of Tryd.func73 (by kernel_rfl) (by kernel_rfl) (by kernel_rfl) (by kernel_rfl)
theorem ok75 : InstOk Tryd.prog I75 := instOk_of Tryd.func75 (by kernel_rfl) (by kernel_rfl) (by kernel_rfl) (by kernel_rfl)
theorem ok33 : InstOk Tryd.prog I33 := instOk_of Tryd.func33 (by kernel_rfl) (by kernel_rfl) (by kernel_rfl) (by kernel_rfl)
theorem ok34 : InstOk Tryd.prog I34 := instOk_of Tryd.func34 (by kernel_rfl) (by kernel_rfl) (by kernel_rfl) (by kernel_rfl)
theorem ok78 : InstOk Tryd.prog I78 := instOk_of Tryd.func78 (by kernel_rfl) (by kernel_rfl) (by kernel_rfl) (by kernel_rfl)
theorem ok35 : InstOk Tryd.prog I35 := instOk_of Tryd.func35 (by kernel_rfl) (by kernel_rfl) (by kernel_rfl) (by kernel_rfl)
theorem ok36 : InstOk Tryd.prog I36 := instOk_of Tryd.func36 (by kernel_rfl) (by kernel_rfl) (by kernel_rfl) (by kernel_rfl)
theorem ok7 : InstOk Tryd.prog I7 := instOk_of Tryd.func7 (by kernel_rfl) (by kernel_rfl) (by kernel_rfl) (by kernel_rfl)
theorem insts : ∀ j, InstOk Tryd.prog (C j) := find_all ok24 (List.forall_mem_cons.2 ⟨ok24, List.forall_mem_cons.2 ⟨ok67, List.forall_mem_cons.2 ⟨ok106, List.forall_mem_cons.2 ⟨ok68, List.forall_mem_cons.2 ⟨ok103, List.forall_mem_cons.2 ⟨ok87, List.forall_mem_cons.2 ⟨ok104, List.forall_mem_cons.2 ⟨ok105, List.forall_mem_cons.2 ⟨ok66, List.forall_mem_cons.2 ⟨ok25, List.forall_mem_cons.2 ⟨ok26, List.forall_mem_cons.2 ⟨ok62, List.forall_mem_cons.2 ⟨ok60, List.forall_mem_cons.2 ⟨ok97, List.forall_mem_cons.2 ⟨ok100, List.forall_mem_cons.2 ⟨ok99, List.forall_mem_cons.2 ⟨ok120, List.forall_mem_cons.2 ⟨ok98, List.forall_mem_cons.2 ⟨ok59, List.forall_mem_cons.2 ⟨ok58, List.forall_mem_cons.2 ⟨ok88, List.forall_mem_cons.2 ⟨ok57, List.forall_mem_cons.2 ⟨ok102, List.forall_mem_cons.2 ⟨ok65, List.forall_mem_cons.2 ⟨ok118, List.forall_mem_cons.2 ⟨ok89, List.forall_mem_cons.2 ⟨ok46, List.forall_mem_cons.2 ⟨ok119, List.forall_mem_cons.2 ⟨ok94, List.forall_mem_cons.2 ⟨ok76, List.forall_mem_cons.2 ⟨ok92, List.forall_mem_cons.2 ⟨ok74, List.forall_mem_cons.2 ⟨ok93, List.forall_mem_cons.2 ⟨ok85, List.forall_mem_cons.2 ⟨ok49, List.forall_mem_cons.2 ⟨ok47, List.forall_mem_cons.2 ⟨ok11, List.forall_mem_cons.2 ⟨ok86, List.forall_mem_cons.2 ⟨ok95, List.forall_mem_cons.2 ⟨ok96, List.forall_mem_cons.2 ⟨ok52, List.forall_mem_cons.2 ⟨ok54, List.forall_mem_cons.2 ⟨ok53, List.forall_mem_cons.2 ⟨ok56, List.forall_mem_cons.2 ⟨ok44, List.forall_mem_cons.2 ⟨ok91, List.forall_mem_cons.2 ⟨ok109, List.forall_mem_cons.2 ⟨ok90, List.forall_mem_cons.2 ⟨ok77, List.forall_mem_cons.2 ⟨ok45, List.forall_mem_cons.2 ⟨ok9, List.forall_mem_cons.2 ⟨ok14, List.forall_mem_cons.2 ⟨ok48, List.forall_mem_cons.2 ⟨ok13, List.forall_mem_cons.2 ⟨ok108, List.forall_mem_cons.2 ⟨ok121, List.forall_mem_cons.2 ⟨ok107, List.forall_mem_cons.2 ⟨ok69, List.forall_mem_cons.2 ⟨ok61, List.forall_mem_cons.2 ⟨ok51, List.forall_mem_cons.2 ⟨ok101, List.forall_mem_cons.2 ⟨ok64, List.forall_mem_cons.2 ⟨ok63, List.forall_mem_cons.2 ⟨ok27, List.forall_mem_cons.2 ⟨ok70, List.forall_mem_cons.2 ⟨ok28, List.forall_mem_cons.2 ⟨ok29, List.forall_mem_cons.2 ⟨ok20, List.forall_mem_cons.2 ⟨ok71, List.forall_mem_cons.2 ⟨ok30, List.forall_mem_cons.2 ⟨ok72, List.forall_mem_cons.2 ⟨ok31, List.forall_mem_cons.2 ⟨ok32, List.forall_mem_cons.2 ⟨ok73, List.forall_mem_cons.2 ⟨ok75, List.forall_mem_cons.2 ⟨ok33, List.forall_mem_cons.2 ⟨ok34, List.forall_mem_cons.2 ⟨ok78, List.forall_mem_cons.2 ⟨ok35, List.forall_mem_cons.2 ⟨ok36, List.forall_mem_cons.2 ⟨ok7, fun _ h => absurd h List.not_mem_nil⟩⟩⟩⟩⟩⟩⟩⟩⟩⟩⟩⟩⟩⟩⟩⟩⟩⟩⟩⟩⟩⟩⟩⟩⟩⟩⟩⟩⟩⟩⟩⟩⟩⟩⟩⟩⟩⟩⟩⟩⟩⟩⟩⟩⟩⟩⟩⟩⟩⟩⟩⟩⟩⟩⟩⟩⟩⟩⟩⟩⟩⟩⟩⟩⟩⟩⟩⟩⟩⟩⟩⟩⟩⟩⟩⟩⟩⟩⟩⟩⟩)
theorem c85 : C 85 = I85 := by kernel_rfl
theorem exts {L : Laid} (h85 : ExtOk Tryd.prog L I85) : ∀ j, ExtOk Tryd.prog L (C j) := by
  have hC : C = find I24 CL := by delta C; with_reducible rfl
  refine fun j => exts_of (C := C) _ _ [85] hC (by kernel_rfl) (by kernel_rfl) ?_ j
  intro e he
  change ExtOk _ _ (C e)
  simp only [List.mem_cons, List.not_mem_nil, or_false] at he
  subst he; rw [c85]; exact h85
end Go.Proofs.YteeciijmkmdplaaDoor.LFi
