/- The types and the functions that a law reaches, told for the reading (Fw). Written by a program (gen.py). -/
import Derived.Test.YteeciijmkmdplaaDoorFwC
import Derived.Test.YteeciijmkmdplaaDoorProg
import Derived.Lib.TrailingZeros
namespace Go.Proofs.YteeciijmkmdplaaDoor.LRepairCam
open Go Go.Fw
open Go.Proofs
noncomputable def tyL : List (Nat × TI) := [(2, ⟨(.int .i64), 0, 8⟩),
  (3, ⟨(.int .i64), 0, 8⟩),
  (4, ⟨.bool, 0, 1⟩),
  (22, ⟨(.slc (.int .i16)), 62, 24⟩),
  (25, ⟨(.slc (.int .i16)), 62, 24⟩),
  (29, ⟨(.slc (.int .i64)), 2, 24⟩),
  (51, ⟨(.slc (.arr 64 (.int .u64))), 100, 24⟩),
  (59, ⟨(.int .u64), 0, 8⟩),
  (62, ⟨(.int .i16), 0, 2⟩),
  (78, ⟨(.pair (.slc (.int .i16)) (.pair (.int .i64) (.pair (.int .i64) (.pair (.int .i64) .unit)))), 0, 48⟩),
  (80, ⟨(.ptr (.pair (.slc (.int .i16)) (.pair (.int .i64) (.pair (.int .i64) (.pair (.int .i64) (.pair (.int .i64) .unit)))))), 0, 8⟩),
  (82, ⟨(.pair (.slc (.int .i16)) (.pair (.int .i64) (.pair (.int .i64) (.pair (.int .i64) (.pair (.int .i64) .unit))))), 0, 56⟩),
  (100, ⟨(.arr 64 (.int .u64)), 59, 512⟩),
  (111, ⟨(.int .u64), 0, 8⟩),
  (117, ⟨(.arr 4 (.int .i64)), 2, 32⟩),
  (122, ⟨.fn, 0, 8⟩)]
noncomputable def T : Nat → Option TI := findT tyL
/- laws.toCam -/
noncomputable def I10 : Inst := { f := 10, nt := 22, params := [((.ro (.slc (.int .i16))), false)], res := [(.row false (.int .i16))], slots := [.tmp 2], code := bd Tryd.f10, loops := fun b => find [] [(0, [.own 0 (.ro (.slc (.int .i16))), .own 3 (.row false (.int .i16)), .own 4 (.ro (.int .i64))])] b, deep := fun r i => find false [(1002, true)] (r * 1000 + i) }
/- spec.l00In -/
noncomputable def I86 : Inst := { f := 86, nt := 15, params := [((.ro (.int .i64)), false), ((.ro (.int .i64)), false), ((.ro (.int .i64)), false)], res := [(.ro .bool)], slots := [.tmp 6], code := bd Tryd.f86 }
/- spec.l01Steps -/
noncomputable def I95 : Inst := { f := 95, nt := 5, params := [((.ro (.int .i64)), false)], res := [(.ro .bool)], slots := [.tmp 2], code := bd Tryd.f95, callee := fun r i => find 0 [(1001, 86)] (r * 1000 + i) }
/- spec.l01Lift -/
noncomputable def I96 : Inst := { f := 96, nt := 5, params := [((.ro (.int .i64)), false)], res := [(.ro .bool)], slots := [.tmp 2], code := bd Tryd.f96, callee := fun r i => find 0 [(1001, 86)] (r * 1000 + i) }
/- spec.l01Ok -/
noncomputable def I52 : Inst := { f := 52, nt := 21, params := [((.ro (.slc (.int .i16))), false)], res := [(.ro .bool)], slots := [.tmp 2], code := bd Tryd.f52, callee := fun r i => find 0 [(1002, 95), (6005, 96)] (r * 1000 + i), loops := fun b => find [] [(0, [.own 0 (.ro (.slc (.int .i16))), .own 3 (.ro (.int .i64))])] b }
/- spec.l05Bound -/
noncomputable def I53 : Inst := { f := 53, nt := 5, params := [((.ro (.int .i64)), false)], res := [(.ro .bool)], slots := [.tmp 2], code := bd Tryd.f53, callee := fun r i => find 0 [(1001, 86)] (r * 1000 + i) }
/- spec.l05Low -/
noncomputable def I54 : Inst := { f := 54, nt := 5, params := [((.ro (.int .i64)), false)], res := [(.ro .bool)], slots := [.tmp 2], code := bd Tryd.f54, callee := fun r i => find 0 [(1001, 86)] (r * 1000 + i) }
/- spec.l01At -/
noncomputable def I56 : Inst := { f := 56, nt := 19, params := [((.ro (.slc (.int .i16))), false), ((.ro (.int .i64)), false)], res := [(.ro (.int .i64))], slots := [.tmp 4], code := bd Tryd.f56 }
/- spec.l01Size -/
noncomputable def I55 : Inst := { f := 55, nt := 8, params := [((.ro (.int .i64)), false)], res := [(.ro (.int .i64))], slots := [.tmp 2], code := bd Tryd.f55 }
/- spec.l00Min -/
noncomputable def I87 : Inst := { f := 87, nt := 10, params := [((.ro (.int .i64)), false), ((.ro (.int .i64)), false)], res := [(.ro (.int .i64))], slots := [.tmp 4], code := bd Tryd.f87 }
/- spec.l05Asked -/
noncomputable def I44 : Inst := { f := 44, nt := 72, params := [((.ro (.slc (.int .i16))), false), ((.ro (.int .i64)), false), ((.ro (.int .i64)), false), ((.ro (.int .i64)), false), ((.ro (.int .i64)), false)], res := [(.ro (.int .i64))], slots := [.tmp 10], code := bd Tryd.f44, callee := fun r i => find 0 [(1001, 52), (4003, 86), (4009, 87), (4010, 86), (4015, 54), (4020, 53), (10005, 56), (10010, 86)] (r * 1000 + i), loops := fun b => find [] [(0, [.own 0 (.ro (.slc (.int .i16))), .own 3 (.ro (.int .i64)), .own 12 (.ro (.slc (.int .i64))), .own 13 (.ro (.int .i64))])] b, deep := fun r i => find false [(6011, true)] (r * 1000 + i) }
/- spec.l05Stretch).at -/
noncomputable def I91 : Inst := { f := 91, nt := 16, params := [((.ro (.ptr (.pair (.slc (.int .i16)) (.pair (.int .i64) (.pair (.int .i64) (.pair (.int .i64) (.pair (.int .i64) .unit))))))), false), ((.ro (.int .i64)), false)], res := [(.ro (.int .i64))], slots := [.tmp 4], code := bd Tryd.f91, callee := fun r i => find 0 [(1005, 56)] (r * 1000 + i) }
/- spec.l05Stretch).first -/
noncomputable def I109 : Inst := { f := 109, nt := 23, params := [((.ro (.ptr (.pair (.slc (.int .i16)) (.pair (.int .i64) (.pair (.int .i64) (.pair (.int .i64) (.pair (.int .i64) .unit))))))), false)], res := [(.ro (.arr 64 (.int .u64)))], slots := [.cell 2 100], code := bd Tryd.f109, callee := fun r i => find 0 [(2006, 91), (2013, 91)] (r * 1000 + i) }
/- spec.l00Max -/
noncomputable def I104 : Inst := { f := 104, nt := 10, params := [((.ro (.int .i64)), false), ((.ro (.int .i64)), false)], res := [(.ro (.int .i64))], slots := [.tmp 4], code := bd Tryd.f104 }
/- spec.l05Stretch).may -/
noncomputable def I90 : Inst := { f := 90, nt := 66, params := [((.ro (.ptr (.pair (.slc (.int .i16)) (.pair (.int .i64) (.pair (.int .i64) (.pair (.int .i64) (.pair (.int .i64) .unit))))))), false), ((.ro (.int .i64)), false), ((.ro (.int .i64)), false), ((.ro (.int .i64)), false)], res := [(.ro (.int .u64))], slots := [.tmp 8], code := bd Tryd.f90, callee := fun r i => find 0 [(1009, 104), (2009, 87), (4008, 91), (5002, 104), (6002, 87)] (r * 1000 + i) }
/- spec.l05Stretch).reach -/
noncomputable def I77 : Inst := { f := 77, nt := 59, params := [((.ro (.ptr (.pair (.slc (.int .i16)) (.pair (.int .i64) (.pair (.int .i64) (.pair (.int .i64) (.pair (.int .i64) .unit))))))), false)], res := [(.row false (.arr 64 (.int .u64)))], slots := [.tmp 2], code := bd Tryd.f77, callee := fun r i => find 0 [(1001, 109), (14007, 90)] (r * 1000 + i), loops := fun b => find [] [(4, [.own 0 (.ro (.ptr (.pair (.slc (.int .i16)) (.pair (.int .i64) (.pair (.int .i64) (.pair (.int .i64) (.pair (.int .i64) .unit))))))), .own 3 (.row false (.arr 64 (.int .u64))), .own 4 (.ro (.int .i64)), .own 5 (.box (.ro (.arr 64 (.int .u64)))), .elt 6 3 (.arr 64 (.int .u64)), .own 7 (.ro (.int .i64)), .own 8 (.ro (.int .i64))]), (2, [.own 0 (.ro (.ptr (.pair (.slc (.int .i16)) (.pair (.int .i64) (.pair (.int .i64) (.pair (.int .i64) (.pair (.int .i64) .unit))))))), .own 3 (.row false (.arr 64 (.int .u64))), .own 4 (.ro (.int .i64)), .own 5 (.box (.ro (.arr 64 (.int .u64)))), .elt 6 3 (.arr 64 (.int .u64)), .own 7 (.ro (.int .i64))]), (0, [.own 0 (.ro (.ptr (.pair (.slc (.int .i16)) (.pair (.int .i64) (.pair (.int .i64) (.pair (.int .i64) (.pair (.int .i64) .unit))))))), .own 3 (.row false (.arr 64 (.int .u64))), .own 4 (.ro (.int .i64))])] b }
/- spec.l05Stretch).fill -/
noncomputable def I48 : Inst := { f := 48, nt := 139, params := [((.ro (.ptr (.pair (.slc (.int .i16)) (.pair (.int .i64) (.pair (.int .i64) (.pair (.int .i64) (.pair (.int .i64) .unit))))))), false)], res := [(.row false (.int .i64)), (.ro .bool)], slots := [.tmp 2, .tmp 3], code := bd Tryd.f48, callee := fun r i => find 0 [(1001, 77), (12015, 90), (14006, 91), (15006, 91), (22004, 90)] (r * 1000 + i), loops := fun b => find [] [(8, [.own 0 (.ro (.ptr (.pair (.slc (.int .i16)) (.pair (.int .i64) (.pair (.int .i64) (.pair (.int .i64) (.pair (.int .i64) .unit))))))), .own 4 (.row false (.arr 64 (.int .u64))), .own 10 (.ro (.int .i64)), .own 11 (.row false (.int .i64)), .own 12 (.ro (.int .i64)), .own 13 (.ro (.int .u64)), .own 14 (.ro (.int .i64))]), (6, [.own 0 (.ro (.ptr (.pair (.slc (.int .i16)) (.pair (.int .i64) (.pair (.int .i64) (.pair (.int .i64) (.pair (.int .i64) .unit))))))), .own 4 (.row false (.arr 64 (.int .u64))), .own 9 (.ro (.int .i64)), .own 10 (.ro (.int .i64)), .own 11 (.row false (.int .i64)), .own 12 (.ro (.int .i64))]), (4, [.own 0 (.ro (.ptr (.pair (.slc (.int .i16)) (.pair (.int .i64) (.pair (.int .i64) (.pair (.int .i64) (.pair (.int .i64) .unit))))))), .own 4 (.row false (.arr 64 (.int .u64))), .own 5 (.ro (.int .i64)), .own 6 (.ro (.int .i64)), .own 7 (.ro (.int .i64))]), (2, [.own 0 (.ro (.ptr (.pair (.slc (.int .i16)) (.pair (.int .i64) (.pair (.int .i64) (.pair (.int .i64) (.pair (.int .i64) .unit))))))), .own 4 (.row false (.arr 64 (.int .u64))), .own 5 (.ro (.int .i64)), .own 6 (.ro (.int .i64))]), (0, [.own 0 (.ro (.ptr (.pair (.slc (.int .i16)) (.pair (.int .i64) (.pair (.int .i64) (.pair (.int .i64) (.pair (.int .i64) .unit))))))), .own 4 (.row false (.arr 64 (.int .u64))), .own 5 (.ro (.int .i64))])] b }
/- spec.FillWithin -/
noncomputable def I13 : Inst := { f := 13, nt := 42, params := [((.ro (.slc (.int .i16))), false), ((.ro (.int .i64)), false), ((.ro (.int .i64)), false), ((.ro (.int .i64)), false), ((.ro (.int .i64)), false)], res := [(.row false (.int .i64)), (.ro (.int .i64))], slots := [.tmp 10, .tmp 11], code := bd Tryd.f13, callee := fun r i => find 0 [(1005, 44), (5001, 48)] (r * 1000 + i), deep := fun r i => find false [(3000, true), (7000, true)] (r * 1000 + i) }
/- spec.l05Put -/
noncomputable def I50 : Inst := { f := 50, nt := 32, params := [((.ro (.slc (.int .i16))), false), ((.ro (.int .i64)), false), ((.ro (.slc (.int .i64))), false)], res := [(.row false (.int .i16))], slots := [.tmp 6], code := bd Tryd.f50, loops := fun b => find [] [(0, [.own 0 (.ro (.slc (.int .i16))), .own 1 (.ro (.int .i64)), .own 2 (.ro (.slc (.int .i64))), .own 7 (.row false (.int .i16)), .own 8 (.ro (.int .i64))])] b, deep := fun r i => find false [(1000, true), (1002, true)] (r * 1000 + i) }
/- spec.RepairCam -/
noncomputable def I22 : Inst := { f := 22, nt := 85, params := [((.ro (.slc (.int .i16))), false), ((.ro (.int .i64)), false), ((.ro (.int .i64)), false)], res := [(.row false (.int .i16)), (.row false (.int .i64)), (.ro (.int .i64))], slots := [.tmp 6, .tmp 7, .tmp 8], code := bd Tryd.f22, callee := fun r i => find 0 [(1001, 52), (3001, 53), (3005, 54), (11003, 56), (11006, 56), (11012, 56), (11014, 55), (13004, 13), (15003, 50)] (r * 1000 + i), loops := fun b => find [] [(0, [.own 1 (.ro (.int .i64)), .own 2 (.ro (.int .i64)), .own 9 (.ro (.int .i64)), .own 10 (.row false (.int .i16)), .own 11 (.row false (.int .i64)), .own 12 (.ro (.int .i64))])] b, deep := fun r i => find false [(2000, true), (2001, true), (4000, true), (4001, true), (6000, true), (6002, true), (7000, true), (16002, true), (16003, true)] (r * 1000 + i) }
/- impl.Cam).steps -/
noncomputable def I62 : Inst := { f := 62, nt := 5, params := [((.ro (.slc (.int .i16))), false)], res := [(.ro (.int .i64))], slots := [.tmp 2], code := bd Tryd.f62 }
/- impl.inRange -/
noncomputable def I60 : Inst := { f := 60, nt := 15, params := [((.ro (.int .i64)), false), ((.ro (.int .i64)), false), ((.ro (.int .i64)), false)], res := [(.ro .bool)], slots := [.tmp 6], code := bd Tryd.f60 }
/- impl.isSteps -/
noncomputable def I97 : Inst := { f := 97, nt := 5, params := [((.ro (.int .i64)), false)], res := [(.ro .bool)], slots := [.tmp 2], code := bd Tryd.f97, callee := fun r i => find 0 [(1001, 60)] (r * 1000 + i) }
/- impl.isLift -/
noncomputable def I100 : Inst := { f := 100, nt := 5, params := [((.ro (.int .i64)), false)], res := [(.ro .bool)], slots := [.tmp 2], code := bd Tryd.f100, callee := fun r i => find 0 [(1001, 60)] (r * 1000 + i) }
/- impl.ValidCam$1 -/
noncomputable def I99 : Inst := { f := 99, nt := 7, params := [((.ro (.int .i16)), false)], res := [(.ro .bool)], slots := [.tmp 2], code := bd Tryd.f99, callee := fun r i => find 0 [(1002, 100)] (r * 1000 + i) }
/- impl.Cam,int16] -/
noncomputable def I120 : Inst := { f := 120, nt := 19, params := [((.ro (.slc (.int .i16))), false), ((.clo 99 (.ro .unit) (.ro .unit)), false)], res := [(.ro (.int .i64))], slots := [.tmp 4], code := bd Tryd.f120, callee := fun r i => find 0 [(4005, 99)] (r * 1000 + i), loops := fun b => find [] [(0, [.own 0 (.ro (.slc (.int .i16))), .own 1 (.clo 99 (.ro .unit) (.ro .unit)), .own 7 (.ro (.int .i64)), .own 8 (.ro (.int .i64))])] b }
/- impl.Cam,int16] -/
noncomputable def I98 : Inst := { f := 98, nt := 9, params := [((.ro (.slc (.int .i16))), false), ((.clo 99 (.ro .unit) (.ro .unit)), false)], res := [(.ro .bool)], slots := [.tmp 4], code := bd Tryd.f98, callee := fun r i => find 0 [(1002, 120)] (r * 1000 + i) }
/- impl.ValidCam -/
noncomputable def I59 : Inst := { f := 59, nt := 11, params := [((.ro (.slc (.int .i16))), false)], res := [(.ro .bool)], slots := [.tmp 2], code := bd Tryd.f59, callee := fun r i => find 0 [(1001, 62), (1002, 97), (1005, 98)] (r * 1000 + i) }
/- impl.codeIf -/
noncomputable def I58 : Inst := { f := 58, nt := 7, params := [((.ro .bool), false), ((.ro (.int .i64)), false)], res := [(.ro (.int .i64))], slots := [.tmp 4], code := bd Tryd.f58 }
/- impl.firstCode -/
noncomputable def I57 : Inst := { f := 57, nt := 15, params := [((.ro (.slc (.int .i64))), false)], res := [(.ro (.int .i64))], slots := [.tmp 2], code := bd Tryd.f57, loops := fun b => find [] [(0, [.own 5 (.ro (.slc (.int .i64))), .own 6 (.ro (.int .i64)), .own 7 (.ro (.int .i64))])] b }
/- impl.Cam,int16] -/
noncomputable def I61 : Inst := { f := 61, nt := 8, params := [((.ro (.slc (.int .i16))), false)], res := [(.row false (.int .i16))], slots := [.tmp 2], code := bd Tryd.f61 }
/- impl.floorDiv -/
noncomputable def I102 : Inst := { f := 102, nt := 16, params := [((.ro (.int .i64)), false), ((.ro (.int .i64)), false)], res := [(.ro (.int .i64))], slots := [.tmp 4], code := bd Tryd.f102 }
/- impl.mod -/
noncomputable def I65 : Inst := { f := 65, nt := 12, params := [((.ro (.int .i64)), false), ((.ro (.int .i64)), false)], res := [(.ro (.int .i64))], slots := [.tmp 4], code := bd Tryd.f65, callee := fun r i => find 0 [(1004, 102)] (r * 1000 + i) }
/- impl.Cam).at -/
noncomputable def I118 : Inst := { f := 118, nt := 13, params := [((.ro (.slc (.int .i16))), false), ((.ro (.int .i64)), false)], res := [(.ro (.int .i64))], slots := [.tmp 4], code := bd Tryd.f118, callee := fun r i => find 0 [(1003, 62), (1004, 65)] (r * 1000 + i) }
/- impl.Cam).change -/
noncomputable def I101 : Inst := { f := 101, nt := 13, params := [((.ro (.slc (.int .i16))), false), ((.ro (.int .i64)), false)], res := [(.ro (.int .i64))], slots := [.tmp 4], code := bd Tryd.f101, callee := fun r i => find 0 [(1003, 118), (1006, 118)] (r * 1000 + i) }
/- impl.Cam).bend -/
noncomputable def I64 : Inst := { f := 64, nt := 13, params := [((.ro (.slc (.int .i16))), false), ((.ro (.int .i64)), false)], res := [(.ro (.int .i64))], slots := [.tmp 4], code := bd Tryd.f64, callee := fun r i => find 0 [(1002, 101), (1006, 101)] (r * 1000 + i) }
/- impl.abs -/
noncomputable def I63 : Inst := { f := 63, nt := 7, params := [((.ro (.int .i64)), false)], res := [(.ro (.int .i64))], slots := [.tmp 2], code := bd Tryd.f63 }
/- impl.isPlace -/
noncomputable def I88 : Inst := { f := 88, nt := 9, params := [((.ro (.int .i64)), false), ((.ro (.int .i64)), false)], res := [(.ro .bool)], slots := [.tmp 4], code := bd Tryd.f88, callee := fun r i => find 0 [(1003, 60)] (r * 1000 + i) }
/- impl.stretch).height -/
noncomputable def I89 : Inst := { f := 89, nt := 12, params := [((.ro (.pair (.slc (.int .i16)) (.pair (.int .i64) (.pair (.int .i64) (.pair (.int .i64) .unit))))), false), ((.ro (.int .i64)), false)], res := [(.ro (.int .i64))], slots := [.tmp 4], code := bd Tryd.f89, callee := fun r i => find 0 [(1003, 118)] (r * 1000 + i) }
/- impl.stretch).code -/
noncomputable def I46 : Inst := { f := 46, nt := 77, params := [((.ro (.pair (.slc (.int .i16)) (.pair (.int .i64) (.pair (.int .i64) (.pair (.int .i64) .unit))))), false), ((.ro (.int .i64)), false)], res := [(.ro (.int .i64))], slots := [.tmp 4], code := bd Tryd.f46, callee := fun r i => find 0 [(1002, 62), (2002, 59), (2004, 58), (2010, 88), (2018, 60), (2024, 60), (2029, 60), (2032, 58), (2034, 57), (8002, 89), (8003, 60)] (r * 1000 + i), loops := fun b => find [] [(0, [.own 2 (.box (.ro (.pair (.slc (.int .i16)) (.pair (.int .i64) (.pair (.int .i64) (.pair (.int .i64) .unit)))))), .own 67 (.ro (.arr 4 (.int .i64))), .own 68 (.ro (.int .i64))])] b, deep := fun r i => find false [(2033, true)] (r * 1000 + i), frz := fun r i => find false [(2033, true)] (r * 1000 + i) }
/- impl.span -/
noncomputable def I119 : Inst := { f := 119, nt := 19, params := [((.ro (.int .i64)), false), ((.ro (.int .i64)), false)], res := [(.ro (.int .u64))], slots := [.tmp 4], code := bd Tryd.f119 }
/- impl.leads -/
noncomputable def I94 : Inst := { f := 94, nt := 20, params := [((.ro (.int .i64)), false), ((.ro (.int .i64)), false), ((.ro (.int .i64)), false)], res := [(.ro (.int .u64))], slots := [.tmp 6], code := bd Tryd.f94, callee := fun r i => find 0 [(1012, 119)] (r * 1000 + i) }
/- impl.stretch).allowed -/
noncomputable def I76 : Inst := { f := 76, nt := 16, params := [((.ro (.pair (.slc (.int .i16)) (.pair (.int .i64) (.pair (.int .i64) (.pair (.int .i64) .unit))))), false), ((.ro (.int .i64)), false)], res := [(.ro (.int .u64))], slots := [.tmp 4], code := bd Tryd.f76, callee := fun r i => find 0 [(3005, 89)] (r * 1000 + i) }
/- impl.stretch).behind -/
noncomputable def I92 : Inst := { f := 92, nt := 69, params := [((.ro (.pair (.slc (.int .i16)) (.pair (.int .i64) (.pair (.int .i64) (.pair (.int .i64) .unit))))), false), ((.ro (.int .i64)), false)], res := [(.row false (.arr 64 (.int .u64)))], slots := [.tmp 4], code := bd Tryd.f92, callee := fun r i => find 0 [(17003, 94), (17006, 76)] (r * 1000 + i), loops := fun b => find [] [(6, [.own 1 (.ro (.int .i64)), .own 2 (.box (.ro (.pair (.slc (.int .i16)) (.pair (.int .i64) (.pair (.int .i64) (.pair (.int .i64) .unit)))))), .own 6 (.row false (.arr 64 (.int .u64))), .own 8 (.ro (.int .i64)), .own 9 (.ro (.int .i64)), .own 32 (.ro (.int .i64)), .own 35 (.ro (.int .i64))]), (4, [.own 1 (.ro (.int .i64)), .own 2 (.box (.ro (.pair (.slc (.int .i16)) (.pair (.int .i64) (.pair (.int .i64) (.pair (.int .i64) .unit)))))), .own 6 (.row false (.arr 64 (.int .u64))), .own 8 (.ro (.int .i64)), .own 32 (.ro (.int .i64))]), (2, [.own 1 (.ro (.int .i64)), .own 2 (.box (.ro (.pair (.slc (.int .i16)) (.pair (.int .i64) (.pair (.int .i64) (.pair (.int .i64) .unit)))))), .own 6 (.row false (.arr 64 (.int .u64))), .own 8 (.ro (.int .i64))]), (0, [.own 1 (.ro (.int .i64)), .own 2 (.box (.ro (.pair (.slc (.int .i16)) (.pair (.int .i64) (.pair (.int .i64) (.pair (.int .i64) .unit)))))), .own 5 (.ro (.int .i64)), .own 6 (.row false (.arr 64 (.int .u64))), .own 17 (.ro (.int .i64))])] b, deep := fun r i => find false [(2002, true)] (r * 1000 + i) }
/- impl.stretch).pair -/
noncomputable def I74 : Inst := { f := 74, nt := 14, params := [((.ro (.pair (.slc (.int .i16)) (.pair (.int .i64) (.pair (.int .i64) (.pair (.int .i64) .unit))))), false)], res := [(.ro (.int .i64)), (.ro (.int .i64))], slots := [.tmp 2, .tmp 3], code := bd Tryd.f74, callee := fun r i => find 0 [(1004, 89), (1009, 89)] (r * 1000 + i) }
/- impl.HasPair -/
noncomputable def I93 : Inst := { f := 93, nt := 22, params := [((.ro (.arr 64 (.int .u64))), false), ((.ro (.int .i64)), false), ((.ro (.int .i64)), false)], res := [(.ro .bool)], slots := [.tmp 6], code := bd Tryd.f93, callee := fun r i => find 0 [(1001, 88), (1004, 88)] (r * 1000 + i) }
/- bits.TrailingZeros64: told by its contract -/
noncomputable def I85 : Inst := { f := 85, nt := 0, params := [((.ro (.int .u64)), false)], res := [(.ro (.int .i64))], slots := [], code := .skip, ext := some (fun x => if 0 ≤ x.1 ∧ x.1 < 18446744073709551616 then some ((((Lib.ctz 64 x.1.toNat : Nat) : Int), ()), ()) else none) }
/- impl.stretch).fill -/
noncomputable def I49 : Inst := { f := 49, nt := 57, params := [((.ro (.pair (.slc (.int .i16)) (.pair (.int .i64) (.pair (.int .i64) (.pair (.int .i64) .unit))))), false), ((.ro (.int .i64)), false)], res := [(.row false (.int .i64)), (.ro .bool)], slots := [.tmp 4, .tmp 5], code := bd Tryd.f49, callee := fun r i => find 0 [(1002, 92), (2001, 74), (3005, 93), (9003, 94), (9012, 85)] (r * 1000 + i), loops := fun b => find [] [(0, [.own 1 (.ro (.int .i64)), .own 2 (.box (.ro (.pair (.slc (.int .i16)) (.pair (.int .i64) (.pair (.int .i64) (.pair (.int .i64) .unit)))))), .own 6 (.ro (.slc (.arr 64 (.int .u64)))), .own 7 (.ro (.int .i64)), .own 8 (.ro (.int .i64)), .own 9 (.row false (.int .i64)), .own 29 (.ro (.int .i64)), .own 30 (.ro (.int .i64))])] b, deep := fun r i => find false [(5000, true), (10005, true), (10006, true)] (r * 1000 + i) }
/- impl.Cam).with -/
noncomputable def I51 : Inst := { f := 51, nt := 31, params := [((.ro (.slc (.int .i16))), false), ((.ro (.int .i64)), false), ((.ro (.slc (.int .i64))), false)], res := [(.row false (.int .i16))], slots := [.tmp 6], code := bd Tryd.f51, callee := fun r i => find 0 [(1001, 61), (5005, 62), (5006, 65)] (r * 1000 + i), loops := fun b => find [] [(0, [.own 0 (.ro (.slc (.int .i16))), .own 1 (.ro (.int .i64)), .own 7 (.row false (.int .i16)), .own 12 (.ro (.slc (.int .i64))), .own 13 (.ro (.int .i64)), .own 14 (.ro (.int .i64))])] b }
/- impl.RepairCam -/
noncomputable def I23 : Inst := { f := 23, nt := 79, params := [((.ro (.slc (.int .i16))), false), ((.ro (.int .i64)), false), ((.ro (.int .i64)), false)], res := [(.row false (.int .i16)), (.row false (.int .i64)), (.ro (.int .i64))], slots := [.tmp 6, .tmp 7, .tmp 8], code := bd Tryd.f23, callee := fun r i => find 0 [(1001, 59), (1003, 58), (1005, 60), (1009, 60), (1012, 58), (1014, 57), (4001, 61), (5001, 62), (8002, 64), (8003, 63), (9004, 62), (9005, 65), (10002, 46), (11002, 49), (13004, 51)] (r * 1000 + i), loops := fun b => find [] [(0, [.own 0 (.ro (.slc (.int .i16))), .own 1 (.ro (.int .i64)), .own 2 (.ro (.int .i64)), .own 10 (.row false (.int .i16)), .own 11 (.row false (.int .i64)), .own 38 (.ro (.int .i64)), .own 39 (.ro (.int .i64))])] b, deep := fun r i => find false [(1013, true), (4002, true), (13007, true), (13008, true)] (r * 1000 + i), frz := fun r i => find false [(1013, true)] (r * 1000 + i) }
/- laws.eqCam -/
noncomputable def I12 : Inst := { f := 12, nt := 26, params := [((.ro (.slc (.int .i16))), false), ((.ro (.slc (.int .i16))), false)], res := [(.ro .bool)], slots := [.tmp 4], code := bd Tryd.f12, loops := fun b => find [] [(0, [.own 0 (.ro (.slc (.int .i16))), .own 1 (.ro (.slc (.int .i16))), .own 5 (.ro (.int .i64))])] b }
/- laws.eqInt64S -/
noncomputable def I15 : Inst := { f := 15, nt := 26, params := [((.ro (.slc (.int .i64))), false), ((.ro (.slc (.int .i64))), false)], res := [(.ro .bool)], slots := [.tmp 4], code := bd Tryd.f15, loops := fun b => find [] [(0, [.own 0 (.ro (.slc (.int .i64))), .own 1 (.ro (.slc (.int .i64))), .own 5 (.ro (.int .i64))])] b }
/- laws.markCam -/
noncomputable def I16 : Inst := { f := 16, nt := 20, params := [((.row false (.int .i16)), true), ((.ro (.int .i64)), false)], res := [(.ro (.int .i64))], slots := [.tmp 4], code := bd Tryd.f16, loops := fun b => find [] [(0, [.own 0 (.row false (.int .i16)), .own 1 (.ro (.int .i64)), .own 5 (.ro (.int .i64))])] b, pins := [0] }
/- laws.markInt64S -/
noncomputable def I17 : Inst := { f := 17, nt := 19, params := [((.row false (.int .i64)), true), ((.ro (.int .i64)), false)], res := [(.ro (.int .i64))], slots := [.tmp 4], code := bd Tryd.f17, loops := fun b => find [] [(0, [.own 0 (.row false (.int .i64)), .own 1 (.ro (.int .i64)), .own 5 (.ro (.int .i64))])] b, pins := [0] }
/- laws.heldCam -/
noncomputable def I21 : Inst := { f := 21, nt := 22, params := [((.ro (.slc (.int .i16))), false), ((.ro (.int .i64)), false)], res := [(.ro (.int .i64))], slots := [.tmp 4], code := bd Tryd.f21, loops := fun b => find [] [(0, [.own 0 (.ro (.slc (.int .i16))), .own 1 (.ro (.int .i64)), .own 5 (.ro (.int .i64))])] b }
/- laws.heldInt64S -/
noncomputable def I18 : Inst := { f := 18, nt := 21, params := [((.ro (.slc (.int .i64))), false), ((.ro (.int .i64)), false)], res := [(.ro (.int .i64))], slots := [.tmp 4], code := bd Tryd.f18, loops := fun b => find [] [(0, [.own 0 (.ro (.slc (.int .i64))), .own 1 (.ro (.int .i64)), .own 5 (.ro (.int .i64))])] b }
/- laws.FnExactRepairCam -/
noncomputable def I6 : Inst := { f := 6, nt := 140, params := [((.ro (.slc (.int .i16))), false), ((.ro (.int .i64)), false), ((.ro (.int .i64)), false)], res := [(.ro .bool)], slots := [.tmp 6], code := bd Tryd.f6, callee := fun r i => find 0 [(3001, 10), (3004, 22), (4001, 10), (5003, 23), (6002, 12), (6007, 15), (8002, 10), (8003, 12), (11002, 16), (12005, 12), (12011, 15), (15002, 16), (16002, 17), (18002, 21), (21002, 18), (26001, 10), (26004, 23), (27002, 12), (27007, 15), (30002, 21), (33002, 18)] (r * 1000 + i) }
noncomputable def CL : List (Nat × Inst) := [(10, I10), (86, I86), (95, I95), (96, I96), (52, I52), (53, I53), (54, I54), (56, I56), (55, I55), (87, I87), (44, I44), (91, I91), (109, I109), (104, I104), (90, I90), (77, I77), (48, I48), (13, I13), (50, I50), (22, I22), (62, I62), (60, I60), (97, I97), (100, I100), (99, I99), (120, I120), (98, I98), (59, I59), (58, I58), (57, I57), (61, I61), (102, I102), (65, I65), (118, I118), (101, I101), (64, I64), (63, I63), (88, I88), (89, I89), (46, I46), (119, I119), (94, I94), (76, I76), (92, I92), (74, I74), (93, I93), (85, I85), (49, I49), (51, I51), (23, I23), (12, I12), (15, I15), (16, I16), (17, I17), (21, I21), (18, I18), (6, I6)]
noncomputable def C : Nat → Inst := find I10 CL
theorem tsOk : TsOk Tryd.prog T := tsOkB_sound (by kernel_rfl)
theorem ok10 : InstOk Tryd.prog I10 := instOk_of Tryd.func10 (by kernel_rfl) (by kernel_rfl) (by kernel_rfl) (by kernel_rfl)
theorem ok86 : InstOk Tryd.prog I86 := instOk_of Tryd.func86 (by kernel_rfl) (by kernel_rfl) (by kernel_rfl) (by kernel_rfl)
theorem ok95 : InstOk Tryd.prog I95 := instOk_of Tryd.func95 (by kernel_rfl) (by kernel_rfl) (by kernel_rfl) (by kernel_rfl)
theorem ok96 : InstOk Tryd.prog I96 := instOk_of Tryd.func96 (by kernel_rfl) (by kernel_rfl) (by kernel_rfl) (by kernel_rfl)
theorem ok52 : InstOk Tryd.prog I52 := instOk_of Tryd.func52 (by kernel_rfl) (by kernel_rfl) (by kernel_rfl) (by kernel_rfl)
theorem ok53 : InstOk Tryd.prog I53 := instOk_of Tryd.func53 (by kernel_rfl) (by kernel_rfl) (by kernel_rfl) (by kernel_rfl)
theorem ok54 : InstOk Tryd.prog I54 := instOk_of Tryd.func54 (by kernel_rfl) (by kernel_rfl) (by kernel_rfl) (by kernel_rfl)
theorem ok56 : InstOk Tryd.prog I56 := instOk_of Tryd.func56 (by kernel_rfl) (by kernel_rfl) (by kernel_rfl) (by kernel_rfl)
theorem ok55 : InstOk Tryd.prog I55 := instOk_of Tryd.func55 (by kernel_rfl) (by kernel_rfl) (by kernel_rfl) (by kernel_rfl)
theorem ok87 : InstOk Tryd.prog I87 := instOk_of Tryd.func87 (by kernel_rfl) (by kernel_rfl) (by kernel_rfl) (by kernel_rfl)
theorem ok44 : InstOk Tryd.prog I44 := instOk_of Tryd.func44 (by kernel_rfl) (by kernel_rfl) (by kernel_rfl) (by kernel_rfl)
theorem ok91 : InstOk Tryd.prog I91 := instOk_of Tryd.func91 (by kernel_rfl) (by kernel_rfl) (by kernel_rfl) (by kernel_rfl)
theorem ok109 : InstOk Tryd.prog I109 := instOk_of Tryd.func109 (by kernel_rfl) (by kernel_rfl) (by kernel_rfl) (by kernel_rfl)
theorem ok104 : InstOk Tryd.prog I104 := instOk_of Tryd.func104 (by kernel_rfl) (by kernel_rfl) (by kernel_rfl) (by kernel_rfl)
theorem ok90 : InstOk Tryd.prog I90 := instOk_of Tryd.func90 (by kernel_rfl) (by kernel_rfl) (by kernel_rfl) (by kernel_rfl)
theorem ok77 : InstOk Tryd.prog I77 := instOk_of Tryd.func77 (by kernel_rfl) (by kernel_rfl) (by kernel_rfl) (by kernel_rfl)
theorem ok48 : InstOk Tryd.prog I48 := instOk_of Tryd.func48 (by kernel_rfl) (by kernel_rfl) (by kernel_rfl) (by kernel_rfl)
theorem ok13 : InstOk Tryd.prog I13 := instOk_of Tryd.func13 (by kernel_rfl) (by kernel_rfl) (by kernel_rfl) (by kernel_rfl)
theorem ok50 : InstOk Tryd.prog I50 := instOk_of Tryd.func50 (by kernel_rfl) (by kernel_rfl) (by kernel_rfl) (by kernel_rfl)
theorem ok22 : InstOk Tryd.prog I22 := instOk_of Tryd.func22 (by kernel_rfl) (by kernel_rfl) (by kernel_rfl) (by kernel_rfl)
theorem ok62 : InstOk Tryd.prog I62 := instOk_of Tryd.func62 (by kernel_rfl) (by kernel_rfl) (by kernel_rfl) (by kernel_rfl)
theorem ok60 : InstOk Tryd.prog I60 := instOk_of Tryd.func60 (by kernel_rfl) (by kernel_rfl) (by kernel_rfl) (by kernel_rfl)
theorem ok97 : InstOk Tryd.prog I97 := instOk_of Tryd.func97 (by kernel_rfl) (by kernel_rfl) (by kernel_rfl) (by kernel_rfl)
theorem ok100 : InstOk Tryd.prog I100 := instOk_of Tryd.func100 (by kernel_rfl) (by kernel_rfl) (by kernel_rfl) (by kernel_rfl)
theorem ok99 : InstOk Tryd.prog I99 := instOk_of Tryd.func99 (by kernel_rfl) (by kernel_rfl) (by kernel_rfl) (by kernel_rfl)
theorem ok120 : InstOk Tryd.prog I120 := instOk_of Tryd.func120 (by kernel_rfl) (by kernel_rfl) (by kernel_rfl) (by kernel_rfl)
theorem ok98 : InstOk Tryd.prog I98 := instOk_of Tryd.func98 (by kernel_rfl) (by kernel_rfl) (by kernel_rfl) (by kernel_rfl)
theorem ok59 : InstOk Tryd.prog I59 := instOk_of Tryd.func59 (by kernel_rfl) (by kernel_rfl) (by kernel_rfl) (by kernel_rfl)
theorem ok58 : InstOk Tryd.prog I58 := instOk_of Tryd.func58 (by kernel_rfl) (by kernel_rfl) (by kernel_rfl) (by kernel_rfl)
theorem ok57 : InstOk Tryd.prog I57 := instOk_of Tryd.func57 (by kernel_rfl) (by kernel_rfl) (by kernel_rfl) (by kernel_rfl)
theorem ok61 : InstOk Tryd.prog I61 := instOk_of Tryd.func61 (by kernel_rfl) (by kernel_rfl) (by kernel_rfl) (by kernel_rfl)
theorem ok102 : InstOk Tryd.prog I102 := instOk_of Tryd.func102 (by kernel_rfl) (by kernel_rfl) (by kernel_rfl) (by kernel_rfl)
theorem ok65 : InstOk Tryd.prog I65 := instOk_of Tryd.func65 (by kernel_rfl) (by kernel_rfl) (by kernel_rfl) (by kernel_rfl)
theorem ok118 : InstOk Tryd.prog I118 := instOk_of Tryd.func118 (by kernel_rfl) (by kernel_rfl) (by kernel_rfl) (by kernel_rfl)
theorem ok101 : InstOk Tryd.prog I101 := instOk_of Tryd.func101 (by kernel_rfl) (by kernel_rfl) (by kernel_rfl) (by kernel_rfl)
theorem ok64 : InstOk Tryd.prog I64 := instOk_of Tryd.func64 (by kernel_rfl) (by kernel_rfl) (by kernel_rfl) (by kernel_rfl)
theorem ok63 : InstOk Tryd.prog I63 := instOk_of Tryd.func63 (by kernel_rfl) (by kernel_rfl) (by kernel_rfl) (by kernel_rfl)
theorem ok88 : InstOk Tryd.prog I88 := instOk_of Tryd.func88 (by kernel_rfl) (by kernel_rfl) (by kernel_rfl) (by kernel_rfl)
theorem ok89 : InstOk Tryd.prog I89 := instOk_of Tryd.func89 (by kernel_rfl) (by kernel_rfl) (by kernel_rfl) (by kernel_rfl)
theorem ok46 : InstOk Tryd.prog I46 := instOk_of Tryd.func46 (by kernel_rfl) (by kernel_rfl) (by kernel_rfl) (by kernel_rfl)
theorem ok119 : InstOk Tryd.prog I119 := instOk_of Tryd.func119 (by kernel_rfl) (by kernel_rfl) (by kernel_rfl) (by kernel_rfl)
theorem ok94 : InstOk Tryd.prog I94 := instOk_of Tryd.func94 (by kernel_rfl) (by kernel_rfl) (by kernel_rfl) (by kernel_rfl)
theorem ok76 : InstOk Tryd.prog I76 := instOk_of Tryd.func76 (by kernel_rfl) (by kernel_rfl) (by kernel_rfl) (by kernel_rfl)
theorem ok92 : InstOk Tryd.prog I92 := instOk_of Tryd.func92 (by kernel_rfl) (by kernel_rfl) (by kernel_rfl) (by kernel_rfl)
theorem ok74 : InstOk Tryd.prog I74 := instOk_of Tryd.func74 (by kernel_rfl) (by kernel_rfl) (by kernel_rfl) (by kernel_rfl)
theorem ok93 : InstOk Tryd.prog I93 := instOk_of Tryd.func93 (by kernel_rfl) (by kernel_rfl) (by kernel_rfl) (by kernel_rfl)
theorem ok85 : InstOk Tryd.prog I85 := instOk_ext rfl
theorem ok49 : InstOk Tryd.prog I49 := instOk_of Tryd.func49 (by kernel_rfl) (by kernel_rfl) (by kernel_rfl) (by kernel_rfl)
theorem ok51 : InstOk Tryd.prog I51 := instOk_of Tryd.func51 (by kernel_rfl) (by kernel_rfl) (by kernel_rfl) (by kernel_rfl)
theorem ok23 : InstOk Tryd.prog I23 := instOk_of Tryd.func23 (by kernel_rfl) (by kernel_rfl) (by kernel_rfl) (by kernel_rfl)
theorem ok12 : InstOk Tryd.prog I12 := instOk_of Tryd.func12 (by kernel_rfl) (by kernel_rfl) (by kernel_rfl) (by kernel_rfl)
theorem ok15 : InstOk Tryd.prog I15 := instOk_of Tryd.func15 (by kernel_rfl) (by kernel_rfl) (by kernel_rfl) (by kernel_rfl)
theorem ok16 : InstOk Tryd.prog I16 := instOk_of Tryd.func16 (by kernel_rfl) (by kernel_rfl) (by kernel_rfl) (by kernel_rfl)
theorem ok17 : InstOk Tryd.prog I17 := instOk_of Tryd.func17 (by kernel_rfl) (by kernel_rfl) (by kernel_rfl) (by kernel_rfl)
theorem ok21 : InstOk Tryd.prog I21 := instOk_of Tryd.func21 (by kernel_rfl) (by kernel_rfl) (by kernel_rfl) (by kernel_rfl)
theorem ok18 : InstOk Tryd.prog I18 := instOk_of Tryd.func18 (by kernel_rfl) (by kernel_rfl) (by kernel_rfl) (by kernel_rfl)
theorem ok6 : InstOk Tryd.prog I6 := instOk_of Tryd.func6 (by kernel_rfl) (by kernel_rfl) (by kernel_rfl) (by kernel_rfl)
theorem insts : ∀ j, InstOk Tryd.prog (C j) := find_all ok10 (List.forall_mem_cons.2 ⟨ok10, List.forall_mem_cons.2 ⟨ok86, List.forall_mem_cons.2 ⟨ok95, List.forall_mem_cons.2 ⟨ok96, List.forall_mem_cons.2 ⟨ok52, List.forall_mem_cons.2 ⟨ok53, List.forall_mem_cons.2 ⟨ok54, List.forall_mem_cons.2 ⟨ok56, List.forall_mem_cons.2 ⟨ok55, List.forall_mem_cons.2 ⟨ok87, List.forall_mem_cons.2 ⟨ok44, List.forall_mem_cons.2 ⟨ok91, List.forall_mem_cons.2 ⟨ok109, List.forall_mem_cons.2 ⟨ok104, List.forall_mem_cons.2 ⟨ok90, List.forall_mem_cons.2 ⟨ok77, List.forall_mem_cons.2 ⟨ok48, List.forall_mem_cons.2 ⟨ok13, List.forall_mem_cons.2 ⟨ok50, List.forall_mem_cons.2 ⟨ok22, List.forall_mem_cons.2 ⟨ok62, List.forall_mem_cons.2 ⟨ok60, List.forall_mem_cons.2 ⟨ok97, List.forall_mem_cons.2 ⟨ok100, List.forall_mem_cons.2 ⟨ok99, List.forall_mem_cons.2 ⟨ok120, List.forall_mem_cons.2 ⟨ok98, List.forall_mem_cons.2 ⟨ok59, List.forall_mem_cons.2 ⟨ok58, List.forall_mem_cons.2 ⟨ok57, List.forall_mem_cons.2 ⟨ok61, List.forall_mem_cons.2 ⟨ok102, List.forall_mem_cons.2 ⟨ok65, List.forall_mem_cons.2 ⟨ok118, List.forall_mem_cons.2 ⟨ok101, List.forall_mem_cons.2 ⟨ok64, List.forall_mem_cons.2 ⟨ok63, List.forall_mem_cons.2 ⟨ok88, List.forall_mem_cons.2 ⟨ok89, List.forall_mem_cons.2 ⟨ok46, List.forall_mem_cons.2 ⟨ok119, List.forall_mem_cons.2 ⟨ok94, List.forall_mem_cons.2 ⟨ok76, List.forall_mem_cons.2 ⟨ok92, List.forall_mem_cons.2 ⟨ok74, List.forall_mem_cons.2 ⟨ok93, List.forall_mem_cons.2 ⟨ok85, List.forall_mem_cons.2 ⟨ok49, List.forall_mem_cons.2 ⟨ok51, List.forall_mem_cons.2 ⟨ok23, List.forall_mem_cons.2 ⟨ok12, List.forall_mem_cons.2 ⟨ok15, List.forall_mem_cons.2 ⟨ok16, List.forall_mem_cons.2 ⟨ok17, List.forall_mem_cons.2 ⟨ok21, List.forall_mem_cons.2 ⟨ok18, List.forall_mem_cons.2 ⟨ok6, fun _ h => absurd h List.not_mem_nil⟩⟩⟩⟩⟩⟩⟩⟩⟩⟩⟩⟩⟩⟩⟩⟩⟩⟩⟩⟩⟩⟩⟩⟩⟩⟩⟩⟩⟩⟩⟩⟩⟩⟩⟩⟩⟩⟩⟩⟩⟩⟩⟩⟩⟩⟩⟩⟩⟩⟩⟩⟩⟩⟩⟩⟩⟩)
theorem c85 : C 85 = I85 := by kernel_rfl
theorem exts {L : Laid} (h85 : ExtOk Tryd.prog L I85) : ∀ j, ExtOk Tryd.prog L (C j) := by
  have hC : C = find I10 CL := by delta C; with_reducible rfl
  refine fun j => exts_of (C := C) _ _ [85] hC (by kernel_rfl) (by kernel_rfl) ?_ j
  intro e he
  change ExtOk _ _ (C e)
  simp only [List.mem_cons, List.not_mem_nil, or_false] at he
  subst he; rw [c85]; exact h85
end Go.Proofs.YteeciijmkmdplaaDoor.LRepairCam
