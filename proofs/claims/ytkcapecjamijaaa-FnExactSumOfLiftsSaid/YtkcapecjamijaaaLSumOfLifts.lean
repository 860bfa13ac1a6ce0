/- The types and the functions that a law reaches, told for the reading (Fw). Written by a program (gen.py). -/
import Derived.Test.YtkcapecjamijaaaFwC
import Derived.Test.YtkcapecjamijaaaProg
namespace Go.Proofs.Ytkcapecjamijaaa.LSumOfLifts
open Go Go.Fw
open Go.Proofs
noncomputable def tyL : List (Nat × TI) := [(2, ⟨(.int .i64), 0, 8⟩),
  (3, ⟨(.int .i64), 0, 8⟩),
  (4, ⟨.bool, 0, 1⟩),
  (22, ⟨(.slc (.int .i16)), 60, 24⟩),
  (31, ⟨(.slc (.int .i16)), 60, 24⟩),
  (38, ⟨(.slc (.pair (.int .i16) (.pair (.int .i16) (.pair (.int .i16) (.pair (.slc (.int .i16)) .unit))))), 82, 24⟩),
  (42, ⟨(.slc (.pair (.int .i16) (.pair (.int .i16) (.pair (.int .i16) (.pair (.slc (.int .i16)) .unit))))), 85, 24⟩),
  (46, ⟨(.slc (.int .i64)), 2, 24⟩),
  (60, ⟨(.int .i16), 0, 2⟩),
  (82, ⟨(.pair (.int .i16) (.pair (.int .i16) (.pair (.int .i16) (.pair (.slc (.int .i16)) .unit)))), 0, 32⟩),
  (85, ⟨(.pair (.int .i16) (.pair (.int .i16) (.pair (.int .i16) (.pair (.slc (.int .i16)) .unit)))), 0, 32⟩),
  (87, ⟨(.ptr (.pair (.int .i16) (.pair (.int .i16) (.pair (.int .i16) (.pair (.slc (.int .i16)) .unit))))), 0, 8⟩),
  (144, ⟨.fn, 0, 8⟩),
  (147, ⟨.fn, 0, 8⟩)]
noncomputable def T : Nat → Option TI := findT tyL
/- laws.szCam -/
noncomputable def I36 : Inst := { f := 36, nt := 12, params := [((.ro (.slc (.int .i16))), false), ((.ro (.int .i64)), false)], res := [(.ro (.int .i64))], slots := [.tmp 4], code := bd Try.f36 }
/- laws.szShaft -/
noncomputable def I43 : Inst := { f := 43, nt := 12, params := [((.ro (.pair (.int .i16) (.pair (.int .i16) (.pair (.int .i16) (.pair (.slc (.int .i16)) .unit))))), false), ((.ro (.int .i64)), false)], res := [(.ro (.int .i64))], slots := [.tmp 4], code := bd Try.f43, callee := fun r i => find 0 [(1003, 36)] (r * 1000 + i) }
/- laws.szShaftS -/
noncomputable def I13 : Inst := { f := 13, nt := 27, params := [((.ro (.slc (.pair (.int .i16) (.pair (.int .i16) (.pair (.int .i16) (.pair (.slc (.int .i16)) .unit)))))), false), ((.ro (.int .i64)), false)], res := [(.ro (.int .i64))], slots := [.tmp 4], code := bd Try.f13, callee := fun r i => find 0 [(7005, 43)] (r * 1000 + i), loops := fun b => find [] [(0, [.own 0 (.ro (.slc (.pair (.int .i16) (.pair (.int .i16) (.pair (.int .i16) (.pair (.slc (.int .i16)) .unit)))))), .own 1 (.ro (.int .i64)), .own 5 (.ro (.int .i64))])] b }
/- laws.toCam -/
noncomputable def I39 : Inst := { f := 39, nt := 22, params := [((.ro (.slc (.int .i16))), false)], res := [(.row false (.int .i16))], slots := [.tmp 2], code := bd Try.f39, loops := fun b => find [] [(0, [.own 0 (.ro (.slc (.int .i16))), .own 3 (.row false (.int .i16)), .own 4 (.ro (.int .i64))])] b, deep := fun r i => find false [(1002, true)] (r * 1000 + i) }
/- laws.toShaft -/
noncomputable def I46 : Inst := { f := 46, nt := 18, params := [((.ro (.pair (.int .i16) (.pair (.int .i16) (.pair (.int .i16) (.pair (.slc (.int .i16)) .unit))))), false)], res := [(.pr (.ro (.int .i16)) (.pr (.ro (.int .i16)) (.pr (.ro (.int .i16)) (.pr (.row false (.int .i16)) (.ro .unit)))))], slots := [.cell 2 85], code := bd Try.f46, callee := fun r i => find 0 [(5002, 39)] (r * 1000 + i) }
/- laws.toShaftS -/
noncomputable def I15 : Inst := { f := 15, nt := 23, params := [((.ro (.slc (.pair (.int .i16) (.pair (.int .i16) (.pair (.int .i16) (.pair (.slc (.int .i16)) .unit)))))), false)], res := [(.row true (.pair (.int .i16) (.pair (.int .i16) (.pair (.int .i16) (.pair (.slc (.int .i16)) .unit)))))], slots := [.tmp 2], code := bd Try.f15, callee := fun r i => find 0 [(5006, 46)] (r * 1000 + i), loops := fun b => find [] [(0, [.own 0 (.ro (.slc (.pair (.int .i16) (.pair (.int .i16) (.pair (.int .i16) (.pair (.slc (.int .i16)) .unit)))))), .own 3 (.row true (.pair (.int .i16) (.pair (.int .i16) (.pair (.int .i16) (.pair (.slc (.int .i16)) .unit))))), .own 4 (.ro (.int .i64))])] b, deep := fun r i => find false [(1002, true)] (r * 1000 + i) }
/- spec.l00In -/
noncomputable def I61 : Inst := { f := 61, nt := 15, params := [((.ro (.int .i64)), false), ((.ro (.int .i64)), false), ((.ro (.int .i64)), false)], res := [(.ro .bool)], slots := [.tmp 6], code := bd Try.f61 }
/- spec.l01Steps -/
noncomputable def I74 : Inst := { f := 74, nt := 5, params := [((.ro (.int .i64)), false)], res := [(.ro .bool)], slots := [.tmp 2], code := bd Try.f74, callee := fun r i => find 0 [(1001, 61)] (r * 1000 + i) }
/- spec.l01Lift -/
noncomputable def I65 : Inst := { f := 65, nt := 5, params := [((.ro (.int .i64)), false)], res := [(.ro .bool)], slots := [.tmp 2], code := bd Try.f65, callee := fun r i => find 0 [(1001, 61)] (r * 1000 + i) }
/- spec.l01Ok -/
noncomputable def I82 : Inst := { f := 82, nt := 21, params := [((.ro (.slc (.int .i16))), false)], res := [(.ro .bool)], slots := [.tmp 2], code := bd Try.f82, callee := fun r i => find 0 [(1002, 74), (6005, 65)] (r * 1000 + i), loops := fun b => find [] [(0, [.own 0 (.ro (.slc (.int .i16))), .own 3 (.ro (.int .i64))])] b }
/- spec.l04Ok -/
noncomputable def I90 : Inst := { f := 90, nt := 57, params := [((.ro (.slc (.pair (.int .i16) (.pair (.int .i16) (.pair (.int .i16) (.pair (.slc (.int .i16)) .unit)))))), false)], res := [(.ro .bool)], slots := [.tmp 2], code := bd Try.f90, callee := fun r i => find 0 [(1002, 61), (7005, 61), (7013, 61), (7021, 82), (7036, 61)] (r * 1000 + i), loops := fun b => find [] [(0, [.own 0 (.ro (.slc (.pair (.int .i16) (.pair (.int .i16) (.pair (.int .i16) (.pair (.slc (.int .i16)) .unit)))))), .own 3 (.ro (.int .i64))])] b }
/- spec.l04Gcd -/
noncomputable def I100 : Inst := { f := 100, nt := 13, params := [((.ro (.int .i64)), false), ((.ro (.int .i64)), false)], res := [(.ro (.int .i64))], slots := [.tmp 4], code := bd Try.f100, callee := fun r i => find 0 [(3004, 100)] (r * 1000 + i) }
/- spec.l04Own -/
noncomputable def I99 : Inst := { f := 99, nt := 24, params := [((.ro (.ptr (.pair (.int .i16) (.pair (.int .i16) (.pair (.int .i16) (.pair (.slc (.int .i16)) .unit)))))), false)], res := [(.ro (.int .i64))], slots := [.tmp 2], code := bd Try.f99, callee := fun r i => find 0 [(2007, 100)] (r * 1000 + i) }
/- spec.l04All -/
noncomputable def I51 : Inst := { f := 51, nt := 30, params := [((.ro (.slc (.pair (.int .i16) (.pair (.int .i16) (.pair (.int .i16) (.pair (.slc (.int .i16)) .unit)))))), false)], res := [(.ro (.int .i64)), (.ro (.int .i64))], slots := [.tmp 2, .tmp 3], code := bd Try.f51, callee := fun r i => find 0 [(1001, 90), (7003, 99), (8003, 100)] (r * 1000 + i), loops := fun b => find [] [(0, [.own 0 (.ro (.slc (.pair (.int .i16) (.pair (.int .i16) (.pair (.int .i16) (.pair (.slc (.int .i16)) .unit)))))), .own 4 (.ro (.int .i64)), .own 5 (.ro (.int .i64))])] b }
/- spec.l04Step -/
noncomputable def I101 : Inst := { f := 101, nt := 30, params := [((.ro (.ptr (.pair (.int .i16) (.pair (.int .i16) (.pair (.int .i16) (.pair (.slc (.int .i16)) .unit)))))), false), ((.ro (.int .i64)), false)], res := [(.ro (.int .i64))], slots := [.tmp 4], code := bd Try.f101 }
/- spec.l04Lift -/
noncomputable def I52 : Inst := { f := 52, nt := 15, params := [((.ro (.ptr (.pair (.int .i16) (.pair (.int .i16) (.pair (.int .i16) (.pair (.slc (.int .i16)) .unit)))))), false), ((.ro (.int .i64)), false)], res := [(.ro (.int .i64))], slots := [.tmp 4], code := bd Try.f52, callee := fun r i => find 0 [(1006, 101)] (r * 1000 + i) }
/- spec.SumOfLifts -/
noncomputable def I18 : Inst := { f := 18, nt := 43, params := [((.ro (.slc (.pair (.int .i16) (.pair (.int .i16) (.pair (.int .i16) (.pair (.slc (.int .i16)) .unit)))))), false)], res := [(.row false (.int .i64)), (.ro (.int .i64))], slots := [.tmp 2, .tmp 3], code := bd Try.f18, callee := fun r i => find 0 [(1001, 51), (12005, 52)] (r * 1000 + i), loops := fun b => find [] [(2, [.own 0 (.ro (.slc (.pair (.int .i16) (.pair (.int .i16) (.pair (.int .i16) (.pair (.slc (.int .i16)) .unit)))))), .own 4 (.ro (.int .i64)), .own 6 (.row false (.int .i64)), .own 7 (.ro (.int .i64)), .own 8 (.ro (.int .i64)), .own 9 (.ro (.int .i64))]), (0, [.own 0 (.ro (.slc (.pair (.int .i16) (.pair (.int .i16) (.pair (.int .i16) (.pair (.slc (.int .i16)) .unit)))))), .own 4 (.ro (.int .i64)), .own 6 (.row false (.int .i64)), .own 7 (.ro (.int .i64))])] b, deep := fun r i => find false [(3000, true), (4000, true), (13002, true), (13003, true)] (r * 1000 + i) }
/- impl.inRange -/
noncomputable def I57 : Inst := { f := 57, nt := 15, params := [((.ro (.int .i64)), false), ((.ro (.int .i64)), false), ((.ro (.int .i64)), false)], res := [(.ro .bool)], slots := [.tmp 6], code := bd Try.f57 }
/- impl.Cam).steps -/
noncomputable def I48 : Inst := { f := 48, nt := 5, params := [((.ro (.slc (.int .i16))), false)], res := [(.ro (.int .i64))], slots := [.tmp 2], code := bd Try.f48 }
/- impl.isSteps -/
noncomputable def I72 : Inst := { f := 72, nt := 5, params := [((.ro (.int .i64)), false)], res := [(.ro .bool)], slots := [.tmp 2], code := bd Try.f72, callee := fun r i => find 0 [(1001, 57)] (r * 1000 + i) }
/- impl.isLift -/
noncomputable def I71 : Inst := { f := 71, nt := 5, params := [((.ro (.int .i64)), false)], res := [(.ro .bool)], slots := [.tmp 2], code := bd Try.f71, callee := fun r i => find 0 [(1001, 57)] (r * 1000 + i) }
/- impl.ValidCam$1 -/
noncomputable def I114 : Inst := { f := 114, nt := 7, params := [((.ro (.int .i16)), false)], res := [(.ro .bool)], slots := [.tmp 2], code := bd Try.f114, callee := fun r i => find 0 [(1002, 71)] (r * 1000 + i) }
/- impl.Cam,int16] -/
noncomputable def I127 : Inst := { f := 127, nt := 19, params := [((.ro (.slc (.int .i16))), false), ((.clo 114 (.ro .unit) (.ro .unit)), false)], res := [(.ro (.int .i64))], slots := [.tmp 4], code := bd Try.f127, callee := fun r i => find 0 [(4005, 114)] (r * 1000 + i), loops := fun b => find [] [(0, [.own 0 (.ro (.slc (.int .i16))), .own 1 (.clo 114 (.ro .unit) (.ro .unit)), .own 7 (.ro (.int .i64)), .own 8 (.ro (.int .i64))])] b }
/- impl.Cam,int16] -/
noncomputable def I113 : Inst := { f := 113, nt := 9, params := [((.ro (.slc (.int .i16))), false), ((.clo 114 (.ro .unit) (.ro .unit)), false)], res := [(.ro .bool)], slots := [.tmp 4], code := bd Try.f113, callee := fun r i => find 0 [(1002, 127)] (r * 1000 + i) }
/- impl.ValidCam -/
noncomputable def I85 : Inst := { f := 85, nt := 11, params := [((.ro (.slc (.int .i16))), false)], res := [(.ro .bool)], slots := [.tmp 2], code := bd Try.f85, callee := fun r i => find 0 [(1001, 48), (1002, 72), (1005, 113)] (r * 1000 + i) }
/- impl.isPlace -/
noncomputable def I93 : Inst := { f := 93, nt := 9, params := [((.ro (.int .i64)), false), ((.ro (.int .i64)), false)], res := [(.ro .bool)], slots := [.tmp 4], code := bd Try.f93, callee := fun r i => find 0 [(1003, 57)] (r * 1000 + i) }
/- impl.ValidShafts$1 -/
noncomputable def I120 : Inst := { f := 120, nt := 31, params := [((.ro (.pair (.int .i16) (.pair (.int .i16) (.pair (.int .i16) (.pair (.slc (.int .i16)) .unit))))), false)], res := [(.ro .bool)], slots := [.tmp 2], code := bd Try.f120, callee := fun r i => find 0 [(1003, 57), (1009, 57), (1015, 85), (1025, 93)] (r * 1000 + i) }
/- impl.Shaft] -/
noncomputable def I130 : Inst := { f := 130, nt := 19, params := [((.ro (.slc (.pair (.int .i16) (.pair (.int .i16) (.pair (.int .i16) (.pair (.slc (.int .i16)) .unit)))))), false), ((.clo 120 (.ro .unit) (.ro .unit)), false)], res := [(.ro (.int .i64))], slots := [.tmp 4], code := bd Try.f130, callee := fun r i => find 0 [(4005, 120)] (r * 1000 + i), loops := fun b => find [] [(0, [.own 0 (.ro (.slc (.pair (.int .i16) (.pair (.int .i16) (.pair (.int .i16) (.pair (.slc (.int .i16)) .unit)))))), .own 1 (.clo 120 (.ro .unit) (.ro .unit)), .own 7 (.ro (.int .i64)), .own 8 (.ro (.int .i64))])] b }
/- impl.Shaft] -/
noncomputable def I119 : Inst := { f := 119, nt := 9, params := [((.ro (.slc (.pair (.int .i16) (.pair (.int .i16) (.pair (.int .i16) (.pair (.slc (.int .i16)) .unit)))))), false), ((.clo 120 (.ro .unit) (.ro .unit)), false)], res := [(.ro .bool)], slots := [.tmp 4], code := bd Try.f119, callee := fun r i => find 0 [(1002, 130)] (r * 1000 + i) }
/- impl.ValidShafts -/
noncomputable def I102 : Inst := { f := 102, nt := 11, params := [((.ro (.slc (.pair (.int .i16) (.pair (.int .i16) (.pair (.int .i16) (.pair (.slc (.int .i16)) .unit)))))), false)], res := [(.ro .bool)], slots := [.tmp 2], code := bd Try.f102, callee := fun r i => find 0 [(1002, 57), (1005, 119)] (r * 1000 + i) }
/- impl.codeIf -/
noncomputable def I96 : Inst := { f := 96, nt := 7, params := [((.ro .bool), false), ((.ro (.int .i64)), false)], res := [(.ro (.int .i64))], slots := [.tmp 4], code := bd Try.f96 }
/- impl.firstCode -/
noncomputable def I95 : Inst := { f := 95, nt := 15, params := [((.ro (.slc (.int .i64))), false)], res := [(.ro (.int .i64))], slots := [.tmp 2], code := bd Try.f95, loops := fun b => find [] [(0, [.own 5 (.ro (.slc (.int .i64))), .own 6 (.ro (.int .i64)), .own 7 (.ro (.int .i64))])] b }
/- impl.common -/
noncomputable def I122 : Inst := { f := 122, nt := 12, params := [((.ro (.int .i64)), false), ((.ro (.int .i64)), false)], res := [(.ro (.int .i64))], slots := [.tmp 4], code := bd Try.f122, loops := fun b => find [] [(0, [.own 0 (.ro (.int .i64)), .own 1 (.ro (.int .i64))])] b }
/- impl.Shaft).period -/
noncomputable def I121 : Inst := { f := 121, nt := 18, params := [((.ro (.pair (.int .i16) (.pair (.int .i16) (.pair (.int .i16) (.pair (.slc (.int .i16)) .unit))))), false)], res := [(.ro (.int .i64))], slots := [.tmp 2], code := bd Try.f121, callee := fun r i => find 0 [(1005, 48), (2005, 122)] (r * 1000 + i) }
/- impl.periodOf -/
noncomputable def I103 : Inst := { f := 103, nt := 27, params := [((.ro (.slc (.pair (.int .i16) (.pair (.int .i16) (.pair (.int .i16) (.pair (.slc (.int .i16)) .unit)))))), false)], res := [(.ro (.int .i64)), (.ro .bool)], slots := [.tmp 2, .tmp 3], code := bd Try.f103, callee := fun r i => find 0 [(5001, 121), (6003, 122)] (r * 1000 + i), loops := fun b => find [] [(0, [.own 4 (.ro (.int .i64)), .own 8 (.ro (.slc (.pair (.int .i16) (.pair (.int .i16) (.pair (.int .i16) (.pair (.slc (.int .i16)) .unit)))))), .own 9 (.ro (.int .i64)), .own 10 (.ro (.int .i64))])] b }
/- impl.shaftsCode -/
noncomputable def I53 : Inst := { f := 53, nt := 30, params := [((.ro (.slc (.pair (.int .i16) (.pair (.int .i16) (.pair (.int .i16) (.pair (.slc (.int .i16)) .unit)))))), false), ((.ro .bool), false)], res := [(.ro (.int .i64)), (.ro (.int .i64))], slots := [.tmp 4, .tmp 5], code := bd Try.f53, callee := fun r i => find 0 [(1001, 102), (1003, 96), (1006, 96), (1008, 95), (4001, 103), (5003, 96)] (r * 1000 + i), deep := fun r i => find false [(1007, true)] (r * 1000 + i) }
/- impl.Shaft).step -/
noncomputable def I118 : Inst := { f := 118, nt := 22, params := [((.ro (.pair (.int .i16) (.pair (.int .i16) (.pair (.int .i16) (.pair (.slc (.int .i16)) .unit))))), false), ((.ro (.int .i64)), false), ((.ro (.int .i64)), false)], res := [(.ro (.int .i64))], slots := [.tmp 6], code := bd Try.f118, callee := fun r i => find 0 [(1013, 48)] (r * 1000 + i) }
/- impl.Shaft).lift -/
noncomputable def I98 : Inst := { f := 98, nt := 16, params := [((.ro (.pair (.int .i16) (.pair (.int .i16) (.pair (.int .i16) (.pair (.slc (.int .i16)) .unit))))), false), ((.ro (.int .i64)), false), ((.ro (.int .i64)), false)], res := [(.ro (.int .i64))], slots := [.tmp 6], code := bd Try.f98, callee := fun r i => find 0 [(1005, 118)] (r * 1000 + i) }
/- impl.Shaft).now -/
noncomputable def I97 : Inst := { f := 97, nt := 11, params := [((.ro (.pair (.int .i16) (.pair (.int .i16) (.pair (.int .i16) (.pair (.slc (.int .i16)) .unit))))), false), ((.ro (.int .i64)), false)], res := [(.ro (.int .i64))], slots := [.tmp 4], code := bd Try.f97, callee := fun r i => find 0 [(1005, 98)] (r * 1000 + i) }
/- impl.liftsOn -/
noncomputable def I54 : Inst := { f := 54, nt := 23, params := [((.ro (.slc (.pair (.int .i16) (.pair (.int .i16) (.pair (.int .i16) (.pair (.slc (.int .i16)) .unit)))))), false), ((.ro (.int .i64)), false)], res := [(.row false (.int .i64))], slots := [.tmp 4], code := bd Try.f54, callee := fun r i => find 0 [(5003, 97)] (r * 1000 + i), loops := fun b => find [] [(0, [.own 1 (.ro (.int .i64)), .own 5 (.row false (.int .i64)), .own 9 (.ro (.slc (.pair (.int .i16) (.pair (.int .i16) (.pair (.int .i16) (.pair (.slc (.int .i16)) .unit)))))), .own 10 (.ro (.int .i64)), .own 11 (.ro (.int .i64))])] b, deep := fun r i => find false [(1000, true), (5004, true), (5005, true)] (r * 1000 + i) }
/- impl.SumOfLifts -/
noncomputable def I19 : Inst := { f := 19, nt := 42, params := [((.ro (.slc (.pair (.int .i16) (.pair (.int .i16) (.pair (.int .i16) (.pair (.slc (.int .i16)) .unit)))))), false)], res := [(.row false (.int .i64)), (.ro (.int .i64))], slots := [.tmp 2, .tmp 3], code := bd Try.f19, callee := fun r i => find 0 [(1001, 53), (9002, 54)] (r * 1000 + i), loops := fun b => find [] [(2, [.own 0 (.ro (.slc (.pair (.int .i16) (.pair (.int .i16) (.pair (.int .i16) (.pair (.slc (.int .i16)) .unit)))))), .own 6 (.row false (.int .i64)), .own 8 (.ro (.int .i64)), .own 20 (.ro (.int .i64)), .own 21 (.ro (.int .i64)), .own 26 (.ro (.slc (.int .i64))), .own 27 (.ro (.int .i64)), .own 28 (.ro (.int .i64))]), (0, [.own 0 (.ro (.slc (.pair (.int .i16) (.pair (.int .i16) (.pair (.int .i16) (.pair (.slc (.int .i16)) .unit)))))), .own 6 (.row false (.int .i64)), .own 20 (.ro (.int .i64)), .own 21 (.ro (.int .i64))])] b, deep := fun r i => find false [(4000, true), (14002, true), (14003, true)] (r * 1000 + i) }
/- laws.eqInt64S -/
noncomputable def I20 : Inst := { f := 20, nt := 26, params := [((.ro (.slc (.int .i64))), false), ((.ro (.slc (.int .i64))), false)], res := [(.ro .bool)], slots := [.tmp 4], code := bd Try.f20, loops := fun b => find [] [(0, [.own 0 (.ro (.slc (.int .i64))), .own 1 (.ro (.slc (.int .i64))), .own 5 (.ro (.int .i64))])] b }
/- laws.eqCam -/
noncomputable def I42 : Inst := { f := 42, nt := 26, params := [((.ro (.slc (.int .i16))), false), ((.ro (.slc (.int .i16))), false)], res := [(.ro .bool)], slots := [.tmp 4], code := bd Try.f42, loops := fun b => find [] [(0, [.own 0 (.ro (.slc (.int .i16))), .own 1 (.ro (.slc (.int .i16))), .own 5 (.ro (.int .i64))])] b }
/- laws.eqShaft -/
noncomputable def I50 : Inst := { f := 50, nt := 26, params := [((.ro (.pair (.int .i16) (.pair (.int .i16) (.pair (.int .i16) (.pair (.slc (.int .i16)) .unit))))), false), ((.ro (.pair (.int .i16) (.pair (.int .i16) (.pair (.int .i16) (.pair (.slc (.int .i16)) .unit))))), false)], res := [(.ro .bool)], slots := [.tmp 4], code := bd Try.f50, callee := fun r i => find 0 [(7004, 42)] (r * 1000 + i) }
/- laws.eqShaftS -/
noncomputable def I17 : Inst := { f := 17, nt := 27, params := [((.ro (.slc (.pair (.int .i16) (.pair (.int .i16) (.pair (.int .i16) (.pair (.slc (.int .i16)) .unit)))))), false), ((.ro (.slc (.pair (.int .i16) (.pair (.int .i16) (.pair (.int .i16) (.pair (.slc (.int .i16)) .unit)))))), false)], res := [(.ro .bool)], slots := [.tmp 4], code := bd Try.f17, callee := fun r i => find 0 [(6008, 50)] (r * 1000 + i), loops := fun b => find [] [(0, [.own 0 (.ro (.slc (.pair (.int .i16) (.pair (.int .i16) (.pair (.int .i16) (.pair (.slc (.int .i16)) .unit)))))), .own 1 (.ro (.slc (.pair (.int .i16) (.pair (.int .i16) (.pair (.int .i16) (.pair (.slc (.int .i16)) .unit)))))), .own 5 (.ro (.int .i64))])] b }
/- laws.markCam -/
noncomputable def I55 : Inst := { f := 55, nt := 20, params := [((.row false (.int .i16)), true), ((.ro (.int .i64)), false)], res := [(.ro (.int .i64))], slots := [.tmp 4], code := bd Try.f55, loops := fun b => find [] [(0, [.own 0 (.row false (.int .i16)), .own 1 (.ro (.int .i64)), .own 5 (.ro (.int .i64))])] b, pins := [0] }
/- laws.markShaftS -/
noncomputable def I21 : Inst := { f := 21, nt := 44, params := [((.row true (.pair (.int .i16) (.pair (.int .i16) (.pair (.int .i16) (.pair (.slc (.int .i16)) .unit))))), true), ((.ro (.int .i64)), false)], res := [(.ro (.int .i64))], slots := [.tmp 4], code := bd Try.f21, callee := fun r i => find 0 [(10006, 55)] (r * 1000 + i), loops := fun b => find [] [(0, [.own 0 (.row true (.pair (.int .i16) (.pair (.int .i16) (.pair (.int .i16) (.pair (.slc (.int .i16)) .unit))))), .own 1 (.ro (.int .i64)), .own 5 (.ro (.int .i64))])] b, pins := [0], deep := fun r i => find false [(10004, true)] (r * 1000 + i) }
/- laws.markInt64S -/
noncomputable def I22 : Inst := { f := 22, nt := 19, params := [((.row false (.int .i64)), true), ((.ro (.int .i64)), false)], res := [(.ro (.int .i64))], slots := [.tmp 4], code := bd Try.f22, loops := fun b => find [] [(0, [.own 0 (.row false (.int .i64)), .own 1 (.ro (.int .i64)), .own 5 (.ro (.int .i64))])] b, pins := [0] }
/- laws.heldInt64S -/
noncomputable def I23 : Inst := { f := 23, nt := 21, params := [((.ro (.slc (.int .i64))), false), ((.ro (.int .i64)), false)], res := [(.ro (.int .i64))], slots := [.tmp 4], code := bd Try.f23, loops := fun b => find [] [(0, [.own 0 (.ro (.slc (.int .i64))), .own 1 (.ro (.int .i64)), .own 5 (.ro (.int .i64))])] b }
/- laws.FnExactSumOfLifts -/
noncomputable def I5 : Inst := { f := 5, nt := 96, params := [((.ro (.slc (.pair (.int .i16) (.pair (.int .i16) (.pair (.int .i16) (.pair (.slc (.int .i16)) .unit)))))), false)], res := [(.ro .bool)], slots := [.tmp 2], code := bd Try.f5, callee := fun r i => find 0 [(2002, 13), (5001, 15), (5002, 18), (6001, 15), (7001, 19), (8002, 20), (10002, 15), (10003, 17), (13002, 21), (14005, 20), (17002, 22), (19002, 23), (24001, 15), (24002, 19), (25002, 20), (28002, 23)] (r * 1000 + i) }
noncomputable def C : Nat → Inst := find I36 [(36, I36), (43, I43), (13, I13), (39, I39), (46, I46), (15, I15), (61, I61), (74, I74), (65, I65), (82, I82), (90, I90), (100, I100), (99, I99), (51, I51), (101, I101), (52, I52), (18, I18), (57, I57), (48, I48), (72, I72), (71, I71), (114, I114), (127, I127), (113, I113), (85, I85), (93, I93), (120, I120), (130, I130), (119, I119), (102, I102), (96, I96), (95, I95), (122, I122), (121, I121), (103, I103), (53, I53), (118, I118), (98, I98), (97, I97), (54, I54), (19, I19), (20, I20), (42, I42), (50, I50), (17, I17), (55, I55), (21, I21), (22, I22), (23, I23), (5, I5)]
theorem tsOk : TsOk Try.prog T := tsOkB_sound (by kernel_rfl)
theorem ok36 : InstOk Try.prog I36 := instOk_of Try.func36 (by kernel_rfl) (by kernel_rfl) (by kernel_rfl) (by kernel_rfl)
theorem ok43 : InstOk Try.prog I43 := instOk_of Try.func43 (by kernel_rfl) (by kernel_rfl) (by kernel_rfl) (by kernel_rfl)
theorem ok13 : InstOk Try.prog I13 := instOk_of Try.func13 (by kernel_rfl) (by kernel_rfl) (by kernel_rfl) (by kernel_rfl)
theorem ok39 : InstOk Try.prog I39 := instOk_of Try.func39 (by kernel_rfl) (by kernel_rfl) (by kernel_rfl) (by kernel_rfl)
theorem ok46 : InstOk Try.prog I46 := instOk_of Try.func46 (by kernel_rfl) (by kernel_rfl) (by kernel_rfl) (by kernel_rfl)
theorem ok15 : InstOk Try.prog I15 := instOk_of Try.func15 (by kernel_rfl) (by kernel_rfl) (by kernel_rfl) (by kernel_rfl)
theorem ok61 : InstOk Try.prog I61 := instOk_of Try.func61 (by kernel_rfl) (by kernel_rfl) (by kernel_rfl) (by kernel_rfl)
theorem ok74 : InstOk Try.prog I74 := instOk_of Try.func74 (by kernel_rfl) (by kernel_rfl) (by kernel_rfl) (by kernel_rfl)
theorem ok65 : InstOk Try.prog I65 := instOk_of Try.func65 (by kernel_rfl) (by kernel_rfl) (by kernel_rfl) (by kernel_rfl)
theorem ok82 : InstOk Try.prog I82 := instOk_of Try.func82 (by kernel_rfl) (by kernel_rfl) (by kernel_rfl) (by kernel_rfl)
theorem ok90 : InstOk Try.prog I90 := instOk_of Try.func90 (by kernel_rfl) (by kernel_rfl) (by kernel_rfl) (by kernel_rfl)
theorem ok100 : InstOk Try.prog I100 := instOk_of Try.func100 (by kernel_rfl) (by kernel_rfl) (by kernel_rfl) (by kernel_rfl)
theorem ok99 : InstOk Try.prog I99 := instOk_of Try.func99 (by kernel_rfl) (by kernel_rfl) (by kernel_rfl) (by kernel_rfl)
theorem ok51 : InstOk Try.prog I51 := instOk_of Try.func51 (by kernel_rfl) (by kernel_rfl) (by kernel_rfl) (by kernel_rfl)
theorem ok101 : InstOk Try.prog I101 := instOk_of Try.func101 (by kernel_rfl) (by kernel_rfl) (by kernel_rfl) (by kernel_rfl)
theorem ok52 : InstOk Try.prog I52 := instOk_of Try.func52 (by kernel_rfl) (by kernel_rfl) (by kernel_rfl) (by kernel_rfl)
theorem ok18 : InstOk Try.prog I18 := instOk_of Try.func18 (by kernel_rfl) (by kernel_rfl) (by kernel_rfl) (by kernel_rfl)
theorem ok57 : InstOk Try.prog I57 := instOk_of Try.func57 (by kernel_rfl) (by kernel_rfl) (by kernel_rfl) (by kernel_rfl)
theorem ok48 : InstOk Try.prog I48 := instOk_of Try.func48 (by kernel_rfl) (by kernel_rfl) (by kernel_rfl) (by kernel_rfl)
theorem ok72 : InstOk Try.prog I72 := instOk_of Try.func72 (by kernel_rfl) (by kernel_rfl) (by kernel_rfl) (by kernel_rfl)
theorem ok71 : InstOk Try.prog I71 := instOk_of Try.func71 (by kernel_rfl) (by kernel_rfl) (by kernel_rfl) (by kernel_rfl)
theorem ok114 : InstOk Try.prog I114 := instOk_of Try.func114 (by kernel_rfl) (by kernel_rfl) (by kernel_rfl) (by kernel_rfl)
theorem ok127 : InstOk Try.prog I127 := instOk_of Try.func127 (by kernel_rfl) (by kernel_rfl) (by kernel_rfl) (by kernel_rfl)
theorem ok113 : InstOk Try.prog I113 := instOk_of Try.func113 (by kernel_rfl) (by kernel_rfl) (by kernel_rfl) (by kernel_rfl)
theorem ok85 : InstOk Try.prog I85 := instOk_of Try.func85 (by kernel_rfl) (by kernel_rfl) (by kernel_rfl) (by kernel_rfl)
theorem ok93 : InstOk Try.prog I93 := instOk_of Try.func93 (by kernel_rfl) (by kernel_rfl) (by kernel_rfl) (by kernel_rfl)
theorem ok120 : InstOk Try.prog I120 := instOk_of Try.func120 (by kernel_rfl) (by kernel_rfl) (by kernel_rfl) (by kernel_rfl)
theorem ok130 : InstOk Try.prog I130 := instOk_of Try.func130 (by kernel_rfl) (by kernel_rfl) (by kernel_rfl) (by kernel_rfl)
theorem ok119 : InstOk Try.prog I119 := instOk_of Try.func119 (by kernel_rfl) (by kernel_rfl) (by kernel_rfl) (by kernel_rfl)
theorem ok102 : InstOk Try.prog I102 := instOk_of Try.func102 (by kernel_rfl) (by kernel_rfl) (by kernel_rfl) (by kernel_rfl)
theorem ok96 : InstOk Try.prog I96 := instOk_of Try.func96 (by kernel_rfl) (by kernel_rfl) (by kernel_rfl) (by kernel_rfl)
theorem ok95 : InstOk Try.prog I95 := instOk_of Try.func95 (by kernel_rfl) (by kernel_rfl) (by kernel_rfl) (by kernel_rfl)
theorem ok122 : InstOk Try.prog I122 := instOk_of Try.func122 (by kernel_rfl) (by kernel_rfl) (by kernel_rfl) (by kernel_rfl)
theorem ok121 : InstOk Try.prog I121 := instOk_of Try.func121 (by kernel_rfl) (by kernel_rfl) (by kernel_rfl) (by kernel_rfl)
theorem ok103 : InstOk Try.prog I103 := instOk_of Try.func103 (by kernel_rfl) (by kernel_rfl) (by kernel_rfl) (by kernel_rfl)
theorem ok53 : InstOk Try.prog I53 := instOk_of Try.func53 (by kernel_rfl) (by kernel_rfl) (by kernel_rfl) (by kernel_rfl)
theorem ok118 : InstOk Try.prog I118 := instOk_of Try.func118 (by kernel_rfl) (by kernel_rfl) (by kernel_rfl) (by kernel_rfl)
theorem ok98 : InstOk Try.prog I98 := instOk_of Try.func98 (by kernel_rfl) (by kernel_rfl) (by kernel_rfl) (by kernel_rfl)
theorem ok97 : InstOk Try.prog I97 := instOk_of Try.func97 (by kernel_rfl) (by kernel_rfl) (by kernel_rfl) (by kernel_rfl)
theorem ok54 : InstOk Try.prog I54 := instOk_of Try.func54 (by kernel_rfl) (by kernel_rfl) (by kernel_rfl) (by kernel_rfl)
theorem ok19 : InstOk Try.prog I19 := instOk_of Try.func19 (by kernel_rfl) (by kernel_rfl) (by kernel_rfl) (by kernel_rfl)
theorem ok20 : InstOk Try.prog I20 := instOk_of Try.func20 (by kernel_rfl) (by kernel_rfl) (by kernel_rfl) (by kernel_rfl)
theorem ok42 : InstOk Try.prog I42 := instOk_of Try.func42 (by kernel_rfl) (by kernel_rfl) (by kernel_rfl) (by kernel_rfl)
theorem ok50 : InstOk Try.prog I50 := instOk_of Try.func50 (by kernel_rfl) (by kernel_rfl) (by kernel_rfl) (by kernel_rfl)
theorem ok17 : InstOk Try.prog I17 := instOk_of Try.func17 (by kernel_rfl) (by kernel_rfl) (by kernel_rfl) (by kernel_rfl)
theorem ok55 : InstOk Try.prog I55 := instOk_of Try.func55 (by kernel_rfl) (by kernel_rfl) (by kernel_rfl) (by kernel_rfl)
theorem ok21 : InstOk Try.prog I21 := instOk_of Try.func21 (by kernel_rfl) (by kernel_rfl) (by kernel_rfl) (by kernel_rfl)
theorem ok22 : InstOk Try.prog I22 := instOk_of Try.func22 (by kernel_rfl) (by kernel_rfl) (by kernel_rfl) (by kernel_rfl)
theorem ok23 : InstOk Try.prog I23 := instOk_of Try.func23 (by kernel_rfl) (by kernel_rfl) (by kernel_rfl) (by kernel_rfl)
theorem ok5 : InstOk Try.prog I5 := instOk_of Try.func5 (by kernel_rfl) (by kernel_rfl) (by kernel_rfl) (by kernel_rfl)
theorem insts : ∀ j, InstOk Try.prog (C j) := find_all ok36 (List.forall_mem_cons.2 ⟨ok36, List.forall_mem_cons.2 ⟨ok43, List.forall_mem_cons.2 ⟨ok13, List.forall_mem_cons.2 ⟨ok39, List.forall_mem_cons.2 ⟨ok46, List.forall_mem_cons.2 ⟨ok15, List.forall_mem_cons.2 ⟨ok61, List.forall_mem_cons.2 ⟨ok74, List.forall_mem_cons.2 ⟨ok65, List.forall_mem_cons.2 ⟨ok82, List.forall_mem_cons.2 ⟨ok90, List.forall_mem_cons.2 ⟨ok100, List.forall_mem_cons.2 ⟨ok99, List.forall_mem_cons.2 ⟨ok51, List.forall_mem_cons.2 ⟨ok101, List.forall_mem_cons.2 ⟨ok52, List.forall_mem_cons.2 ⟨ok18, List.forall_mem_cons.2 ⟨ok57, List.forall_mem_cons.2 ⟨ok48, List.forall_mem_cons.2 ⟨ok72, List.forall_mem_cons.2 ⟨ok71, List.forall_mem_cons.2 ⟨ok114, List.forall_mem_cons.2 ⟨ok127, List.forall_mem_cons.2 ⟨ok113, List.forall_mem_cons.2 ⟨ok85, List.forall_mem_cons.2 ⟨ok93, List.forall_mem_cons.2 ⟨ok120, List.forall_mem_cons.2 ⟨ok130, List.forall_mem_cons.2 ⟨ok119, List.forall_mem_cons.2 ⟨ok102, List.forall_mem_cons.2 ⟨ok96, List.forall_mem_cons.2 ⟨ok95, List.forall_mem_cons.2 ⟨ok122, List.forall_mem_cons.2 ⟨ok121, List.forall_mem_cons.2 ⟨ok103, List.forall_mem_cons.2 ⟨ok53, List.forall_mem_cons.2 ⟨ok118, List.forall_mem_cons.2 ⟨ok98, List.forall_mem_cons.2 ⟨ok97, List.forall_mem_cons.2 ⟨ok54, List.forall_mem_cons.2 ⟨ok19, List.forall_mem_cons.2 ⟨ok20, List.forall_mem_cons.2 ⟨ok42, List.forall_mem_cons.2 ⟨ok50, List.forall_mem_cons.2 ⟨ok17, List.forall_mem_cons.2 ⟨ok55, List.forall_mem_cons.2 ⟨ok21, List.forall_mem_cons.2 ⟨ok22, List.forall_mem_cons.2 ⟨ok23, List.forall_mem_cons.2 ⟨ok5, fun _ h => absurd h List.not_mem_nil⟩⟩⟩⟩⟩⟩⟩⟩⟩⟩⟩⟩⟩⟩⟩⟩⟩⟩⟩⟩⟩⟩⟩⟩⟩⟩⟩⟩⟩⟩⟩⟩⟩⟩⟩⟩⟩⟩⟩⟩⟩⟩⟩⟩⟩⟩⟩⟩⟩⟩)
end Go.Proofs.Ytkcapecjamijaaa.LSumOfLifts
