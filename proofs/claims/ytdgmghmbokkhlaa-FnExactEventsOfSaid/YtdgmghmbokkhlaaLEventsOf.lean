/- The types and the functions that a law reaches, told for the reading (Fw). Written by a program (gen.py). -/
import Derived.Test.YtdgmghmbokkhlaaFwC
import Derived.Test.YtdgmghmbokkhlaaProg
namespace Go.Proofs.Ytdgmghmbokkhlaa.LEventsOf
open Go Go.Fw
open Go.Proofs
noncomputable def tyL : List (Nat × TI) := [(2, ⟨(.int .i64), 0, 8⟩),
  (3, ⟨(.int .i64), 0, 8⟩),
  (4, ⟨.bool, 0, 1⟩),
  (22, ⟨(.slc (.pair (.int .i16) (.pair (.int .i16) (.pair (.int .i16) (.pair (.slc (.int .i16)) .unit))))), 75, 24⟩),
  (24, ⟨(.slc (.pair (.int .i64) (.pair (.int .i64) .unit))), 82, 24⟩),
  (27, ⟨(.slc (.pair (.int .i16) (.pair (.int .i16) (.pair (.int .i16) (.pair (.slc (.int .i16)) .unit))))), 80, 24⟩),
  (34, ⟨(.slc (.int .i16)), 62, 24⟩),
  (41, ⟨(.slc (.int .i16)), 62, 24⟩),
  (58, ⟨(.slc (.int .i64)), 2, 24⟩),
  (62, ⟨(.int .i16), 0, 2⟩),
  (75, ⟨(.pair (.int .i16) (.pair (.int .i16) (.pair (.int .i16) (.pair (.slc (.int .i16)) .unit)))), 0, 32⟩),
  (78, ⟨(.ptr (.pair (.int .i16) (.pair (.int .i16) (.pair (.int .i16) (.pair (.slc (.int .i16)) .unit))))), 0, 8⟩),
  (80, ⟨(.pair (.int .i16) (.pair (.int .i16) (.pair (.int .i16) (.pair (.slc (.int .i16)) .unit)))), 0, 32⟩),
  (82, ⟨(.pair (.int .i64) (.pair (.int .i64) .unit)), 0, 16⟩),
  (146, ⟨.fn, 0, 8⟩),
  (152, ⟨.fn, 0, 8⟩)]
noncomputable def T : Nat → Option TI := findT tyL
/- laws.szCam -/
noncomputable def I101 : Inst := { f := 101, nt := 12, params := [((.ro (.slc (.int .i16))), false), ((.ro (.int .i64)), false)], res := [(.ro (.int .i64))], slots := [.tmp 4], code := bd Try.f101 }
/- laws.szShaft -/
noncomputable def I49 : Inst := { f := 49, nt := 12, params := [((.ro (.pair (.int .i16) (.pair (.int .i16) (.pair (.int .i16) (.pair (.slc (.int .i16)) .unit))))), false), ((.ro (.int .i64)), false)], res := [(.ro (.int .i64))], slots := [.tmp 4], code := bd Try.f49, callee := fun r i => find 0 [(1003, 101)] (r * 1000 + i) }
/- laws.szShaftS -/
noncomputable def I7 : Inst := { f := 7, nt := 27, params := [((.ro (.slc (.pair (.int .i16) (.pair (.int .i16) (.pair (.int .i16) (.pair (.slc (.int .i16)) .unit)))))), false), ((.ro (.int .i64)), false)], res := [(.ro (.int .i64))], slots := [.tmp 4], code := bd Try.f7, callee := fun r i => find 0 [(7005, 49)] (r * 1000 + i), loops := fun b => find [] [(0, [.own 0 (.ro (.slc (.pair (.int .i16) (.pair (.int .i16) (.pair (.int .i16) (.pair (.slc (.int .i16)) .unit)))))), .own 1 (.ro (.int .i64)), .own 5 (.ro (.int .i64))])] b }
/- laws.toCam -/
noncomputable def I19 : Inst := { f := 19, nt := 22, params := [((.ro (.slc (.int .i16))), false)], res := [(.row false (.int .i16))], slots := [.tmp 2], code := bd Try.f19, loops := fun b => find [] [(0, [.own 0 (.ro (.slc (.int .i16))), .own 3 (.row false (.int .i16)), .own 4 (.ro (.int .i64))])] b, deep := fun r i => find false [(1002, true)] (r * 1000 + i) }
/- laws.toShaft -/
noncomputable def I52 : Inst := { f := 52, nt := 18, params := [((.ro (.pair (.int .i16) (.pair (.int .i16) (.pair (.int .i16) (.pair (.slc (.int .i16)) .unit))))), false)], res := [(.pr (.ro (.int .i16)) (.pr (.ro (.int .i16)) (.pr (.ro (.int .i16)) (.pr (.row false (.int .i16)) (.ro .unit)))))], slots := [.cell 2 80], code := bd Try.f52, callee := fun r i => find 0 [(5002, 19)] (r * 1000 + i) }
/- laws.toShaftS -/
noncomputable def I9 : Inst := { f := 9, nt := 23, params := [((.ro (.slc (.pair (.int .i16) (.pair (.int .i16) (.pair (.int .i16) (.pair (.slc (.int .i16)) .unit)))))), false)], res := [(.row true (.pair (.int .i16) (.pair (.int .i16) (.pair (.int .i16) (.pair (.slc (.int .i16)) .unit)))))], slots := [.tmp 2], code := bd Try.f9, callee := fun r i => find 0 [(5006, 52)] (r * 1000 + i), loops := fun b => find [] [(0, [.own 0 (.ro (.slc (.pair (.int .i16) (.pair (.int .i16) (.pair (.int .i16) (.pair (.slc (.int .i16)) .unit)))))), .own 3 (.row true (.pair (.int .i16) (.pair (.int .i16) (.pair (.int .i16) (.pair (.slc (.int .i16)) .unit))))), .own 4 (.ro (.int .i64))])] b, deep := fun r i => find false [(1002, true)] (r * 1000 + i) }
/- spec.l00In -/
noncomputable def I83 : Inst := { f := 83, nt := 15, params := [((.ro (.int .i64)), false), ((.ro (.int .i64)), false), ((.ro (.int .i64)), false)], res := [(.ro .bool)], slots := [.tmp 6], code := bd Try.f83 }
/- spec.l01Steps -/
noncomputable def I126 : Inst := { f := 126, nt := 5, params := [((.ro (.int .i64)), false)], res := [(.ro .bool)], slots := [.tmp 2], code := bd Try.f126, callee := fun r i => find 0 [(1001, 83)] (r * 1000 + i) }
/- spec.l01Lift -/
noncomputable def I127 : Inst := { f := 127, nt := 5, params := [((.ro (.int .i64)), false)], res := [(.ro .bool)], slots := [.tmp 2], code := bd Try.f127, callee := fun r i => find 0 [(1001, 83)] (r * 1000 + i) }
/- spec.l01Ok -/
noncomputable def I73 : Inst := { f := 73, nt := 21, params := [((.ro (.slc (.int .i16))), false)], res := [(.ro .bool)], slots := [.tmp 2], code := bd Try.f73, callee := fun r i => find 0 [(1002, 126), (6005, 127)] (r * 1000 + i), loops := fun b => find [] [(0, [.own 0 (.ro (.slc (.int .i16))), .own 3 (.ro (.int .i64))])] b }
/- spec.l04Ok -/
noncomputable def I102 : Inst := { f := 102, nt := 57, params := [((.ro (.slc (.pair (.int .i16) (.pair (.int .i16) (.pair (.int .i16) (.pair (.slc (.int .i16)) .unit)))))), false)], res := [(.ro .bool)], slots := [.tmp 2], code := bd Try.f102, callee := fun r i => find 0 [(1002, 83), (7005, 83), (7013, 83), (7021, 73), (7036, 83)] (r * 1000 + i), loops := fun b => find [] [(0, [.own 0 (.ro (.slc (.pair (.int .i16) (.pair (.int .i16) (.pair (.int .i16) (.pair (.slc (.int .i16)) .unit)))))), .own 3 (.ro (.int .i64))])] b }
/- spec.l04Index -/
noncomputable def I103 : Inst := { f := 103, nt := 10, params := [((.ro (.slc (.pair (.int .i16) (.pair (.int .i16) (.pair (.int .i16) (.pair (.slc (.int .i16)) .unit)))))), false), ((.ro (.int .i64)), false)], res := [(.ro .bool)], slots := [.tmp 4], code := bd Try.f103, callee := fun r i => find 0 [(1004, 83)] (r * 1000 + i) }
/- spec.l04Gcd -/
noncomputable def I139 : Inst := { f := 139, nt := 13, params := [((.ro (.int .i64)), false), ((.ro (.int .i64)), false)], res := [(.ro (.int .i64))], slots := [.tmp 4], code := bd Try.f139, callee := fun r i => find 0 [(3004, 139)] (r * 1000 + i) }
/- spec.l04Own -/
noncomputable def I138 : Inst := { f := 138, nt := 24, params := [((.ro (.ptr (.pair (.int .i16) (.pair (.int .i16) (.pair (.int .i16) (.pair (.slc (.int .i16)) .unit)))))), false)], res := [(.ro (.int .i64))], slots := [.tmp 2], code := bd Try.f138, callee := fun r i => find 0 [(2007, 139)] (r * 1000 + i) }
/- spec.l04All -/
noncomputable def I104 : Inst := { f := 104, nt := 30, params := [((.ro (.slc (.pair (.int .i16) (.pair (.int .i16) (.pair (.int .i16) (.pair (.slc (.int .i16)) .unit)))))), false)], res := [(.ro (.int .i64)), (.ro (.int .i64))], slots := [.tmp 2, .tmp 3], code := bd Try.f104, callee := fun r i => find 0 [(1001, 102), (7003, 138), (8003, 139)] (r * 1000 + i), loops := fun b => find [] [(0, [.own 0 (.ro (.slc (.pair (.int .i16) (.pair (.int .i16) (.pair (.int .i16) (.pair (.slc (.int .i16)) .unit)))))), .own 4 (.ro (.int .i64)), .own 5 (.ro (.int .i64))])] b }
/- spec.l04Asked -/
noncomputable def I50 : Inst := { f := 50, nt := 32, params := [((.ro (.slc (.pair (.int .i16) (.pair (.int .i16) (.pair (.int .i16) (.pair (.slc (.int .i16)) .unit)))))), false), ((.ro (.int .i64)), false), ((.ro (.int .i64)), false), ((.ro (.int .i64)), false)], res := [(.ro (.int .i64)), (.ro (.int .i64))], slots := [.tmp 8, .tmp 9], code := bd Try.f50, callee := fun r i => find 0 [(1001, 102), (3002, 103), (3007, 103), (3012, 83), (5001, 104)] (r * 1000 + i) }
/- spec.l04Step -/
noncomputable def I105 : Inst := { f := 105, nt := 30, params := [((.ro (.ptr (.pair (.int .i16) (.pair (.int .i16) (.pair (.int .i16) (.pair (.slc (.int .i16)) .unit)))))), false), ((.ro (.int .i64)), false)], res := [(.ro (.int .i64))], slots := [.tmp 4], code := bd Try.f105 }
/- spec.l04Lift -/
noncomputable def I51 : Inst := { f := 51, nt := 15, params := [((.ro (.ptr (.pair (.int .i16) (.pair (.int .i16) (.pair (.int .i16) (.pair (.slc (.int .i16)) .unit)))))), false), ((.ro (.int .i64)), false)], res := [(.ro (.int .i64))], slots := [.tmp 4], code := bd Try.f51, callee := fun r i => find 0 [(1006, 105)] (r * 1000 + i) }
/- spec.EventsOf -/
noncomputable def I8 : Inst := { f := 8, nt := 61, params := [((.ro (.slc (.pair (.int .i16) (.pair (.int .i16) (.pair (.int .i16) (.pair (.slc (.int .i16)) .unit)))))), false), ((.ro (.int .i64)), false)], res := [(.row false (.pair (.int .i64) (.pair (.int .i64) .unit))), (.ro (.int .i64))], slots := [.tmp 4, .tmp 5], code := bd Try.f8, callee := fun r i => find 0 [(1002, 50), (11004, 51), (11017, 51)] (r * 1000 + i), loops := fun b => find [] [(2, [.own 0 (.ro (.slc (.pair (.int .i16) (.pair (.int .i16) (.pair (.int .i16) (.pair (.slc (.int .i16)) .unit)))))), .own 1 (.ro (.int .i64)), .own 6 (.ro (.int .i64)), .own 8 (.row false (.pair (.int .i64) (.pair (.int .i64) .unit))), .own 9 (.ro (.int .i64)), .own 10 (.ro (.int .i64))]), (0, [.own 0 (.ro (.slc (.pair (.int .i16) (.pair (.int .i16) (.pair (.int .i16) (.pair (.slc (.int .i16)) .unit)))))), .own 1 (.ro (.int .i64)), .own 6 (.ro (.int .i64)), .own 8 (.row false (.pair (.int .i64) (.pair (.int .i64) .unit))), .own 9 (.ro (.int .i64))])] b, deep := fun r i => find false [(3000, true), (4000, true), (12004, true), (12005, true)] (r * 1000 + i) }
/- impl.inRange -/
noncomputable def I76 : Inst := { f := 76, nt := 15, params := [((.ro (.int .i64)), false), ((.ro (.int .i64)), false), ((.ro (.int .i64)), false)], res := [(.ro .bool)], slots := [.tmp 6], code := bd Try.f76 }
/- impl.isRoom -/
noncomputable def I54 : Inst := { f := 54, nt := 5, params := [((.ro (.int .i64)), false)], res := [(.ro .bool)], slots := [.tmp 2], code := bd Try.f54, callee := fun r i => find 0 [(1001, 76)] (r * 1000 + i) }
/- impl.Cam).steps -/
noncomputable def I78 : Inst := { f := 78, nt := 5, params := [((.ro (.slc (.int .i16))), false)], res := [(.ro (.int .i64))], slots := [.tmp 2], code := bd Try.f78 }
/- impl.isSteps -/
noncomputable def I122 : Inst := { f := 122, nt := 5, params := [((.ro (.int .i64)), false)], res := [(.ro .bool)], slots := [.tmp 2], code := bd Try.f122, callee := fun r i => find 0 [(1001, 76)] (r * 1000 + i) }
/- impl.isLift -/
noncomputable def I125 : Inst := { f := 125, nt := 5, params := [((.ro (.int .i64)), false)], res := [(.ro .bool)], slots := [.tmp 2], code := bd Try.f125, callee := fun r i => find 0 [(1001, 76)] (r * 1000 + i) }
/- impl.ValidCam$1 -/
noncomputable def I124 : Inst := { f := 124, nt := 7, params := [((.ro (.int .i16)), false)], res := [(.ro .bool)], slots := [.tmp 2], code := bd Try.f124, callee := fun r i => find 0 [(1002, 125)] (r * 1000 + i) }
/- impl.Cam,int16] -/
noncomputable def I157 : Inst := { f := 157, nt := 19, params := [((.ro (.slc (.int .i16))), false), ((.clo 124 (.ro .unit) (.ro .unit)), false)], res := [(.ro (.int .i64))], slots := [.tmp 4], code := bd Try.f157, callee := fun r i => find 0 [(4005, 124)] (r * 1000 + i), loops := fun b => find [] [(0, [.own 0 (.ro (.slc (.int .i16))), .own 1 (.clo 124 (.ro .unit) (.ro .unit)), .own 7 (.ro (.int .i64)), .own 8 (.ro (.int .i64))])] b }
/- impl.Cam,int16] -/
noncomputable def I123 : Inst := { f := 123, nt := 9, params := [((.ro (.slc (.int .i16))), false), ((.clo 124 (.ro .unit) (.ro .unit)), false)], res := [(.ro .bool)], slots := [.tmp 4], code := bd Try.f123, callee := fun r i => find 0 [(1002, 157)] (r * 1000 + i) }
/- impl.ValidCam -/
noncomputable def I69 : Inst := { f := 69, nt := 11, params := [((.ro (.slc (.int .i16))), false)], res := [(.ro .bool)], slots := [.tmp 2], code := bd Try.f69, callee := fun r i => find 0 [(1001, 78), (1002, 122), (1005, 123)] (r * 1000 + i) }
/- impl.isPlace -/
noncomputable def I142 : Inst := { f := 142, nt := 9, params := [((.ro (.int .i64)), false), ((.ro (.int .i64)), false)], res := [(.ro .bool)], slots := [.tmp 4], code := bd Try.f142, callee := fun r i => find 0 [(1003, 76)] (r * 1000 + i) }
/- impl.ValidShafts$1 -/
noncomputable def I141 : Inst := { f := 141, nt := 31, params := [((.ro (.pair (.int .i16) (.pair (.int .i16) (.pair (.int .i16) (.pair (.slc (.int .i16)) .unit))))), false)], res := [(.ro .bool)], slots := [.tmp 2], code := bd Try.f141, callee := fun r i => find 0 [(1003, 76), (1009, 76), (1015, 69), (1025, 142)] (r * 1000 + i) }
/- impl.Shaft] -/
noncomputable def I165 : Inst := { f := 165, nt := 19, params := [((.ro (.slc (.pair (.int .i16) (.pair (.int .i16) (.pair (.int .i16) (.pair (.slc (.int .i16)) .unit)))))), false), ((.clo 141 (.ro .unit) (.ro .unit)), false)], res := [(.ro (.int .i64))], slots := [.tmp 4], code := bd Try.f165, callee := fun r i => find 0 [(4005, 141)] (r * 1000 + i), loops := fun b => find [] [(0, [.own 0 (.ro (.slc (.pair (.int .i16) (.pair (.int .i16) (.pair (.int .i16) (.pair (.slc (.int .i16)) .unit)))))), .own 1 (.clo 141 (.ro .unit) (.ro .unit)), .own 7 (.ro (.int .i64)), .own 8 (.ro (.int .i64))])] b }
/- impl.Shaft] -/
noncomputable def I140 : Inst := { f := 140, nt := 9, params := [((.ro (.slc (.pair (.int .i16) (.pair (.int .i16) (.pair (.int .i16) (.pair (.slc (.int .i16)) .unit)))))), false), ((.clo 141 (.ro .unit) (.ro .unit)), false)], res := [(.ro .bool)], slots := [.tmp 4], code := bd Try.f140, callee := fun r i => find 0 [(1002, 165)] (r * 1000 + i) }
/- impl.ValidShafts -/
noncomputable def I108 : Inst := { f := 108, nt := 11, params := [((.ro (.slc (.pair (.int .i16) (.pair (.int .i16) (.pair (.int .i16) (.pair (.slc (.int .i16)) .unit)))))), false)], res := [(.ro .bool)], slots := [.tmp 2], code := bd Try.f108, callee := fun r i => find 0 [(1002, 76), (1005, 140)] (r * 1000 + i) }
/- impl.codeIf -/
noncomputable def I107 : Inst := { f := 107, nt := 7, params := [((.ro .bool), false), ((.ro (.int .i64)), false)], res := [(.ro (.int .i64))], slots := [.tmp 4], code := bd Try.f107 }
/- impl.firstCode -/
noncomputable def I106 : Inst := { f := 106, nt := 15, params := [((.ro (.slc (.int .i64))), false)], res := [(.ro (.int .i64))], slots := [.tmp 2], code := bd Try.f106, loops := fun b => find [] [(0, [.own 5 (.ro (.slc (.int .i64))), .own 6 (.ro (.int .i64)), .own 7 (.ro (.int .i64))])] b }
/- impl.common -/
noncomputable def I144 : Inst := { f := 144, nt := 12, params := [((.ro (.int .i64)), false), ((.ro (.int .i64)), false)], res := [(.ro (.int .i64))], slots := [.tmp 4], code := bd Try.f144, loops := fun b => find [] [(0, [.own 0 (.ro (.int .i64)), .own 1 (.ro (.int .i64))])] b }
/- impl.Shaft).period -/
noncomputable def I143 : Inst := { f := 143, nt := 18, params := [((.ro (.pair (.int .i16) (.pair (.int .i16) (.pair (.int .i16) (.pair (.slc (.int .i16)) .unit))))), false)], res := [(.ro (.int .i64))], slots := [.tmp 2], code := bd Try.f143, callee := fun r i => find 0 [(1005, 78), (2005, 144)] (r * 1000 + i) }
/- impl.periodOf -/
noncomputable def I109 : Inst := { f := 109, nt := 27, params := [((.ro (.slc (.pair (.int .i16) (.pair (.int .i16) (.pair (.int .i16) (.pair (.slc (.int .i16)) .unit)))))), false)], res := [(.ro (.int .i64)), (.ro .bool)], slots := [.tmp 2, .tmp 3], code := bd Try.f109, callee := fun r i => find 0 [(5001, 143), (6003, 144)] (r * 1000 + i), loops := fun b => find [] [(0, [.own 4 (.ro (.int .i64)), .own 8 (.ro (.slc (.pair (.int .i16) (.pair (.int .i16) (.pair (.int .i16) (.pair (.slc (.int .i16)) .unit)))))), .own 9 (.ro (.int .i64)), .own 10 (.ro (.int .i64))])] b }
/- impl.shaftsCode -/
noncomputable def I53 : Inst := { f := 53, nt := 30, params := [((.ro (.slc (.pair (.int .i16) (.pair (.int .i16) (.pair (.int .i16) (.pair (.slc (.int .i16)) .unit)))))), false), ((.ro .bool), false)], res := [(.ro (.int .i64)), (.ro (.int .i64))], slots := [.tmp 4, .tmp 5], code := bd Try.f53, callee := fun r i => find 0 [(1001, 108), (1003, 107), (1006, 107), (1008, 106), (4001, 109), (5003, 107)] (r * 1000 + i), deep := fun r i => find false [(1007, true)] (r * 1000 + i) }
/- impl.Shaft).step -/
noncomputable def I166 : Inst := { f := 166, nt := 22, params := [((.ro (.pair (.int .i16) (.pair (.int .i16) (.pair (.int .i16) (.pair (.slc (.int .i16)) .unit))))), false), ((.ro (.int .i64)), false), ((.ro (.int .i64)), false)], res := [(.ro (.int .i64))], slots := [.tmp 6], code := bd Try.f166, callee := fun r i => find 0 [(1013, 78)] (r * 1000 + i) }
/- impl.Shaft).lift -/
noncomputable def I145 : Inst := { f := 145, nt := 16, params := [((.ro (.pair (.int .i16) (.pair (.int .i16) (.pair (.int .i16) (.pair (.slc (.int .i16)) .unit))))), false), ((.ro (.int .i64)), false), ((.ro (.int .i64)), false)], res := [(.ro (.int .i64))], slots := [.tmp 6], code := bd Try.f145, callee := fun r i => find 0 [(1005, 166)] (r * 1000 + i) }
/- impl.Shaft).now -/
noncomputable def I110 : Inst := { f := 110, nt := 11, params := [((.ro (.pair (.int .i16) (.pair (.int .i16) (.pair (.int .i16) (.pair (.slc (.int .i16)) .unit))))), false), ((.ro (.int .i64)), false)], res := [(.ro (.int .i64))], slots := [.tmp 4], code := bd Try.f110, callee := fun r i => find 0 [(1005, 145)] (r * 1000 + i) }
/- impl.liftsOn -/
noncomputable def I55 : Inst := { f := 55, nt := 23, params := [((.ro (.slc (.pair (.int .i16) (.pair (.int .i16) (.pair (.int .i16) (.pair (.slc (.int .i16)) .unit)))))), false), ((.ro (.int .i64)), false)], res := [(.ro (.slc (.int .i64)))], slots := [.tmp 4], code := bd Try.f55, strict := true, callee := fun r i => find 0 [(5003, 110)] (r * 1000 + i), loops := fun b => find [] [(0, [.own 1 (.ro (.int .i64)), .own 5 (.row false (.int .i64)), .own 9 (.ro (.slc (.pair (.int .i16) (.pair (.int .i16) (.pair (.int .i16) (.pair (.slc (.int .i16)) .unit)))))), .own 10 (.ro (.int .i64)), .own 11 (.ro (.int .i64))])] b }
/- impl.EventsOf -/
noncomputable def I10 : Inst := { f := 10, nt := 64, params := [((.ro (.slc (.pair (.int .i16) (.pair (.int .i16) (.pair (.int .i16) (.pair (.slc (.int .i16)) .unit)))))), false), ((.ro (.int .i64)), false)], res := [(.row false (.pair (.int .i64) (.pair (.int .i64) .unit))), (.ro (.int .i64))], slots := [.tmp 4, .tmp 5], code := bd Try.f10, callee := fun r i => find 0 [(1002, 54), (1003, 53), (4004, 55), (8002, 55)] (r * 1000 + i), loops := fun b => find [] [(2, [.own 0 (.ro (.slc (.pair (.int .i16) (.pair (.int .i16) (.pair (.int .i16) (.pair (.slc (.int .i16)) .unit)))))), .own 1 (.ro (.int .i64)), .own 8 (.row false (.pair (.int .i64) (.pair (.int .i64) .unit))), .own 9 (.ro (.slc (.int .i64))), .own 10 (.ro (.int .i64)), .own 11 (.ro (.slc (.int .i64))), .own 29 (.ro (.int .i64)), .own 30 (.ro (.int .i64)), .own 36 (.ro (.slc (.int .i64))), .own 37 (.ro (.int .i64)), .own 38 (.ro (.int .i64))]), (0, [.own 0 (.ro (.slc (.pair (.int .i16) (.pair (.int .i16) (.pair (.int .i16) (.pair (.slc (.int .i16)) .unit)))))), .own 1 (.ro (.int .i64)), .own 8 (.row false (.pair (.int .i64) (.pair (.int .i64) .unit))), .own 9 (.ro (.slc (.int .i64))), .own 29 (.ro (.int .i64)), .own 30 (.ro (.int .i64))])] b, deep := fun r i => find false [(4000, true), (13004, true), (13005, true)] (r * 1000 + i) }
/- laws.eqEvent -/
noncomputable def I56 : Inst := { f := 56, nt := 15, params := [((.ro (.pair (.int .i64) (.pair (.int .i64) .unit))), false), ((.ro (.pair (.int .i64) (.pair (.int .i64) .unit))), false)], res := [(.ro .bool)], slots := [.tmp 4], code := bd Try.f56 }
/- laws.eqEventS -/
noncomputable def I11 : Inst := { f := 11, nt := 27, params := [((.ro (.slc (.pair (.int .i64) (.pair (.int .i64) .unit)))), false), ((.ro (.slc (.pair (.int .i64) (.pair (.int .i64) .unit)))), false)], res := [(.ro .bool)], slots := [.tmp 4], code := bd Try.f11, callee := fun r i => find 0 [(6008, 56)] (r * 1000 + i), loops := fun b => find [] [(0, [.own 0 (.ro (.slc (.pair (.int .i64) (.pair (.int .i64) .unit)))), .own 1 (.ro (.slc (.pair (.int .i64) (.pair (.int .i64) .unit)))), .own 5 (.ro (.int .i64))])] b }
/- laws.eqCam -/
noncomputable def I23 : Inst := { f := 23, nt := 26, params := [((.ro (.slc (.int .i16))), false), ((.ro (.slc (.int .i16))), false)], res := [(.ro .bool)], slots := [.tmp 4], code := bd Try.f23, loops := fun b => find [] [(0, [.own 0 (.ro (.slc (.int .i16))), .own 1 (.ro (.slc (.int .i16))), .own 5 (.ro (.int .i64))])] b }
/- laws.eqShaft -/
noncomputable def I57 : Inst := { f := 57, nt := 26, params := [((.ro (.pair (.int .i16) (.pair (.int .i16) (.pair (.int .i16) (.pair (.slc (.int .i16)) .unit))))), false), ((.ro (.pair (.int .i16) (.pair (.int .i16) (.pair (.int .i16) (.pair (.slc (.int .i16)) .unit))))), false)], res := [(.ro .bool)], slots := [.tmp 4], code := bd Try.f57, callee := fun r i => find 0 [(7004, 23)] (r * 1000 + i) }
/- laws.eqShaftS -/
noncomputable def I12 : Inst := { f := 12, nt := 27, params := [((.ro (.slc (.pair (.int .i16) (.pair (.int .i16) (.pair (.int .i16) (.pair (.slc (.int .i16)) .unit)))))), false), ((.ro (.slc (.pair (.int .i16) (.pair (.int .i16) (.pair (.int .i16) (.pair (.slc (.int .i16)) .unit)))))), false)], res := [(.ro .bool)], slots := [.tmp 4], code := bd Try.f12, callee := fun r i => find 0 [(6008, 57)] (r * 1000 + i), loops := fun b => find [] [(0, [.own 0 (.ro (.slc (.pair (.int .i16) (.pair (.int .i16) (.pair (.int .i16) (.pair (.slc (.int .i16)) .unit)))))), .own 1 (.ro (.slc (.pair (.int .i16) (.pair (.int .i16) (.pair (.int .i16) (.pair (.slc (.int .i16)) .unit)))))), .own 5 (.ro (.int .i64))])] b }
/- laws.markCam -/
noncomputable def I46 : Inst := { f := 46, nt := 20, params := [((.row false (.int .i16)), true), ((.ro (.int .i64)), false)], res := [(.ro (.int .i64))], slots := [.tmp 4], code := bd Try.f46, loops := fun b => find [] [(0, [.own 0 (.row false (.int .i16)), .own 1 (.ro (.int .i64)), .own 5 (.ro (.int .i64))])] b, pins := [0] }
/- laws.markShaftS -/
noncomputable def I13 : Inst := { f := 13, nt := 44, params := [((.row true (.pair (.int .i16) (.pair (.int .i16) (.pair (.int .i16) (.pair (.slc (.int .i16)) .unit))))), true), ((.ro (.int .i64)), false)], res := [(.ro (.int .i64))], slots := [.tmp 4], code := bd Try.f13, callee := fun r i => find 0 [(10006, 46)] (r * 1000 + i), loops := fun b => find [] [(0, [.own 0 (.row true (.pair (.int .i16) (.pair (.int .i16) (.pair (.int .i16) (.pair (.slc (.int .i16)) .unit))))), .own 1 (.ro (.int .i64)), .own 5 (.ro (.int .i64))])] b, pins := [0], deep := fun r i => find false [(10004, true)] (r * 1000 + i) }
/- laws.markEventS -/
noncomputable def I14 : Inst := { f := 14, nt := 27, params := [((.row false (.pair (.int .i64) (.pair (.int .i64) .unit))), true), ((.ro (.int .i64)), false)], res := [(.ro (.int .i64))], slots := [.tmp 4], code := bd Try.f14, loops := fun b => find [] [(0, [.own 0 (.row false (.pair (.int .i64) (.pair (.int .i64) .unit))), .own 1 (.ro (.int .i64)), .own 5 (.ro (.int .i64))])] b, pins := [0] }
/- laws.heldEventS -/
noncomputable def I15 : Inst := { f := 15, nt := 31, params := [((.ro (.slc (.pair (.int .i64) (.pair (.int .i64) .unit)))), false), ((.ro (.int .i64)), false)], res := [(.ro (.int .i64))], slots := [.tmp 4], code := bd Try.f15, loops := fun b => find [] [(0, [.own 0 (.ro (.slc (.pair (.int .i64) (.pair (.int .i64) .unit)))), .own 1 (.ro (.int .i64)), .own 5 (.ro (.int .i64))])] b }
/- laws.FnExactEventsOf -/
noncomputable def I3 : Inst := { f := 3, nt := 101, params := [((.ro (.slc (.pair (.int .i16) (.pair (.int .i16) (.pair (.int .i16) (.pair (.slc (.int .i16)) .unit)))))), false), ((.ro (.int .i64)), false)], res := [(.ro .bool)], slots := [.tmp 4], code := bd Try.f3, callee := fun r i => find 0 [(2002, 7), (5001, 9), (5003, 8), (6001, 9), (7002, 10), (8002, 11), (10002, 9), (10003, 12), (13002, 13), (14005, 11), (17002, 14), (19002, 15), (24001, 9), (24003, 10), (25002, 11), (28002, 15)] (r * 1000 + i) }
noncomputable def C : Nat → Inst := find I101 [(101, I101), (49, I49), (7, I7), (19, I19), (52, I52), (9, I9), (83, I83), (126, I126), (127, I127), (73, I73), (102, I102), (103, I103), (139, I139), (138, I138), (104, I104), (50, I50), (105, I105), (51, I51), (8, I8), (76, I76), (54, I54), (78, I78), (122, I122), (125, I125), (124, I124), (157, I157), (123, I123), (69, I69), (142, I142), (141, I141), (165, I165), (140, I140), (108, I108), (107, I107), (106, I106), (144, I144), (143, I143), (109, I109), (53, I53), (166, I166), (145, I145), (110, I110), (55, I55), (10, I10), (56, I56), (11, I11), (23, I23), (57, I57), (12, I12), (46, I46), (13, I13), (14, I14), (15, I15), (3, I3)]
theorem tsOk : TsOk Try.prog T := tsOkB_sound (by kernel_rfl)
theorem ok101 : InstOk Try.prog I101 := instOk_of Try.func101 (by kernel_rfl) (by kernel_rfl) (by kernel_rfl) (by kernel_rfl)
theorem ok49 : InstOk Try.prog I49 := instOk_of Try.func49 (by kernel_rfl) (by kernel_rfl) (by kernel_rfl) (by kernel_rfl)
theorem ok7 : InstOk Try.prog I7 := instOk_of Try.func7 (by kernel_rfl) (by kernel_rfl) (by kernel_rfl) (by kernel_rfl)
theorem ok19 : InstOk Try.prog I19 := instOk_of Try.func19 (by kernel_rfl) (by kernel_rfl) (by kernel_rfl) (by kernel_rfl)
theorem ok52 : InstOk Try.prog I52 := instOk_of Try.func52 (by kernel_rfl) (by kernel_rfl) (by kernel_rfl) (by kernel_rfl)
theorem ok9 : InstOk Try.prog I9 := instOk_of Try.func9 (by kernel_rfl) (by kernel_rfl) (by kernel_rfl) (by kernel_rfl)
theorem ok83 : InstOk Try.prog I83 := instOk_of Try.func83 (by kernel_rfl) (by kernel_rfl) (by kernel_rfl) (by kernel_rfl)
theorem ok126 : InstOk Try.prog I126 := instOk_of Try.func126 (by kernel_rfl) (by kernel_rfl) (by kernel_rfl) (by kernel_rfl)
theorem ok127 : InstOk Try.prog I127 := instOk_of Try.func127 (by kernel_rfl) (by kernel_rfl) (by kernel_rfl) (by kernel_rfl)
theorem ok73 : InstOk Try.prog I73 := instOk_of Try.func73 (by kernel_rfl) (by kernel_rfl) (by kernel_rfl) (by kernel_rfl)
theorem ok102 : InstOk Try.prog I102 := instOk_of Try.func102 (by kernel_rfl) (by kernel_rfl) (by kernel_rfl) (by kernel_rfl)
theorem ok103 : InstOk Try.prog I103 := instOk_of Try.func103 (by kernel_rfl) (by kernel_rfl) (by kernel_rfl) (by kernel_rfl)
theorem ok139 : InstOk Try.prog I139 := instOk_of Try.func139 (by kernel_rfl) (by kernel_rfl) (by kernel_rfl) (by kernel_rfl)
theorem ok138 : InstOk Try.prog I138 := instOk_of Try.func138 (by kernel_rfl) (by kernel_rfl) (by kernel_rfl) (by kernel_rfl)
theorem ok104 : InstOk Try.prog I104 := instOk_of Try.func104 (by kernel_rfl) (by kernel_rfl) (by kernel_rfl) (by kernel_rfl)
theorem ok50 : InstOk Try.prog I50 := instOk_of Try.func50 (by kernel_rfl) (by kernel_rfl) (by kernel_rfl) (by kernel_rfl)
theorem ok105 : InstOk Try.prog I105 := instOk_of Try.func105 (by kernel_rfl) (by kernel_rfl) (by kernel_rfl) (by kernel_rfl)
theorem ok51 : InstOk Try.prog I51 := instOk_of Try.func51 (by kernel_rfl) (by kernel_rfl) (by kernel_rfl) (by kernel_rfl)
theorem ok8 : InstOk Try.prog I8 := instOk_of Try.func8 (by kernel_rfl) (by kernel_rfl) (by kernel_rfl) (by kernel_rfl)
theorem ok76 : InstOk Try.prog I76 := instOk_of Try.func76 (by kernel_rfl) (by kernel_rfl) (by kernel_rfl) (by kernel_rfl)
theorem ok54 : InstOk Try.prog I54 := instOk_of Try.func54 (by kernel_rfl) (by kernel_rfl) (by kernel_rfl) (by kernel_rfl)
theorem ok78 : InstOk Try.prog I78 := instOk_of Try.func78 (by kernel_rfl) (by kernel_rfl) (by kernel_rfl) (by kernel_rfl)
theorem ok122 : InstOk Try.prog I122 := instOk_of Try.func122 (by kernel_rfl) (by kernel_rfl) (by kernel_rfl) (by kernel_rfl)
theorem ok125 : InstOk Try.prog I125 := instOk_of Try.func125 (by kernel_rfl) (by kernel_rfl) (by kernel_rfl) (by kernel_rfl)
theorem ok124 : InstOk Try.prog I124 := instOk_of Try.func124 (by kernel_rfl) (by kernel_rfl) (by kernel_rfl) (by kernel_rfl)
theorem ok157 : InstOk Try.prog I157 := instOk_of Try.func157 (by kernel_rfl) (by kernel_rfl) (by kernel_rfl) (by kernel_rfl)
theorem ok123 : InstOk Try.prog I123 := instOk_of Try.func123 (by kernel_rfl) (by kernel_rfl) (by kernel_rfl) (by kernel_rfl)
theorem ok69 : InstOk Try.prog I69 := instOk_of Try.func69 (by kernel_rfl) (by kernel_rfl) (by kernel_rfl) (by kernel_rfl)
theorem ok142 : InstOk Try.prog I142 := instOk_of Try.func142 (by kernel_rfl) (by kernel_rfl) (by kernel_rfl) (by kernel_rfl)
theorem ok141 : InstOk Try.prog I141 := instOk_of Try.func141 (by kernel_rfl) (by kernel_rfl) (by kernel_rfl) (by kernel_rfl)
theorem ok165 : InstOk Try.prog I165 := instOk_of Try.func165 (by kernel_rfl) (by kernel_rfl) (by kernel_rfl) (by kernel_rfl)
theorem ok140 : InstOk Try.prog I140 := instOk_of Try.func140 (by kernel_rfl) (by kernel_rfl) (by kernel_rfl) (by kernel_rfl)
theorem ok108 : InstOk Try.prog I108 := instOk_of Try.func108 (by kernel_rfl) (by kernel_rfl) (by kernel_rfl) (by kernel_rfl)
theorem ok107 : InstOk Try.prog I107 := instOk_of Try.func107 (by kernel_rfl) (by kernel_rfl) (by kernel_rfl) (by kernel_rfl)
theorem ok106 : InstOk Try.prog I106 := instOk_of Try.func106 (by kernel_rfl) (by kernel_rfl) (by kernel_rfl) (by kernel_rfl)
theorem ok144 : InstOk Try.prog I144 := instOk_of Try.func144 (by kernel_rfl) (by kernel_rfl) (by kernel_rfl) (by kernel_rfl)
theorem ok143 : InstOk Try.prog I143 := instOk_of Try.func143 (by kernel_rfl) (by kernel_rfl) (by kernel_rfl) (by kernel_rfl)
theorem ok109 : InstOk Try.prog I109 := instOk_of Try.func109 (by kernel_rfl) (by kernel_rfl) (by kernel_rfl) (by kernel_rfl)
theorem ok53 : InstOk Try.prog I53 := instOk_of Try.func53 (by kernel_rfl) (by kernel_rfl) (by kernel_rfl) (by kernel_rfl)
theorem ok166 : InstOk Try.prog I166 := instOk_of Try.func166 (by kernel_rfl) (by kernel_rfl) (by kernel_rfl) (by kernel_rfl)
theorem ok145 : InstOk Try.prog I145 := instOk_of Try.func145 (by kernel_rfl) (by kernel_rfl) (by kernel_rfl) (by kernel_rfl)
theorem ok110 : InstOk Try.prog I110 := instOk_of Try.func110 (by kernel_rfl) (by kernel_rfl) (by kernel_rfl) (by kernel_rfl)
theorem ok55 : InstOk Try.prog I55 := instOk_of Try.func55 (by kernel_rfl) (by kernel_rfl) (by kernel_rfl) (by kernel_rfl)
theorem ok10 : InstOk Try.prog I10 := instOk_of Try.func10 (by kernel_rfl) (by kernel_rfl) (by kernel_rfl) (by kernel_rfl)
theorem ok56 : InstOk Try.prog I56 := instOk_of Try.func56 (by kernel_rfl) (by kernel_rfl) (by kernel_rfl) (by kernel_rfl)
theorem ok11 : InstOk Try.prog I11 := instOk_of Try.func11 (by kernel_rfl) (by kernel_rfl) (by kernel_rfl) (by kernel_rfl)
theorem ok23 : InstOk Try.prog I23 := instOk_of Try.func23 (by kernel_rfl) (by kernel_rfl) (by kernel_rfl) (by kernel_rfl)
theorem ok57 : InstOk Try.prog I57 := instOk_of Try.func57 (by kernel_rfl) (by kernel_rfl) (by kernel_rfl) (by kernel_rfl)
theorem ok12 : InstOk Try.prog I12 := instOk_of Try.func12 (by kernel_rfl) (by kernel_rfl) (by kernel_rfl) (by kernel_rfl)
theorem ok46 : InstOk Try.prog I46 := instOk_of Try.func46 (by kernel_rfl) (by kernel_rfl) (by kernel_rfl) (by kernel_rfl)
theorem ok13 : InstOk Try.prog I13 := instOk_of Try.func13 (by kernel_rfl) (by kernel_rfl) (by kernel_rfl) (by kernel_rfl)
theorem ok14 : InstOk Try.prog I14 := instOk_of Try.func14 (by kernel_rfl) (by kernel_rfl) (by kernel_rfl) (by kernel_rfl)
theorem ok15 : InstOk Try.prog I15 := instOk_of Try.func15 (by kernel_rfl) (by kernel_rfl) (by kernel_rfl) (by kernel_rfl)
theorem ok3 : InstOk Try.prog I3 := instOk_of Try.func3 (by kernel_rfl) (by kernel_rfl) (by kernel_rfl) (by kernel_rfl)
theorem insts : ∀ j, InstOk Try.prog (C j) := find_all ok101 (List.forall_mem_cons.2 ⟨ok101, List.forall_mem_cons.2 ⟨ok49, List.forall_mem_cons.2 ⟨ok7, List.forall_mem_cons.2 ⟨ok19, List.forall_mem_cons.2 ⟨ok52, List.forall_mem_cons.2 ⟨ok9, List.forall_mem_cons.2 ⟨ok83, List.forall_mem_cons.2 ⟨ok126, List.forall_mem_cons.2 ⟨ok127, List.forall_mem_cons.2 ⟨ok73, List.forall_mem_cons.2 ⟨ok102, List.forall_mem_cons.2 ⟨ok103, List.forall_mem_cons.2 ⟨ok139, List.forall_mem_cons.2 ⟨ok138, List.forall_mem_cons.2 ⟨ok104, List.forall_mem_cons.2 ⟨ok50, List.forall_mem_cons.2 ⟨ok105, List.forall_mem_cons.2 ⟨ok51, List.forall_mem_cons.2 ⟨ok8, List.forall_mem_cons.2 ⟨ok76, List.forall_mem_cons.2 ⟨ok54, List.forall_mem_cons.2 ⟨ok78, List.forall_mem_cons.2 ⟨ok122, List.forall_mem_cons.2 ⟨ok125, List.forall_mem_cons.2 ⟨ok124, List.forall_mem_cons.2 ⟨ok157, List.forall_mem_cons.2 ⟨ok123, List.forall_mem_cons.2 ⟨ok69, List.forall_mem_cons.2 ⟨ok142, List.forall_mem_cons.2 ⟨ok141, List.forall_mem_cons.2 ⟨ok165, List.forall_mem_cons.2 ⟨ok140, List.forall_mem_cons.2 ⟨ok108, List.forall_mem_cons.2 ⟨ok107, List.forall_mem_cons.2 ⟨ok106, List.forall_mem_cons.2 ⟨ok144, List.forall_mem_cons.2 ⟨ok143, List.forall_mem_cons.2 ⟨ok109, List.forall_mem_cons.2 ⟨ok53, List.forall_mem_cons.2 ⟨ok166, List.forall_mem_cons.2 ⟨ok145, List.forall_mem_cons.2 ⟨ok110, List.forall_mem_cons.2 ⟨ok55, List.forall_mem_cons.2 ⟨ok10, List.forall_mem_cons.2 ⟨ok56, List.forall_mem_cons.2 ⟨ok11, List.forall_mem_cons.2 ⟨ok23, List.forall_mem_cons.2 ⟨ok57, List.forall_mem_cons.2 ⟨ok12, List.forall_mem_cons.2 ⟨ok46, List.forall_mem_cons.2 ⟨ok13, List.forall_mem_cons.2 ⟨ok14, List.forall_mem_cons.2 ⟨ok15, List.forall_mem_cons.2 ⟨ok3, fun _ h => absurd h List.not_mem_nil⟩⟩⟩⟩⟩⟩⟩⟩⟩⟩⟩⟩⟩⟩⟩⟩⟩⟩⟩⟩⟩⟩⟩⟩⟩⟩⟩⟩⟩⟩⟩⟩⟩⟩⟩⟩⟩⟩⟩⟩⟩⟩⟩⟩⟩⟩⟩⟩⟩⟩⟩⟩⟩⟩)
end Go.Proofs.Ytdgmghmbokkhlaa.LEventsOf
