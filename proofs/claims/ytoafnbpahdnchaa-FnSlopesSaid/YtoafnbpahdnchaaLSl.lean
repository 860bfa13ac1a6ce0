/- The types and the functions that a law reaches, told for the reading (Fw). Written by a program (gen.py). -/
import Derived.Test.YtoafnbpahdnchaaFwC
import Derived.Test.YtoafnbpahdnchaaProg
namespace Go.Proofs.Ytoafnbpahdnchaa.LSl
open Go Go.Fw
open Go.Proofs
noncomputable def tyL : List (Nat × TI) := [(2, ⟨(.int .i64), 0, 8⟩),
  (3, ⟨(.int .i64), 0, 8⟩),
  (4, ⟨.bool, 0, 1⟩),
  (5, ⟨(.int .u8), 0, 1⟩),
  (27, ⟨(.slc (.int .i16)), 57, 24⟩),
  (45, ⟨(.slc (.int .u8)), 5, 24⟩),
  (52, ⟨(.slc (.int .i64)), 2, 24⟩),
  (57, ⟨(.int .i16), 0, 2⟩),
  (67, ⟨(.pair (.int .i64) (.pair (.int .i64) .unit)), 0, 16⟩),
  (70, ⟨(.pair (.int .i64) (.pair (.int .i64) .unit)), 0, 16⟩),
  (112, ⟨(.ptr (.pair (.slc (.int .u8)) (.pair (.int .i64) (.pair (.int .u64) .unit)))), 0, 8⟩),
  (122, ⟨.fn, 0, 8⟩),
  (156, ⟨(.int .u64), 0, 8⟩),
  (158, ⟨(.pair (.slc (.int .u8)) (.pair (.int .i64) (.pair (.int .u64) .unit))), 0, 40⟩),
  (170, ⟨(.slc (.pair (.int .i64) (.pair (.int .i64) .unit))), 175, 24⟩),
  (172, ⟨(.slc (.pair (.int .i64) (.pair (.int .i64) (.pair .bool .unit)))), 185, 24⟩),
  (175, ⟨(.pair (.int .i64) (.pair (.int .i64) .unit)), 0, 16⟩),
  (185, ⟨(.pair (.int .i64) (.pair (.int .i64) (.pair .bool .unit))), 0, 24⟩)]
noncomputable def T : Nat → Option TI := findT tyL
/- laws.f6big -/
noncomputable def I40 : Inst := { f := 40, nt := 6, params := [((.ro (.slc (.int .u8))), false)], res := [(.ro .bool)], slots := [.tmp 2], code := bd Try.f40 }
/- spec.l00From -/
noncomputable def I81 : Inst := { f := 81, nt := 6, params := [((.ro (.slc (.int .u8))), false)], res := [(.box (.ro (.pair (.slc (.int .u8)) (.pair (.int .i64) (.pair (.int .u64) .unit)))))], slots := [.tmp 2], code := bd Try.f81, strict := true }
/- spec.l00Src).next -/
noncomputable def I154 : Inst := { f := 154, nt := 62, params := [((.box (.ro (.pair (.slc (.int .u8)) (.pair (.int .i64) (.pair (.int .u64) .unit))))), true)], res := [(.ro (.int .i64))], slots := [.tmp 2], code := bd Try.f154, strict := true, pins := [0] }
/- spec.l00Src).pick -/
noncomputable def I101 : Inst := { f := 101, nt := 20, params := [((.box (.ro (.pair (.slc (.int .u8)) (.pair (.int .i64) (.pair (.int .u64) .unit))))), true), ((.ro (.int .i64)), false)], res := [(.ro (.int .i64))], slots := [.tmp 4], code := bd Try.f101, strict := true, callee := fun r i => find 0 [(3001, 154), (5003, 154)] (r * 1000 + i), pins := [0] }
/- spec.l00Src).among -/
noncomputable def I152 : Inst := { f := 152, nt := 12, params := [((.box (.ro (.pair (.slc (.int .u8)) (.pair (.int .i64) (.pair (.int .u64) .unit))))), true), ((.ro (.slc (.int .i64))), false)], res := [(.ro (.int .i64))], slots := [.tmp 4], code := bd Try.f152, strict := true, callee := fun r i => find 0 [(1004, 101)] (r * 1000 + i), pins := [0] }
/- spec.l00Min -/
noncomputable def I153 : Inst := { f := 153, nt := 10, params := [((.ro (.int .i64)), false), ((.ro (.int .i64)), false)], res := [(.ro (.int .i64))], slots := [.tmp 4], code := bd Try.f153 }
/- spec.l00Max -/
noncomputable def I117 : Inst := { f := 117, nt := 10, params := [((.ro (.int .i64)), false), ((.ro (.int .i64)), false)], res := [(.ro (.int .i64))], slots := [.tmp 4], code := bd Try.f117 }
/- spec.l00Src).one -/
noncomputable def I142 : Inst := { f := 142, nt := 9, params := [((.box (.ro (.pair (.slc (.int .u8)) (.pair (.int .i64) (.pair (.int .u64) .unit))))), true), ((.ro (.int .i64)), false)], res := [(.ro .bool)], slots := [.tmp 4], code := bd Try.f142, strict := true, callee := fun r i => find 0 [(1002, 101)] (r * 1000 + i), pins := [0] }
/- spec.l01Drawn -/
noncomputable def I100 : Inst := { f := 100, nt := 60, params := [((.box (.ro (.pair (.slc (.int .u8)) (.pair (.int .i64) (.pair (.int .u64) .unit))))), true)], res := [(.ro (.slc (.int .i16)))], slots := [.tmp 2], code := bd Try.f100, strict := true, callee := fun r i => find 0 [(1002, 152), (3001, 101), (5001, 101), (6001, 101), (9003, 153), (9004, 117), (11001, 142)] (r * 1000 + i), loops := fun b => find [] [(2, [.own 0 (.box (.ro (.pair (.slc (.int .u8)) (.pair (.int .i64) (.pair (.int .u64) .unit))))), .own 3 (.ro (.int .i64)), .own 4 (.row false (.int .i16)), .own 5 (.ro (.int .i64)), .own 6 (.ro (.int .i64)), .own 7 (.ro (.int .i64))]), (0, [.own 0 (.box (.ro (.pair (.slc (.int .u8)) (.pair (.int .i64) (.pair (.int .u64) .unit))))), .own 3 (.ro (.int .i64)), .own 4 (.row false (.int .i16)), .own 5 (.ro (.int .i64))])] b, pins := [0], deep := fun r i => find false [(1001, true), (2000, true), (10003, true), (10004, true), (14000, true), (14002, true), (14004, true)] (r * 1000 + i), frz := fun r i => find false [(1001, true)] (r * 1000 + i), ice := fun r i => find [] [(12003, [47, 4, 15])] (r * 1000 + i) }
/- spec.P6Cam -/
noncomputable def I41 : Inst := { f := 41, nt := 6, params := [((.ro (.slc (.int .u8))), false)], res := [(.ro (.slc (.int .i16)))], slots := [.tmp 2], code := bd Try.f41, strict := true, callee := fun r i => find 0 [(1001, 81), (1002, 100)] (r * 1000 + i) }
/- spec.P6Follower -/
noncomputable def I42 : Inst := { f := 42, nt := 13, params := [((.ro (.slc (.int .u8))), false)], res := [(.ro (.pair (.int .i64) (.pair (.int .i64) .unit)))], slots := [.cell 2 67], code := bd Try.f42, callee := fun r i => find 0 [(1001, 81), (2001, 101), (2004, 101)] (r * 1000 + i) }
/- impl.Cam).steps -/
noncomputable def I77 : Inst := { f := 77, nt := 5, params := [((.ro (.slc (.int .i16))), false)], res := [(.ro (.int .i64))], slots := [.tmp 2], code := bd Try.f77 }
/- impl.inRange -/
noncomputable def I133 : Inst := { f := 133, nt := 15, params := [((.ro (.int .i64)), false), ((.ro (.int .i64)), false), ((.ro (.int .i64)), false)], res := [(.ro .bool)], slots := [.tmp 6], code := bd Try.f133 }
/- impl.isSteps -/
noncomputable def I91 : Inst := { f := 91, nt := 5, params := [((.ro (.int .i64)), false)], res := [(.ro .bool)], slots := [.tmp 2], code := bd Try.f91, callee := fun r i => find 0 [(1001, 133)] (r * 1000 + i) }
/- impl.isLift -/
noncomputable def I73 : Inst := { f := 73, nt := 5, params := [((.ro (.int .i64)), false)], res := [(.ro .bool)], slots := [.tmp 2], code := bd Try.f73, callee := fun r i => find 0 [(1001, 133)] (r * 1000 + i) }
/- impl.ValidCam$1 -/
noncomputable def I93 : Inst := { f := 93, nt := 7, params := [((.ro (.int .i16)), false)], res := [(.ro .bool)], slots := [.tmp 2], code := bd Try.f93, callee := fun r i => find 0 [(1002, 73)] (r * 1000 + i) }
/- impl.Cam,int16] -/
noncomputable def I148 : Inst := { f := 148, nt := 19, params := [((.ro (.slc (.int .i16))), false), ((.clo 93 (.ro .unit) (.ro .unit)), false)], res := [(.ro (.int .i64))], slots := [.tmp 4], code := bd Try.f148, callee := fun r i => find 0 [(4005, 93)] (r * 1000 + i), loops := fun b => find [] [(0, [.own 0 (.ro (.slc (.int .i16))), .own 1 (.clo 93 (.ro .unit) (.ro .unit)), .own 7 (.ro (.int .i64)), .own 8 (.ro (.int .i64))])] b }
/- impl.Cam,int16] -/
noncomputable def I92 : Inst := { f := 92, nt := 9, params := [((.ro (.slc (.int .i16))), false), ((.clo 93 (.ro .unit) (.ro .unit)), false)], res := [(.ro .bool)], slots := [.tmp 4], code := bd Try.f92, callee := fun r i => find 0 [(1002, 148)] (r * 1000 + i) }
/- impl.ValidCam -/
noncomputable def I35 : Inst := { f := 35, nt := 11, params := [((.ro (.slc (.int .i16))), false)], res := [(.ro .bool)], slots := [.tmp 2], code := bd Try.f35, callee := fun r i => find 0 [(1001, 77), (1002, 91), (1005, 92)] (r * 1000 + i) }
/- impl.isSpring -/
noncomputable def I177 : Inst := { f := 177, nt := 5, params := [((.ro (.int .i64)), false)], res := [(.ro .bool)], slots := [.tmp 2], code := bd Try.f177, callee := fun r i => find 0 [(1001, 133)] (r * 1000 + i) }
/- impl.ValidFollower -/
noncomputable def I155 : Inst := { f := 155, nt := 11, params := [((.ro (.pair (.int .i64) (.pair (.int .i64) .unit))), false)], res := [(.ro .bool)], slots := [.tmp 2], code := bd Try.f155, callee := fun r i => find 0 [(1002, 133), (1006, 177)] (r * 1000 + i) }
/- impl.camCode -/
noncomputable def I102 : Inst := { f := 102, nt := 13, params := [((.ro (.slc (.int .i16))), false), ((.ro (.pair (.int .i64) (.pair (.int .i64) .unit))), false)], res := [(.ro (.int .i64))], slots := [.tmp 4], code := bd Try.f102, callee := fun r i => find 0 [(1001, 35), (1005, 155)] (r * 1000 + i) }
/- impl.floorDiv -/
noncomputable def I109 : Inst := { f := 109, nt := 16, params := [((.ro (.int .i64)), false), ((.ro (.int .i64)), false)], res := [(.ro (.int .i64))], slots := [.tmp 4], code := bd Try.f109 }
/- impl.mod -/
noncomputable def I141 : Inst := { f := 141, nt := 12, params := [((.ro (.int .i64)), false), ((.ro (.int .i64)), false)], res := [(.ro (.int .i64))], slots := [.tmp 4], code := bd Try.f141, callee := fun r i => find 0 [(1004, 109)] (r * 1000 + i) }
/- impl.Cam).at -/
noncomputable def I112 : Inst := { f := 112, nt := 13, params := [((.ro (.slc (.int .i16))), false), ((.ro (.int .i64)), false)], res := [(.ro (.int .i64))], slots := [.tmp 4], code := bd Try.f112, callee := fun r i => find 0 [(1003, 77), (1004, 141)] (r * 1000 + i) }
/- impl.Cam).change -/
noncomputable def I111 : Inst := { f := 111, nt := 13, params := [((.ro (.slc (.int .i16))), false), ((.ro (.int .i64)), false)], res := [(.ro (.int .i64))], slots := [.tmp 4], code := bd Try.f111, callee := fun r i => find 0 [(1003, 112), (1006, 112)] (r * 1000 + i) }
/- impl.abs -/
noncomputable def I110 : Inst := { f := 110, nt := 7, params := [((.ro (.int .i64)), false)], res := [(.ro (.int .i64))], slots := [.tmp 2], code := bd Try.f110 }
/- impl.common -/
noncomputable def I156 : Inst := { f := 156, nt := 12, params := [((.ro (.int .i64)), false), ((.ro (.int .i64)), false)], res := [(.ro (.int .i64))], slots := [.tmp 4], code := bd Try.f156, loops := fun b => find [] [(0, [.own 0 (.ro (.int .i64)), .own 1 (.ro (.int .i64))])] b }
/- impl.Cam).slope -/
noncomputable def I103 : Inst := { f := 103, nt := 35, params := [((.ro (.slc (.int .i16))), false), ((.ro (.pair (.int .i64) (.pair (.int .i64) .unit))), false), ((.ro (.int .i64)), false)], res := [(.ro (.pair (.int .i64) (.pair (.int .i64) .unit)))], slots := [.cell 6 70], code := bd Try.f103, callee := fun r i => find 0 [(1002, 111), (1004, 77), (1011, 112), (2001, 110), (2003, 156)] (r * 1000 + i) }
/- impl.compareSlopes -/
noncomputable def I104 : Inst := { f := 104, nt := 27, params := [((.ro (.pair (.int .i64) (.pair (.int .i64) .unit))), false), ((.ro (.pair (.int .i64) (.pair (.int .i64) .unit))), false)], res := [(.ro (.int .i64))], slots := [.tmp 4], code := bd Try.f104, callee := fun r i => find 0 [(1002, 110), (1008, 110)] (r * 1000 + i) }
/- impl.SteepestSlope -/
noncomputable def I43 : Inst := { f := 43, nt := 37, params := [((.ro (.slc (.int .i16))), false), ((.ro (.pair (.int .i64) (.pair (.int .i64) .unit))), false)], res := [(.ro (.int .i64)), (.ro (.pair (.int .i64) (.pair (.int .i64) .unit))), (.ro (.int .i64))], slots := [.tmp 4, .cell 5 70, .tmp 6], code := bd Try.f43, callee := fun r i => find 0 [(1002, 102), (3002, 103), (4001, 77), (7003, 103), (8002, 104)] (r * 1000 + i), loops := fun b => find [] [(0, [.own 0 (.ro (.slc (.int .i16))), .own 3 (.box (.ro (.pair (.int .i64) (.pair (.int .i64) .unit)))), .own 5 (.box (.ro (.pair (.int .i64) (.pair (.int .i64) .unit)))), .own 7 (.ro (.int .i64)), .own 8 (.box (.ro (.pair (.int .i64) (.pair (.int .i64) .unit)))), .own 20 (.ro (.int .i64)), .own 21 (.ro (.int .i64))])] b }
/- spec.l00In -/
noncomputable def I129 : Inst := { f := 129, nt := 15, params := [((.ro (.int .i64)), false), ((.ro (.int .i64)), false), ((.ro (.int .i64)), false)], res := [(.ro .bool)], slots := [.tmp 6], code := bd Try.f129 }
/- spec.l01Steps -/
noncomputable def I159 : Inst := { f := 159, nt := 5, params := [((.ro (.int .i64)), false)], res := [(.ro .bool)], slots := [.tmp 2], code := bd Try.f159, callee := fun r i => find 0 [(1001, 129)] (r * 1000 + i) }
/- spec.l01Lift -/
noncomputable def I65 : Inst := { f := 65, nt := 5, params := [((.ro (.int .i64)), false)], res := [(.ro .bool)], slots := [.tmp 2], code := bd Try.f65, callee := fun r i => find 0 [(1001, 129)] (r * 1000 + i) }
/- spec.l01Ok -/
noncomputable def I113 : Inst := { f := 113, nt := 21, params := [((.ro (.slc (.int .i16))), false)], res := [(.ro .bool)], slots := [.tmp 2], code := bd Try.f113, callee := fun r i => find 0 [(1002, 159), (6005, 65)] (r * 1000 + i), loops := fun b => find [] [(0, [.own 0 (.ro (.slc (.int .i16))), .own 3 (.ro (.int .i64))])] b }
/- spec.l03Ok -/
noncomputable def I157 : Inst := { f := 157, nt := 11, params := [((.ro (.pair (.int .i64) (.pair (.int .i64) .unit))), false)], res := [(.ro .bool)], slots := [.tmp 2], code := bd Try.f157, callee := fun r i => find 0 [(1002, 129), (1006, 129)] (r * 1000 + i) }
/- spec.l03Asked -/
noncomputable def I105 : Inst := { f := 105, nt := 13, params := [((.ro (.slc (.int .i16))), false), ((.ro (.pair (.int .i64) (.pair (.int .i64) .unit))), false)], res := [(.ro (.int .i64))], slots := [.tmp 4], code := bd Try.f105, callee := fun r i => find 0 [(1001, 113), (1005, 157)] (r * 1000 + i) }
/- spec.l01At -/
noncomputable def I161 : Inst := { f := 161, nt := 19, params := [((.ro (.slc (.int .i16))), false), ((.ro (.int .i64)), false)], res := [(.ro (.int .i64))], slots := [.tmp 4], code := bd Try.f161 }
/- spec.l01Size -/
noncomputable def I160 : Inst := { f := 160, nt := 8, params := [((.ro (.int .i64)), false)], res := [(.ro (.int .i64))], slots := [.tmp 2], code := bd Try.f160 }
/- spec.l03Gcd -/
noncomputable def I178 : Inst := { f := 178, nt := 14, params := [((.ro (.int .i64)), false), ((.ro (.int .i64)), false)], res := [(.ro (.int .i64))], slots := [.tmp 4], code := bd Try.f178, loops := fun b => find [] [(0, [.own 0 (.ro (.int .i64)), .own 1 (.ro (.int .i64))])] b }
/- spec.l03Slope -/
noncomputable def I158 : Inst := { f := 158, nt := 39, params := [((.ro (.slc (.int .i16))), false), ((.ro (.int .i64)), false), ((.ro (.int .i64)), false)], res := [(.ro (.pair (.int .i64) (.pair (.int .i64) .unit)))], slots := [.cell 6 70], code := bd Try.f158, callee := fun r i => find 0 [(1003, 161), (1006, 161), (2003, 161), (3001, 160), (3003, 178)] (r * 1000 + i) }
/- spec.l03Cmp -/
noncomputable def I115 : Inst := { f := 115, nt := 27, params := [((.ro (.pair (.int .i64) (.pair (.int .i64) .unit))), false), ((.ro (.pair (.int .i64) (.pair (.int .i64) .unit))), false)], res := [(.ro (.int .i64))], slots := [.tmp 4], code := bd Try.f115, callee := fun r i => find 0 [(1002, 160), (2002, 160)] (r * 1000 + i) }
/- spec.l03Steepest -/
noncomputable def I106 : Inst := { f := 106, nt := 31, params := [((.ro (.slc (.int .i16))), false), ((.ro (.int .i64)), false)], res := [(.ro (.int .i64)), (.ro (.pair (.int .i64) (.pair (.int .i64) .unit)))], slots := [.tmp 4, .cell 5 70], code := bd Try.f106, callee := fun r i => find 0 [(2002, 158), (6003, 158), (7002, 115)] (r * 1000 + i), loops := fun b => find [] [(0, [.own 0 (.ro (.slc (.int .i16))), .own 1 (.ro (.int .i64)), .own 5 (.box (.ro (.pair (.int .i64) (.pair (.int .i64) .unit)))), .own 6 (.ro (.int .i64)), .own 7 (.box (.ro (.pair (.int .i64) (.pair (.int .i64) .unit)))), .own 8 (.ro (.int .i64))])] b }
/- spec.SteepestSlope -/
noncomputable def I44 : Inst := { f := 44, nt := 26, params := [((.ro (.slc (.int .i16))), false), ((.ro (.pair (.int .i64) (.pair (.int .i64) .unit))), false)], res := [(.ro (.int .i64)), (.ro (.pair (.int .i64) (.pair (.int .i64) .unit))), (.ro (.int .i64))], slots := [.tmp 4, .cell 5 70, .tmp 6], code := bd Try.f44, callee := fun r i => find 0 [(1002, 105), (4003, 106)] (r * 1000 + i) }
/- impl.isPlace -/
noncomputable def I107 : Inst := { f := 107, nt := 9, params := [((.ro (.int .i64)), false), ((.ro (.int .i64)), false)], res := [(.ro .bool)], slots := [.tmp 4], code := bd Try.f107, callee := fun r i => find 0 [(1003, 133)] (r * 1000 + i) }
/- impl.SlopeAt -/
noncomputable def I45 : Inst := { f := 45, nt := 25, params := [((.ro (.slc (.int .i16))), false), ((.ro (.pair (.int .i64) (.pair (.int .i64) .unit))), false), ((.ro (.int .i64)), false)], res := [(.ro (.pair (.int .i64) (.pair (.int .i64) .unit))), (.ro (.int .i64))], slots := [.cell 6 70, .tmp 7], code := bd Try.f45, callee := fun r i => find 0 [(1002, 102), (3003, 107), (5003, 103)] (r * 1000 + i) }
/- impl.isSlope -/
noncomputable def I108 : Inst := { f := 108, nt := 11, params := [((.ro (.pair (.int .i64) (.pair (.int .i64) .unit))), false)], res := [(.ro .bool)], slots := [.tmp 2], code := bd Try.f108, callee := fun r i => find 0 [(1002, 133), (1006, 133)] (r * 1000 + i) }
/- impl.CompareSlopes -/
noncomputable def I46 : Inst := { f := 46, nt := 17, params := [((.ro (.pair (.int .i64) (.pair (.int .i64) .unit))), false), ((.ro (.pair (.int .i64) (.pair (.int .i64) .unit))), false)], res := [(.ro (.int .i64)), (.ro (.int .i64))], slots := [.tmp 4, .tmp 5], code := bd Try.f46, callee := fun r i => find 0 [(1001, 108), (1005, 108), (3002, 104)] (r * 1000 + i) }
/- spec.P6Pick -/
noncomputable def I47 : Inst := { f := 47, nt := 9, params := [((.ro (.slc (.int .u8))), false), ((.ro (.int .i64)), false)], res := [(.ro (.int .i64))], slots := [.tmp 4], code := bd Try.f47, callee := fun r i => find 0 [(1001, 81), (1003, 101)] (r * 1000 + i) }
/- impl.LeastBase -/
noncomputable def I48 : Inst := { f := 48, nt := 55, params := [((.ro (.slc (.int .i16))), false), ((.ro (.pair (.int .i64) (.pair (.int .i64) .unit))), false)], res := [(.ro (.int .i64)), (.ro (.int .i64))], slots := [.tmp 4, .tmp 5], code := bd Try.f48, callee := fun r i => find 0 [(1001, 35), (1005, 108), (6001, 77), (9002, 111), (9003, 110), (9006, 77), (9015, 109), (10004, 112)] (r * 1000 + i), loops := fun b => find [] [(1, [.own 0 (.ro (.slc (.int .i16))), .own 3 (.box (.ro (.pair (.int .i64) (.pair (.int .i64) .unit)))), .own 6 (.ro (.int .i64)), .own 23 (.ro (.int .i64)), .own 24 (.ro (.int .i64))])] b }
/- spec.l03Told -/
noncomputable def I114 : Inst := { f := 114, nt := 11, params := [((.ro (.pair (.int .i64) (.pair (.int .i64) .unit))), false)], res := [(.ro .bool)], slots := [.tmp 2], code := bd Try.f114, callee := fun r i => find 0 [(1002, 129), (1006, 129)] (r * 1000 + i) }
/- spec.LeastBase -/
noncomputable def I49 : Inst := { f := 49, nt := 45, params := [((.ro (.slc (.int .i16))), false), ((.ro (.pair (.int .i64) (.pair (.int .i64) .unit))), false)], res := [(.ro (.int .i64)), (.ro (.int .i64))], slots := [.tmp 4, .tmp 5], code := bd Try.f49, callee := fun r i => find 0 [(1001, 113), (1005, 114), (9002, 106), (10002, 115)] (r * 1000 + i), loops := fun b => find [] [(0, [.own 0 (.ro (.slc (.int .i16))), .own 3 (.box (.ro (.pair (.int .i64) (.pair (.int .i64) .unit)))), .own 6 (.ro (.int .i64)), .own 7 (.ro (.int .i64))])] b }
/- spec.l01Bends -/
noncomputable def I116 : Inst := { f := 116, nt := 30, params := [((.ro (.slc (.int .i16))), false)], res := [(.row false (.int .i64))], slots := [.tmp 2], code := bd Try.f116, callee := fun r i => find 0 [(5004, 161), (5007, 161), (5013, 161)] (r * 1000 + i), loops := fun b => find [] [(0, [.own 0 (.ro (.slc (.int .i16))), .own 3 (.row false (.int .i64)), .own 4 (.ro (.int .i64))])] b, deep := fun r i => find false [(1000, true), (5015, true), (5016, true)] (r * 1000 + i) }
/- spec.LeastSpring -/
noncomputable def I50 : Inst := { f := 50, nt := 26, params := [((.ro (.slc (.int .i16))), false)], res := [(.ro (.int .i64)), (.ro (.int .i64))], slots := [.tmp 2, .tmp 3], code := bd Try.f50, callee := fun r i => find 0 [(1001, 113), (3001, 116), (8006, 117)] (r * 1000 + i), loops := fun b => find [] [(0, [.own 4 (.ro (.slc (.int .i64))), .own 5 (.ro (.int .i64)), .own 6 (.ro (.int .i64))])] b }
/- impl.wearCode -/
noncomputable def I118 : Inst := { f := 118, nt := 23, params := [((.ro (.slc (.int .i16))), false), ((.ro (.pair (.int .i64) (.pair (.int .i64) .unit))), false), ((.ro (.int .i64)), false), ((.ro (.int .i64)), false)], res := [(.ro (.int .i64))], slots := [.tmp 8], code := bd Try.f118, callee := fun r i => find 0 [(1002, 102), (3001, 133), (3005, 133)] (r * 1000 + i) }
/- impl.Cam,int16] -/
noncomputable def I60 : Inst := { f := 60, nt := 8, params := [((.ro (.slc (.int .i16))), false)], res := [(.row false (.int .i16))], slots := [.tmp 2], code := bd Try.f60 }
/- impl.Track).next -/
noncomputable def I179 : Inst := { f := 179, nt := 29, params := [((.ro (.pair (.int .i64) (.pair (.int .i64) (.pair .bool .unit)))), false), ((.ro (.int .i64)), false), ((.ro (.int .i64)), false)], res := [(.ro (.pair (.int .i64) (.pair (.int .i64) (.pair .bool .unit))))], slots := [.cell 6 185], code := bd Try.f179 }
/- impl.Cam).follow -/
noncomputable def I163 : Inst := { f := 163, nt := 33, params := [((.ro (.slc (.int .i16))), false), ((.ro (.int .i64)), false), ((.ro (.int .i64)), false)], res := [(.row false (.pair (.int .i64) (.pair (.int .i64) (.pair .bool .unit))))], slots := [.tmp 6], code := bd Try.f163, callee := fun r i => find 0 [(1001, 112), (1003, 111), (6003, 112), (6005, 179)] (r * 1000 + i), loops := fun b => find [] [(0, [.own 0 (.ro (.slc (.int .i16))), .own 1 (.ro (.int .i64)), .own 2 (.ro (.int .i64)), .own 7 (.box (.ro (.pair (.int .i64) (.pair (.int .i64) (.pair .bool .unit))))), .own 8 (.row false (.pair (.int .i64) (.pair (.int .i64) (.pair .bool .unit)))), .own 9 (.ro (.int .i64))])] b, deep := fun r i => find false [(2001, true), (7002, true), (7003, true)] (r * 1000 + i) }
/- impl.landings -/
noncomputable def I162 : Inst := { f := 162, nt := 45, params := [((.ro (.slc (.pair (.int .i64) (.pair (.int .i64) (.pair .bool .unit))))), false), ((.ro (.int .i64)), false)], res := [(.row false (.pair (.int .i64) (.pair (.int .i64) .unit)))], slots := [.tmp 4], code := bd Try.f162, loops := fun b => find [] [(0, [.own 0 (.ro (.slc (.pair (.int .i64) (.pair (.int .i64) (.pair .bool .unit))))), .own 1 (.ro (.int .i64)), .own 5 (.row false (.pair (.int .i64) (.pair (.int .i64) .unit))), .own 6 (.ro (.int .i64))])] b, deep := fun r i => find false [(1000, true), (7010, true), (7011, true)] (r * 1000 + i) }
/- impl.Cam).worn -/
noncomputable def I119 : Inst := { f := 119, nt := 53, params := [((.ro (.slc (.int .i16))), false), ((.ro (.int .i64)), false), ((.ro (.int .i64)), false)], res := [(.row false (.int .i16))], slots := [.tmp 6], code := bd Try.f119, callee := fun r i => find 0 [(1001, 77), (1003, 60), (2004, 163), (2006, 162)] (r * 1000 + i), loops := fun b => find [] [(0, [.own 2 (.ro (.int .i64)), .own 7 (.ro (.int .i64)), .own 8 (.row false (.int .i16)), .own 22 (.ro (.slc (.pair (.int .i64) (.pair (.int .i64) .unit)))), .own 23 (.ro (.int .i64)), .own 24 (.ro (.int .i64))])] b }
/- impl.WearCam -/
noncomputable def I51 : Inst := { f := 51, nt := 32, params := [((.ro (.slc (.int .i16))), false), ((.ro (.pair (.int .i64) (.pair (.int .i64) .unit))), false), ((.ro (.int .i64)), false), ((.ro (.int .i64)), false)], res := [(.ro (.slc (.int .i16))), (.ro (.int .i64))], slots := [.tmp 8, .tmp 9], code := bd Try.f51, strict := true, callee := fun r i => find 0 [(1004, 118), (4001, 60), (7004, 119)] (r * 1000 + i), loops := fun b => find [] [(0, [.own 3 (.ro (.int .i64)), .own 5 (.box (.ro (.pair (.int .i64) (.pair (.int .i64) .unit)))), .own 11 (.ro (.slc (.int .i16))), .own 22 (.ro (.int .i64)), .own 23 (.ro (.int .i64))])] b }
/- spec.l03Wearing -/
noncomputable def I120 : Inst := { f := 120, nt := 26, params := [((.ro (.slc (.int .i16))), false), ((.ro (.pair (.int .i64) (.pair (.int .i64) .unit))), false), ((.ro (.int .i64)), false), ((.ro (.int .i64)), false)], res := [(.ro (.int .i64))], slots := [.tmp 8], code := bd Try.f120, callee := fun r i => find 0 [(1002, 105), (2004, 129), (2008, 129)] (r * 1000 + i) }
/- spec.l03Begin -/
noncomputable def I180 : Inst := { f := 180, nt := 11, params := [((.ro (.slc (.int .i16))), false)], res := [(.ro (.pair (.int .i64) (.pair (.int .i64) (.pair .bool .unit))))], slots := [.cell 2 185], code := bd Try.f180, callee := fun r i => find 0 [(1001, 161), (1003, 161), (1005, 161)] (r * 1000 + i) }
/- spec.l03Next -/
noncomputable def I181 : Inst := { f := 181, nt := 29, params := [((.ro (.pair (.int .i64) (.pair (.int .i64) (.pair .bool .unit)))), false), ((.ro (.int .i64)), false), ((.ro (.int .i64)), false)], res := [(.ro (.pair (.int .i64) (.pair (.int .i64) (.pair .bool .unit))))], slots := [.cell 6 185], code := bd Try.f181 }
/- spec.l03Follow -/
noncomputable def I164 : Inst := { f := 164, nt := 31, params := [((.ro (.slc (.int .i16))), false), ((.ro (.int .i64)), false), ((.ro (.int .i64)), false)], res := [(.row false (.pair (.int .i64) (.pair (.int .i64) (.pair .bool .unit))))], slots := [.tmp 6], code := bd Try.f164, callee := fun r i => find 0 [(1001, 180), (5008, 161), (5010, 181)] (r * 1000 + i), loops := fun b => find [] [(0, [.own 0 (.ro (.slc (.int .i16))), .own 1 (.ro (.int .i64)), .own 2 (.ro (.int .i64)), .own 7 (.row false (.pair (.int .i64) (.pair (.int .i64) (.pair .bool .unit)))), .own 8 (.ro (.int .i64))])] b, deep := fun r i => find false [(1002, true), (5011, true), (5012, true)] (r * 1000 + i) }
/- spec.l03Lands -/
noncomputable def I165 : Inst := { f := 165, nt := 19, params := [((.ro (.slc (.pair (.int .i64) (.pair (.int .i64) (.pair .bool .unit))))), false), ((.ro (.int .i64)), false)], res := [(.ro .bool)], slots := [.tmp 4], code := bd Try.f165 }
/- spec.l03Blow -/
noncomputable def I166 : Inst := { f := 166, nt := 35, params := [((.ro (.slc (.pair (.int .i64) (.pair (.int .i64) (.pair .bool .unit))))), false), ((.ro (.int .i64)), false), ((.ro (.int .i64)), false)], res := [(.ro (.int .i64))], slots := [.tmp 6], code := bd Try.f166 }
/- spec.l03Worn -/
noncomputable def I121 : Inst := { f := 121, nt := 52, params := [((.ro (.slc (.int .i16))), false), ((.ro (.int .i64)), false), ((.ro (.int .i64)), false)], res := [(.row false (.int .i16))], slots := [.tmp 6], code := bd Try.f121, callee := fun r i => find 0 [(2004, 164), (7002, 165), (8002, 161), (8006, 166), (9005, 117)] (r * 1000 + i), loops := fun b => find [] [(0, [.own 0 (.ro (.slc (.int .i16))), .own 1 (.ro (.int .i64)), .own 2 (.ro (.int .i64)), .own 7 (.ro (.int .i64)), .own 8 (.ro (.slc (.pair (.int .i64) (.pair (.int .i64) (.pair .bool .unit))))), .own 9 (.row false (.int .i16)), .own 10 (.ro (.int .i64))])] b, deep := fun r i => find false [(3000, true), (3002, true)] (r * 1000 + i) }
/- spec.WearCam -/
noncomputable def I52 : Inst := { f := 52, nt := 36, params := [((.ro (.slc (.int .i16))), false), ((.ro (.pair (.int .i64) (.pair (.int .i64) .unit))), false), ((.ro (.int .i64)), false), ((.ro (.int .i64)), false)], res := [(.ro (.slc (.int .i16))), (.ro (.int .i64))], slots := [.tmp 8, .tmp 9], code := bd Try.f52, strict := true, callee := fun r i => find 0 [(1004, 120), (8004, 121)] (r * 1000 + i), loops := fun b => find [] [(0, [.own 2 (.ro (.int .i64)), .own 3 (.ro (.int .i64)), .own 5 (.box (.ro (.pair (.int .i64) (.pair (.int .i64) .unit)))), .own 11 (.ro (.slc (.int .i16))), .own 12 (.ro (.int .i64))])] b }
/- impl.Cam,int16] -/
noncomputable def I122 : Inst := { f := 122, nt := 26, params := [((.ro (.slc (.int .i16))), false), ((.ro (.slc (.int .i16))), false)], res := [(.ro .bool)], slots := [.tmp 4], code := bd Try.f122, loops := fun b => find [] [(0, [.own 0 (.ro (.slc (.int .i16))), .own 1 (.ro (.slc (.int .i16))), .own 12 (.ro (.int .i64)), .own 13 (.ro (.int .i64))])] b }
/- impl.TurnsToWear -/
noncomputable def I53 : Inst := { f := 53, nt := 31, params := [((.ro (.slc (.int .i16))), false), ((.ro (.pair (.int .i64) (.pair (.int .i64) .unit))), false), ((.ro (.int .i64)), false), ((.ro (.int .i64)), false)], res := [(.ro (.int .i64)), (.ro (.int .i64))], slots := [.tmp 8, .tmp 9], code := bd Try.f53, callee := fun r i => find 0 [(1004, 118), (4007, 119), (4009, 122)] (r * 1000 + i) }
/- spec.l01Same -/
noncomputable def I89 : Inst := { f := 89, nt := 26, params := [((.ro (.slc (.int .i16))), false), ((.ro (.slc (.int .i16))), false)], res := [(.ro .bool)], slots := [.tmp 4], code := bd Try.f89, loops := fun b => find [] [(0, [.own 0 (.ro (.slc (.int .i16))), .own 1 (.ro (.slc (.int .i16))), .own 5 (.ro (.int .i64))])] b }
/- spec.SameCam -/
noncomputable def I32 : Inst := { f := 32, nt := 8, params := [((.ro (.slc (.int .i16))), false), ((.ro (.slc (.int .i16))), false)], res := [(.ro .bool)], slots := [.tmp 4], code := bd Try.f32, callee := fun r i => find 0 [(1002, 89)] (r * 1000 + i) }
/- laws.FnSlopes -/
noncomputable def I6 : Inst := { f := 6, nt := 319, params := [((.ro (.slc (.int .u8))), false), ((.ro (.slc (.int .u8))), false)], res := [(.ro .bool)], slots := [.tmp 4], code := bd Try.f6, callee := fun r i => find 0 [(1001, 40), (1004, 40), (3001, 41), (4001, 42), (5002, 43), (6002, 44), (12003, 45), (13002, 46), (16001, 47), (16004, 47), (17002, 48), (18002, 49), (22003, 44), (23002, 46), (27004, 44), (28002, 46), (33001, 50), (34003, 51), (35002, 51), (36002, 52), (37002, 53), (38009, 32), (38024, 32), (45008, 32)] (r * 1000 + i), loops := fun b => find [] [(2, [.own 5 (.ro (.slc (.int .i16))), .own 39 (.ro (.slc (.int .i16))), .own 41 (.ro (.int .i64)), .own 42 (.ro (.int .i64)), .own 43 (.ro (.int .i64))]), (0, [.own 0 (.ro (.slc (.int .u8))), .own 1 (.ro (.slc (.int .u8))), .own 5 (.ro (.slc (.int .i16))), .own 6 (.box (.ro (.pair (.int .i64) (.pair (.int .i64) .unit)))), .own 10 (.ro (.int .i64)), .own 11 (.box (.ro (.pair (.int .i64) (.pair (.int .i64) .unit)))), .own 13 (.ro (.int .i64))])] b }
noncomputable def CL : List (Nat × Inst) := [(40, I40), (81, I81), (154, I154), (101, I101), (152, I152), (153, I153), (117, I117), (142, I142), (100, I100), (41, I41), (42, I42), (77, I77), (133, I133), (91, I91), (73, I73), (93, I93), (148, I148), (92, I92), (35, I35), (177, I177), (155, I155), (102, I102), (109, I109), (141, I141), (112, I112), (111, I111), (110, I110), (156, I156), (103, I103), (104, I104), (43, I43), (129, I129), (159, I159), (65, I65), (113, I113), (157, I157), (105, I105), (161, I161), (160, I160), (178, I178), (158, I158), (115, I115), (106, I106), (44, I44), (107, I107), (45, I45), (108, I108), (46, I46), (47, I47), (48, I48), (114, I114), (49, I49), (116, I116), (50, I50), (118, I118), (60, I60), (179, I179), (163, I163), (162, I162), (119, I119), (51, I51), (120, I120), (180, I180), (181, I181), (164, I164), (165, I165), (166, I166), (121, I121), (52, I52), (122, I122), (53, I53), (89, I89), (32, I32), (6, I6)]
noncomputable def C : Nat → Inst := find I40 CL
theorem tsOk : TsOk Try.prog T := tsOkB_sound (by kernel_rfl)
theorem ok40 : InstOk Try.prog I40 := instOk_of Try.func40 (by kernel_rfl) (by kernel_rfl) (by kernel_rfl) (by kernel_rfl)
theorem ok81 : InstOk Try.prog I81 := instOk_of Try.func81 (by kernel_rfl) (by kernel_rfl) (by kernel_rfl) (by kernel_rfl)
theorem ok154 : InstOk Try.prog I154 := instOk_of Try.func154 (by kernel_rfl) (by kernel_rfl) (by kernel_rfl) (by kernel_rfl)
theorem ok101 : InstOk Try.prog I101 := instOk_of Try.func101 (by kernel_rfl) (by kernel_rfl) (by kernel_rfl) (by kernel_rfl)
theorem ok152 : InstOk Try.prog I152 := instOk_of Try.func152 (by kernel_rfl) (by kernel_rfl) (by kernel_rfl) (by kernel_rfl)
theorem ok153 : InstOk Try.prog I153 := instOk_of Try.func153 (by kernel_rfl) (by kernel_rfl) (by kernel_rfl) (by kernel_rfl)
theorem ok117 : InstOk Try.prog I117 := instOk_of Try.func117 (by kernel_rfl) (by kernel_rfl) (by kernel_rfl) (by kernel_rfl)
theorem ok142 : InstOk Try.prog I142 := instOk_of Try.func142 (by kernel_rfl) (by kernel_rfl) (by kernel_rfl) (by kernel_rfl)
theorem ok100 : InstOk Try.prog I100 := instOk_of Try.func100 (by kernel_rfl) (by kernel_rfl) (by kernel_rfl) (by kernel_rfl)
theorem ok41 : InstOk Try.prog I41 := instOk_of Try.func41 (by kernel_rfl) (by kernel_rfl) (by kernel_rfl) (by kernel_rfl)
theorem ok42 : InstOk Try.prog I42 := instOk_of Try.func42 (by kernel_rfl) (by kernel_rfl) (by kernel_rfl) (by kernel_rfl)
theorem ok77 : InstOk Try.prog I77 := instOk_of Try.func77 (by kernel_rfl) (by kernel_rfl) (by kernel_rfl) (by kernel_rfl)
theorem ok133 : InstOk Try.prog I133 := instOk_of Try.func133 (by kernel_rfl) (by kernel_rfl) (by kernel_rfl) (by kernel_rfl)
theorem ok91 : InstOk Try.prog I91 := instOk_of Try.func91 (by kernel_rfl) (by kernel_rfl) (by kernel_rfl) (by kernel_rfl)
theorem ok73 : InstOk Try.prog I73 := instOk_of Try.func73 (by kernel_rfl) (by kernel_rfl) (by kernel_rfl) (by kernel_rfl)
theorem ok93 : InstOk Try.prog I93 := instOk_of Try.func93 (by kernel_rfl) (by kernel_rfl) (by kernel_rfl) (by kernel_rfl)
theorem ok148 : InstOk Try.prog I148 := instOk_of Try.func148 (by kernel_rfl) (by kernel_rfl) (by kernel_rfl) (by kernel_rfl)
theorem ok92 : InstOk Try.prog I92 := instOk_of Try.func92 (by kernel_rfl) (by kernel_rfl) (by kernel_rfl) (by kernel_rfl)
theorem ok35 : InstOk Try.prog I35 := instOk_of Try.func35 (by kernel_rfl) (by kernel_rfl) (by kernel_rfl) (by kernel_rfl)
theorem ok177 : InstOk Try.prog I177 := instOk_of Try.func177 (by kernel_rfl) (by kernel_rfl) (by kernel_rfl) (by kernel_rfl)
theorem ok155 : InstOk Try.prog I155 := instOk_of Try.func155 (by kernel_rfl) (by kernel_rfl) (by kernel_rfl) (by kernel_rfl)
theorem ok102 : InstOk Try.prog I102 := instOk_of Try.func102 (by kernel_rfl) (by kernel_rfl) (by kernel_rfl) (by kernel_rfl)
theorem ok109 : InstOk Try.prog I109 := instOk_of Try.func109 (by kernel_rfl) (by kernel_rfl) (by kernel_rfl) (by kernel_rfl)
theorem ok141 : InstOk Try.prog I141 := instOk_of Try.func141 (by kernel_rfl) (by kernel_rfl) (by kernel_rfl) (by kernel_rfl)
theorem ok112 : InstOk Try.prog I112 := instOk_of Try.func112 (by kernel_rfl) (by kernel_rfl) (by kernel_rfl) (by kernel_rfl)
theorem ok111 : InstOk Try.prog I111 := instOk_of Try.func111 (by kernel_rfl) (by kernel_rfl) (by kernel_rfl) (by kernel_rfl)
theorem ok110 : InstOk Try.prog I110 := instOk_of Try.func110 (by kernel_rfl) (by kernel_rfl) (by kernel_rfl) (by kernel_rfl)
theorem ok156 : InstOk Try.prog I156 := instOk_of Try.func156 (by kernel_rfl) (by kernel_rfl) (by kernel_rfl) (by kernel_rfl)
theorem ok103 : InstOk Try.prog I103 := instOk_of Try.func103 (by kernel_rfl) (by kernel_rfl) (by kernel_rfl) (by kernel_rfl)
theorem ok104 : InstOk Try.prog I104 := instOk_of Try.func104 (by kernel_rfl) (by kernel_rfl) (by kernel_rfl) (by kernel_rfl)
theorem ok43 : InstOk Try.prog I43 := instOk_of Try.func43 (by kernel_rfl) (by kernel_rfl) (by kernel_rfl) (by kernel_rfl)
theorem ok129 : InstOk Try.prog I129 := instOk_of Try.func129 (by kernel_rfl) (by kernel_rfl) (by kernel_rfl) (by kernel_rfl)
theorem ok159 : InstOk Try.prog I159 := instOk_of Try.func159 (by kernel_rfl) (by kernel_rfl) (by kernel_rfl) (by kernel_rfl)
theorem ok65 : InstOk Try.prog I65 := instOk_of Try.func65 (by kernel_rfl) (by kernel_rfl) (by kernel_rfl) (by kernel_rfl)
theorem ok113 : InstOk Try.prog I113 := instOk_of Try.func113 (by kernel_rfl) (by kernel_rfl) (by kernel_rfl) (by kernel_rfl)
theorem ok157 : InstOk Try.prog I157 := instOk_of Try.func157 (by kernel_rfl) (by kernel_rfl) (by kernel_rfl) (by kernel_rfl)
theorem ok105 : InstOk Try.prog I105 := instOk_of Try.func105 (by kernel_rfl) (by kernel_rfl) (by kernel_rfl) (by kernel_rfl)
theorem ok161 : InstOk Try.prog I161 := instOk_of Try.func161 (by kernel_rfl) (by kernel_rfl) (by kernel_rfl) (by kernel_rfl)
theorem ok160 : InstOk Try.prog I160 := instOk_of Try.func160 (by kernel_rfl) (by kernel_rfl) (by kernel_rfl) (by kernel_rfl)
theorem ok178 : InstOk Try.prog I178 := instOk_of Try.func178 (by kernel_rfl) (by kernel_rfl) (by kernel_rfl) (by kernel_rfl)
theorem ok158 : InstOk Try.prog I158 := instOk_of Try.func158 (by kernel_rfl) (by kernel_rfl) (by kernel_rfl) (by kernel_rfl)
theorem ok115 : InstOk Try.prog I115 := instOk_of Try.func115 (by kernel_rfl) (by kernel_rfl) (by kernel_rfl) (by kernel_rfl)
theorem ok106 : InstOk Try.prog I106 := instOk_of Try.func106 (by kernel_rfl) (by kernel_rfl) (by kernel_rfl) (by kernel_rfl)
theorem ok44 : InstOk Try.prog I44 := instOk_of Try.func44 (by kernel_rfl) (by kernel_rfl) (by kernel_rfl) (by kernel_rfl)
theorem ok107 : InstOk Try.prog I107 := instOk_of Try.func107 (by kernel_rfl) (by kernel_rfl) (by kernel_rfl) (by kernel_rfl)
theorem ok45 : InstOk Try.prog I45 := instOk_of Try.func45 (by kernel_rfl) (by kernel_rfl) (by kernel_rfl) (by kernel_rfl)
theorem ok108 : InstOk Try.prog I108 := instOk_of Try.func108 (by kernel_rfl) (by kernel_rfl) (by kernel_rfl) (by kernel_rfl)
theorem ok46 : InstOk Try.prog I46 := instOk_of Try.func46 (by kernel_rfl) (by kernel_rfl) (by kernel_rfl) (by kernel_rfl)
theorem ok47 : InstOk Try.prog I47 := instOk_of Try.func47 (by kernel_rfl) (by kernel_rfl) (by kernel_rfl) (by kernel_rfl)
theorem ok48 : InstOk Try.prog I48 := instOk_of Try.func48 (by kernel_rfl) (by kernel_rfl) (by kernel_rfl) (by kernel_rfl)
theorem ok114 : InstOk Try.prog I114 := instOk_of Try.func114 (by kernel_rfl) (by kernel_rfl) (by kernel_rfl) (by kernel_rfl)
theorem ok49 : InstOk Try.prog I49 := instOk_of Try.func49 (by kernel_rfl) (by kernel_rfl) (by kernel_rfl) (by kernel_rfl)
theorem ok116 : InstOk Try.prog I116 := instOk_of Try.func116 (by kernel_rfl) (by kernel_rfl) (by kernel_rfl) (by kernel_rfl)
theorem ok50 : InstOk Try.prog I50 := instOk_of Try.func50 (by kernel_rfl) (by kernel_rfl) (by kernel_rfl) (by kernel_rfl)
theorem ok118 : InstOk Try.prog I118 := instOk_of Try.func118 (by kernel_rfl) (by kernel_rfl) (by kernel_rfl) (by kernel_rfl)
theorem ok60 : InstOk Try.prog I60 := instOk_of Try.func60 (by kernel_rfl) (by kernel_rfl) (by kernel_rfl) (by kernel_rfl)
theorem ok179 : InstOk Try.prog I179 := instOk_of Try.func179 (by kernel_rfl) (by kernel_rfl) (by kernel_rfl) (by kernel_rfl)
theorem ok163 : InstOk Try.prog I163 := instOk_of Try.func163 (by kernel_rfl) (by kernel_rfl) (by kernel_rfl) (by kernel_rfl)
theorem ok162 : InstOk Try.prog I162 := instOk_of Try.func162 (by kernel_rfl) (by kernel_rfl) (by kernel_rfl) (by kernel_rfl)
theorem ok119 : InstOk Try.prog I119 := instOk_of Try.func119 (by kernel_rfl) (by kernel_rfl) (by kernel_rfl) (by kernel_rfl)
theorem ok51 : InstOk Try.prog I51 := instOk_of Try.func51 (by kernel_rfl) (by kernel_rfl) (by kernel_rfl) (by kernel_rfl)
theorem ok120 : InstOk Try.prog I120 := instOk_of Try.func120 (by kernel_rfl) (by kernel_rfl) (by kernel_rfl) (by kernel_rfl)
theorem ok180 : InstOk Try.prog I180 := instOk_of Try.func180 (by kernel_rfl) (by kernel_rfl) (by kernel_rfl) (by kernel_rfl)
theorem ok181 : InstOk Try.prog I181 := instOk_of Try.func181 (by kernel_rfl) (by kernel_rfl) (by kernel_rfl) (by kernel_rfl)
theorem ok164 : InstOk Try.prog I164 := instOk_of Try.func164 (by kernel_rfl) (by kernel_rfl) (by kernel_rfl) (by kernel_rfl)
theorem ok165 : InstOk Try.prog I165 := instOk_of Try.func165 (by kernel_rfl) (by kernel_rfl) (by kernel_rfl) (by kernel_rfl)
theorem ok166 : InstOk Try.prog I166 := instOk_of Try.func166 (by kernel_rfl) (by kernel_rfl) (by kernel_rfl) (by kernel_rfl)
theorem ok121 : InstOk Try.prog I121 := instOk_of Try.func121 (by kernel_rfl) (by kernel_rfl) (by kernel_rfl) (by kernel_rfl)
theorem ok52 : InstOk Try.prog I52 := instOk_of Try.func52 (by kernel_rfl) (by kernel_rfl) (by kernel_rfl) (by kernel_rfl)
theorem ok122 : InstOk Try.prog I122 := instOk_of Try.func122 (by kernel_rfl) (by kernel_rfl) (by kernel_rfl) (by kernel_rfl)
theorem ok53 : InstOk Try.prog I53 := instOk_of Try.func53 (by kernel_rfl) (by kernel_rfl) (by kernel_rfl) (by kernel_rfl)
theorem ok89 : InstOk Try.prog I89 := instOk_of Try.func89 (by kernel_rfl) (by kernel_rfl) (by kernel_rfl) (by kernel_rfl)
theorem ok32 : InstOk Try.prog I32 := instOk_of Try.func32 (by kernel_rfl) (by kernel_rfl) (by kernel_rfl) (by kernel_rfl)
theorem ok6 : InstOk Try.prog I6 := instOk_of Try.func6 (by kernel_rfl) (by kernel_rfl) (by kernel_rfl) (by kernel_rfl)
theorem insts : ∀ j, InstOk Try.prog (C j) := find_all ok40 (List.forall_mem_cons.2 ⟨ok40, List.forall_mem_cons.2 ⟨ok81, List.forall_mem_cons.2 ⟨ok154, List.forall_mem_cons.2 ⟨ok101, List.forall_mem_cons.2 ⟨ok152, List.forall_mem_cons.2 ⟨ok153, List.forall_mem_cons.2 ⟨ok117, List.forall_mem_cons.2 ⟨ok142, List.forall_mem_cons.2 ⟨ok100, List.forall_mem_cons.2 ⟨ok41, List.forall_mem_cons.2 ⟨ok42, List.forall_mem_cons.2 ⟨ok77, List.forall_mem_cons.2 ⟨ok133, List.forall_mem_cons.2 ⟨ok91, List.forall_mem_cons.2 ⟨ok73, List.forall_mem_cons.2 ⟨ok93, List.forall_mem_cons.2 ⟨ok148, List.forall_mem_cons.2 ⟨ok92, List.forall_mem_cons.2 ⟨ok35, List.forall_mem_cons.2 ⟨ok177, List.forall_mem_cons.2 ⟨ok155, List.forall_mem_cons.2 ⟨ok102, List.forall_mem_cons.2 ⟨ok109, List.forall_mem_cons.2 ⟨ok141, List.forall_mem_cons.2 ⟨ok112, List.forall_mem_cons.2 ⟨ok111, List.forall_mem_cons.2 ⟨ok110, List.forall_mem_cons.2 ⟨ok156, List.forall_mem_cons.2 ⟨ok103, List.forall_mem_cons.2 ⟨ok104, List.forall_mem_cons.2 ⟨ok43, List.forall_mem_cons.2 ⟨ok129, List.forall_mem_cons.2 ⟨ok159, List.forall_mem_cons.2 ⟨ok65, List.forall_mem_cons.2 ⟨ok113, List.forall_mem_cons.2 ⟨ok157, List.forall_mem_cons.2 ⟨ok105, List.forall_mem_cons.2 ⟨ok161, List.forall_mem_cons.2 ⟨ok160, List.forall_mem_cons.2 ⟨ok178, List.forall_mem_cons.2 ⟨ok158, List.forall_mem_cons.2 ⟨ok115, List.forall_mem_cons.2 ⟨ok106, List.forall_mem_cons.2 ⟨ok44, List.forall_mem_cons.2 ⟨ok107, List.forall_mem_cons.2 ⟨ok45, List.forall_mem_cons.2 ⟨ok108, List.forall_mem_cons.2 ⟨ok46, List.forall_mem_cons.2 ⟨ok47, List.forall_mem_cons.2 ⟨ok48, List.forall_mem_cons.2 ⟨ok114, List.forall_mem_cons.2 ⟨ok49, List.forall_mem_cons.2 ⟨ok116, List.forall_mem_cons.2 ⟨ok50, List.forall_mem_cons.2 ⟨ok118, List.forall_mem_cons.2 ⟨ok60, List.forall_mem_cons.2 ⟨ok179, List.forall_mem_cons.2 ⟨ok163, List.forall_mem_cons.2 ⟨ok162, List.forall_mem_cons.2 ⟨ok119, List.forall_mem_cons.2 ⟨ok51, List.forall_mem_cons.2 ⟨ok120, List.forall_mem_cons.2 ⟨ok180, List.forall_mem_cons.2 ⟨ok181, List.forall_mem_cons.2 ⟨ok164, List.forall_mem_cons.2 ⟨ok165, List.forall_mem_cons.2 ⟨ok166, List.forall_mem_cons.2 ⟨ok121, List.forall_mem_cons.2 ⟨ok52, List.forall_mem_cons.2 ⟨ok122, List.forall_mem_cons.2 ⟨ok53, List.forall_mem_cons.2 ⟨ok89, List.forall_mem_cons.2 ⟨ok32, List.forall_mem_cons.2 ⟨ok6, fun _ h => absurd h List.not_mem_nil⟩⟩⟩⟩⟩⟩⟩⟩⟩⟩⟩⟩⟩⟩⟩⟩⟩⟩⟩⟩⟩⟩⟩⟩⟩⟩⟩⟩⟩⟩⟩⟩⟩⟩⟩⟩⟩⟩⟩⟩⟩⟩⟩⟩⟩⟩⟩⟩⟩⟩⟩⟩⟩⟩⟩⟩⟩⟩⟩⟩⟩⟩⟩⟩⟩⟩⟩⟩⟩⟩⟩⟩⟩⟩)
theorem noExt : ∀ j, (C j).ext = none := by
  have hC : C = find I40 CL := by delta C; with_reducible rfl
  exact fun j => noExt_of (C := C) _ _ hC (by kernel_rfl) (by kernel_rfl) j
end Go.Proofs.Ytoafnbpahdnchaa.LSl
