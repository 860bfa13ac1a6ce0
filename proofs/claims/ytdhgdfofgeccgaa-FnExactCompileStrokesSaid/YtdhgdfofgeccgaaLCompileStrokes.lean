/- The types and the functions that a law reaches, told for the reading (Fw). Written by a program (gen.py). -/
import Derived.Test.YtdhgdfofgeccgaaFwC
import Derived.Test.YtdhgdfofgeccgaaProg
namespace Go.Proofs.Ytdhgdfofgeccgaa.LCompileStrokes
open Go Go.Fw
open Go.Proofs
noncomputable def tyL : List (Nat × TI) := [(2, ⟨(.int .i64), 0, 8⟩),
  (3, ⟨(.int .i64), 0, 8⟩),
  (4, ⟨.bool, 0, 1⟩),
  (26, ⟨(.slc (.slc (.arr 2 (.int .i16)))), 108, 24⟩),
  (29, ⟨(.slc (.int .i16)), 57, 24⟩),
  (31, ⟨(.pair (.slc (.int .i16)) (.pair (.slc (.int .i16)) (.pair (.slc (.int .i16)) .unit))), 0, 72⟩),
  (38, ⟨(.slc (.slc (.arr 2 (.int .i16)))), 114, 24⟩),
  (40, ⟨(.slc (.pair (.arr 2 (.int .i16)) (.pair .bool .unit))), 106, 24⟩),
  (55, ⟨(.slc (.int .i64)), 2, 24⟩),
  (57, ⟨(.int .i16), 0, 2⟩),
  (103, ⟨(.arr 2 (.int .i16)), 57, 4⟩),
  (104, ⟨(.arr 2 (.int .i16)), 57, 4⟩),
  (106, ⟨(.pair (.arr 2 (.int .i16)) (.pair .bool .unit)), 0, 6⟩),
  (107, ⟨(.slc (.arr 2 (.int .i16))), 104, 24⟩),
  (108, ⟨(.slc (.arr 2 (.int .i16))), 104, 24⟩),
  (114, ⟨(.slc (.arr 2 (.int .i16))), 103, 24⟩),
  (121, ⟨(.ptr (.pair (.int .i64) (.pair (.arr 2 (.int .i16)) (.pair (.slc (.pair (.arr 2 (.int .i16)) (.pair .bool .unit))) .unit)))), 0, 8⟩),
  (123, ⟨(.pair (.int .i64) (.pair (.arr 2 (.int .i16)) (.pair (.slc (.pair (.arr 2 (.int .i16)) (.pair .bool .unit))) .unit))), 0, 40⟩),
  (174, ⟨.fn, 0, 8⟩),
  (175, ⟨(.ptr (.pair (.arr 2 (.int .i16)) (.pair (.slc (.pair (.arr 2 (.int .i16)) (.pair .bool .unit))) (.pair (.int .i64) .unit)))), 0, 8⟩),
  (177, ⟨(.pair (.arr 2 (.int .i16)) (.pair (.slc (.pair (.arr 2 (.int .i16)) (.pair .bool .unit))) (.pair (.int .i64) .unit))), 0, 40⟩),
  (181, ⟨.fn, 0, 8⟩)]
noncomputable def T : Nat → Option TI := findT tyL
/- laws.szStroke -/
noncomputable def I83 : Inst := { f := 83, nt := 12, params := [((.ro (.slc (.arr 2 (.int .i16)))), false), ((.ro (.int .i64)), false)], res := [(.ro (.int .i64))], slots := [.tmp 4], code := bd Try.f83 }
/- laws.szStrokeS -/
noncomputable def I18 : Inst := { f := 18, nt := 27, params := [((.ro (.slc (.slc (.arr 2 (.int .i16))))), false), ((.ro (.int .i64)), false)], res := [(.ro (.int .i64))], slots := [.tmp 4], code := bd Try.f18, callee := fun r i => find 0 [(7005, 83)] (r * 1000 + i), loops := fun b => find [] [(0, [.own 0 (.ro (.slc (.slc (.arr 2 (.int .i16))))), .own 1 (.ro (.int .i64)), .own 5 (.ro (.int .i64))])] b }
/- laws.toMark -/
noncomputable def I168 : Inst := { f := 168, nt := 15, params := [((.ro (.arr 2 (.int .i16))), false)], res := [(.ro (.arr 2 (.int .i16)))], slots := [.cell 2 104], code := bd Try.f168, loops := fun b => find [] [(0, [.own 1 (.box (.ro (.arr 2 (.int .i16)))), .own 2 (.box (.ro (.arr 2 (.int .i16)))), .own 3 (.box (.ro (.arr 2 (.int .i16)))), .own 4 (.ro (.int .i64))])] b }
/- laws.toStroke -/
noncomputable def I87 : Inst := { f := 87, nt := 23, params := [((.ro (.slc (.arr 2 (.int .i16)))), false)], res := [(.row false (.arr 2 (.int .i16)))], slots := [.tmp 2], code := bd Try.f87, callee := fun r i => find 0 [(5006, 168)] (r * 1000 + i), loops := fun b => find [] [(0, [.own 0 (.ro (.slc (.arr 2 (.int .i16)))), .own 3 (.row false (.arr 2 (.int .i16))), .own 4 (.ro (.int .i64))])] b, deep := fun r i => find false [(1002, true)] (r * 1000 + i) }
/- laws.toStrokeS -/
noncomputable def I20 : Inst := { f := 20, nt := 23, params := [((.ro (.slc (.slc (.arr 2 (.int .i16))))), false)], res := [(.row true (.slc (.arr 2 (.int .i16))))], slots := [.tmp 2], code := bd Try.f20, callee := fun r i => find 0 [(5006, 87)] (r * 1000 + i), loops := fun b => find [] [(0, [.own 0 (.ro (.slc (.slc (.arr 2 (.int .i16))))), .own 3 (.row true (.slc (.arr 2 (.int .i16)))), .own 4 (.ro (.int .i64))])] b, deep := fun r i => find false [(1002, true)] (r * 1000 + i) }
/- spec.l00In -/
noncomputable def I85 : Inst := { f := 85, nt := 15, params := [((.ro (.int .i64)), false), ((.ro (.int .i64)), false), ((.ro (.int .i64)), false)], res := [(.ro .bool)], slots := [.tmp 6], code := bd Try.f85 }
/- spec.l07Mark -/
noncomputable def I165 : Inst := { f := 165, nt := 13, params := [((.ro (.arr 2 (.int .i16))), false)], res := [(.ro .bool)], slots := [.tmp 2], code := bd Try.f165, callee := fun r i => find 0 [(1003, 85), (1008, 85)] (r * 1000 + i) }
/- spec.l07Strokes -/
noncomputable def I84 : Inst := { f := 84, nt := 39, params := [((.ro (.slc (.slc (.arr 2 (.int .i16))))), false)], res := [(.ro (.int .i64))], slots := [.tmp 2], code := bd Try.f84, callee := fun r i => find 0 [(4005, 85), (9007, 165)] (r * 1000 + i), loops := fun b => find [] [(2, [.own 0 (.ro (.slc (.slc (.arr 2 (.int .i16))))), .own 3 (.ro (.int .i64)), .own 4 (.ro (.int .i64))]), (0, [.own 0 (.ro (.slc (.slc (.arr 2 (.int .i16))))), .own 3 (.ro (.int .i64))])] b }
/- spec.l01Size -/
noncomputable def I106 : Inst := { f := 106, nt := 8, params := [((.ro (.int .i64)), false)], res := [(.ro (.int .i64))], slots := [.tmp 2], code := bd Try.f106 }
/- spec.l00Max -/
noncomputable def I98 : Inst := { f := 98, nt := 10, params := [((.ro (.int .i64)), false), ((.ro (.int .i64)), false)], res := [(.ro (.int .i64))], slots := [.tmp 4], code := bd Try.f98 }
/- spec.l07Far -/
noncomputable def I219 : Inst := { f := 219, nt := 22, params := [((.ro (.arr 2 (.int .i16))), false), ((.ro (.arr 2 (.int .i16))), false)], res := [(.ro (.int .i64))], slots := [.tmp 4], code := bd Try.f219, callee := fun r i => find 0 [(1007, 106), (1015, 106), (1016, 98)] (r * 1000 + i) }
/- spec.l01Near -/
noncomputable def I179 : Inst := { f := 179, nt := 23, params := [((.ro (.int .i64)), false), ((.ro (.int .i64)), false)], res := [(.ro (.int .i64))], slots := [.tmp 4], code := bd Try.f179 }
/- spec.l07Line -/
noncomputable def I202 : Inst := { f := 202, nt := 54, params := [((.ro (.arr 2 (.int .i16))), false), ((.ro (.arr 2 (.int .i16))), false)], res := [(.row false (.arr 2 (.int .i16)))], slots := [.tmp 4], code := bd Try.f202, callee := fun r i => find 0 [(1002, 219), (12017, 179)] (r * 1000 + i), loops := fun b => find [] [(2, [.own 2 (.box (.ro (.arr 2 (.int .i16)))), .own 3 (.box (.ro (.arr 2 (.int .i16)))), .own 5 (.ro (.int .i64)), .own 6 (.row false (.arr 2 (.int .i16))), .own 7 (.ro (.int .i64)), .own 8 (.box (.ro (.arr 2 (.int .i16)))), .own 9 (.ro (.int .i64))]), (0, [.own 2 (.box (.ro (.arr 2 (.int .i16)))), .own 3 (.box (.ro (.arr 2 (.int .i16)))), .own 5 (.ro (.int .i64)), .own 6 (.row false (.arr 2 (.int .i16))), .own 7 (.ro (.int .i64))])] b, deep := fun r i => find false [(3001, true), (4000, true), (13002, true), (13003, true)] (r * 1000 + i) }
/- spec.l00Min -/
noncomputable def I184 : Inst := { f := 184, nt := 10, params := [((.ro (.int .i64)), false), ((.ro (.int .i64)), false)], res := [(.ro (.int .i64))], slots := [.tmp 4], code := bd Try.f184 }
/- spec.l07Marks -/
noncomputable def I203 : Inst := { f := 203, nt := 26, params := [((.ro (.slc (.arr 2 (.int .i16)))), false), ((.ro (.slc (.arr 2 (.int .i16)))), false)], res := [(.ro .bool)], slots := [.tmp 4], code := bd Try.f203, loops := fun b => find [] [(0, [.own 0 (.ro (.slc (.arr 2 (.int .i16)))), .own 1 (.ro (.slc (.arr 2 (.int .i16)))), .own 5 (.ro (.int .i64))])] b }
/- spec.l07Plan).stop -/
noncomputable def I167 : Inst := { f := 167, nt := 22, params := [((.box (.pr (.ro (.arr 2 (.int .i16))) (.pr (.row false (.pair (.arr 2 (.int .i16)) (.pair .bool .unit))) (.pr (.ro (.int .i64)) (.ro .unit))))), true), ((.ro (.arr 2 (.int .i16))), false), ((.ro .bool), false)], res := [], slots := [], code := bd Try.f167, pins := [0] }
/- spec.l07Plan).goTo -/
noncomputable def I166 : Inst := { f := 166, nt := 59, params := [((.box (.pr (.ro (.arr 2 (.int .i16))) (.pr (.row false (.pair (.arr 2 (.int .i16)) (.pair .bool .unit))) (.pr (.ro (.int .i64)) (.ro .unit))))), true), ((.ro (.arr 2 (.int .i16))), false), ((.ro .bool), false)], res := [], slots := [], code := bd Try.f166, callee := fun r i => find 0 [(1005, 202), (5007, 184), (6010, 202), (6016, 203), (8006, 167)] (r * 1000 + i), loops := fun b => find [] [(2, [.own 0 (.box (.pr (.ro (.arr 2 (.int .i16))) (.pr (.row false (.pair (.arr 2 (.int .i16)) (.pair .bool .unit))) (.pr (.ro (.int .i64)) (.ro .unit))))), .own 2 (.ro .bool), .own 6 (.ro (.slc (.arr 2 (.int .i16)))), .own 7 (.ro (.int .i64)), .own 8 (.ro (.int .i64)), .own 9 (.ro (.int .i64))]), (0, [.own 0 (.box (.pr (.ro (.arr 2 (.int .i16))) (.pr (.row false (.pair (.arr 2 (.int .i16)) (.pair .bool .unit))) (.pr (.ro (.int .i64)) (.ro .unit))))), .own 2 (.ro .bool), .own 6 (.ro (.slc (.arr 2 (.int .i16)))), .own 7 (.ro (.int .i64)), .own 8 (.ro (.int .i64))])] b, pins := [0] }
/- spec.l07Planned -/
noncomputable def I86 : Inst := { f := 86, nt := 59, params := [((.ro (.slc (.slc (.arr 2 (.int .i16))))), false), ((.ro (.int .i64)), false)], res := [(.row false (.pair (.arr 2 (.int .i16)) (.pair .bool .unit)))], slots := [.tmp 4], code := bd Try.f86, callee := fun r i => find 0 [(5007, 166), (6007, 167), (10008, 166), (11002, 166)] (r * 1000 + i), loops := fun b => find [] [(2, [.own 0 (.ro (.slc (.slc (.arr 2 (.int .i16))))), .own 5 (.box (.pr (.ro (.arr 2 (.int .i16))) (.pr (.row false (.pair (.arr 2 (.int .i16)) (.pair .bool .unit))) (.pr (.ro (.int .i64)) (.ro .unit))))), .own 6 (.ro (.int .i64)), .own 7 (.ro (.int .i64))]), (0, [.own 0 (.ro (.slc (.slc (.arr 2 (.int .i16))))), .own 5 (.box (.pr (.ro (.arr 2 (.int .i16))) (.pr (.row false (.pair (.arr 2 (.int .i16)) (.pair .bool .unit))) (.pr (.ro (.int .i64)) (.ro .unit))))), .own 6 (.ro (.int .i64))])] b, deep := fun r i => find false [(1000, true)] (r * 1000 + i) }
/- spec.PlanStops -/
noncomputable def I19 : Inst := { f := 19, nt := 29, params := [((.ro (.slc (.slc (.arr 2 (.int .i16))))), false), ((.ro (.int .i64)), false)], res := [(.row false (.pair (.arr 2 (.int .i16)) (.pair .bool .unit))), (.ro (.int .i64))], slots := [.tmp 4, .tmp 5], code := bd Try.f19, callee := fun r i => find 0 [(1001, 84), (2004, 85), (6002, 86)] (r * 1000 + i), deep := fun r i => find false [(5000, true), (8000, true)] (r * 1000 + i) }
/- spec.l07For -/
noncomputable def I97 : Inst := { f := 97, nt := 51, params := [((.ro (.slc (.pair (.arr 2 (.int .i16)) (.pair .bool .unit)))), false), ((.ro (.int .i64)), false)], res := [(.pr (.row false (.int .i16)) (.pr (.row false (.int .i16)) (.pr (.row false (.int .i16)) (.ro .unit))))], slots := [.cell 4 31], code := bd Try.f97, loops := fun b => find [] [(0, [.own 0 (.ro (.slc (.pair (.arr 2 (.int .i16)) (.pair .bool .unit)))), .own 1 (.ro (.int .i64)), .own 4 (.box (.ro (.pair (.slc (.int .i16)) (.pair (.slc (.int .i16)) (.pair (.slc (.int .i16)) .unit))))), .own 5 (.box (.pr (.row false (.int .i16)) (.pr (.row false (.int .i16)) (.pr (.row false (.int .i16)) (.ro .unit))))), .own 6 (.ro (.int .i64))])] b, deep := fun r i => find false [(11004, true), (11005, true), (12004, true), (12005, true), (13003, true), (13004, true)] (r * 1000 + i) }
/- spec.CompileStrokes -/
noncomputable def I25 : Inst := { f := 25, nt := 23, params := [((.ro (.slc (.slc (.arr 2 (.int .i16))))), false), ((.ro (.int .i64)), false)], res := [(.pr (.row false (.int .i16)) (.pr (.row false (.int .i16)) (.pr (.row false (.int .i16)) (.ro .unit)))), (.ro (.int .i64))], slots := [.cell 4 31, .tmp 5], code := bd Try.f25, callee := fun r i => find 0 [(1002, 19), (4003, 98), (4004, 97)] (r * 1000 + i) }
/- impl.inRange -/
noncomputable def I91 : Inst := { f := 91, nt := 15, params := [((.ro (.int .i64)), false), ((.ro (.int .i64)), false), ((.ro (.int .i64)), false)], res := [(.ro .bool)], slots := [.tmp 6], code := bd Try.f91 }
/- impl.ValidMark -/
noncomputable def I173 : Inst := { f := 173, nt := 13, params := [((.ro (.arr 2 (.int .i16))), false)], res := [(.ro .bool)], slots := [.tmp 2], code := bd Try.f173, callee := fun r i => find 0 [(1003, 91), (1008, 91)] (r * 1000 + i) }
/- impl.strokesCode$1$1 -/
noncomputable def I172 : Inst := { f := 172, nt := 6, params := [((.ro (.arr 2 (.int .i16))), false)], res := [(.ro .bool)], slots := [.tmp 2], code := bd Try.f172, callee := fun r i => find 0 [(1001, 173)] (r * 1000 + i) }
/- impl.Mark] -/
noncomputable def I205 : Inst := { f := 205, nt := 19, params := [((.ro (.slc (.arr 2 (.int .i16)))), false), ((.clo 172 (.ro .unit) (.ro .unit)), false)], res := [(.ro (.int .i64))], slots := [.tmp 4], code := bd Try.f205, callee := fun r i => find 0 [(4005, 172)] (r * 1000 + i), loops := fun b => find [] [(0, [.own 0 (.ro (.slc (.arr 2 (.int .i16)))), .own 1 (.clo 172 (.ro .unit) (.ro .unit)), .own 7 (.ro (.int .i64)), .own 8 (.ro (.int .i64))])] b }
/- impl.Mark] -/
noncomputable def I171 : Inst := { f := 171, nt := 9, params := [((.ro (.slc (.arr 2 (.int .i16)))), false), ((.clo 172 (.ro .unit) (.ro .unit)), false)], res := [(.ro .bool)], slots := [.tmp 4], code := bd Try.f171, callee := fun r i => find 0 [(1002, 205)] (r * 1000 + i) }
/- impl.strokesCode$1 -/
noncomputable def I170 : Inst := { f := 170, nt := 11, params := [((.ro (.slc (.arr 2 (.int .i16)))), false)], res := [(.ro .bool)], slots := [.tmp 2], code := bd Try.f170, callee := fun r i => find 0 [(1002, 91), (1006, 171)] (r * 1000 + i) }
/- impl.Stroke] -/
noncomputable def I204 : Inst := { f := 204, nt := 19, params := [((.ro (.slc (.slc (.arr 2 (.int .i16))))), false), ((.clo 170 (.ro .unit) (.ro .unit)), false)], res := [(.ro (.int .i64))], slots := [.tmp 4], code := bd Try.f204, callee := fun r i => find 0 [(4005, 170)] (r * 1000 + i), loops := fun b => find [] [(0, [.own 0 (.ro (.slc (.slc (.arr 2 (.int .i16))))), .own 1 (.clo 170 (.ro .unit) (.ro .unit)), .own 7 (.ro (.int .i64)), .own 8 (.ro (.int .i64))])] b }
/- impl.Stroke] -/
noncomputable def I169 : Inst := { f := 169, nt := 9, params := [((.ro (.slc (.slc (.arr 2 (.int .i16))))), false), ((.clo 170 (.ro .unit) (.ro .unit)), false)], res := [(.ro .bool)], slots := [.tmp 4], code := bd Try.f169, callee := fun r i => find 0 [(1002, 204)] (r * 1000 + i) }
/- impl.codeIf -/
noncomputable def I90 : Inst := { f := 90, nt := 7, params := [((.ro .bool), false), ((.ro (.int .i64)), false)], res := [(.ro (.int .i64))], slots := [.tmp 4], code := bd Try.f90 }
/- impl.firstCode -/
noncomputable def I88 : Inst := { f := 88, nt := 15, params := [((.ro (.slc (.int .i64))), false)], res := [(.ro (.int .i64))], slots := [.tmp 2], code := bd Try.f88, loops := fun b => find [] [(0, [.own 5 (.ro (.slc (.int .i64))), .own 6 (.ro (.int .i64)), .own 7 (.ro (.int .i64))])] b }
/- impl.strokesCode -/
noncomputable def I89 : Inst := { f := 89, nt := 14, params := [((.ro (.slc (.slc (.arr 2 (.int .i16))))), false)], res := [(.ro (.int .i64))], slots := [.tmp 2], code := bd Try.f89, callee := fun r i => find 0 [(1001, 169), (2001, 90), (2005, 90), (2007, 88)] (r * 1000 + i), deep := fun r i => find false [(2006, true)] (r * 1000 + i) }
/- impl.abs -/
noncomputable def I116 : Inst := { f := 116, nt := 7, params := [((.ro (.int .i64)), false)], res := [(.ro (.int .i64))], slots := [.tmp 2], code := bd Try.f116 }
/- impl.between -/
noncomputable def I206 : Inst := { f := 206, nt := 22, params := [((.ro (.arr 2 (.int .i16))), false), ((.ro (.arr 2 (.int .i16))), false)], res := [(.ro (.int .i64))], slots := [.tmp 4], code := bd Try.f206, callee := fun r i => find 0 [(1007, 116), (1015, 116)] (r * 1000 + i) }
/- impl.floorDiv -/
noncomputable def I210 : Inst := { f := 210, nt := 16, params := [((.ro (.int .i64)), false), ((.ro (.int .i64)), false)], res := [(.ro (.int .i64))], slots := [.tmp 4], code := bd Try.f210 }
/- impl.nearest -/
noncomputable def I207 : Inst := { f := 207, nt := 12, params := [((.ro (.int .i64)), false), ((.ro (.int .i64)), false)], res := [(.ro (.int .i64))], slots := [.tmp 4], code := bd Try.f207, callee := fun r i => find 0 [(1006, 210)] (r * 1000 + i) }
/- impl.lineOf -/
noncomputable def I174 : Inst := { f := 174, nt := 57, params := [((.ro (.arr 2 (.int .i16))), false), ((.ro (.arr 2 (.int .i16))), false)], res := [(.row false (.arr 2 (.int .i16)))], slots := [.tmp 4], code := bd Try.f174, callee := fun r i => find 0 [(1004, 206), (10009, 207)] (r * 1000 + i), loops := fun b => find [] [(2, [.own 2 (.box (.ro (.arr 2 (.int .i16)))), .own 3 (.box (.ro (.arr 2 (.int .i16)))), .own 5 (.row false (.arr 2 (.int .i16))), .own 6 (.ro (.int .i64)), .own 7 (.ro (.int .i64)), .own 8 (.box (.ro (.arr 2 (.int .i16)))), .own 23 (.ro (.int .i64))]), (0, [.own 2 (.box (.ro (.arr 2 (.int .i16)))), .own 3 (.box (.ro (.arr 2 (.int .i16)))), .own 5 (.row false (.arr 2 (.int .i16))), .own 6 (.ro (.int .i64)), .own 7 (.ro (.int .i64))])] b, deep := fun r i => find false [(1001, true), (12002, true), (12003, true)] (r * 1000 + i) }
/- impl.planner).stand -/
noncomputable def I93 : Inst := { f := 93, nt := 22, params := [((.box (.pr (.ro (.int .i64)) (.pr (.ro (.arr 2 (.int .i16))) (.pr (.row false (.pair (.arr 2 (.int .i16)) (.pair .bool .unit))) (.ro .unit))))), true), ((.ro (.arr 2 (.int .i16))), false), ((.ro .bool), false)], res := [], slots := [], code := bd Try.f93, pins := [0] }
/- impl.planner).goUp -/
noncomputable def I92 : Inst := { f := 92, nt := 40, params := [((.box (.pr (.ro (.int .i64)) (.pr (.ro (.arr 2 (.int .i16))) (.pr (.row false (.pair (.arr 2 (.int .i16)) (.pair .bool .unit))) (.ro .unit))))), true), ((.ro (.arr 2 (.int .i16))), false)], res := [], slots := [], code := bd Try.f92, callee := fun r i => find 0 [(1005, 174), (7005, 93), (8002, 93)] (r * 1000 + i), loops := fun b => find [] [(0, [.own 0 (.box (.pr (.ro (.int .i64)) (.pr (.ro (.arr 2 (.int .i16))) (.pr (.row false (.pair (.arr 2 (.int .i16)) (.pair .bool .unit))) (.ro .unit))))), .own 3 (.box (.ro (.arr 2 (.int .i16)))), .own 4 (.ro (.slc (.arr 2 (.int .i16)))), .own 5 (.ro (.int .i64)), .own 6 (.ro (.int .i64))])] b, pins := [0] }
/- impl.Mark] -/
noncomputable def I175 : Inst := { f := 175, nt := 26, params := [((.ro (.slc (.arr 2 (.int .i16)))), false), ((.ro (.slc (.arr 2 (.int .i16)))), false)], res := [(.ro .bool)], slots := [.tmp 4], code := bd Try.f175, loops := fun b => find [] [(0, [.own 0 (.ro (.slc (.arr 2 (.int .i16)))), .own 1 (.ro (.slc (.arr 2 (.int .i16)))), .own 12 (.ro (.int .i64)), .own 13 (.ro (.int .i64))])] b }
/- impl.planner).goDown -/
noncomputable def I94 : Inst := { f := 94, nt := 53, params := [((.box (.pr (.ro (.int .i64)) (.pr (.ro (.arr 2 (.int .i16))) (.pr (.row false (.pair (.arr 2 (.int .i16)) (.pair .bool .unit))) (.ro .unit))))), true), ((.ro (.arr 2 (.int .i16))), false)], res := [], slots := [], code := bd Try.f94, callee := fun r i => find 0 [(1005, 174), (5008, 174), (5014, 175), (7005, 93)] (r * 1000 + i), loops := fun b => find [] [(2, [.own 0 (.box (.pr (.ro (.int .i64)) (.pr (.ro (.arr 2 (.int .i16))) (.pr (.row false (.pair (.arr 2 (.int .i16)) (.pair .bool .unit))) (.ro .unit))))), .own 4 (.ro (.slc (.arr 2 (.int .i16)))), .own 5 (.ro (.int .i64)), .own 6 (.ro (.int .i64))]), (0, [.own 0 (.box (.pr (.ro (.int .i64)) (.pr (.ro (.arr 2 (.int .i16))) (.pr (.row false (.pair (.arr 2 (.int .i16)) (.pair .bool .unit))) (.ro .unit))))), .own 4 (.ro (.slc (.arr 2 (.int .i16)))), .own 5 (.ro (.int .i64))])] b, pins := [0] }
/- impl.Stop] -/
noncomputable def I95 : Inst := { f := 95, nt := 8, params := [((.ro (.slc (.pair (.arr 2 (.int .i16)) (.pair .bool .unit)))), false)], res := [(.row false (.pair (.arr 2 (.int .i16)) (.pair .bool .unit)))], slots := [.tmp 2], code := bd Try.f95 }
/- impl.PlanStops -/
noncomputable def I21 : Inst := { f := 21, nt := 68, params := [((.ro (.slc (.slc (.arr 2 (.int .i16))))), false), ((.ro (.int .i64)), false)], res := [(.row false (.pair (.arr 2 (.int .i16)) (.pair .bool .unit))), (.ro (.int .i64))], slots := [.tmp 4, .tmp 5], code := bd Try.f21, callee := fun r i => find 0 [(1001, 89), (1003, 91), (1005, 90), (1007, 88), (8004, 92), (9004, 93), (13002, 94), (16002, 92), (19004, 95)] (r * 1000 + i), loops := fun b => find [] [(2, [.own 7 (.box (.pr (.ro (.int .i64)) (.pr (.ro (.arr 2 (.int .i16))) (.pr (.row false (.pair (.arr 2 (.int .i16)) (.pair .bool .unit))) (.ro .unit))))), .own 26 (.ro (.slc (.slc (.arr 2 (.int .i16))))), .own 27 (.ro (.int .i64)), .own 28 (.ro (.int .i64)), .own 43 (.ro (.slc (.arr 2 (.int .i16)))), .own 44 (.ro (.int .i64)), .own 45 (.ro (.int .i64))]), (0, [.own 7 (.box (.pr (.ro (.int .i64)) (.pr (.ro (.arr 2 (.int .i16))) (.pr (.row false (.pair (.arr 2 (.int .i16)) (.pair .bool .unit))) (.ro .unit))))), .own 26 (.ro (.slc (.slc (.arr 2 (.int .i16))))), .own 27 (.ro (.int .i64)), .own 28 (.ro (.int .i64))])] b, deep := fun r i => find false [(1006, true)] (r * 1000 + i) }
/- impl.isPlace -/
noncomputable def I176 : Inst := { f := 176, nt := 9, params := [((.ro (.int .i64)), false), ((.ro (.int .i64)), false)], res := [(.ro .bool)], slots := [.tmp 4], code := bd Try.f176, callee := fun r i => find 0 [(1003, 91)] (r * 1000 + i) }
/- impl.machineFor -/
noncomputable def I99 : Inst := { f := 99, nt := 49, params := [((.ro (.slc (.pair (.arr 2 (.int .i16)) (.pair .bool .unit)))), false), ((.ro (.int .i64)), false)], res := [(.pr (.row false (.int .i16)) (.pr (.row false (.int .i16)) (.pr (.row false (.int .i16)) (.ro .unit))))], slots := [.cell 4 31], code := bd Try.f99, callee := fun r i => find 0 [(6003, 176)] (r * 1000 + i), loops := fun b => find [] [(0, [.own 0 (.ro (.slc (.pair (.arr 2 (.int .i16)) (.pair .bool .unit)))), .own 4 (.box (.ro (.pair (.slc (.int .i16)) (.pair (.slc (.int .i16)) (.pair (.slc (.int .i16)) .unit))))), .own 5 (.box (.pr (.row false (.int .i16)) (.pr (.row false (.int .i16)) (.pr (.row false (.int .i16)) (.ro .unit))))), .own 10 (.ro (.int .i64)), .own 11 (.ro (.int .i64))])] b, deep := fun r i => find false [(11005, true), (11006, true), (11012, true), (11013, true), (11017, true), (11018, true)] (r * 1000 + i) }
/- impl.CompileStrokes -/
noncomputable def I26 : Inst := { f := 26, nt := 23, params := [((.ro (.slc (.slc (.arr 2 (.int .i16))))), false), ((.ro (.int .i64)), false)], res := [(.pr (.row false (.int .i16)) (.pr (.row false (.int .i16)) (.pr (.row false (.int .i16)) (.ro .unit)))), (.ro (.int .i64))], slots := [.cell 4 31, .tmp 5], code := bd Try.f26, callee := fun r i => find 0 [(1002, 21), (4004, 99)] (r * 1000 + i) }
/- laws.eqCam -/
noncomputable def I79 : Inst := { f := 79, nt := 26, params := [((.ro (.slc (.int .i16))), false), ((.ro (.slc (.int .i16))), false)], res := [(.ro .bool)], slots := [.tmp 4], code := bd Try.f79, loops := fun b => find [] [(0, [.own 0 (.ro (.slc (.int .i16))), .own 1 (.ro (.slc (.int .i16))), .own 5 (.ro (.int .i64))])] b }
/- laws.eqMachine -/
noncomputable def I14 : Inst := { f := 14, nt := 23, params := [((.ro (.pair (.slc (.int .i16)) (.pair (.slc (.int .i16)) (.pair (.slc (.int .i16)) .unit)))), false), ((.ro (.pair (.slc (.int .i16)) (.pair (.slc (.int .i16)) (.pair (.slc (.int .i16)) .unit)))), false)], res := [(.ro .bool)], slots := [.tmp 4], code := bd Try.f14, callee := fun r i => find 0 [(1004, 79), (3004, 79), (5004, 79)] (r * 1000 + i) }
/- laws.eqMark -/
noncomputable def I164 : Inst := { f := 164, nt := 17, params := [((.ro (.arr 2 (.int .i16))), false), ((.ro (.arr 2 (.int .i16))), false)], res := [(.ro .bool)], slots := [.tmp 4], code := bd Try.f164, loops := fun b => find [] [(0, [.own 2 (.box (.ro (.arr 2 (.int .i16)))), .own 3 (.box (.ro (.arr 2 (.int .i16)))), .own 5 (.ro (.int .i64))])] b }
/- laws.eqStroke -/
noncomputable def I78 : Inst := { f := 78, nt := 27, params := [((.ro (.slc (.arr 2 (.int .i16)))), false), ((.ro (.slc (.arr 2 (.int .i16)))), false)], res := [(.ro .bool)], slots := [.tmp 4], code := bd Try.f78, callee := fun r i => find 0 [(6008, 164)] (r * 1000 + i), loops := fun b => find [] [(0, [.own 0 (.ro (.slc (.arr 2 (.int .i16)))), .own 1 (.ro (.slc (.arr 2 (.int .i16)))), .own 5 (.ro (.int .i64))])] b }
/- laws.eqStrokeS -/
noncomputable def I13 : Inst := { f := 13, nt := 27, params := [((.ro (.slc (.slc (.arr 2 (.int .i16))))), false), ((.ro (.slc (.slc (.arr 2 (.int .i16))))), false)], res := [(.ro .bool)], slots := [.tmp 4], code := bd Try.f13, callee := fun r i => find 0 [(6008, 78)] (r * 1000 + i), loops := fun b => find [] [(0, [.own 0 (.ro (.slc (.slc (.arr 2 (.int .i16))))), .own 1 (.ro (.slc (.slc (.arr 2 (.int .i16))))), .own 5 (.ro (.int .i64))])] b }
/- laws.markStroke -/
noncomputable def I81 : Inst := { f := 81, nt := 27, params := [((.row false (.arr 2 (.int .i16))), true), ((.ro (.int .i64)), false)], res := [(.ro (.int .i64))], slots := [.tmp 4], code := bd Try.f81, loops := fun b => find [] [(2, [.own 0 (.row false (.arr 2 (.int .i16))), .own 1 (.ro (.int .i64)), .own 5 (.ro (.int .i64)), .own 6 (.ro (.int .i64))]), (0, [.own 0 (.row false (.arr 2 (.int .i16))), .own 1 (.ro (.int .i64)), .own 5 (.ro (.int .i64))])] b, pins := [0] }
/- laws.markStrokeS -/
noncomputable def I16 : Inst := { f := 16, nt := 19, params := [((.row true (.slc (.arr 2 (.int .i16)))), true), ((.ro (.int .i64)), false)], res := [(.ro (.int .i64))], slots := [.tmp 4], code := bd Try.f16, callee := fun r i => find 0 [(4005, 81)] (r * 1000 + i), loops := fun b => find [] [(0, [.own 0 (.row true (.slc (.arr 2 (.int .i16)))), .own 1 (.ro (.int .i64)), .own 5 (.ro (.int .i64))])] b, pins := [0], deep := fun r i => find false [(4003, true)] (r * 1000 + i) }
/- laws.markCam -/
noncomputable def I80 : Inst := { f := 80, nt := 20, params := [((.row false (.int .i16)), true), ((.ro (.int .i64)), false)], res := [(.ro (.int .i64))], slots := [.tmp 4], code := bd Try.f80, loops := fun b => find [] [(0, [.own 0 (.row false (.int .i16)), .own 1 (.ro (.int .i64)), .own 5 (.ro (.int .i64))])] b, pins := [0] }
/- laws.markMachine -/
noncomputable def I15 : Inst := { f := 15, nt := 18, params := [((.pr (.row false (.int .i16)) (.pr (.row false (.int .i16)) (.pr (.row false (.int .i16)) (.ro .unit)))), true), ((.ro (.int .i64)), false)], res := [(.ro (.int .i64))], slots := [.tmp 4], code := bd Try.f15, callee := fun r i => find 0 [(1003, 80), (2003, 80), (3003, 80)] (r * 1000 + i), pins := [0] }
/- laws.heldCam -/
noncomputable def I100 : Inst := { f := 100, nt := 22, params := [((.ro (.slc (.int .i16))), false), ((.ro (.int .i64)), false)], res := [(.ro (.int .i64))], slots := [.tmp 4], code := bd Try.f100, loops := fun b => find [] [(0, [.own 0 (.ro (.slc (.int .i16))), .own 1 (.ro (.int .i64)), .own 5 (.ro (.int .i64))])] b }
/- laws.heldMachine -/
noncomputable def I27 : Inst := { f := 27, nt := 24, params := [((.ro (.pair (.slc (.int .i16)) (.pair (.slc (.int .i16)) (.pair (.slc (.int .i16)) .unit)))), false), ((.ro (.int .i64)), false)], res := [(.ro (.int .i64))], slots := [.tmp 4], code := bd Try.f27, callee := fun r i => find 0 [(1003, 100), (4003, 100), (7003, 100)] (r * 1000 + i) }
/- laws.FnExactCompileStrokes -/
noncomputable def I5 : Inst := { f := 5, nt := 101, params := [((.ro (.slc (.slc (.arr 2 (.int .i16))))), false), ((.ro (.int .i64)), false)], res := [(.ro .bool)], slots := [.tmp 4], code := bd Try.f5, callee := fun r i => find 0 [(2002, 18), (5001, 20), (5003, 25), (6001, 20), (7002, 26), (8002, 14), (10002, 20), (10003, 13), (13002, 16), (14005, 14), (17002, 15), (19002, 27), (24001, 20), (24003, 26), (25002, 14), (28002, 27)] (r * 1000 + i) }
noncomputable def C : Nat → Inst := find I83 [(83, I83), (18, I18), (168, I168), (87, I87), (20, I20), (85, I85), (165, I165), (84, I84), (106, I106), (98, I98), (219, I219), (179, I179), (202, I202), (184, I184), (203, I203), (167, I167), (166, I166), (86, I86), (19, I19), (97, I97), (25, I25), (91, I91), (173, I173), (172, I172), (205, I205), (171, I171), (170, I170), (204, I204), (169, I169), (90, I90), (88, I88), (89, I89), (116, I116), (206, I206), (210, I210), (207, I207), (174, I174), (93, I93), (92, I92), (175, I175), (94, I94), (95, I95), (21, I21), (176, I176), (99, I99), (26, I26), (79, I79), (14, I14), (164, I164), (78, I78), (13, I13), (81, I81), (16, I16), (80, I80), (15, I15), (100, I100), (27, I27), (5, I5)]
theorem tsOk : TsOk Try.prog T := tsOkB_sound (by kernel_rfl)
theorem ok83 : InstOk Try.prog I83 := instOk_of Try.func83 (by kernel_rfl) (by kernel_rfl) (by kernel_rfl) (by kernel_rfl)
theorem ok18 : InstOk Try.prog I18 := instOk_of Try.func18 (by kernel_rfl) (by kernel_rfl) (by kernel_rfl) (by kernel_rfl)
theorem ok168 : InstOk Try.prog I168 := instOk_of Try.func168 (by kernel_rfl) (by kernel_rfl) (by kernel_rfl) (by kernel_rfl)
theorem ok87 : InstOk Try.prog I87 := instOk_of Try.func87 (by kernel_rfl) (by kernel_rfl) (by kernel_rfl) (by kernel_rfl)
theorem ok20 : InstOk Try.prog I20 := instOk_of Try.func20 (by kernel_rfl) (by kernel_rfl) (by kernel_rfl) (by kernel_rfl)
theorem ok85 : InstOk Try.prog I85 := instOk_of Try.func85 (by kernel_rfl) (by kernel_rfl) (by kernel_rfl) (by kernel_rfl)
theorem ok165 : InstOk Try.prog I165 := instOk_of Try.func165 (by kernel_rfl) (by kernel_rfl) (by kernel_rfl) (by kernel_rfl)
theorem ok84 : InstOk Try.prog I84 := instOk_of Try.func84 (by kernel_rfl) (by kernel_rfl) (by kernel_rfl) (by kernel_rfl)
theorem ok106 : InstOk Try.prog I106 := instOk_of Try.func106 (by kernel_rfl) (by kernel_rfl) (by kernel_rfl) (by kernel_rfl)
theorem ok98 : InstOk Try.prog I98 := instOk_of Try.func98 (by kernel_rfl) (by kernel_rfl) (by kernel_rfl) (by kernel_rfl)
theorem ok219 : InstOk Try.prog I219 := instOk_of Try.func219 (by kernel_rfl) (by kernel_rfl) (by kernel_rfl) (by kernel_rfl)
theorem ok179 : InstOk Try.prog I179 := instOk_of Try.func179 (by kernel_rfl) (by kernel_rfl) (by kernel_rfl) (by kernel_rfl)
theorem ok202 : InstOk Try.prog I202 := instOk_of Try.func202 (by kernel_rfl) (by kernel_rfl) (by kernel_rfl) (by kernel_rfl)
theorem ok184 : InstOk Try.prog I184 := instOk_of Try.func184 (by kernel_rfl) (by kernel_rfl) (by kernel_rfl) (by kernel_rfl)
theorem ok203 : InstOk Try.prog I203 := instOk_of Try.func203 (by kernel_rfl) (by kernel_rfl) (by kernel_rfl) (by kernel_rfl)
theorem ok167 : InstOk Try.prog I167 := instOk_of Try.func167 (by kernel_rfl) (by kernel_rfl) (by kernel_rfl) (by kernel_rfl)
theorem ok166 : InstOk Try.prog I166 := instOk_of Try.func166 (by kernel_rfl) (by kernel_rfl) (by kernel_rfl) (by kernel_rfl)
theorem ok86 : InstOk Try.prog I86 := instOk_of Try.func86 (by kernel_rfl) (by kernel_rfl) (by kernel_rfl) (by kernel_rfl)
theorem ok19 : InstOk Try.prog I19 := instOk_of Try.func19 (by kernel_rfl) (by kernel_rfl) (by kernel_rfl) (by kernel_rfl)
theorem ok97 : InstOk Try.prog I97 := instOk_of Try.func97 (by kernel_rfl) (by kernel_rfl) (by kernel_rfl) (by kernel_rfl)
theorem ok25 : InstOk Try.prog I25 := instOk_of Try.func25 (by kernel_rfl) (by kernel_rfl) (by kernel_rfl) (by kernel_rfl)
theorem ok91 : InstOk Try.prog I91 := instOk_of Try.func91 (by kernel_rfl) (by kernel_rfl) (by kernel_rfl) (by kernel_rfl)
theorem ok173 : InstOk Try.prog I173 := instOk_of Try.func173 (by kernel_rfl) (by kernel_rfl) (by kernel_rfl) (by kernel_rfl)
theorem ok172 : InstOk Try.prog I172 := instOk_of Try.func172 (by kernel_rfl) (by kernel_rfl) (by kernel_rfl) (by kernel_rfl)
theorem ok205 : InstOk Try.prog I205 := instOk_of Try.func205 (by kernel_rfl) (by kernel_rfl) (by kernel_rfl) (by kernel_rfl)
theorem ok171 : InstOk Try.prog I171 := instOk_of Try.func171 (by kernel_rfl) (by kernel_rfl) (by kernel_rfl) (by kernel_rfl)
theorem ok170 : InstOk Try.prog I170 := instOk_of Try.func170 (by kernel_rfl) (by kernel_rfl) (by kernel_rfl) (by kernel_rfl)
theorem ok204 : InstOk Try.prog I204 := instOk_of Try.func204 (by kernel_rfl) (by kernel_rfl) (by kernel_rfl) (by kernel_rfl)
theorem ok169 : InstOk Try.prog I169 := instOk_of Try.func169 (by kernel_rfl) (by kernel_rfl) (by kernel_rfl) (by kernel_rfl)
theorem ok90 : InstOk Try.prog I90 := instOk_of Try.func90 (by kernel_rfl) (by kernel_rfl) (by kernel_rfl) (by kernel_rfl)
theorem ok88 : InstOk Try.prog I88 := instOk_of Try.func88 (by kernel_rfl) (by kernel_rfl) (by kernel_rfl) (by kernel_rfl)
theorem ok89 : InstOk Try.prog I89 := instOk_of Try.func89 (by kernel_rfl) (by kernel_rfl) (by kernel_rfl) (by kernel_rfl)
theorem ok116 : InstOk Try.prog I116 := instOk_of Try.func116 (by kernel_rfl) (by kernel_rfl) (by kernel_rfl) (by kernel_rfl)
theorem ok206 : InstOk Try.prog I206 := instOk_of Try.func206 (by kernel_rfl) (by kernel_rfl) (by kernel_rfl) (by kernel_rfl)
theorem ok210 : InstOk Try.prog I210 := instOk_of Try.func210 (by kernel_rfl) (by kernel_rfl) (by kernel_rfl) (by kernel_rfl)
theorem ok207 : InstOk Try.prog I207 := instOk_of Try.func207 (by kernel_rfl) (by kernel_rfl) (by kernel_rfl) (by kernel_rfl)
theorem ok174 : InstOk Try.prog I174 := instOk_of Try.func174 (by kernel_rfl) (by kernel_rfl) (by kernel_rfl) (by kernel_rfl)
theorem ok93 : InstOk Try.prog I93 := instOk_of Try.func93 (by kernel_rfl) (by kernel_rfl) (by kernel_rfl) (by kernel_rfl)
theorem ok92 : InstOk Try.prog I92 := instOk_of Try.func92 (by kernel_rfl) (by kernel_rfl) (by kernel_rfl) (by kernel_rfl)
theorem ok175 : InstOk Try.prog I175 := instOk_of Try.func175 (by kernel_rfl) (by kernel_rfl) (by kernel_rfl) (by kernel_rfl)
theorem ok94 : InstOk Try.prog I94 := instOk_of Try.func94 (by kernel_rfl) (by kernel_rfl) (by kernel_rfl) (by kernel_rfl)
theorem ok95 : InstOk Try.prog I95 := instOk_of Try.func95 (by kernel_rfl) (by kernel_rfl) (by kernel_rfl) (by kernel_rfl)
theorem ok21 : InstOk Try.prog I21 := instOk_of Try.func21 (by kernel_rfl) (by kernel_rfl) (by kernel_rfl) (by kernel_rfl)
theorem ok176 : InstOk Try.prog I176 := instOk_of Try.func176 (by kernel_rfl) (by kernel_rfl) (by kernel_rfl) (by kernel_rfl)
theorem ok99 : InstOk Try.prog I99 := instOk_of Try.func99 (by kernel_rfl) (by kernel_rfl) (by kernel_rfl) (by kernel_rfl)
theorem ok26 : InstOk Try.prog I26 := instOk_of Try.func26 (by kernel_rfl) (by kernel_rfl) (by kernel_rfl) (by kernel_rfl)
theorem ok79 : InstOk Try.prog I79 := instOk_of Try.func79 (by kernel_rfl) (by kernel_rfl) (by kernel_rfl) (by kernel_rfl)
theorem ok14 : InstOk Try.prog I14 := instOk_of Try.func14 (by kernel_rfl) (by kernel_rfl) (by kernel_rfl) (by kernel_rfl)
theorem ok164 : InstOk Try.prog I164 := instOk_of Try.func164 (by kernel_rfl) (by kernel_rfl) (by kernel_rfl) (by kernel_rfl)
theorem ok78 : InstOk Try.prog I78 := instOk_of Try.func78 (by kernel_rfl) (by kernel_rfl) (by kernel_rfl) (by kernel_rfl)
theorem ok13 : InstOk Try.prog I13 := instOk_of Try.func13 (by kernel_rfl) (by kernel_rfl) (by kernel_rfl) (by kernel_rfl)
theorem ok81 : InstOk Try.prog I81 := instOk_of Try.func81 (by kernel_rfl) (by kernel_rfl) (by kernel_rfl) (by kernel_rfl)
theorem ok16 : InstOk Try.prog I16 := instOk_of Try.func16 (by kernel_rfl) (by kernel_rfl) (by kernel_rfl) (by kernel_rfl)
theorem ok80 : InstOk Try.prog I80 := instOk_of Try.func80 (by kernel_rfl) (by kernel_rfl) (by kernel_rfl) (by kernel_rfl)
theorem ok15 : InstOk Try.prog I15 := instOk_of Try.func15 (by kernel_rfl) (by kernel_rfl) (by kernel_rfl) (by kernel_rfl)
theorem ok100 : InstOk Try.prog I100 := instOk_of Try.func100 (by kernel_rfl) (by kernel_rfl) (by kernel_rfl) (by kernel_rfl)
theorem ok27 : InstOk Try.prog I27 := instOk_of Try.func27 (by kernel_rfl) (by kernel_rfl) (by kernel_rfl) (by kernel_rfl)
theorem ok5 : InstOk Try.prog I5 := instOk_of Try.func5 (by kernel_rfl) (by kernel_rfl) (by kernel_rfl) (by kernel_rfl)
theorem insts : ∀ j, InstOk Try.prog (C j) := find_all ok83 (List.forall_mem_cons.2 ⟨ok83, List.forall_mem_cons.2 ⟨ok18, List.forall_mem_cons.2 ⟨ok168, List.forall_mem_cons.2 ⟨ok87, List.forall_mem_cons.2 ⟨ok20, List.forall_mem_cons.2 ⟨ok85, List.forall_mem_cons.2 ⟨ok165, List.forall_mem_cons.2 ⟨ok84, List.forall_mem_cons.2 ⟨ok106, List.forall_mem_cons.2 ⟨ok98, List.forall_mem_cons.2 ⟨ok219, List.forall_mem_cons.2 ⟨ok179, List.forall_mem_cons.2 ⟨ok202, List.forall_mem_cons.2 ⟨ok184, List.forall_mem_cons.2 ⟨ok203, List.forall_mem_cons.2 ⟨ok167, List.forall_mem_cons.2 ⟨ok166, List.forall_mem_cons.2 ⟨ok86, List.forall_mem_cons.2 ⟨ok19, List.forall_mem_cons.2 ⟨ok97, List.forall_mem_cons.2 ⟨ok25, List.forall_mem_cons.2 ⟨ok91, List.forall_mem_cons.2 ⟨ok173, List.forall_mem_cons.2 ⟨ok172, List.forall_mem_cons.2 ⟨ok205, List.forall_mem_cons.2 ⟨ok171, List.forall_mem_cons.2 ⟨ok170, List.forall_mem_cons.2 ⟨ok204, List.forall_mem_cons.2 ⟨ok169, List.forall_mem_cons.2 ⟨ok90, List.forall_mem_cons.2 ⟨ok88, List.forall_mem_cons.2 ⟨ok89, List.forall_mem_cons.2 ⟨ok116, List.forall_mem_cons.2 ⟨ok206, List.forall_mem_cons.2 ⟨ok210, List.forall_mem_cons.2 ⟨ok207, List.forall_mem_cons.2 ⟨ok174, List.forall_mem_cons.2 ⟨ok93, List.forall_mem_cons.2 ⟨ok92, List.forall_mem_cons.2 ⟨ok175, List.forall_mem_cons.2 ⟨ok94, List.forall_mem_cons.2 ⟨ok95, List.forall_mem_cons.2 ⟨ok21, List.forall_mem_cons.2 ⟨ok176, List.forall_mem_cons.2 ⟨ok99, List.forall_mem_cons.2 ⟨ok26, List.forall_mem_cons.2 ⟨ok79, List.forall_mem_cons.2 ⟨ok14, List.forall_mem_cons.2 ⟨ok164, List.forall_mem_cons.2 ⟨ok78, List.forall_mem_cons.2 ⟨ok13, List.forall_mem_cons.2 ⟨ok81, List.forall_mem_cons.2 ⟨ok16, List.forall_mem_cons.2 ⟨ok80, List.forall_mem_cons.2 ⟨ok15, List.forall_mem_cons.2 ⟨ok100, List.forall_mem_cons.2 ⟨ok27, List.forall_mem_cons.2 ⟨ok5, fun _ h => absurd h List.not_mem_nil⟩⟩⟩⟩⟩⟩⟩⟩⟩⟩⟩⟩⟩⟩⟩⟩⟩⟩⟩⟩⟩⟩⟩⟩⟩⟩⟩⟩⟩⟩⟩⟩⟩⟩⟩⟩⟩⟩⟩⟩⟩⟩⟩⟩⟩⟩⟩⟩⟩⟩⟩⟩⟩⟩⟩⟩⟩⟩)
end Go.Proofs.Ytdhgdfofgeccgaa.LCompileStrokes
