/- The types and the functions that a law reaches, told for the reading (Fw). Written by a program (gen.py). -/
import Derived.Test.YtgcncghbeplgnaaDoorFwC
import Derived.Test.YtgcncghbeplgnaaDoorProg
import Derived.Lib.TrailingZeros
namespace Go.Proofs.YtgcncghbeplgnaaDoor.LCo
open Go Go.Fw
open Go.Proofs
noncomputable def tyL : List (Nat × TI) := [(2, ⟨(.int .i64), 0, 8⟩),
  (3, ⟨(.int .i64), 0, 8⟩),
  (4, ⟨.bool, 0, 1⟩),
  (5, ⟨(.int .u8), 0, 1⟩),
  (22, ⟨(.slc (.int .u8)), 5, 24⟩),
  (24, ⟨(.slc (.slc (.arr 2 (.int .i16)))), 62, 24⟩),
  (27, ⟨(.slc (.pair (.arr 2 (.int .i16)) (.pair .bool .unit))), 74, 24⟩),
  (31, ⟨(.slc (.int .i16)), 44, 24⟩),
  (33, ⟨(.pair (.slc (.int .i16)) (.pair (.slc (.int .i16)) (.pair (.slc (.int .i16)) .unit))), 0, 72⟩),
  (36, ⟨(.int .u64), 0, 8⟩),
  (38, ⟨(.arr 64 (.int .u64)), 36, 512⟩),
  (44, ⟨(.int .i16), 0, 2⟩),
  (46, ⟨(.arr 2 (.int .i16)), 44, 4⟩),
  (58, ⟨(.ptr (.pair (.slc (.int .u8)) (.pair (.int .i64) (.pair (.int .u64) .unit)))), 0, 8⟩),
  (61, ⟨(.slc (.arr 2 (.int .i16))), 46, 24⟩),
  (62, ⟨(.slc (.arr 2 (.int .i16))), 46, 24⟩),
  (67, ⟨(.ptr (.pair (.int .i64) (.pair (.arr 2 (.int .i16)) (.pair (.slc (.pair (.arr 2 (.int .i16)) (.pair .bool .unit))) .unit)))), 0, 8⟩),
  (69, ⟨(.pair (.int .i64) (.pair (.arr 2 (.int .i16)) (.pair (.slc (.pair (.arr 2 (.int .i16)) (.pair .bool .unit))) .unit))), 0, 40⟩),
  (74, ⟨(.pair (.arr 2 (.int .i16)) (.pair .bool .unit)), 0, 6⟩),
  (80, ⟨(.ptr (.arr 64 (.int .u64))), 0, 8⟩),
  (86, ⟨(.slc (.int .i64)), 2, 24⟩),
  (90, ⟨(.arr 2 (.slc (.int .i16))), 31, 48⟩),
  (94, ⟨.fn, 0, 8⟩),
  (95, ⟨.fn, 0, 8⟩),
  (99, ⟨(.ptr (.pair (.slc (.int .i16)) (.pair (.slc (.int .i16)) (.pair (.slc (.int .i16)) .unit)))), 0, 8⟩),
  (104, ⟨(.pair (.slc (.int .u8)) (.pair (.int .i64) (.pair (.int .u64) .unit))), 0, 40⟩),
  (108, ⟨.fn, 0, 8⟩),
  (110, ⟨(.ptr (.pair (.arr 2 (.int .i16)) (.pair (.slc (.pair (.arr 2 (.int .i16)) (.pair .bool .unit))) (.pair (.int .i64) .unit)))), 0, 8⟩),
  (112, ⟨(.pair (.arr 2 (.int .i16)) (.pair (.slc (.pair (.arr 2 (.int .i16)) (.pair .bool .unit))) (.pair (.int .i64) .unit))), 0, 40⟩),
  (114, ⟨(.int .u64), 0, 8⟩),
  (118, ⟨.fn, 0, 8⟩)]
noncomputable def T : Nat → Option TI := findT tyL
/- laws.f6big -/
noncomputable def I4 : Inst := { f := 4, nt := 6, params := [((.ro (.slc (.int .u8))), false)], res := [(.ro .bool)], slots := [.tmp 2], code := bd Tryd.f4 }
/- spec.l00From -/
noncomputable def I24 : Inst := { f := 24, nt := 6, params := [((.ro (.slc (.int .u8))), false)], res := [(.box (.ro (.pair (.slc (.int .u8)) (.pair (.int .i64) (.pair (.int .u64) .unit)))))], slots := [.tmp 2], code := bd Tryd.f24, strict := true }
/- spec.l00Src).next -/
noncomputable def I60 : Inst := { f := 60, nt := 62, params := [((.box (.ro (.pair (.slc (.int .u8)) (.pair (.int .i64) (.pair (.int .u64) .unit))))), true)], res := [(.ro (.int .i64))], slots := [.tmp 2], code := bd Tryd.f60, strict := true, pins := [0] }
/- spec.l00Src).pick -/
noncomputable def I25 : Inst := { f := 25, nt := 20, params := [((.box (.ro (.pair (.slc (.int .u8)) (.pair (.int .i64) (.pair (.int .u64) .unit))))), true), ((.ro (.int .i64)), false)], res := [(.ro (.int .i64))], slots := [.tmp 4], code := bd Tryd.f25, strict := true, callee := fun r i => find 0 [(3001, 60), (5003, 60)] (r * 1000 + i), pins := [0] }
/- spec.P6Strokes -/
noncomputable def I5 : Inst := { f := 5, nt := 40, params := [((.ro (.slc (.int .u8))), false)], res := [(.row true (.slc (.arr 2 (.int .i16))))], slots := [.tmp 2], code := bd Tryd.f5, callee := fun r i => find 0 [(1001, 24), (3001, 25), (7001, 25), (10002, 25), (10005, 25)] (r * 1000 + i), loops := fun b => find [] [(2, [.own 3 (.box (.ro (.pair (.slc (.int .u8)) (.pair (.int .i64) (.pair (.int .u64) .unit))))), .own 4 (.row true (.slc (.arr 2 (.int .i16)))), .own 5 (.ro (.int .i64)), .own 6 (.row false (.arr 2 (.int .i16))), .own 7 (.ro (.int .i64))]), (0, [.own 3 (.box (.ro (.pair (.slc (.int .u8)) (.pair (.int .i64) (.pair (.int .u64) .unit))))), .own 4 (.row true (.slc (.arr 2 (.int .i16)))), .own 5 (.ro (.int .i64))])] b, deep := fun r i => find false [(2000, true), (6000, true), (10008, true), (10009, true), (11002, true), (11003, true)] (r * 1000 + i) }
/- spec.P6Pick -/
noncomputable def I6 : Inst := { f := 6, nt := 9, params := [((.ro (.slc (.int .u8))), false), ((.ro (.int .i64)), false)], res := [(.ro (.int .i64))], slots := [.tmp 4], code := bd Tryd.f6, callee := fun r i => find 0 [(1001, 24), (1003, 25)] (r * 1000 + i) }
/- impl.inRange -/
noncomputable def I29 : Inst := { f := 29, nt := 15, params := [((.ro (.int .i64)), false), ((.ro (.int .i64)), false), ((.ro (.int .i64)), false)], res := [(.ro .bool)], slots := [.tmp 6], code := bd Tryd.f29 }
/- impl.ValidMark -/
noncomputable def I53 : Inst := { f := 53, nt := 13, params := [((.ro (.arr 2 (.int .i16))), false)], res := [(.ro .bool)], slots := [.tmp 2], code := bd Tryd.f53, callee := fun r i => find 0 [(1003, 29), (1008, 29)] (r * 1000 + i) }
/- impl.strokesCode$1$1 -/
noncomputable def I64 : Inst := { f := 64, nt := 6, params := [((.ro (.arr 2 (.int .i16))), false)], res := [(.ro .bool)], slots := [.tmp 2], code := bd Tryd.f64, callee := fun r i => find 0 [(1001, 53)] (r * 1000 + i) }
/- impl.Mark] -/
noncomputable def I85 : Inst := { f := 85, nt := 19, params := [((.ro (.slc (.arr 2 (.int .i16)))), false), ((.clo 64 (.ro .unit) (.ro .unit)), false)], res := [(.ro (.int .i64))], slots := [.tmp 4], code := bd Tryd.f85, callee := fun r i => find 0 [(4005, 64)] (r * 1000 + i), loops := fun b => find [] [(0, [.own 0 (.ro (.slc (.arr 2 (.int .i16)))), .own 1 (.clo 64 (.ro .unit) (.ro .unit)), .own 7 (.ro (.int .i64)), .own 8 (.ro (.int .i64))])] b }
/- impl.Mark] -/
noncomputable def I63 : Inst := { f := 63, nt := 9, params := [((.ro (.slc (.arr 2 (.int .i16)))), false), ((.clo 64 (.ro .unit) (.ro .unit)), false)], res := [(.ro .bool)], slots := [.tmp 4], code := bd Tryd.f63, callee := fun r i => find 0 [(1002, 85)] (r * 1000 + i) }
/- impl.strokesCode$1 -/
noncomputable def I62 : Inst := { f := 62, nt := 11, params := [((.ro (.slc (.arr 2 (.int .i16)))), false)], res := [(.ro .bool)], slots := [.tmp 2], code := bd Tryd.f62, callee := fun r i => find 0 [(1002, 29), (1006, 63)] (r * 1000 + i) }
/- impl.Stroke] -/
noncomputable def I84 : Inst := { f := 84, nt := 19, params := [((.ro (.slc (.slc (.arr 2 (.int .i16))))), false), ((.clo 62 (.ro .unit) (.ro .unit)), false)], res := [(.ro (.int .i64))], slots := [.tmp 4], code := bd Tryd.f84, callee := fun r i => find 0 [(4005, 62)] (r * 1000 + i), loops := fun b => find [] [(0, [.own 0 (.ro (.slc (.slc (.arr 2 (.int .i16))))), .own 1 (.clo 62 (.ro .unit) (.ro .unit)), .own 7 (.ro (.int .i64)), .own 8 (.ro (.int .i64))])] b }
/- impl.Stroke] -/
noncomputable def I61 : Inst := { f := 61, nt := 9, params := [((.ro (.slc (.slc (.arr 2 (.int .i16))))), false), ((.clo 62 (.ro .unit) (.ro .unit)), false)], res := [(.ro .bool)], slots := [.tmp 4], code := bd Tryd.f61, callee := fun r i => find 0 [(1002, 84)] (r * 1000 + i) }
/- impl.codeIf -/
noncomputable def I28 : Inst := { f := 28, nt := 7, params := [((.ro .bool), false), ((.ro (.int .i64)), false)], res := [(.ro (.int .i64))], slots := [.tmp 4], code := bd Tryd.f28 }
/- impl.firstCode -/
noncomputable def I26 : Inst := { f := 26, nt := 15, params := [((.ro (.slc (.int .i64))), false)], res := [(.ro (.int .i64))], slots := [.tmp 2], code := bd Tryd.f26, loops := fun b => find [] [(0, [.own 5 (.ro (.slc (.int .i64))), .own 6 (.ro (.int .i64)), .own 7 (.ro (.int .i64))])] b }
/- impl.strokesCode -/
noncomputable def I27 : Inst := { f := 27, nt := 14, params := [((.ro (.slc (.slc (.arr 2 (.int .i16))))), false)], res := [(.ro (.int .i64))], slots := [.tmp 2], code := bd Tryd.f27, callee := fun r i => find 0 [(1001, 61), (2001, 28), (2005, 28), (2007, 26)] (r * 1000 + i), deep := fun r i => find false [(2006, true)] (r * 1000 + i), frz := fun r i => find false [(2006, true)] (r * 1000 + i) }
/- impl.abs -/
noncomputable def I76 : Inst := { f := 76, nt := 7, params := [((.ro (.int .i64)), false)], res := [(.ro (.int .i64))], slots := [.tmp 2], code := bd Tryd.f76 }
/- impl.between -/
noncomputable def I47 : Inst := { f := 47, nt := 22, params := [((.ro (.arr 2 (.int .i16))), false), ((.ro (.arr 2 (.int .i16))), false)], res := [(.ro (.int .i64))], slots := [.tmp 4], code := bd Tryd.f47, callee := fun r i => find 0 [(1007, 76), (1015, 76)] (r * 1000 + i) }
/- impl.floorDiv -/
noncomputable def I95 : Inst := { f := 95, nt := 16, params := [((.ro (.int .i64)), false), ((.ro (.int .i64)), false)], res := [(.ro (.int .i64))], slots := [.tmp 4], code := bd Tryd.f95 }
/- impl.nearest -/
noncomputable def I86 : Inst := { f := 86, nt := 12, params := [((.ro (.int .i64)), false), ((.ro (.int .i64)), false)], res := [(.ro (.int .i64))], slots := [.tmp 4], code := bd Tryd.f86, callee := fun r i => find 0 [(1006, 95)] (r * 1000 + i) }
/- impl.lineOf -/
noncomputable def I65 : Inst := { f := 65, nt := 57, params := [((.ro (.arr 2 (.int .i16))), false), ((.ro (.arr 2 (.int .i16))), false)], res := [(.row false (.arr 2 (.int .i16)))], slots := [.tmp 4], code := bd Tryd.f65, callee := fun r i => find 0 [(1004, 47), (10009, 86)] (r * 1000 + i), loops := fun b => find [] [(2, [.own 2 (.box (.ro (.arr 2 (.int .i16)))), .own 3 (.box (.ro (.arr 2 (.int .i16)))), .own 5 (.row false (.arr 2 (.int .i16))), .own 6 (.ro (.int .i64)), .own 7 (.ro (.int .i64)), .own 8 (.box (.ro (.arr 2 (.int .i16)))), .own 23 (.ro (.int .i64))]), (0, [.own 2 (.box (.ro (.arr 2 (.int .i16)))), .own 3 (.box (.ro (.arr 2 (.int .i16)))), .own 5 (.row false (.arr 2 (.int .i16))), .own 6 (.ro (.int .i64)), .own 7 (.ro (.int .i64))])] b, deep := fun r i => find false [(1001, true), (12002, true), (12003, true)] (r * 1000 + i) }
/- impl.planner).stand -/
noncomputable def I31 : Inst := { f := 31, nt := 22, params := [((.box (.pr (.ro (.int .i64)) (.pr (.ro (.arr 2 (.int .i16))) (.pr (.row false (.pair (.arr 2 (.int .i16)) (.pair .bool .unit))) (.ro .unit))))), true), ((.ro (.arr 2 (.int .i16))), false), ((.ro .bool), false)], res := [], slots := [], code := bd Tryd.f31, pins := [0] }
/- impl.planner).goUp -/
noncomputable def I30 : Inst := { f := 30, nt := 40, params := [((.box (.pr (.ro (.int .i64)) (.pr (.ro (.arr 2 (.int .i16))) (.pr (.row false (.pair (.arr 2 (.int .i16)) (.pair .bool .unit))) (.ro .unit))))), true), ((.ro (.arr 2 (.int .i16))), false)], res := [], slots := [], code := bd Tryd.f30, callee := fun r i => find 0 [(1005, 65), (7005, 31), (8002, 31)] (r * 1000 + i), loops := fun b => find [] [(0, [.own 0 (.box (.pr (.ro (.int .i64)) (.pr (.ro (.arr 2 (.int .i16))) (.pr (.row false (.pair (.arr 2 (.int .i16)) (.pair .bool .unit))) (.ro .unit))))), .own 3 (.box (.ro (.arr 2 (.int .i16)))), .own 4 (.ro (.slc (.arr 2 (.int .i16)))), .own 5 (.ro (.int .i64)), .own 6 (.ro (.int .i64))])] b, pins := [0] }
/- impl.Mark] -/
noncomputable def I66 : Inst := { f := 66, nt := 26, params := [((.ro (.slc (.arr 2 (.int .i16)))), false), ((.ro (.slc (.arr 2 (.int .i16)))), false)], res := [(.ro .bool)], slots := [.tmp 4], code := bd Tryd.f66, loops := fun b => find [] [(0, [.own 0 (.ro (.slc (.arr 2 (.int .i16)))), .own 1 (.ro (.slc (.arr 2 (.int .i16)))), .own 12 (.ro (.int .i64)), .own 13 (.ro (.int .i64))])] b }
/- impl.planner).goDown -/
noncomputable def I32 : Inst := { f := 32, nt := 53, params := [((.box (.pr (.ro (.int .i64)) (.pr (.ro (.arr 2 (.int .i16))) (.pr (.row false (.pair (.arr 2 (.int .i16)) (.pair .bool .unit))) (.ro .unit))))), true), ((.ro (.arr 2 (.int .i16))), false)], res := [], slots := [], code := bd Tryd.f32, callee := fun r i => find 0 [(1005, 65), (5008, 65), (5014, 66), (7005, 31)] (r * 1000 + i), loops := fun b => find [] [(2, [.own 0 (.box (.pr (.ro (.int .i64)) (.pr (.ro (.arr 2 (.int .i16))) (.pr (.row false (.pair (.arr 2 (.int .i16)) (.pair .bool .unit))) (.ro .unit))))), .own 4 (.ro (.slc (.arr 2 (.int .i16)))), .own 5 (.ro (.int .i64)), .own 6 (.ro (.int .i64))]), (0, [.own 0 (.box (.pr (.ro (.int .i64)) (.pr (.ro (.arr 2 (.int .i16))) (.pr (.row false (.pair (.arr 2 (.int .i16)) (.pair .bool .unit))) (.ro .unit))))), .own 4 (.ro (.slc (.arr 2 (.int .i16)))), .own 5 (.ro (.int .i64))])] b, pins := [0] }
/- impl.Stop] -/
noncomputable def I33 : Inst := { f := 33, nt := 8, params := [((.ro (.slc (.pair (.arr 2 (.int .i16)) (.pair .bool .unit)))), false)], res := [(.row false (.pair (.arr 2 (.int .i16)) (.pair .bool .unit)))], slots := [.tmp 2], code := bd Tryd.f33 }
/- impl.PlanStops -/
noncomputable def I7 : Inst := { f := 7, nt := 68, params := [((.ro (.slc (.slc (.arr 2 (.int .i16))))), false), ((.ro (.int .i64)), false)], res := [(.row false (.pair (.arr 2 (.int .i16)) (.pair .bool .unit))), (.ro (.int .i64))], slots := [.tmp 4, .tmp 5], code := bd Tryd.f7, callee := fun r i => find 0 [(1001, 27), (1003, 29), (1005, 28), (1007, 26), (8004, 30), (9004, 31), (13002, 32), (16002, 30), (19004, 33)] (r * 1000 + i), loops := fun b => find [] [(2, [.own 7 (.box (.pr (.ro (.int .i64)) (.pr (.ro (.arr 2 (.int .i16))) (.pr (.row false (.pair (.arr 2 (.int .i16)) (.pair .bool .unit))) (.ro .unit))))), .own 26 (.ro (.slc (.slc (.arr 2 (.int .i16))))), .own 27 (.ro (.int .i64)), .own 28 (.ro (.int .i64)), .own 43 (.ro (.slc (.arr 2 (.int .i16)))), .own 44 (.ro (.int .i64)), .own 45 (.ro (.int .i64))]), (0, [.own 7 (.box (.pr (.ro (.int .i64)) (.pr (.ro (.arr 2 (.int .i16))) (.pr (.row false (.pair (.arr 2 (.int .i16)) (.pair .bool .unit))) (.ro .unit))))), .own 26 (.ro (.slc (.slc (.arr 2 (.int .i16))))), .own 27 (.ro (.int .i64)), .own 28 (.ro (.int .i64))])] b, deep := fun r i => find false [(1006, true)] (r * 1000 + i), frz := fun r i => find false [(1006, true)] (r * 1000 + i) }
/- spec.l00In -/
noncomputable def I35 : Inst := { f := 35, nt := 15, params := [((.ro (.int .i64)), false), ((.ro (.int .i64)), false), ((.ro (.int .i64)), false)], res := [(.ro .bool)], slots := [.tmp 6], code := bd Tryd.f35 }
/- spec.l07Mark -/
noncomputable def I67 : Inst := { f := 67, nt := 13, params := [((.ro (.arr 2 (.int .i16))), false)], res := [(.ro .bool)], slots := [.tmp 2], code := bd Tryd.f67, callee := fun r i => find 0 [(1003, 35), (1008, 35)] (r * 1000 + i) }
/- spec.l07Strokes -/
noncomputable def I34 : Inst := { f := 34, nt := 39, params := [((.ro (.slc (.slc (.arr 2 (.int .i16))))), false)], res := [(.ro (.int .i64))], slots := [.tmp 2], code := bd Tryd.f34, callee := fun r i => find 0 [(4005, 35), (9007, 67)] (r * 1000 + i), loops := fun b => find [] [(2, [.own 0 (.ro (.slc (.slc (.arr 2 (.int .i16))))), .own 3 (.ro (.int .i64)), .own 4 (.ro (.int .i64))]), (0, [.own 0 (.ro (.slc (.slc (.arr 2 (.int .i16))))), .own 3 (.ro (.int .i64))])] b }
/- spec.l01Size -/
noncomputable def I96 : Inst := { f := 96, nt := 8, params := [((.ro (.int .i64)), false)], res := [(.ro (.int .i64))], slots := [.tmp 2], code := bd Tryd.f96 }
/- spec.l00Max -/
noncomputable def I39 : Inst := { f := 39, nt := 10, params := [((.ro (.int .i64)), false), ((.ro (.int .i64)), false)], res := [(.ro (.int .i64))], slots := [.tmp 4], code := bd Tryd.f39 }
/- spec.l07Far -/
noncomputable def I88 : Inst := { f := 88, nt := 22, params := [((.ro (.arr 2 (.int .i16))), false), ((.ro (.arr 2 (.int .i16))), false)], res := [(.ro (.int .i64))], slots := [.tmp 4], code := bd Tryd.f88, callee := fun r i => find 0 [(1007, 96), (1015, 96), (1016, 39)] (r * 1000 + i) }
/- spec.l01Near -/
noncomputable def I89 : Inst := { f := 89, nt := 23, params := [((.ro (.int .i64)), false), ((.ro (.int .i64)), false)], res := [(.ro (.int .i64))], slots := [.tmp 4], code := bd Tryd.f89 }
/- spec.l07Line -/
noncomputable def I72 : Inst := { f := 72, nt := 54, params := [((.ro (.arr 2 (.int .i16))), false), ((.ro (.arr 2 (.int .i16))), false)], res := [(.row false (.arr 2 (.int .i16)))], slots := [.tmp 4], code := bd Tryd.f72, callee := fun r i => find 0 [(1002, 88), (12017, 89)] (r * 1000 + i), loops := fun b => find [] [(2, [.own 2 (.box (.ro (.arr 2 (.int .i16)))), .own 3 (.box (.ro (.arr 2 (.int .i16)))), .own 5 (.ro (.int .i64)), .own 6 (.row false (.arr 2 (.int .i16))), .own 7 (.ro (.int .i64)), .own 8 (.box (.ro (.arr 2 (.int .i16)))), .own 9 (.ro (.int .i64))]), (0, [.own 2 (.box (.ro (.arr 2 (.int .i16)))), .own 3 (.box (.ro (.arr 2 (.int .i16)))), .own 5 (.ro (.int .i64)), .own 6 (.row false (.arr 2 (.int .i16))), .own 7 (.ro (.int .i64))])] b, deep := fun r i => find false [(3001, true), (4000, true), (13002, true), (13003, true)] (r * 1000 + i) }
/- spec.l00Min -/
noncomputable def I87 : Inst := { f := 87, nt := 10, params := [((.ro (.int .i64)), false), ((.ro (.int .i64)), false)], res := [(.ro (.int .i64))], slots := [.tmp 4], code := bd Tryd.f87 }
/- spec.l07Marks -/
noncomputable def I59 : Inst := { f := 59, nt := 26, params := [((.ro (.slc (.arr 2 (.int .i16)))), false), ((.ro (.slc (.arr 2 (.int .i16)))), false)], res := [(.ro .bool)], slots := [.tmp 4], code := bd Tryd.f59, loops := fun b => find [] [(0, [.own 0 (.ro (.slc (.arr 2 (.int .i16)))), .own 1 (.ro (.slc (.arr 2 (.int .i16)))), .own 5 (.ro (.int .i64))])] b }
/- spec.l07Plan).stop -/
noncomputable def I69 : Inst := { f := 69, nt := 22, params := [((.box (.pr (.ro (.arr 2 (.int .i16))) (.pr (.row false (.pair (.arr 2 (.int .i16)) (.pair .bool .unit))) (.pr (.ro (.int .i64)) (.ro .unit))))), true), ((.ro (.arr 2 (.int .i16))), false), ((.ro .bool), false)], res := [], slots := [], code := bd Tryd.f69, pins := [0] }
/- spec.l07Plan).goTo -/
noncomputable def I68 : Inst := { f := 68, nt := 59, params := [((.box (.pr (.ro (.arr 2 (.int .i16))) (.pr (.row false (.pair (.arr 2 (.int .i16)) (.pair .bool .unit))) (.pr (.ro (.int .i64)) (.ro .unit))))), true), ((.ro (.arr 2 (.int .i16))), false), ((.ro .bool), false)], res := [], slots := [], code := bd Tryd.f68, callee := fun r i => find 0 [(1005, 72), (5007, 87), (6010, 72), (6016, 59), (8006, 69)] (r * 1000 + i), loops := fun b => find [] [(2, [.own 0 (.box (.pr (.ro (.arr 2 (.int .i16))) (.pr (.row false (.pair (.arr 2 (.int .i16)) (.pair .bool .unit))) (.pr (.ro (.int .i64)) (.ro .unit))))), .own 2 (.ro .bool), .own 6 (.ro (.slc (.arr 2 (.int .i16)))), .own 7 (.ro (.int .i64)), .own 8 (.ro (.int .i64)), .own 9 (.ro (.int .i64))]), (0, [.own 0 (.box (.pr (.ro (.arr 2 (.int .i16))) (.pr (.row false (.pair (.arr 2 (.int .i16)) (.pair .bool .unit))) (.pr (.ro (.int .i64)) (.ro .unit))))), .own 2 (.ro .bool), .own 6 (.ro (.slc (.arr 2 (.int .i16)))), .own 7 (.ro (.int .i64)), .own 8 (.ro (.int .i64))])] b, pins := [0] }
/- spec.l07Planned -/
noncomputable def I36 : Inst := { f := 36, nt := 59, params := [((.ro (.slc (.slc (.arr 2 (.int .i16))))), false), ((.ro (.int .i64)), false)], res := [(.row false (.pair (.arr 2 (.int .i16)) (.pair .bool .unit)))], slots := [.tmp 4], code := bd Tryd.f36, callee := fun r i => find 0 [(5007, 68), (6007, 69), (10008, 68), (11002, 68)] (r * 1000 + i), loops := fun b => find [] [(2, [.own 0 (.ro (.slc (.slc (.arr 2 (.int .i16))))), .own 5 (.box (.pr (.ro (.arr 2 (.int .i16))) (.pr (.row false (.pair (.arr 2 (.int .i16)) (.pair .bool .unit))) (.pr (.ro (.int .i64)) (.ro .unit))))), .own 6 (.ro (.int .i64)), .own 7 (.ro (.int .i64))]), (0, [.own 0 (.ro (.slc (.slc (.arr 2 (.int .i16))))), .own 5 (.box (.pr (.ro (.arr 2 (.int .i16))) (.pr (.row false (.pair (.arr 2 (.int .i16)) (.pair .bool .unit))) (.pr (.ro (.int .i64)) (.ro .unit))))), .own 6 (.ro (.int .i64))])] b, deep := fun r i => find false [(1000, true)] (r * 1000 + i) }
/- spec.PlanStops -/
noncomputable def I8 : Inst := { f := 8, nt := 29, params := [((.ro (.slc (.slc (.arr 2 (.int .i16))))), false), ((.ro (.int .i64)), false)], res := [(.row false (.pair (.arr 2 (.int .i16)) (.pair .bool .unit))), (.ro (.int .i64))], slots := [.tmp 4, .tmp 5], code := bd Tryd.f8, callee := fun r i => find 0 [(1001, 34), (2004, 35), (6002, 36)] (r * 1000 + i), deep := fun r i => find false [(5000, true), (8000, true)] (r * 1000 + i) }
/- impl.isPlace -/
noncomputable def I70 : Inst := { f := 70, nt := 9, params := [((.ro (.int .i64)), false), ((.ro (.int .i64)), false)], res := [(.ro .bool)], slots := [.tmp 4], code := bd Tryd.f70, callee := fun r i => find 0 [(1003, 29)] (r * 1000 + i) }
/- impl.machineFor -/
noncomputable def I37 : Inst := { f := 37, nt := 49, params := [((.ro (.slc (.pair (.arr 2 (.int .i16)) (.pair .bool .unit)))), false), ((.ro (.int .i64)), false)], res := [(.pr (.row false (.int .i16)) (.pr (.row false (.int .i16)) (.pr (.row false (.int .i16)) (.ro .unit))))], slots := [.cell 4 33], code := bd Tryd.f37, callee := fun r i => find 0 [(6003, 70)] (r * 1000 + i), loops := fun b => find [] [(0, [.own 0 (.ro (.slc (.pair (.arr 2 (.int .i16)) (.pair .bool .unit)))), .own 4 (.box (.ro (.pair (.slc (.int .i16)) (.pair (.slc (.int .i16)) (.pair (.slc (.int .i16)) .unit))))), .own 5 (.box (.pr (.row false (.int .i16)) (.pr (.row false (.int .i16)) (.pr (.row false (.int .i16)) (.ro .unit))))), .own 10 (.ro (.int .i64)), .own 11 (.ro (.int .i64))])] b, deep := fun r i => find false [(11005, true), (11006, true), (11012, true), (11013, true), (11017, true), (11018, true)] (r * 1000 + i) }
/- impl.CompileStrokes -/
noncomputable def I9 : Inst := { f := 9, nt := 23, params := [((.ro (.slc (.slc (.arr 2 (.int .i16))))), false), ((.ro (.int .i64)), false)], res := [(.pr (.row false (.int .i16)) (.pr (.row false (.int .i16)) (.pr (.row false (.int .i16)) (.ro .unit)))), (.ro (.int .i64))], slots := [.cell 4 33, .tmp 5], code := bd Tryd.f9, callee := fun r i => find 0 [(1002, 7), (4004, 37)] (r * 1000 + i) }
/- spec.l07For -/
noncomputable def I38 : Inst := { f := 38, nt := 51, params := [((.ro (.slc (.pair (.arr 2 (.int .i16)) (.pair .bool .unit)))), false), ((.ro (.int .i64)), false)], res := [(.pr (.row false (.int .i16)) (.pr (.row false (.int .i16)) (.pr (.row false (.int .i16)) (.ro .unit))))], slots := [.cell 4 33], code := bd Tryd.f38, loops := fun b => find [] [(0, [.own 0 (.ro (.slc (.pair (.arr 2 (.int .i16)) (.pair .bool .unit)))), .own 1 (.ro (.int .i64)), .own 4 (.box (.ro (.pair (.slc (.int .i16)) (.pair (.slc (.int .i16)) (.pair (.slc (.int .i16)) .unit))))), .own 5 (.box (.pr (.row false (.int .i16)) (.pr (.row false (.int .i16)) (.pr (.row false (.int .i16)) (.ro .unit))))), .own 6 (.ro (.int .i64))])] b, deep := fun r i => find false [(11004, true), (11005, true), (12004, true), (12005, true), (13003, true), (13004, true)] (r * 1000 + i) }
/- spec.CompileStrokes -/
noncomputable def I10 : Inst := { f := 10, nt := 23, params := [((.ro (.slc (.slc (.arr 2 (.int .i16))))), false), ((.ro (.int .i64)), false)], res := [(.pr (.row false (.int .i16)) (.pr (.row false (.int .i16)) (.pr (.row false (.int .i16)) (.ro .unit)))), (.ro (.int .i64))], slots := [.cell 4 33, .tmp 5], code := bd Tryd.f10, callee := fun r i => find 0 [(1002, 8), (4003, 39), (4004, 38)] (r * 1000 + i) }
/- impl.Plate).ink -/
noncomputable def I71 : Inst := { f := 71, nt := 16, params := [((.box (.ro (.arr 64 (.int .u64)))), true), ((.ro (.arr 2 (.int .i16))), false)], res := [], slots := [], code := bd Tryd.f71, pins := [0] }
/- impl.Plate).line -/
noncomputable def I40 : Inst := { f := 40, nt := 20, params := [((.box (.ro (.arr 64 (.int .u64)))), true), ((.ro (.arr 2 (.int .i16))), false), ((.ro (.arr 2 (.int .i16))), false)], res := [], slots := [], code := bd Tryd.f40, callee := fun r i => find 0 [(1002, 65), (4002, 71)] (r * 1000 + i), loops := fun b => find [] [(0, [.own 0 (.box (.ro (.arr 64 (.int .u64)))), .own 10 (.ro (.slc (.arr 2 (.int .i16)))), .own 11 (.ro (.int .i64)), .own 12 (.ro (.int .i64))])] b, pins := [0] }
/- impl.DrawStrokes -/
noncomputable def I11 : Inst := { f := 11, nt := 41, params := [((.ro (.slc (.slc (.arr 2 (.int .i16))))), false)], res := [(.ro (.arr 64 (.int .u64))), (.ro (.int .i64))], slots := [.cell 2 38, .tmp 3], code := bd Tryd.f11, callee := fun r i => find 0 [(1001, 27), (11007, 40)] (r * 1000 + i), loops := fun b => find [] [(2, [.own 2 (.box (.ro (.arr 64 (.int .u64)))), .own 5 (.box (.ro (.arr 64 (.int .u64)))), .own 7 (.ro (.slc (.arr 2 (.int .i16)))), .own 17 (.ro (.slc (.slc (.arr 2 (.int .i16))))), .own 18 (.ro (.int .i64)), .own 19 (.ro (.int .i64)), .own 23 (.ro (.slc (.arr 2 (.int .i16)))), .own 24 (.ro (.int .i64)), .own 25 (.ro (.int .i64))]), (0, [.own 2 (.box (.ro (.arr 64 (.int .u64)))), .own 5 (.box (.ro (.arr 64 (.int .u64)))), .own 17 (.ro (.slc (.slc (.arr 2 (.int .i16))))), .own 18 (.ro (.int .i64)), .own 19 (.ro (.int .i64))])] b }
/- spec.l07Ink -/
noncomputable def I41 : Inst := { f := 41, nt := 36, params := [((.box (.ro (.arr 64 (.int .u64)))), true), ((.ro (.arr 2 (.int .i16))), false), ((.ro (.arr 2 (.int .i16))), false)], res := [], slots := [], code := bd Tryd.f41, callee := fun r i => find 0 [(1002, 72)] (r * 1000 + i), loops := fun b => find [] [(0, [.own 0 (.box (.ro (.arr 64 (.int .u64)))), .own 6 (.ro (.slc (.arr 2 (.int .i16)))), .own 7 (.ro (.int .i64))])] b, pins := [0] }
/- spec.DrawStrokes -/
noncomputable def I12 : Inst := { f := 12, nt := 64, params := [((.ro (.slc (.slc (.arr 2 (.int .i16))))), false)], res := [(.ro (.arr 64 (.int .u64))), (.ro (.int .i64))], slots := [.cell 2 38, .tmp 3], code := bd Tryd.f12, callee := fun r i => find 0 [(1001, 34), (11014, 41), (13015, 41)] (r * 1000 + i), loops := fun b => find [] [(2, [.own 0 (.ro (.slc (.slc (.arr 2 (.int .i16))))), .own 2 (.box (.ro (.arr 64 (.int .u64)))), .own 5 (.box (.ro (.arr 64 (.int .u64)))), .own 6 (.ro (.int .i64)), .own 7 (.ro (.int .i64))]), (0, [.own 0 (.ro (.slc (.slc (.arr 2 (.int .i16))))), .own 2 (.box (.ro (.arr 64 (.int .u64)))), .own 5 (.box (.ro (.arr 64 (.int .u64)))), .own 6 (.ro (.int .i64))])] b }
/- spec.SameStops -/
noncomputable def I13 : Inst := { f := 13, nt := 26, params := [((.ro (.slc (.pair (.arr 2 (.int .i16)) (.pair .bool .unit)))), false), ((.ro (.slc (.pair (.arr 2 (.int .i16)) (.pair .bool .unit)))), false)], res := [(.ro .bool)], slots := [.tmp 4], code := bd Tryd.f13, loops := fun b => find [] [(0, [.own 0 (.ro (.slc (.pair (.arr 2 (.int .i16)) (.pair .bool .unit)))), .own 1 (.ro (.slc (.pair (.arr 2 (.int .i16)) (.pair .bool .unit)))), .own 5 (.ro (.int .i64))])] b }
/- spec.l01Same -/
noncomputable def I42 : Inst := { f := 42, nt := 26, params := [((.ro (.slc (.int .i16))), false), ((.ro (.slc (.int .i16))), false)], res := [(.ro .bool)], slots := [.tmp 4], code := bd Tryd.f42, loops := fun b => find [] [(0, [.own 0 (.ro (.slc (.int .i16))), .own 1 (.ro (.slc (.int .i16))), .own 5 (.ro (.int .i64))])] b }
/- spec.SameMachine -/
noncomputable def I14 : Inst := { f := 14, nt := 24, params := [((.ro (.pair (.slc (.int .i16)) (.pair (.slc (.int .i16)) (.pair (.slc (.int .i16)) .unit)))), false), ((.ro (.pair (.slc (.int .i16)) (.pair (.slc (.int .i16)) (.pair (.slc (.int .i16)) .unit)))), false)], res := [(.ro .bool)], slots := [.tmp 4], code := bd Tryd.f14, callee := fun r i => find 0 [(1004, 42), (1010, 42), (1017, 42)] (r * 1000 + i) }
/- impl.Cam).steps -/
noncomputable def I77 : Inst := { f := 77, nt := 5, params := [((.ro (.slc (.int .i16))), false)], res := [(.ro (.int .i64))], slots := [.tmp 2], code := bd Tryd.f77 }
/- impl.isSteps -/
noncomputable def I54 : Inst := { f := 54, nt := 5, params := [((.ro (.int .i64)), false)], res := [(.ro .bool)], slots := [.tmp 2], code := bd Tryd.f54, callee := fun r i => find 0 [(1001, 29)] (r * 1000 + i) }
/- impl.isLift -/
noncomputable def I80 : Inst := { f := 80, nt := 5, params := [((.ro (.int .i64)), false)], res := [(.ro .bool)], slots := [.tmp 2], code := bd Tryd.f80, callee := fun r i => find 0 [(1001, 29)] (r * 1000 + i) }
/- impl.ValidCam$1 -/
noncomputable def I79 : Inst := { f := 79, nt := 7, params := [((.ro (.int .i16)), false)], res := [(.ro .bool)], slots := [.tmp 2], code := bd Tryd.f79, callee := fun r i => find 0 [(1002, 80)] (r * 1000 + i) }
/- impl.Cam,int16] -/
noncomputable def I91 : Inst := { f := 91, nt := 19, params := [((.ro (.slc (.int .i16))), false), ((.clo 79 (.ro .unit) (.ro .unit)), false)], res := [(.ro (.int .i64))], slots := [.tmp 4], code := bd Tryd.f91, callee := fun r i => find 0 [(4005, 79)] (r * 1000 + i), loops := fun b => find [] [(0, [.own 0 (.ro (.slc (.int .i16))), .own 1 (.clo 79 (.ro .unit) (.ro .unit)), .own 7 (.ro (.int .i64)), .own 8 (.ro (.int .i64))])] b }
/- impl.Cam,int16] -/
noncomputable def I78 : Inst := { f := 78, nt := 9, params := [((.ro (.slc (.int .i16))), false), ((.clo 79 (.ro .unit) (.ro .unit)), false)], res := [(.ro .bool)], slots := [.tmp 4], code := bd Tryd.f78, callee := fun r i => find 0 [(1002, 91)] (r * 1000 + i) }
/- impl.ValidCam -/
noncomputable def I49 : Inst := { f := 49, nt := 11, params := [((.ro (.slc (.int .i16))), false)], res := [(.ro .bool)], slots := [.tmp 2], code := bd Tryd.f49, callee := fun r i => find 0 [(1001, 77), (1002, 54), (1005, 78)] (r * 1000 + i) }
/- impl.Cam,int16] -/
noncomputable def I50 : Inst := { f := 50, nt := 25, params := [((.ro (.slc (.int .i16))), false)], res := [(.ro (.int .i16))], slots := [.tmp 2], code := bd Tryd.f50, loops := fun b => find [] [(0, [.own 0 (.ro (.slc (.int .i16))), .own 3 (.ro (.int .i16)), .own 4 (.ro (.int .i64))])] b }
/- impl.ValidMachine -/
noncomputable def I19 : Inst := { f := 19, nt := 33, params := [((.ro (.pair (.slc (.int .i16)) (.pair (.slc (.int .i16)) (.pair (.slc (.int .i16)) .unit)))), false)], res := [(.ro .bool)], slots := [.tmp 2], code := bd Tryd.f19, callee := fun r i => find 0 [(4001, 49), (4013, 50), (7002, 49)] (r * 1000 + i), loops := fun b => find [] [(0, [.own 1 (.box (.ro (.pair (.slc (.int .i16)) (.pair (.slc (.int .i16)) (.pair (.slc (.int .i16)) .unit))))), .own 9 (.ro (.arr 2 (.slc (.int .i16)))), .own 10 (.ro (.int .i64))])] b }
/- impl.Machine).steps -/
noncomputable def I74 : Inst := { f := 74, nt := 6, params := [((.ro (.pair (.slc (.int .i16)) (.pair (.slc (.int .i16)) (.pair (.slc (.int .i16)) .unit)))), false)], res := [(.ro (.int .i64))], slots := [.tmp 2], code := bd Tryd.f74, callee := fun r i => find 0 [(1002, 77)] (r * 1000 + i) }
/- impl.mod -/
noncomputable def I97 : Inst := { f := 97, nt := 12, params := [((.ro (.int .i64)), false), ((.ro (.int .i64)), false)], res := [(.ro (.int .i64))], slots := [.tmp 4], code := bd Tryd.f97, callee := fun r i => find 0 [(1004, 95)] (r * 1000 + i) }
/- impl.Cam).at -/
noncomputable def I90 : Inst := { f := 90, nt := 13, params := [((.ro (.slc (.int .i16))), false), ((.ro (.int .i64)), false)], res := [(.ro (.int .i64))], slots := [.tmp 4], code := bd Tryd.f90, callee := fun r i => find 0 [(1003, 77), (1004, 97)] (r * 1000 + i) }
/- impl.Machine).stop -/
noncomputable def I75 : Inst := { f := 75, nt := 22, params := [((.ro (.pair (.slc (.int .i16)) (.pair (.slc (.int .i16)) (.pair (.slc (.int .i16)) .unit)))), false), ((.ro (.int .i64)), false)], res := [(.ro (.pair (.arr 2 (.int .i16)) (.pair .bool .unit)))], slots := [.cell 4 74], code := bd Tryd.f75, callee := fun r i => find 0 [(1003, 90), (1008, 90), (1014, 90)] (r * 1000 + i) }
/- impl.Machine).stops -/
noncomputable def I46 : Inst := { f := 46, nt := 19, params := [((.ro (.pair (.slc (.int .i16)) (.pair (.slc (.int .i16)) (.pair (.slc (.int .i16)) .unit)))), false)], res := [(.ro (.slc (.pair (.arr 2 (.int .i16)) (.pair .bool .unit))))], slots := [.tmp 2], code := bd Tryd.f46, strict := true, callee := fun r i => find 0 [(2001, 74), (5003, 75)] (r * 1000 + i), loops := fun b => find [] [(0, [.own 1 (.box (.ro (.pair (.slc (.int .i16)) (.pair (.slc (.int .i16)) (.pair (.slc (.int .i16)) .unit))))), .own 3 (.row false (.pair (.arr 2 (.int .i16)) (.pair .bool .unit))), .own 7 (.ro (.int .i64)), .own 8 (.ro (.int .i64))])] b }
/- impl.Machine).draw -/
noncomputable def I43 : Inst := { f := 43, nt := 41, params := [((.ro (.pair (.slc (.int .i16)) (.pair (.slc (.int .i16)) (.pair (.slc (.int .i16)) .unit)))), false)], res := [(.ro (.arr 64 (.int .u64)))], slots := [.cell 2 38], code := bd Tryd.f43, callee := fun r i => find 0 [(1002, 46), (6002, 71), (9004, 40)] (r * 1000 + i), loops := fun b => find [] [(0, [.own 2 (.box (.ro (.arr 64 (.int .u64)))), .own 3 (.box (.ro (.arr 64 (.int .u64)))), .own 4 (.ro (.slc (.pair (.arr 2 (.int .i16)) (.pair .bool .unit)))), .own 11 (.ro (.slc (.pair (.arr 2 (.int .i16)) (.pair .bool .unit)))), .own 12 (.ro (.int .i64)), .own 13 (.ro (.int .i64))])] b }
/- impl.DrawMachine -/
noncomputable def I15 : Inst := { f := 15, nt := 10, params := [((.ro (.pair (.slc (.int .i16)) (.pair (.slc (.int .i16)) (.pair (.slc (.int .i16)) .unit)))), false)], res := [(.ro (.arr 64 (.int .u64))), (.ro (.int .i64))], slots := [.cell 2 38, .tmp 3], code := bd Tryd.f15, callee := fun r i => find 0 [(1001, 19), (3001, 43)] (r * 1000 + i) }
/- bits.OnesCount64 -/
noncomputable def I73 : Inst := { f := 73, nt := 35, params := [((.ro (.int .u64)), false)], res := [(.ro (.int .i64))], slots := [.tmp 2], code := bd Tryd.f73 }
/- impl.CountInk -/
noncomputable def I44 : Inst := { f := 44, nt := 16, params := [((.ro (.arr 64 (.int .u64))), false)], res := [(.ro (.int .i64))], slots := [.tmp 2], code := bd Tryd.f44, callee := fun r i => find 0 [(5002, 73)] (r * 1000 + i), loops := fun b => find [] [(0, [.own 3 (.ro (.int .i64)), .own 6 (.ro (.arr 64 (.int .u64))), .own 7 (.ro (.int .i64))])] b }
/- bits.TrailingZeros64: told by its contract -/
noncomputable def I45 : Inst := { f := 45, nt := 0, params := [((.ro (.int .u64)), false)], res := [(.ro (.int .i64))], slots := [], code := .skip, ext := some (fun x => if 0 ≤ x.1 ∧ x.1 < 18446744073709551616 then some ((((Lib.ctz 64 x.1.toNat : Nat) : Int), ()), ()) else none) }
/- impl.CheckMachine -/
noncomputable def I16 : Inst := { f := 16, nt := 46, params := [((.ro (.pair (.slc (.int .i16)) (.pair (.slc (.int .i16)) (.pair (.slc (.int .i16)) .unit)))), false), ((.ro (.arr 64 (.int .u64))), false)], res := [(.ro (.int .i64)), (.ro (.arr 2 (.int .i16))), (.ro (.int .i64))], slots := [.tmp 4, .cell 5 46, .tmp 6], code := bd Tryd.f16, callee := fun r i => find 0 [(1001, 19), (3001, 43), (13001, 44), (13003, 45)] (r * 1000 + i), loops := fun b => find [] [(2, [.own 5 (.box (.ro (.arr 2 (.int .i16)))), .own 7 (.box (.ro (.arr 64 (.int .u64)))), .own 29 (.ro (.arr 64 (.int .u64))), .own 30 (.ro (.int .i64))]), (0, [.own 3 (.box (.ro (.arr 64 (.int .u64)))), .own 5 (.box (.ro (.arr 2 (.int .i16)))), .own 7 (.box (.ro (.arr 64 (.int .u64)))), .own 17 (.ro (.int .i64))])] b }
/- impl.greatest -/
noncomputable def I48 : Inst := { f := 48, nt := 25, params := [((.ro (.slc (.int .i64))), false)], res := [(.ro (.int .i64)), (.ro (.int .i64))], slots := [.tmp 2, .tmp 3], code := bd Tryd.f48, callee := fun r i => find 0 [(5001, 76), (6002, 76)] (r * 1000 + i), loops := fun b => find [] [(0, [.own 4 (.ro (.int .i64)), .own 5 (.ro (.int .i64)), .own 8 (.ro (.slc (.int .i64))), .own 9 (.ro (.int .i64)), .own 10 (.ro (.int .i64))])] b }
/- impl.FastestMove -/
noncomputable def I17 : Inst := { f := 17, nt := 47, params := [((.ro (.pair (.slc (.int .i16)) (.pair (.slc (.int .i16)) (.pair (.slc (.int .i16)) .unit)))), false)], res := [(.ro (.int .i64)), (.ro (.int .i64)), (.ro (.int .i64))], slots := [.tmp 2, .tmp 3, .tmp 4], code := bd Tryd.f17, callee := fun r i => find 0 [(1001, 19), (3001, 46), (7012, 47), (9001, 48)] (r * 1000 + i), loops := fun b => find [] [(0, [.own 5 (.ro (.slc (.pair (.arr 2 (.int .i16)) (.pair .bool .unit)))), .own 6 (.row false (.int .i64)), .own 17 (.ro (.slc (.pair (.arr 2 (.int .i16)) (.pair .bool .unit)))), .own 18 (.ro (.int .i64)), .own 19 (.ro (.int .i64))])] b, deep := fun r i => find false [(3002, true), (7013, true), (7014, true)] (r * 1000 + i) }
/- impl.StopsOf -/
noncomputable def I18 : Inst := { f := 18, nt := 9, params := [((.ro (.pair (.slc (.int .i16)) (.pair (.slc (.int .i16)) (.pair (.slc (.int .i16)) .unit)))), false)], res := [(.ro (.slc (.pair (.arr 2 (.int .i16)) (.pair .bool .unit)))), (.ro (.int .i64))], slots := [.tmp 2, .tmp 3], code := bd Tryd.f18, strict := true, callee := fun r i => find 0 [(1001, 19), (3001, 46)] (r * 1000 + i) }
/- impl.MachineFor$1 -/
noncomputable def I52 : Inst := { f := 52, nt := 7, params := [((.ro (.pair (.arr 2 (.int .i16)) (.pair .bool .unit))), false)], res := [(.ro .bool)], slots := [.tmp 2], code := bd Tryd.f52, callee := fun r i => find 0 [(1002, 53)] (r * 1000 + i) }
/- impl.Stop] -/
noncomputable def I81 : Inst := { f := 81, nt := 19, params := [((.ro (.slc (.pair (.arr 2 (.int .i16)) (.pair .bool .unit)))), false), ((.clo 52 (.ro .unit) (.ro .unit)), false)], res := [(.ro (.int .i64))], slots := [.tmp 4], code := bd Tryd.f81, callee := fun r i => find 0 [(4005, 52)] (r * 1000 + i), loops := fun b => find [] [(0, [.own 0 (.ro (.slc (.pair (.arr 2 (.int .i16)) (.pair .bool .unit)))), .own 1 (.clo 52 (.ro .unit) (.ro .unit)), .own 7 (.ro (.int .i64)), .own 8 (.ro (.int .i64))])] b }
/- impl.Stop] -/
noncomputable def I51 : Inst := { f := 51, nt := 9, params := [((.ro (.slc (.pair (.arr 2 (.int .i16)) (.pair .bool .unit)))), false), ((.clo 52 (.ro .unit) (.ro .unit)), false)], res := [(.ro .bool)], slots := [.tmp 4], code := bd Tryd.f51, callee := fun r i => find 0 [(1002, 81)] (r * 1000 + i) }
/- impl.MachineFor -/
noncomputable def I20 : Inst := { f := 20, nt := 31, params := [((.ro (.slc (.pair (.arr 2 (.int .i16)) (.pair .bool .unit)))), false), ((.ro (.int .i64)), false)], res := [(.pr (.row false (.int .i16)) (.pr (.row false (.int .i16)) (.pr (.row false (.int .i16)) (.ro .unit)))), (.ro (.int .i64))], slots := [.cell 4 33, .tmp 5], code := bd Tryd.f20, callee := fun r i => find 0 [(1001, 51), (2001, 28), (2003, 54), (2011, 28), (2013, 26), (5002, 37)] (r * 1000 + i), deep := fun r i => find false [(2012, true)] (r * 1000 + i), frz := fun r i => find false [(2012, true)] (r * 1000 + i) }
/- impl.extend -/
noncomputable def I55 : Inst := { f := 55, nt := 41, params := [((.row true (.slc (.arr 2 (.int .i16)))), false), ((.ro (.arr 2 (.int .i16))), false)], res := [(.row true (.slc (.arr 2 (.int .i16))))], slots := [.tmp 4], code := bd Tryd.f55, deep := fun r i => find false [(4010, true), (4011, true), (4012, true), (5005, true), (5007, true), (5008, true), (2003, true), (4004, true)] (r * 1000 + i), ice := fun r i => find [] [(4004, [0]), (4012, [0]), (5005, [0])] (r * 1000 + i) }
/- impl.StrokesOf -/
noncomputable def I21 : Inst := { f := 21, nt := 71, params := [((.ro (.pair (.slc (.int .i16)) (.pair (.slc (.int .i16)) (.pair (.slc (.int .i16)) .unit)))), false)], res := [(.row true (.slc (.arr 2 (.int .i16)))), (.ro (.int .i64))], slots := [.tmp 2, .tmp 3], code := bd Tryd.f21, callee := fun r i => find 0 [(1001, 19), (3001, 46), (7003, 55), (13005, 55)] (r * 1000 + i), loops := fun b => find [] [(0, [.own 4 (.ro (.slc (.pair (.arr 2 (.int .i16)) (.pair .bool .unit)))), .own 5 (.row true (.slc (.arr 2 (.int .i16)))), .own 14 (.ro (.slc (.pair (.arr 2 (.int .i16)) (.pair .bool .unit)))), .own 15 (.ro (.int .i64)), .own 16 (.ro (.int .i64))])] b, deep := fun r i => find false [(3002, true), (10003, true), (10004, true), (10005, true)] (r * 1000 + i) }
/- spec.l01Steps -/
noncomputable def I93 : Inst := { f := 93, nt := 5, params := [((.ro (.int .i64)), false)], res := [(.ro .bool)], slots := [.tmp 2], code := bd Tryd.f93, callee := fun r i => find 0 [(1001, 35)] (r * 1000 + i) }
/- spec.l01Lift -/
noncomputable def I94 : Inst := { f := 94, nt := 5, params := [((.ro (.int .i64)), false)], res := [(.ro .bool)], slots := [.tmp 2], code := bd Tryd.f94, callee := fun r i => find 0 [(1001, 35)] (r * 1000 + i) }
/- spec.l01Ok -/
noncomputable def I83 : Inst := { f := 83, nt := 21, params := [((.ro (.slc (.int .i16))), false)], res := [(.ro .bool)], slots := [.tmp 2], code := bd Tryd.f83, callee := fun r i => find 0 [(1002, 93), (6005, 94)] (r * 1000 + i), loops := fun b => find [] [(0, [.own 0 (.ro (.slc (.int .i16))), .own 3 (.ro (.int .i64))])] b }
/- spec.l01Range -/
noncomputable def I92 : Inst := { f := 92, nt := 34, params := [((.ro (.slc (.int .i16))), false)], res := [(.ro (.int .i64)), (.ro (.int .i64))], slots := [.tmp 2, .tmp 3], code := bd Tryd.f92, callee := fun r i => find 0 [(6006, 87), (7006, 39)] (r * 1000 + i), loops := fun b => find [] [(0, [.own 0 (.ro (.slc (.int .i16))), .own 4 (.ro (.int .i64)), .own 5 (.ro (.int .i64)), .own 6 (.ro (.int .i64))])] b }
/- spec.l07Moves -/
noncomputable def I82 : Inst := { f := 82, nt := 15, params := [((.ro (.slc (.int .i16))), false)], res := [(.ro .bool)], slots := [.tmp 2], code := bd Tryd.f82, callee := fun r i => find 0 [(1001, 83), (3001, 92)] (r * 1000 + i) }
/- spec.l07Ok -/
noncomputable def I56 : Inst := { f := 56, nt := 48, params := [((.ro (.ptr (.pair (.slc (.int .i16)) (.pair (.slc (.int .i16)) (.pair (.slc (.int .i16)) .unit))))), false)], res := [(.ro .bool)], slots := [.tmp 2], code := bd Tryd.f56, callee := fun r i => find 0 [(1004, 82), (1010, 82), (1017, 83)] (r * 1000 + i) }
/- spec.l07Stops -/
noncomputable def I58 : Inst := { f := 58, nt := 43, params := [((.ro (.ptr (.pair (.slc (.int .i16)) (.pair (.slc (.int .i16)) (.pair (.slc (.int .i16)) .unit))))), false)], res := [(.row false (.pair (.arr 2 (.int .i16)) (.pair .bool .unit)))], slots := [.tmp 2], code := bd Tryd.f58, loops := fun b => find [] [(0, [.own 0 (.ro (.ptr (.pair (.slc (.int .i16)) (.pair (.slc (.int .i16)) (.pair (.slc (.int .i16)) .unit))))), .own 3 (.row false (.pair (.arr 2 (.int .i16)) (.pair .bool .unit))), .own 4 (.ro (.int .i64))])] b, deep := fun r i => find false [(1000, true), (5025, true), (5026, true)] (r * 1000 + i) }
/- spec.l07Traced -/
noncomputable def I57 : Inst := { f := 57, nt := 83, params := [((.ro (.slc (.pair (.arr 2 (.int .i16)) (.pair .bool .unit)))), false)], res := [(.ro (.slc (.slc (.arr 2 (.int .i16)))))], slots := [.tmp 2], code := bd Tryd.f57, strict := true, loops := fun b => find [] [(0, [.own 0 (.ro (.slc (.pair (.arr 2 (.int .i16)) (.pair .bool .unit)))), .own 3 (.row false (.slc (.arr 2 (.int .i16)))), .own 4 (.row false (.arr 2 (.int .i16))), .own 5 (.ro (.int .i64))])] b, ice := fun r i => find [] [(8002, [24, 4, 20]), (11002, [32, 4, 28]), (17002, [61, 4, 50, 57]), (20002, [79, 4, 77, 50])] (r * 1000 + i) }
/- spec.StrokesOf -/
noncomputable def I22 : Inst := { f := 22, nt := 15, params := [((.ro (.pair (.slc (.int .i16)) (.pair (.slc (.int .i16)) (.pair (.slc (.int .i16)) .unit)))), false)], res := [(.ro (.slc (.slc (.arr 2 (.int .i16))))), (.ro (.int .i64))], slots := [.tmp 2, .tmp 3], code := bd Tryd.f22, strict := true, callee := fun r i => find 0 [(1000, 56), (3000, 58), (3001, 57)] (r * 1000 + i), ice := fun r i => find [] [(3001, [8])] (r * 1000 + i) }
/- spec.SameStrokes -/
noncomputable def I23 : Inst := { f := 23, nt := 27, params := [((.ro (.slc (.slc (.arr 2 (.int .i16))))), false), ((.ro (.slc (.slc (.arr 2 (.int .i16))))), false)], res := [(.ro .bool)], slots := [.tmp 4], code := bd Tryd.f23, callee := fun r i => find 0 [(6008, 59)] (r * 1000 + i), loops := fun b => find [] [(0, [.own 0 (.ro (.slc (.slc (.arr 2 (.int .i16))))), .own 1 (.ro (.slc (.slc (.arr 2 (.int .i16))))), .own 5 (.ro (.int .i64))])] b }
/- laws.FnCompiled -/
noncomputable def I3 : Inst := { f := 3, nt := 244, params := [((.ro (.slc (.int .u8))), false), ((.ro (.slc (.int .u8))), false)], res := [(.ro .bool)], slots := [.tmp 4], code := bd Tryd.f3, callee := fun r i => find 0 [(1001, 4), (1004, 4), (3001, 5), (4001, 6), (5002, 7), (6002, 8), (7002, 9), (8002, 10), (9001, 11), (10001, 12), (11006, 13), (11017, 14), (15001, 15), (16002, 16), (17001, 17), (18001, 18), (19037, 13), (19042, 19), (21003, 20), (22001, 21), (23001, 22), (24005, 14), (24016, 23), (28001, 11)] (r * 1000 + i), ice := fun r i => find [] [(8007, [70])] (r * 1000 + i) }
noncomputable def CL : List (Nat × Inst) := [(4, I4), (24, I24), (60, I60), (25, I25), (5, I5), (6, I6), (29, I29), (53, I53), (64, I64), (85, I85), (63, I63), (62, I62), (84, I84), (61, I61), (28, I28), (26, I26), (27, I27), (76, I76), (47, I47), (95, I95), (86, I86), (65, I65), (31, I31), (30, I30), (66, I66), (32, I32), (33, I33), (7, I7), (35, I35), (67, I67), (34, I34), (96, I96), (39, I39), (88, I88), (89, I89), (72, I72), (87, I87), (59, I59), (69, I69), (68, I68), (36, I36), (8, I8), (70, I70), (37, I37), (9, I9), (38, I38), (10, I10), (71, I71), (40, I40), (11, I11), (41, I41), (12, I12), (13, I13), (42, I42), (14, I14), (77, I77), (54, I54), (80, I80), (79, I79), (91, I91), (78, I78), (49, I49), (50, I50), (19, I19), (74, I74), (97, I97), (90, I90), (75, I75), (46, I46), (43, I43), (15, I15), (73, I73), (44, I44), (45, I45), (16, I16), (48, I48), (17, I17), (18, I18), (52, I52), (81, I81), (51, I51), (20, I20), (55, I55), (21, I21), (93, I93), (94, I94), (83, I83), (92, I92), (82, I82), (56, I56), (58, I58), (57, I57), (22, I22), (23, I23), (3, I3)]
noncomputable def C : Nat → Inst := find I4 CL
theorem tsOk : TsOk Tryd.prog T := tsOkB_sound (by kernel_rfl)
theorem ok4 : InstOk Tryd.prog I4 := instOk_of Tryd.func4 (by kernel_rfl) (by kernel_rfl) (by kernel_rfl) (by kernel_rfl)
theorem ok24 : InstOk Tryd.prog I24 := instOk_of Tryd.func24 (by kernel_rfl) (by kernel_rfl) (by kernel_rfl) (by kernel_rfl)
theorem ok60 : InstOk Tryd.prog I60 := instOk_of Tryd.func60 (by kernel_rfl) (by kernel_rfl) (by kernel_rfl) (by kernel_rfl)
theorem ok25 : InstOk Tryd.prog I25 := instOk_of Tryd.func25 (by kernel_rfl) (by kernel_rfl) (by kernel_rfl) (by kernel_rfl)
theorem ok5 : InstOk Tryd.prog I5 := instOk_of Tryd.func5 (by kernel_rfl) (by kernel_rfl) (by kernel_rfl) (by kernel_rfl)
theorem ok6 : InstOk Tryd.prog I6 := instOk_of Tryd.func6 (by kernel_rfl) (by kernel_rfl) (by kernel_rfl) (by kernel_rfl)
theorem ok29 : InstOk Tryd.prog I29 := instOk_of Tryd.func29 (by kernel_rfl) (by kernel_rfl) (by kernel_rfl) (by kernel_rfl)
theorem ok53 : InstOk Tryd.prog I53 := instOk_of Tryd.func53 (by kernel_rfl) (by kernel_rfl) (by kernel_rfl) (by kernel_rfl)
theorem ok64 : InstOk Tryd.prog I64 := instOk_of Tryd.func64 (by kernel_rfl) (by kernel_rfl) (by kernel_rfl) (by kernel_rfl)
theorem ok85 : InstOk Tryd.prog I85 := instOk_of Tryd.func85 (by kernel_rfl) (by kernel_rfl) (by kernel_rfl) (by kernel_rfl)
theorem ok63 : InstOk Tryd.prog I63 := instOk_of Tryd.func63 (by kernel_rfl) (by kernel_rfl) (by kernel_rfl) (by kernel_rfl)
theorem ok62 : InstOk Tryd.prog I62 := instOk_of Tryd.func62 (by kernel_rfl) (by kernel_rfl) (by kernel_rfl) (by kernel_rfl)
theorem ok84 : InstOk Tryd.prog I84 := instOk_of Tryd.func84 (by kernel_rfl) (by kernel_rfl) (by kernel_rfl) (by kernel_rfl)
theorem ok61 : InstOk Tryd.prog I61 := instOk_of Tryd.func61 (by kernel_rfl) (by kernel_rfl) (by kernel_rfl) (by kernel_rfl)
theorem ok28 : InstOk Tryd.prog I28 := instOk_of Tryd.func28 (by kernel_rfl) (by kernel_rfl) (by kernel_rfl) (by kernel_rfl)
theorem ok26 : InstOk Tryd.prog I26 := instOk_of Tryd.func26 (by kernel_rfl) (by kernel_rfl) (by kernel_rfl) (by kernel_rfl)
theorem ok27 : InstOk Tryd.prog I27 := instOk_of Tryd.func27 (by kernel_rfl) (by kernel_rfl) (by kernel_rfl) (by kernel_rfl)
theorem ok76 : InstOk Tryd.prog I76 := instOk_of Tryd.func76 (by kernel_rfl) (by kernel_rfl) (by kernel_rfl) (by kernel_rfl)
theorem ok47 : InstOk Tryd.prog I47 := instOk_of Tryd.func47 (by kernel_rfl) (by kernel_rfl) (by kernel_rfl) (by kernel_rfl)
theorem ok95 : InstOk Tryd.prog I95 := instOk_of Tryd.func95 (by kernel_rfl) (by kernel_rfl) (by kernel_rfl) (by kernel_rfl)
theorem ok86 : InstOk Tryd.prog I86 := instOk_of Tryd.func86 (by kernel_rfl) (by kernel_rfl) (by kernel_rfl) (by kernel_rfl)
theorem ok65 : InstOk Tryd.prog I65 := instOk_of Tryd.func65 (by kernel_rfl) (by kernel_rfl) (by kernel_rfl) (by kernel_rfl)
theorem ok31 : InstOk Tryd.prog I31 := instOk_of Tryd.func31 (by kernel_rfl) (by kernel_rfl) (by kernel_rfl) (by kernel_rfl)
theorem ok30 : InstOk Tryd.prog I30 := instOk_of Tryd.func30 (by kernel_rfl) (by kernel_rfl) (by kernel_rfl) (by kernel_rfl)
theorem ok66 : InstOk Tryd.prog I66 := instOk_of Tryd.func66 (by kernel_rfl) (by kernel_rfl) (by kernel_rfl) (by kernel_rfl)
theorem ok32 : InstOk Tryd.prog I32 := instOk_of Tryd.func32 (by kernel_rfl) (by kernel_rfl) (by kernel_rfl) (by kernel_rfl)
theorem ok33 : InstOk Tryd.prog I33 := instOk_of Tryd.func33 (by kernel_rfl) (by kernel_rfl) (by kernel_rfl) (by kernel_rfl)
theorem ok7 : InstOk Tryd.prog I7 := instOk_of Tryd.func7 (by kernel_rfl) (by kernel_rfl) (by kernel_rfl) (by kernel_rfl)
theorem ok35 : InstOk Tryd.prog I35 := instOk_of Tryd.func35 (by kernel_rfl) (by kernel_rfl) (by kernel_rfl) (by kernel_rfl)
theorem ok67 : InstOk Tryd.prog I67 := instOk_of Tryd.func67 (by kernel_rfl) (by kernel_rfl) (by kernel_rfl) (by kernel_rfl)
theorem ok34 : InstOk Tryd.prog I34 := instOk_of Tryd.func34 (by kernel_rfl) (by kernel_rfl) (by kernel_rfl) (by kernel_rfl)
theorem ok96 : InstOk Tryd.prog I96 := instOk_of Tryd.func96 (by kernel_rfl) (by kernel_rfl) (by kernel_rfl) (by kernel_rfl)
theorem ok39 : InstOk Tryd.prog I39 := instOk_of Tryd.func39 (by kernel_rfl) (by kernel_rfl) (by kernel_rfl) (by kernel_rfl)
theorem ok88 : InstOk Tryd.prog I88 := instOk_of Tryd.func88 (by kernel_rfl) (by kernel_rfl) (by kernel_rfl) (by kernel_rfl)
theorem ok89 : InstOk Tryd.prog I89 := instOk_of Tryd.func89 (by kernel_rfl) (by kernel_rfl) (by kernel_rfl) (by kernel_rfl)
theorem ok72 : InstOk Tryd.prog I72 := instOk_of Tryd.func72 (by kernel_rfl) (by kernel_rfl) (by kernel_rfl) (by kernel_rfl)
theorem ok87 : InstOk Tryd.prog I87 := instOk_of Tryd.func87 (by kernel_rfl) (by kernel_rfl) (by kernel_rfl) (by kernel_rfl)
theorem ok59 : InstOk Tryd.prog I59 := instOk_of Tryd.func59 (by kernel_rfl) (by kernel_rfl) (by kernel_rfl) (by kernel_rfl)
theorem ok69 : InstOk Tryd.prog I69 := instOk_of Tryd.func69 (by kernel_rfl) (by kernel_rfl) (by kernel_rfl) (by kernel_rfl)
theorem ok68 : InstOk Tryd.prog I68 := instOk_of Tryd.func68 (by kernel_rfl) (by kernel_rfl) (by kernel_rfl) (by kernel_rfl)
theorem ok36 : InstOk Tryd.prog I36 := instOk_of Tryd.func36 (by kernel_rfl) (by kernel_rfl) (by kernel_rfl) (by kernel_rfl)
theorem ok8 : InstOk Tryd.prog I8 := instOk_of Tryd.func8 (by kernel_rfl) (by kernel_rfl) (by kernel_rfl) (by kernel_rfl)
theorem ok70 : InstOk Tryd.prog I70 := instOk_of Tryd.func70 (by kernel_rfl) (by kernel_rfl) (by kernel_rfl) (by kernel_rfl)
theorem ok37 : InstOk Tryd.prog I37 := instOk_of Tryd.func37 (by kernel_rfl) (by kernel_rfl) (by kernel_rfl) (by kernel_rfl)
theorem ok9 : InstOk Tryd.prog I9 := instOk_of Tryd.func9 (by kernel_rfl) (by kernel_rfl) (by kernel_rfl) (by kernel_rfl)
theorem ok38 : InstOk Tryd.prog I38 := instOk_of Tryd.func38 (by kernel_rfl) (by kernel_rfl) (by kernel_rfl) (by kernel_rfl)
theorem ok10 : InstOk Tryd.prog I10 := instOk_of Tryd.func10 (by kernel_rfl) (by kernel_rfl) (by kernel_rfl) (by kernel_rfl)
theorem ok71 : InstOk Tryd.prog I71 := instOk_of Tryd.func71 (by kernel_rfl) (by kernel_rfl) (by kernel_rfl) (by kernel_rfl)
theorem ok40 : InstOk Tryd.prog I40 := instOk_of Tryd.func40 (by kernel_rfl) (by kernel_rfl) (by kernel_rfl) (by kernel_rfl)
theorem ok11 : InstOk Tryd.prog I11 := instOk_of Tryd.func11 (by kernel_rfl) (by kernel_rfl) (by kernel_rfl) (by kernel_rfl)
theorem ok41 : InstOk Tryd.prog I41 := instOk_of Tryd.func41 (by kernel_rfl) (by kernel_rfl) (by kernel_rfl) (by kernel_rfl)
theorem ok12 : InstOk Tryd.prog I12 := instOk_of Tryd.func12 (by kernel_rfl) (by kernel_rfl) (by kernel_rfl) (by kernel_rfl)
theorem ok13 : InstOk Tryd.prog I13 := instOk_of Tryd.func13 (by kernel_rfl) (by kernel_rfl) (by kernel_rfl) (by kernel_rfl)
theorem ok42 : InstOk Tryd.prog I42 := instOk_of Tryd.func42 (by kernel_rfl) (by kernel_rfl) (by kernel_rfl) (by kernel_rfl)
theorem ok14 : InstOk Tryd.prog I14 := instOk_of Tryd.func14 (by kernel_rfl) (by kernel_rfl) (by kernel_rfl) (by kernel_rfl)
theorem ok77 : InstOk Tryd.prog I77 := instOk_of Tryd.func77 (by kernel_rfl) (by kernel_rfl) (by kernel_rfl) (by kernel_rfl)
theorem ok54 : InstOk Tryd.prog I54 := instOk_of Tryd.func54 (by kernel_rfl) (by kernel_rfl) (by kernel_rfl) (by kernel_rfl)
theorem ok80 : InstOk Tryd.prog I80 := instOk_of Tryd.func80 (by kernel_rfl) (by kernel_rfl) (by kernel_rfl) (by kernel_rfl)
theorem ok79 : InstOk Tryd.prog I79 := instOk_of Tryd.func79 (by kernel_rfl) (by kernel_rfl) (by kernel_rfl) (by kernel_rfl)
theorem ok91 : InstOk Tryd.prog I91 := instOk_of Tryd.func91 (by kernel_rfl) (by kernel_rfl) (by kernel_rfl) (by kernel_rfl)
theorem ok78 : InstOk Tryd.prog I78 := instOk_of Tryd.func78 (by kernel_rfl) (by kernel_rfl) (by kernel_rfl) (by kernel_rfl)
theorem ok49 : InstOk Tryd.prog I49 := instOk_of Tryd.func49 (by kernel_rfl) (by kernel_rfl) (by kernel_rfl) (by kernel_rfl)
theorem ok50 : InstOk Tryd.prog I50 := instOk_of Tryd.func50 (by kernel_rfl) (by kernel_rfl) (by kernel_rfl) (by kernel_rfl)
theorem ok19 : InstOk Tryd.prog I19 := instOk_of Tryd.func19 (by kernel_rfl) (by kernel_rfl) (by kernel_rfl) (by kernel_rfl)
theorem ok74 : InstOk Tryd.prog I74 := instOk_of Tryd.func74 (by kernel_rfl) (by kernel_rfl) (by kernel_rfl) (by kernel_rfl)
theorem ok97 : InstOk Tryd.prog I97 := instOk_of Tryd.func97 (by kernel_rfl) (by kernel_rfl) (by kernel_rfl) (by kernel_rfl)
theorem ok90 : InstOk Tryd.prog I90 := instOk_of Tryd.func90 (by kernel_rfl) (by kernel_rfl) (by kernel_rfl) (by kernel_rfl)
theorem ok75 : InstOk Tryd.prog I75 := instOk_of Tryd.func75 (by kernel_rfl) (by kernel_rfl) (by kernel_rfl) (by kernel_rfl)
theorem ok46 : InstOk Tryd.prog I46 := instOk_of Tryd.func46 (by kernel_rfl) (by kernel_rfl) (by kernel_rfl) (by kernel_rfl)
theorem ok43 : InstOk Tryd.prog I43 := instOk_of Tryd.func43 (by kernel_rfl) (by kernel_rfl) (by kernel_rfl) (by kernel_rfl)
theorem ok15 : InstOk Tryd.prog I15 := instOk_of Tryd.func15 (by kernel_rfl) (by kernel_rfl) (by kernel_rfl) (by kernel_rfl)
theorem ok73 : InstOk Tryd.prog I73 := instOk_of Tryd.func73 (by kernel_rfl) (by kernel_rfl) (by kernel_rfl) (by kernel_rfl)
theorem ok44 : InstOk Tryd.prog I44 := instOk_of Tryd.func44 (by kernel_rfl) (by kernel_rfl) (by kernel_rfl) (by kernel_rfl)
theorem ok45 : InstOk Tryd.prog I45 := instOk_ext rfl
theorem ok16 : InstOk Tryd.prog I16 := instOk_of Tryd.func16 (by kernel_rfl) (by kernel_rfl) (by kernel_rfl) (by kernel_rfl)
theorem ok48 : InstOk Tryd.prog I48 := instOk_of Tryd.func48 (by kernel_rfl) (by kernel_rfl) (by kernel_rfl) (by kernel_rfl)
theorem ok17 : InstOk Tryd.prog I17 := instOk_of Tryd.func17 (by kernel_rfl) (by kernel_rfl) (by kernel_rfl) (by kernel_rfl)
theorem ok18 : InstOk Tryd.prog I18 := instOk_of Tryd.func18 (by kernel_rfl) (by kernel_rfl) (by kernel_rfl) (by kernel_rfl)
theorem ok52 : InstOk Tryd.prog I52 := instOk_of Tryd.func52 (by kernel_rfl) (by kernel_rfl) (by kernel_rfl) (by kernel_rfl)
theorem ok81 : InstOk Tryd.prog I81 := instOk_of Tryd.func81 (by kernel_rfl) (by kernel_rfl) (by kernel_rfl) (by kernel_rfl)
theorem ok51 : InstOk Tryd.prog I51 := instOk_of Tryd.func51 (by kernel_rfl) (by kernel_rfl) (by kernel_rfl) (by kernel_rfl)
theorem ok20 : InstOk Tryd.prog I20 := instOk_of Tryd.func20 (by kernel_rfl) (by kernel_rfl) (by kernel_rfl) (by kernel_rfl)
theorem ok55 : InstOk Tryd.prog I55 := instOk_of Tryd.func55 (by kernel_rfl) (by kernel_rfl) (by kernel_rfl) (by kernel_rfl)
theorem ok21 : InstOk Tryd.prog I21 := instOk_of Tryd.func21 (by kernel_rfl) (by kernel_rfl) (by kernel_rfl) (by kernel_rfl)
theorem ok93 : InstOk Tryd.prog I93 := instOk_of Tryd.func93 (by kernel_rfl) (by kernel_rfl) (by kernel_rfl) (by kernel_rfl)
theorem ok94 : InstOk Tryd.prog I94 := instOk_of Tryd.func94 (by kernel_rfl) (by kernel_rfl) (by kernel_rfl) (by kernel_rfl)
theorem ok83 : InstOk Tryd.prog I83 := instOk_of Tryd.func83 (by kernel_rfl) (by kernel_rfl) (by kernel_rfl) (by kernel_rfl)
theorem ok92 : InstOk Tryd.prog I92 := instOk_of Tryd.func92 (by kernel_rfl) (by kernel_rfl) (by kernel_rfl) (by kernel_rfl)
theorem ok82 : InstOk Tryd.prog I82 := instOk_of Tryd.func82 (by kernel_rfl) (by kernel_rfl) (by kernel_rfl) (by kernel_rfl)
theorem ok56 : InstOk Tryd.prog I56 := instOk_of Tryd.func56 (by kernel_rfl) (by kernel_rfl) (by kernel_rfl) (by kernel_rfl)
theorem ok58 : InstOk Tryd.prog I58 := instOk_of Tryd.func58 (by kernel_rfl) (by kernel_rfl) (by kernel_rfl) (by kernel_rfl)
theorem ok57 : InstOk Tryd.prog I57 := instOk_of Tryd.func57 (by kernel_rfl) (by kernel_rfl) (by kernel_rfl) (by kernel_rfl)
theorem ok22 : InstOk Tryd.prog I22 := instOk_of Tryd.func22 (by kernel_rfl) (by kernel_rfl) (by kernel_rfl) (by kernel_rfl)
theorem ok23 : InstOk Tryd.prog I23 := instOk_of Tryd.func23 (by kernel_rfl) (by kernel_rfl) (by kernel_rfl) (by kernel_rfl)
theorem ok3 : InstOk Tryd.prog I3 := instOk_of Tryd.func3 (by kernel_rfl) (by kernel_rfl) (by kernel_rfl) (by kernel_rfl)
theorem insts : ∀ j, InstOk Tryd.prog (C j) := find_all ok4 (List.forall_mem_cons.2 ⟨ok4, List.forall_mem_cons.2 ⟨ok24, List.forall_mem_cons.2 ⟨ok60, List.forall_mem_cons.2 ⟨ok25, List.forall_mem_cons.2 ⟨ok5, List.forall_mem_cons.2 ⟨ok6, List.forall_mem_cons.2 ⟨ok29, List.forall_mem_cons.2 ⟨ok53, List.forall_mem_cons.2 ⟨ok64, List.forall_mem_cons.2 ⟨ok85, List.forall_mem_cons.2 ⟨ok63, List.forall_mem_cons.2 ⟨ok62, List.forall_mem_cons.2 ⟨ok84, List.forall_mem_cons.2 ⟨ok61, List.forall_mem_cons.2 ⟨ok28, List.forall_mem_cons.2 ⟨ok26, List.forall_mem_cons.2 ⟨ok27, List.forall_mem_cons.2 ⟨ok76, List.forall_mem_cons.2 ⟨ok47, List.forall_mem_cons.2 ⟨ok95, List.forall_mem_cons.2 ⟨ok86, List.forall_mem_cons.2 ⟨ok65, List.forall_mem_cons.2 ⟨ok31, List.forall_mem_cons.2 ⟨ok30, List.forall_mem_cons.2 ⟨ok66, List.forall_mem_cons.2 ⟨ok32, List.forall_mem_cons.2 ⟨ok33, List.forall_mem_cons.2 ⟨ok7, List.forall_mem_cons.2 ⟨ok35, List.forall_mem_cons.2 ⟨ok67, List.forall_mem_cons.2 ⟨ok34, List.forall_mem_cons.2 ⟨ok96, List.forall_mem_cons.2 ⟨ok39, List.forall_mem_cons.2 ⟨ok88, List.forall_mem_cons.2 ⟨ok89, List.forall_mem_cons.2 ⟨ok72, List.forall_mem_cons.2 ⟨ok87, List.forall_mem_cons.2 ⟨ok59, List.forall_mem_cons.2 ⟨ok69, List.forall_mem_cons.2 ⟨ok68, List.forall_mem_cons.2 ⟨ok36, List.forall_mem_cons.2 ⟨ok8, List.forall_mem_cons.2 ⟨ok70, List.forall_mem_cons.2 ⟨ok37, List.forall_mem_cons.2 ⟨ok9, List.forall_mem_cons.2 ⟨ok38, List.forall_mem_cons.2 ⟨ok10, List.forall_mem_cons.2 ⟨ok71, List.forall_mem_cons.2 ⟨ok40, List.forall_mem_cons.2 ⟨ok11, List.forall_mem_cons.2 ⟨ok41, List.forall_mem_cons.2 ⟨ok12, List.forall_mem_cons.2 ⟨ok13, List.forall_mem_cons.2 ⟨ok42, List.forall_mem_cons.2 ⟨ok14, List.forall_mem_cons.2 ⟨ok77, List.forall_mem_cons.2 ⟨ok54, List.forall_mem_cons.2 ⟨ok80, List.forall_mem_cons.2 ⟨ok79, List.forall_mem_cons.2 ⟨ok91, List.forall_mem_cons.2 ⟨ok78, List.forall_mem_cons.2 ⟨ok49, List.forall_mem_cons.2 ⟨ok50, List.forall_mem_cons.2 ⟨ok19, List.forall_mem_cons.2 ⟨ok74, List.forall_mem_cons.2 ⟨ok97, List.forall_mem_cons.2 ⟨ok90, List.forall_mem_cons.2 ⟨ok75, List.forall_mem_cons.2 ⟨ok46, List.forall_mem_cons.2 ⟨ok43, List.forall_mem_cons.2 ⟨ok15, List.forall_mem_cons.2 ⟨ok73, List.forall_mem_cons.2 ⟨ok44, List.forall_mem_cons.2 ⟨ok45, List.forall_mem_cons.2 ⟨ok16, List.forall_mem_cons.2 ⟨ok48, List.forall_mem_cons.2 ⟨ok17, List.forall_mem_cons.2 ⟨ok18, List.forall_mem_cons.2 ⟨ok52, List.forall_mem_cons.2 ⟨ok81, List.forall_mem_cons.2 ⟨ok51, List.forall_mem_cons.2 ⟨ok20, List.forall_mem_cons.2 ⟨ok55, List.forall_mem_cons.2 ⟨ok21, List.forall_mem_cons.2 ⟨ok93, List.forall_mem_cons.2 ⟨ok94, List.forall_mem_cons.2 ⟨ok83, List.forall_mem_cons.2 ⟨ok92, List.forall_mem_cons.2 ⟨ok82, List.forall_mem_cons.2 ⟨ok56, List.forall_mem_cons.2 ⟨ok58, List.forall_mem_cons.2 ⟨ok57, List.forall_mem_cons.2 ⟨ok22, List.forall_mem_cons.2 ⟨ok23, List.forall_mem_cons.2 ⟨ok3, fun _ h => absurd h List.not_mem_nil⟩⟩⟩⟩⟩⟩⟩⟩⟩⟩⟩⟩⟩⟩⟩⟩⟩⟩⟩⟩⟩⟩⟩⟩⟩⟩⟩⟩⟩⟩⟩⟩⟩⟩⟩⟩⟩⟩⟩⟩⟩⟩⟩⟩⟩⟩⟩⟩⟩⟩⟩⟩⟩⟩⟩⟩⟩⟩⟩⟩⟩⟩⟩⟩⟩⟩⟩⟩⟩⟩⟩⟩⟩⟩⟩⟩⟩⟩⟩⟩⟩⟩⟩⟩⟩⟩⟩⟩⟩⟩⟩⟩⟩⟩⟩)
theorem c45 : C 45 = I45 := by kernel_rfl
theorem exts {L : Laid} (h45 : ExtOk Tryd.prog L I45) : ∀ j, ExtOk Tryd.prog L (C j) := by
  have hC : C = find I4 CL := by delta C; with_reducible rfl
  refine fun j => exts_of (C := C) _ _ [45] hC (by kernel_rfl) (by kernel_rfl) ?_ j
  intro e he
  change ExtOk _ _ (C e)
  simp only [List.mem_cons, List.not_mem_nil, or_false] at he
  subst he; rw [c45]; exact h45
end Go.Proofs.YtgcncghbeplgnaaDoor.LCo
