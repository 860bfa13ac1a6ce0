/- The types and the functions that a law reaches, told for the reading (Fw). Written by a program (gen.py). -/
import Derived.Test.YtdhgdfofgeccgaaFwC
import Derived.Test.YtdhgdfofgeccgaaProg
namespace Go.Proofs.Ytdhgdfofgeccgaa.LPl
open Go Go.Fw
open Go.Proofs
noncomputable def tyL : List (Nat × TI) := [(2, ⟨(.int .i64), 0, 8⟩),
  (3, ⟨(.int .i64), 0, 8⟩),
  (4, ⟨.bool, 0, 1⟩),
  (5, ⟨(.int .u8), 0, 1⟩),
  (49, ⟨(.slc (.int .u8)), 5, 24⟩),
  (55, ⟨(.slc (.int .i64)), 2, 24⟩),
  (57, ⟨(.int .i16), 0, 2⟩),
  (58, ⟨(.slc (.pair (.int .i8) (.pair (.int .i16) (.pair (.int .i16) .unit)))), 67, 24⟩),
  (60, ⟨(.pair (.int .i16) (.pair (.slc (.pair (.int .i8) (.pair (.int .i16) (.pair (.int .i16) .unit)))) .unit)), 0, 32⟩),
  (65, ⟨(.int .i8), 0, 1⟩),
  (67, ⟨(.pair (.int .i8) (.pair (.int .i16) (.pair (.int .i16) .unit))), 0, 6⟩),
  (130, ⟨.fn, 0, 8⟩),
  (135, ⟨(.ptr (.pair (.slc (.int .u8)) (.pair (.int .i64) (.pair (.int .u64) .unit)))), 0, 8⟩),
  (139, ⟨(.ptr (.pair (.int .i16) (.pair (.slc (.pair (.int .i8) (.pair (.int .i16) (.pair (.int .i16) .unit)))) .unit))), 0, 8⟩),
  (141, ⟨.fn, 0, 8⟩),
  (185, ⟨(.int .u64), 0, 8⟩),
  (187, ⟨(.pair (.slc (.int .u8)) (.pair (.int .i64) (.pair (.int .u64) .unit))), 0, 40⟩)]
noncomputable def T : Nat → Option TI := findT tyL
/- laws.a2Long -/
noncomputable def I28 : Inst := { f := 28, nt := 13, params := [((.ro (.slc (.int .u8))), false), ((.ro (.slc (.int .u8))), false)], res := [(.ro .bool)], slots := [.tmp 4], code := bd Try.f28 }
/- laws.a2At -/
noncomputable def I29 : Inst := { f := 29, nt := 22, params := [((.ro (.slc (.int .u8))), false), ((.ro (.int .i64)), false), ((.ro (.int .i64)), false)], res := [(.ro (.int .i64))], slots := [.tmp 6], code := bd Try.f29 }
/- impl.inRange -/
noncomputable def I91 : Inst := { f := 91, nt := 15, params := [((.ro (.int .i64)), false), ((.ro (.int .i64)), false), ((.ro (.int .i64)), false)], res := [(.ro .bool)], slots := [.tmp 6], code := bd Try.f91 }
/- impl.isLaw -/
noncomputable def I101 : Inst := { f := 101, nt := 5, params := [((.ro (.int .i64)), false)], res := [(.ro .bool)], slots := [.tmp 2], code := bd Try.f101, callee := fun r i => find 0 [(1001, 91)] (r * 1000 + i) }
/- impl.shape -/
noncomputable def I208 : Inst := { f := 208, nt := 90, params := [((.ro (.int .i64)), false), ((.ro (.int .i64)), false), ((.ro (.int .i64)), false)], res := [(.ro (.int .i64)), (.ro (.int .i64))], slots := [.tmp 6, .tmp 7], code := bd Try.f208 }
/- impl.floorDiv -/
noncomputable def I210 : Inst := { f := 210, nt := 16, params := [((.ro (.int .i64)), false), ((.ro (.int .i64)), false)], res := [(.ro (.int .i64))], slots := [.tmp 4], code := bd Try.f210 }
/- impl.nearest -/
noncomputable def I207 : Inst := { f := 207, nt := 12, params := [((.ro (.int .i64)), false), ((.ro (.int .i64)), false)], res := [(.ro (.int .i64))], slots := [.tmp 4], code := bd Try.f207, callee := fun r i => find 0 [(1006, 210)] (r * 1000 + i) }
/- impl.liftIn -/
noncomputable def I177 : Inst := { f := 177, nt := 31, params := [((.ro (.int .i64)), false), ((.ro (.int .i64)), false), ((.ro (.int .i64)), false), ((.ro (.int .i64)), false), ((.ro (.int .i64)), false)], res := [(.ro (.int .i64))], slots := [.tmp 10], code := bd Try.f177, callee := fun r i => find 0 [(1003, 208), (2010, 207)] (r * 1000 + i) }
/- impl.changesIn -/
noncomputable def I103 : Inst := { f := 103, nt := 35, params := [((.ro (.int .i64)), false), ((.ro (.int .i64)), false), ((.ro (.int .i64)), false), ((.ro (.int .i64)), false)], res := [(.row false (.int .i64))], slots := [.tmp 8], code := bd Try.f103, callee := fun r i => find 0 [(5007, 177), (5013, 177)] (r * 1000 + i), loops := fun b => find [] [(0, [.own 0 (.ro (.int .i64)), .own 1 (.ro (.int .i64)), .own 2 (.ro (.int .i64)), .own 3 (.ro (.int .i64)), .own 9 (.row false (.int .i64)), .own 12 (.ro (.int .i64)), .own 13 (.ro (.int .i64))])] b, deep := fun r i => find false [(1000, true), (5015, true), (5016, true)] (r * 1000 + i) }
/- impl.abs -/
noncomputable def I116 : Inst := { f := 116, nt := 7, params := [((.ro (.int .i64)), false)], res := [(.ro (.int .i64))], slots := [.tmp 2], code := bd Try.f116 }
/- impl.greatest -/
noncomputable def I102 : Inst := { f := 102, nt := 25, params := [((.ro (.slc (.int .i64))), false)], res := [(.ro (.int .i64)), (.ro (.int .i64))], slots := [.tmp 2, .tmp 3], code := bd Try.f102, callee := fun r i => find 0 [(5001, 116), (6002, 116)] (r * 1000 + i), loops := fun b => find [] [(0, [.own 4 (.ro (.int .i64)), .own 5 (.ro (.int .i64)), .own 8 (.ro (.slc (.int .i64))), .own 9 (.ro (.int .i64)), .own 10 (.ro (.int .i64))])] b }
/- impl.LeastSteps -/
noncomputable def I30 : Inst := { f := 30, nt := 40, params := [((.ro (.int .i64)), false), ((.ro (.int .i64)), false), ((.ro (.int .i64)), false)], res := [(.ro (.int .i64)), (.ro (.int .i64))], slots := [.tmp 6, .tmp 7], code := bd Try.f30, callee := fun r i => find 0 [(1001, 101), (1005, 91), (1010, 91), (6003, 103), (6004, 102)] (r * 1000 + i), loops := fun b => find [] [(0, [.own 0 (.ro (.int .i64)), .own 1 (.ro (.int .i64)), .own 2 (.ro (.int .i64)), .own 8 (.ro (.int .i64))])] b }
/- spec.l00In -/
noncomputable def I85 : Inst := { f := 85, nt := 15, params := [((.ro (.int .i64)), false), ((.ro (.int .i64)), false), ((.ro (.int .i64)), false)], res := [(.ro .bool)], slots := [.tmp 6], code := bd Try.f85 }
/- spec.l02Law -/
noncomputable def I104 : Inst := { f := 104, nt := 5, params := [((.ro (.int .i64)), false)], res := [(.ro .bool)], slots := [.tmp 2], code := bd Try.f104, callee := fun r i => find 0 [(1001, 85)] (r * 1000 + i) }
/- spec.l02Shape -/
noncomputable def I178 : Inst := { f := 178, nt := 90, params := [((.ro (.int .i64)), false), ((.ro (.int .i64)), false), ((.ro (.int .i64)), false)], res := [(.ro (.int .i64)), (.ro (.int .i64))], slots := [.tmp 6, .tmp 7], code := bd Try.f178 }
/- spec.l01Near -/
noncomputable def I179 : Inst := { f := 179, nt := 23, params := [((.ro (.int .i64)), false), ((.ro (.int .i64)), false)], res := [(.ro (.int .i64))], slots := [.tmp 4], code := bd Try.f179 }
/- spec.l02Lift -/
noncomputable def I109 : Inst := { f := 109, nt := 31, params := [((.ro (.int .i64)), false), ((.ro (.int .i64)), false), ((.ro (.int .i64)), false), ((.ro (.int .i64)), false), ((.ro (.int .i64)), false)], res := [(.ro (.int .i64))], slots := [.tmp 10], code := bd Try.f109, callee := fun r i => find 0 [(1003, 178), (2010, 179)] (r * 1000 + i) }
/- spec.l02Lifts -/
noncomputable def I105 : Inst := { f := 105, nt := 27, params := [((.ro (.int .i64)), false), ((.ro (.int .i64)), false), ((.ro (.int .i64)), false), ((.ro (.int .i64)), false)], res := [(.row false (.int .i64))], slots := [.tmp 8], code := bd Try.f105, callee := fun r i => find 0 [(5006, 109)] (r * 1000 + i), loops := fun b => find [] [(0, [.own 0 (.ro (.int .i64)), .own 1 (.ro (.int .i64)), .own 2 (.ro (.int .i64)), .own 3 (.ro (.int .i64)), .own 9 (.row false (.int .i64)), .own 10 (.ro (.int .i64))])] b, deep := fun r i => find false [(1000, true), (5007, true), (5008, true)] (r * 1000 + i) }
/- spec.l01Size -/
noncomputable def I106 : Inst := { f := 106, nt := 8, params := [((.ro (.int .i64)), false)], res := [(.ro (.int .i64))], slots := [.tmp 2], code := bd Try.f106 }
/- spec.LeastSteps -/
noncomputable def I31 : Inst := { f := 31, nt := 58, params := [((.ro (.int .i64)), false), ((.ro (.int .i64)), false), ((.ro (.int .i64)), false)], res := [(.ro (.int .i64)), (.ro (.int .i64))], slots := [.tmp 6, .tmp 7], code := bd Try.f31, callee := fun r i => find 0 [(1001, 104), (1005, 85), (1010, 85), (6003, 105), (11012, 106)] (r * 1000 + i), loops := fun b => find [] [(2, [.own 0 (.ro (.int .i64)), .own 1 (.ro (.int .i64)), .own 2 (.ro (.int .i64)), .own 8 (.ro (.int .i64)), .own 9 (.ro (.slc (.int .i64))), .own 10 (.ro .bool), .own 11 (.ro (.int .i64))]), (0, [.own 0 (.ro (.int .i64)), .own 1 (.ro (.int .i64)), .own 2 (.ro (.int .i64)), .own 8 (.ro (.int .i64))])] b }
/- spec.l02Asked -/
noncomputable def I107 : Inst := { f := 107, nt := 18, params := [((.ro (.int .i64)), false), ((.ro (.int .i64)), false), ((.ro (.int .i64)), false)], res := [(.ro .bool)], slots := [.tmp 6], code := bd Try.f107, callee := fun r i => find 0 [(1001, 104), (1004, 85), (1009, 85)] (r * 1000 + i) }
/- spec.l01Lift -/
noncomputable def I108 : Inst := { f := 108, nt := 5, params := [((.ro (.int .i64)), false)], res := [(.ro .bool)], slots := [.tmp 2], code := bd Try.f108, callee := fun r i => find 0 [(1001, 85)] (r * 1000 + i) }
/- spec.LiftIn -/
noncomputable def I32 : Inst := { f := 32, nt := 33, params := [((.ro (.int .i64)), false), ((.ro (.int .i64)), false), ((.ro (.int .i64)), false), ((.ro (.int .i64)), false), ((.ro (.int .i64)), false)], res := [(.ro (.int .i64)), (.ro (.int .i64))], slots := [.tmp 10, .tmp 11], code := bd Try.f32, callee := fun r i => find 0 [(1003, 107), (1007, 108), (1012, 108), (3005, 109)] (r * 1000 + i) }
/- spec.l00From -/
noncomputable def I110 : Inst := { f := 110, nt := 6, params := [((.ro (.slc (.int .u8))), false)], res := [(.box (.ro (.pair (.slc (.int .u8)) (.pair (.int .i64) (.pair (.int .u64) .unit)))))], slots := [.tmp 2], code := bd Try.f110, strict := true }
/- spec.l00Src).next -/
noncomputable def I180 : Inst := { f := 180, nt := 62, params := [((.box (.ro (.pair (.slc (.int .u8)) (.pair (.int .i64) (.pair (.int .u64) .unit))))), true)], res := [(.ro (.int .i64))], slots := [.tmp 2], code := bd Try.f180, strict := true, pins := [0] }
/- spec.l00Src).pick -/
noncomputable def I111 : Inst := { f := 111, nt := 20, params := [((.box (.ro (.pair (.slc (.int .u8)) (.pair (.int .i64) (.pair (.int .u64) .unit))))), true), ((.ro (.int .i64)), false)], res := [(.ro (.int .i64))], slots := [.tmp 4], code := bd Try.f111, strict := true, callee := fun r i => find 0 [(3001, 180), (5003, 180)] (r * 1000 + i), pins := [0] }
/- spec.A2Lifts -/
noncomputable def I33 : Inst := { f := 33, nt := 22, params := [((.ro (.slc (.int .u8))), false)], res := [(.row false (.int .i64))], slots := [.tmp 2], code := bd Try.f33, callee := fun r i => find 0 [(1001, 110), (3001, 111), (6002, 111)] (r * 1000 + i), loops := fun b => find [] [(0, [.own 3 (.box (.ro (.pair (.slc (.int .u8)) (.pair (.int .i64) (.pair (.int .u64) .unit))))), .own 4 (.row false (.int .i64)), .own 5 (.ro (.int .i64))])] b, deep := fun r i => find false [(2000, true), (6003, true), (6004, true)] (r * 1000 + i) }
/- impl.isLift -/
noncomputable def I114 : Inst := { f := 114, nt := 5, params := [((.ro (.int .i64)), false)], res := [(.ro .bool)], slots := [.tmp 2], code := bd Try.f114, callee := fun r i => find 0 [(1001, 91)] (r * 1000 + i) }
/- impl.PlanSteps$1 -/
noncomputable def I113 : Inst := { f := 113, nt := 6, params := [((.ro (.int .i64)), false)], res := [(.ro .bool)], slots := [.tmp 2], code := bd Try.f113, callee := fun r i => find 0 [(1001, 114)] (r * 1000 + i) }
/- slices.IndexFunc[[]int64,int64] -/
noncomputable def I181 : Inst := { f := 181, nt := 19, params := [((.ro (.slc (.int .i64))), false), ((.clo 113 (.ro .unit) (.ro .unit)), false)], res := [(.ro (.int .i64))], slots := [.tmp 4], code := bd Try.f181, callee := fun r i => find 0 [(4005, 113)] (r * 1000 + i), loops := fun b => find [] [(0, [.own 0 (.ro (.slc (.int .i64))), .own 1 (.clo 113 (.ro .unit) (.ro .unit)), .own 7 (.ro (.int .i64)), .own 8 (.ro (.int .i64))])] b }
/- slices.ContainsFunc[[]int64,int64] -/
noncomputable def I112 : Inst := { f := 112, nt := 9, params := [((.ro (.slc (.int .i64))), false), ((.clo 113 (.ro .unit) (.ro .unit)), false)], res := [(.ro .bool)], slots := [.tmp 4], code := bd Try.f112, callee := fun r i => find 0 [(1002, 181)] (r * 1000 + i) }
/- impl.isSteps -/
noncomputable def I115 : Inst := { f := 115, nt := 5, params := [((.ro (.int .i64)), false)], res := [(.ro .bool)], slots := [.tmp 2], code := bd Try.f115, callee := fun r i => find 0 [(1001, 91)] (r * 1000 + i) }
/- impl.PlanSteps -/
noncomputable def I34 : Inst := { f := 34, nt := 128, params := [((.ro (.slc (.int .i64))), false), ((.ro (.int .i64)), false), ((.ro (.int .i64)), false)], res := [(.pr (.ro (.int .i16)) (.pr (.row false (.pair (.int .i8) (.pair (.int .i16) (.pair (.int .i16) .unit)))) (.ro .unit))), (.ro (.int .i64))], slots := [.cell 6 60, .tmp 7], code := bd Try.f34, callee := fun r i => find 0 [(2001, 101), (2005, 91), (2010, 112), (2014, 115), (10004, 116)] (r * 1000 + i), loops := fun b => find [] [(4, [.own 6 (.box (.ro (.pair (.int .i16) (.pair (.slc (.pair (.int .i8) (.pair (.int .i16) (.pair (.int .i16) .unit)))) .unit)))), .own 9 (.box (.pr (.ro (.int .i16)) (.pr (.row false (.pair (.int .i8) (.pair (.int .i16) (.pair (.int .i16) .unit)))) (.ro .unit)))), .own 10 (.row false (.int .i64)), .own 14 (.ro (.int .i64)), .own 83 (.ro (.int .i64)), .own 84 (.ro (.int .i64)), .same 86 10, .own 87 (.ro (.int .i64)), .own 88 (.ro (.int .i64))]), (2, [.own 6 (.box (.ro (.pair (.int .i16) (.pair (.slc (.pair (.int .i8) (.pair (.int .i16) (.pair (.int .i16) .unit)))) .unit)))), .own 9 (.box (.pr (.ro (.int .i16)) (.pr (.row false (.pair (.int .i8) (.pair (.int .i16) (.pair (.int .i16) .unit)))) (.ro .unit)))), .own 10 (.row false (.int .i64)), .own 83 (.ro (.int .i64)), .own 84 (.ro (.int .i64))]), (0, [.own 0 (.ro (.slc (.int .i64))), .own 1 (.ro (.int .i64)), .own 2 (.ro (.int .i64)), .own 6 (.box (.ro (.pair (.int .i16) (.pair (.slc (.pair (.int .i8) (.pair (.int .i16) (.pair (.int .i16) .unit)))) .unit)))), .own 8 (.ro (.int .i64)), .own 9 (.box (.pr (.ro (.int .i16)) (.pr (.row false (.pair (.int .i8) (.pair (.int .i16) (.pair (.int .i16) .unit)))) (.ro .unit)))), .own 10 (.row false (.int .i64)), .own 48 (.ro (.slc (.int .i64))), .own 49 (.ro (.int .i64)), .own 50 (.ro (.int .i64))])] b, deep := fun r i => find false [(4005, true), (9007, true), (9008, true), (10005, true), (10006, true)] (r * 1000 + i) }
/- spec.l01Steps -/
noncomputable def I117 : Inst := { f := 117, nt := 5, params := [((.ro (.int .i64)), false)], res := [(.ro .bool)], slots := [.tmp 2], code := bd Try.f117, callee := fun r i => find 0 [(1001, 85)] (r * 1000 + i) }
/- spec.PlanSteps -/
noncomputable def I35 : Inst := { f := 35, nt := 138, params := [((.ro (.slc (.int .i64))), false), ((.ro (.int .i64)), false), ((.ro (.int .i64)), false)], res := [(.pr (.ro (.int .i16)) (.pr (.row false (.pair (.int .i8) (.pair (.int .i16) (.pair (.int .i16) .unit)))) (.ro .unit))), (.ro (.int .i64))], slots := [.cell 6 60, .tmp 7], code := bd Try.f35, callee := fun r i => find 0 [(2001, 104), (2004, 85), (2008, 117), (6004, 108), (16007, 106)] (r * 1000 + i), loops := fun b => find [] [(6, [.own 6 (.box (.ro (.pair (.int .i16) (.pair (.slc (.pair (.int .i8) (.pair (.int .i16) (.pair (.int .i16) .unit)))) .unit)))), .own 8 (.ro (.int .i64)), .own 11 (.box (.pr (.ro (.int .i16)) (.pr (.row false (.pair (.int .i8) (.pair (.int .i16) (.pair (.int .i16) .unit)))) (.ro .unit)))), .own 12 (.row false (.int .i64)), .own 15 (.ro (.int .i64)), .own 16 (.ro (.int .i64)), .own 17 (.ro (.int .i64))]), (4, [.own 6 (.box (.ro (.pair (.int .i16) (.pair (.slc (.pair (.int .i8) (.pair (.int .i16) (.pair (.int .i16) .unit)))) .unit)))), .own 8 (.ro (.int .i64)), .own 11 (.box (.pr (.ro (.int .i16)) (.pr (.row false (.pair (.int .i8) (.pair (.int .i16) (.pair (.int .i16) .unit)))) (.ro .unit)))), .own 12 (.row false (.int .i64)), .own 15 (.ro (.int .i64))]), (2, [.own 0 (.ro (.slc (.int .i64))), .own 1 (.ro (.int .i64)), .own 2 (.ro (.int .i64)), .own 6 (.box (.ro (.pair (.int .i16) (.pair (.slc (.pair (.int .i8) (.pair (.int .i16) (.pair (.int .i16) .unit)))) .unit)))), .own 8 (.ro (.int .i64)), .own 11 (.box (.pr (.ro (.int .i16)) (.pr (.row false (.pair (.int .i8) (.pair (.int .i16) (.pair (.int .i16) .unit)))) (.ro .unit)))), .own 12 (.row false (.int .i64)), .own 13 (.ro (.int .i64))]), (0, [.own 0 (.ro (.slc (.int .i64))), .own 1 (.ro (.int .i64)), .own 2 (.ro (.int .i64)), .own 6 (.box (.ro (.pair (.int .i16) (.pair (.slc (.pair (.int .i8) (.pair (.int .i16) (.pair (.int .i16) .unit)))) .unit)))), .own 8 (.ro (.int .i64)), .own 9 (.ro .bool), .own 10 (.ro (.int .i64))])] b, deep := fun r i => find false [(10000, true), (15007, true), (15008, true), (16008, true), (16009, true)] (r * 1000 + i) }
/- spec.l02Same -/
noncomputable def I118 : Inst := { f := 118, nt := 52, params := [((.ro (.ptr (.pair (.int .i16) (.pair (.slc (.pair (.int .i8) (.pair (.int .i16) (.pair (.int .i16) .unit)))) .unit)))), false), ((.ro (.ptr (.pair (.int .i16) (.pair (.slc (.pair (.int .i8) (.pair (.int .i16) (.pair (.int .i16) .unit)))) .unit)))), false)], res := [(.ro .bool)], slots := [.tmp 4], code := bd Try.f118, loops := fun b => find [] [(0, [.own 0 (.ro (.ptr (.pair (.int .i16) (.pair (.slc (.pair (.int .i8) (.pair (.int .i16) (.pair (.int .i16) .unit)))) .unit)))), .own 1 (.ro (.ptr (.pair (.int .i16) (.pair (.slc (.pair (.int .i8) (.pair (.int .i16) (.pair (.int .i16) .unit)))) .unit)))), .own 5 (.ro (.int .i64))])] b }
/- spec.SameProgram -/
noncomputable def I36 : Inst := { f := 36, nt := 6, params := [((.ro (.pair (.int .i16) (.pair (.slc (.pair (.int .i8) (.pair (.int .i16) (.pair (.int .i16) .unit)))) .unit))), false), ((.ro (.pair (.int .i16) (.pair (.slc (.pair (.int .i8) (.pair (.int .i16) (.pair (.int .i16) .unit)))) .unit))), false)], res := [(.ro .bool)], slots := [.tmp 4], code := bd Try.f36, callee := fun r i => find 0 [(1000, 118)] (r * 1000 + i) }
/- impl.ValidProgram$1 -/
noncomputable def I120 : Inst := { f := 120, nt := 20, params := [((.ro (.pair (.int .i8) (.pair (.int .i16) (.pair (.int .i16) .unit)))), false)], res := [(.ro .bool)], slots := [.tmp 2], code := bd Try.f120, callee := fun r i => find 0 [(1003, 101), (1014, 114)] (r * 1000 + i) }
/- impl.Motion] -/
noncomputable def I182 : Inst := { f := 182, nt := 19, params := [((.ro (.slc (.pair (.int .i8) (.pair (.int .i16) (.pair (.int .i16) .unit))))), false), ((.clo 120 (.ro .unit) (.ro .unit)), false)], res := [(.ro (.int .i64))], slots := [.tmp 4], code := bd Try.f182, callee := fun r i => find 0 [(4005, 120)] (r * 1000 + i), loops := fun b => find [] [(0, [.own 0 (.ro (.slc (.pair (.int .i8) (.pair (.int .i16) (.pair (.int .i16) .unit))))), .own 1 (.clo 120 (.ro .unit) (.ro .unit)), .own 7 (.ro (.int .i64)), .own 8 (.ro (.int .i64))])] b }
/- impl.Motion] -/
noncomputable def I119 : Inst := { f := 119, nt := 9, params := [((.ro (.slc (.pair (.int .i8) (.pair (.int .i16) (.pair (.int .i16) .unit))))), false), ((.clo 120 (.ro .unit) (.ro .unit)), false)], res := [(.ro .bool)], slots := [.tmp 4], code := bd Try.f119, callee := fun r i => find 0 [(1002, 182)] (r * 1000 + i) }
/- impl.Program).steps -/
noncomputable def I121 : Inst := { f := 121, nt := 20, params := [((.ro (.pair (.int .i16) (.pair (.slc (.pair (.int .i8) (.pair (.int .i16) (.pair (.int .i16) .unit)))) .unit))), false)], res := [(.ro (.int .i64))], slots := [.tmp 2], code := bd Try.f121, loops := fun b => find [] [(0, [.own 3 (.ro (.int .i64)), .own 7 (.ro (.slc (.pair (.int .i8) (.pair (.int .i16) (.pair (.int .i16) .unit))))), .own 8 (.ro (.int .i64)), .own 9 (.ro (.int .i64))])] b }
/- impl.ValidProgram -/
noncomputable def I37 : Inst := { f := 37, nt := 40, params := [((.ro (.pair (.int .i16) (.pair (.slc (.pair (.int .i8) (.pair (.int .i16) (.pair (.int .i16) .unit)))) .unit))), false)], res := [(.ro .bool)], slots := [.tmp 2], code := bd Try.f37, callee := fun r i => find 0 [(1003, 91), (1009, 114), (3002, 119), (4004, 121), (4005, 115)] (r * 1000 + i) }
/- impl.isShape -/
noncomputable def I122 : Inst := { f := 122, nt := 18, params := [((.ro (.int .i64)), false), ((.ro (.int .i64)), false), ((.ro (.int .i64)), false)], res := [(.ro .bool)], slots := [.tmp 6], code := bd Try.f122, callee := fun r i => find 0 [(1001, 101), (1004, 91), (1009, 91)] (r * 1000 + i) }
/- impl.EasiestLaw -/
noncomputable def I38 : Inst := { f := 38, nt := 80, params := [((.ro (.int .i64)), false), ((.ro (.int .i64)), false), ((.ro (.int .i64)), false)], res := [(.ro (.int .i64)), (.ro (.int .i64)), (.ro (.int .i64))], slots := [.tmp 6, .tmp 7, .tmp 8], code := bd Try.f38, callee := fun r i => find 0 [(1001, 122), (1005, 114), (1010, 114), (5001, 101), (7004, 103), (15001, 102)] (r * 1000 + i), loops := fun b => find [] [(2, [.own 0 (.ro (.int .i64)), .own 1 (.ro (.int .i64)), .own 2 (.ro (.int .i64)), .own 9 (.ro (.int .i64)), .own 10 (.ro (.int .i64)), .own 11 (.ro (.int .i64)), .own 12 (.row false (.int .i64)), .own 13 (.row false (.int .i64)), .same 43 12, .own 44 (.ro (.int .i64)), .own 45 (.ro (.int .i64))]), (0, [.own 0 (.ro (.int .i64)), .own 1 (.ro (.int .i64)), .own 2 (.ro (.int .i64)), .own 9 (.ro (.int .i64)), .own 10 (.ro (.int .i64)), .own 11 (.ro (.int .i64))])] b, deep := fun r i => find false [(7005, true), (7006, true), (7007, true), (13002, true), (13003, true)] (r * 1000 + i) }
/- spec.l00Max -/
noncomputable def I98 : Inst := { f := 98, nt := 10, params := [((.ro (.int .i64)), false), ((.ro (.int .i64)), false)], res := [(.ro (.int .i64))], slots := [.tmp 4], code := bd Try.f98 }
/- spec.l02Bend -/
noncomputable def I123 : Inst := { f := 123, nt := 45, params := [((.ro (.int .i64)), false), ((.ro (.int .i64)), false), ((.ro (.int .i64)), false), ((.ro (.int .i64)), false)], res := [(.ro (.int .i64))], slots := [.tmp 8], code := bd Try.f123, callee := fun r i => find 0 [(1004, 105), (10004, 106), (10005, 98)] (r * 1000 + i), loops := fun b => find [] [(0, [.own 3 (.ro (.int .i64)), .own 9 (.ro (.slc (.int .i64))), .own 10 (.ro (.int .i64)), .own 11 (.ro (.int .i64)), .own 12 (.ro (.int .i64))])] b }
/- spec.EasiestLaw -/
noncomputable def I39 : Inst := { f := 39, nt := 46, params := [((.ro (.int .i64)), false), ((.ro (.int .i64)), false), ((.ro (.int .i64)), false)], res := [(.ro (.int .i64)), (.ro (.int .i64)), (.ro (.int .i64))], slots := [.tmp 6, .tmp 7, .tmp 8], code := bd Try.f39, callee := fun r i => find 0 [(1001, 107), (1005, 108), (1010, 108), (4003, 123), (8004, 123)] (r * 1000 + i), loops := fun b => find [] [(0, [.own 0 (.ro (.int .i64)), .own 1 (.ro (.int .i64)), .own 2 (.ro (.int .i64)), .own 9 (.ro (.int .i64)), .own 10 (.ro (.int .i64)), .own 11 (.ro (.int .i64))])] b }
/- laws.FnPlanned -/
noncomputable def I6 : Inst := { f := 6, nt := 267, params := [((.ro (.slc (.int .u8))), false), ((.ro (.slc (.int .u8))), false)], res := [(.ro .bool)], slots := [.tmp 4], code := bd Try.f6, callee := fun r i => find 0 [(1002, 28), (3001, 29), (4001, 29), (5001, 29), (6003, 30), (7003, 31), (19006, 32), (20007, 32), (26001, 33), (27001, 29), (28003, 34), (29003, 35), (30010, 36), (30015, 37), (39002, 38), (40002, 39)] (r * 1000 + i), loops := fun b => find [] [(4, [.own 6 (.ro (.int .i64)), .own 10 (.ro (.int .i64)), .own 19 (.ro (.slc (.int .i64))), .own 20 (.ro (.int .i64)), .own 23 (.box (.ro (.pair (.int .i16) (.pair (.slc (.pair (.int .i8) (.pair (.int .i16) (.pair (.int .i16) .unit)))) .unit)))), .own 25 (.ro (.int .i64)), .own 26 (.ro (.int .i64))]), (2, [.own 1 (.ro (.slc (.int .u8))), .own 5 (.ro (.int .i64)), .own 6 (.ro (.int .i64)), .own 7 (.ro (.int .i64)), .own 10 (.ro (.int .i64)), .own 12 (.ro (.int .i64)), .own 13 (.ro .bool), .own 14 (.ro (.int .i64))]), (0, [.own 1 (.ro (.slc (.int .u8))), .own 5 (.ro (.int .i64)), .own 6 (.ro (.int .i64)), .own 7 (.ro (.int .i64)), .own 10 (.ro (.int .i64)), .own 12 (.ro (.int .i64))])] b }
noncomputable def CL : List (Nat × Inst) := [(28, I28), (29, I29), (91, I91), (101, I101), (208, I208), (210, I210), (207, I207), (177, I177), (103, I103), (116, I116), (102, I102), (30, I30), (85, I85), (104, I104), (178, I178), (179, I179), (109, I109), (105, I105), (106, I106), (31, I31), (107, I107), (108, I108), (32, I32), (110, I110), (180, I180), (111, I111), (33, I33), (114, I114), (113, I113), (181, I181), (112, I112), (115, I115), (34, I34), (117, I117), (35, I35), (118, I118), (36, I36), (120, I120), (182, I182), (119, I119), (121, I121), (37, I37), (122, I122), (38, I38), (98, I98), (123, I123), (39, I39), (6, I6)]
noncomputable def C : Nat → Inst := find I28 CL
theorem tsOk : TsOk Try.prog T := tsOkB_sound (by kernel_rfl)
theorem ok28 : InstOk Try.prog I28 := instOk_of Try.func28 (by kernel_rfl) (by kernel_rfl) (by kernel_rfl) (by kernel_rfl)
theorem ok29 : InstOk Try.prog I29 := instOk_of Try.func29 (by kernel_rfl) (by kernel_rfl) (by kernel_rfl) (by kernel_rfl)
theorem ok91 : InstOk Try.prog I91 := instOk_of Try.func91 (by kernel_rfl) (by kernel_rfl) (by kernel_rfl) (by kernel_rfl)
theorem ok101 : InstOk Try.prog I101 := instOk_of Try.func101 (by kernel_rfl) (by kernel_rfl) (by kernel_rfl) (by kernel_rfl)
theorem ok208 : InstOk Try.prog I208 := instOk_of Try.func208 (by kernel_rfl) (by kernel_rfl) (by kernel_rfl) (by kernel_rfl)
theorem ok210 : InstOk Try.prog I210 := instOk_of Try.func210 (by kernel_rfl) (by kernel_rfl) (by kernel_rfl) (by kernel_rfl)
theorem ok207 : InstOk Try.prog I207 := instOk_of Try.func207 (by kernel_rfl) (by kernel_rfl) (by kernel_rfl) (by kernel_rfl)
theorem ok177 : InstOk Try.prog I177 := instOk_of Try.func177 (by kernel_rfl) (by kernel_rfl) (by kernel_rfl) (by kernel_rfl)
theorem ok103 : InstOk Try.prog I103 := instOk_of Try.func103 (by kernel_rfl) (by kernel_rfl) (by kernel_rfl) (by kernel_rfl)
theorem ok116 : InstOk Try.prog I116 := instOk_of Try.func116 (by kernel_rfl) (by kernel_rfl) (by kernel_rfl) (by kernel_rfl)
theorem ok102 : InstOk Try.prog I102 := instOk_of Try.func102 (by kernel_rfl) (by kernel_rfl) (by kernel_rfl) (by kernel_rfl)
theorem ok30 : InstOk Try.prog I30 := instOk_of Try.func30 (by kernel_rfl) (by kernel_rfl) (by kernel_rfl) (by kernel_rfl)
theorem ok85 : InstOk Try.prog I85 := instOk_of Try.func85 (by kernel_rfl) (by kernel_rfl) (by kernel_rfl) (by kernel_rfl)
theorem ok104 : InstOk Try.prog I104 := instOk_of Try.func104 (by kernel_rfl) (by kernel_rfl) (by kernel_rfl) (by kernel_rfl)
theorem ok178 : InstOk Try.prog I178 := instOk_of Try.func178 (by kernel_rfl) (by kernel_rfl) (by kernel_rfl) (by kernel_rfl)
theorem ok179 : InstOk Try.prog I179 := instOk_of Try.func179 (by kernel_rfl) (by kernel_rfl) (by kernel_rfl) (by kernel_rfl)
theorem ok109 : InstOk Try.prog I109 := instOk_of Try.func109 (by kernel_rfl) (by kernel_rfl) (by kernel_rfl) (by kernel_rfl)
theorem ok105 : InstOk Try.prog I105 := instOk_of Try.func105 (by kernel_rfl) (by kernel_rfl) (by kernel_rfl) (by kernel_rfl)
theorem ok106 : InstOk Try.prog I106 := instOk_of Try.func106 (by kernel_rfl) (by kernel_rfl) (by kernel_rfl) (by kernel_rfl)
theorem ok31 : InstOk Try.prog I31 := instOk_of Try.func31 (by kernel_rfl) (by kernel_rfl) (by kernel_rfl) (by kernel_rfl)
theorem ok107 : InstOk Try.prog I107 := instOk_of Try.func107 (by kernel_rfl) (by kernel_rfl) (by kernel_rfl) (by kernel_rfl)
theorem ok108 : InstOk Try.prog I108 := instOk_of Try.func108 (by kernel_rfl) (by kernel_rfl) (by kernel_rfl) (by kernel_rfl)
theorem ok32 : InstOk Try.prog I32 := instOk_of Try.func32 (by kernel_rfl) (by kernel_rfl) (by kernel_rfl) (by kernel_rfl)
theorem ok110 : InstOk Try.prog I110 := instOk_of Try.func110 (by kernel_rfl) (by kernel_rfl) (by kernel_rfl) (by kernel_rfl)
theorem ok180 : InstOk Try.prog I180 := instOk_of Try.func180 (by kernel_rfl) (by kernel_rfl) (by kernel_rfl) (by kernel_rfl)
theorem ok111 : InstOk Try.prog I111 := instOk_of Try.func111 (by kernel_rfl) (by kernel_rfl) (by kernel_rfl) (by kernel_rfl)
theorem ok33 : InstOk Try.prog I33 := instOk_of Try.func33 (by kernel_rfl) (by kernel_rfl) (by kernel_rfl) (by kernel_rfl)
theorem ok114 : InstOk Try.prog I114 := instOk_of Try.func114 (by kernel_rfl) (by kernel_rfl) (by kernel_rfl) (by kernel_rfl)
theorem ok113 : InstOk Try.prog I113 := instOk_of Try.func113 (by kernel_rfl) (by kernel_rfl) (by kernel_rfl) (by kernel_rfl)
theorem ok181 : InstOk Try.prog I181 := instOk_of Try.func181 (by kernel_rfl) (by kernel_rfl) (by kernel_rfl) (by kernel_rfl)
theorem ok112 : InstOk Try.prog I112 := instOk_of Try.func112 (by kernel_rfl) (by kernel_rfl) (by kernel_rfl) (by kernel_rfl)
theorem ok115 : InstOk Try.prog I115 := instOk_of Try.func115 (by kernel_rfl) (by kernel_rfl) (by kernel_rfl) (by kernel_rfl)
theorem ok34 : InstOk Try.prog I34 := instOk_of Try.func34 (by kernel_rfl) (by kernel_rfl) (by kernel_rfl) (by kernel_rfl)
theorem ok117 : InstOk Try.prog I117 := instOk_of Try.func117 (by kernel_rfl) (by kernel_rfl) (by kernel_rfl) (by kernel_rfl)
theorem ok35 : InstOk Try.prog I35 := instOk_of Try.func35 (by kernel_rfl) (by kernel_rfl) (by kernel_rfl) (by kernel_rfl)
theorem ok118 : InstOk Try.prog I118 := instOk_of Try.func118 (by kernel_rfl) (by kernel_rfl) (by kernel_rfl) (by kernel_rfl)
theorem ok36 : InstOk Try.prog I36 := instOk_of Try.func36 (by kernel_rfl) (by kernel_rfl) (by kernel_rfl) (by kernel_rfl)
theorem ok120 : InstOk Try.prog I120 := instOk_of Try.func120 (by kernel_rfl) (by kernel_rfl) (by kernel_rfl) (by kernel_rfl)
theorem ok182 : InstOk Try.prog I182 := instOk_of Try.func182 (by kernel_rfl) (by kernel_rfl) (by kernel_rfl) (by kernel_rfl)
theorem ok119 : InstOk Try.prog I119 := instOk_of Try.func119 (by kernel_rfl) (by kernel_rfl) (by kernel_rfl) (by kernel_rfl)
theorem ok121 : InstOk Try.prog I121 := instOk_of Try.func121 (by kernel_rfl) (by kernel_rfl) (by kernel_rfl) (by kernel_rfl)
theorem ok37 : InstOk Try.prog I37 := instOk_of Try.func37 (by kernel_rfl) (by kernel_rfl) (by kernel_rfl) (by kernel_rfl)
theorem ok122 : InstOk Try.prog I122 := instOk_of Try.func122 (by kernel_rfl) (by kernel_rfl) (by kernel_rfl) (by kernel_rfl)
theorem ok38 : InstOk Try.prog I38 := instOk_of Try.func38 (by kernel_rfl) (by kernel_rfl) (by kernel_rfl) (by kernel_rfl)
theorem ok98 : InstOk Try.prog I98 := instOk_of Try.func98 (by kernel_rfl) (by kernel_rfl) (by kernel_rfl) (by kernel_rfl)
theorem ok123 : InstOk Try.prog I123 := instOk_of Try.func123 (by kernel_rfl) (by kernel_rfl) (by kernel_rfl) (by kernel_rfl)
theorem ok39 : InstOk Try.prog I39 := instOk_of Try.func39 (by kernel_rfl) (by kernel_rfl) (by kernel_rfl) (by kernel_rfl)
theorem ok6 : InstOk Try.prog I6 := instOk_of Try.func6 (by kernel_rfl) (by kernel_rfl) (by kernel_rfl) (by kernel_rfl)
theorem insts : ∀ j, InstOk Try.prog (C j) := find_all ok28 (List.forall_mem_cons.2 ⟨ok28, List.forall_mem_cons.2 ⟨ok29, List.forall_mem_cons.2 ⟨ok91, List.forall_mem_cons.2 ⟨ok101, List.forall_mem_cons.2 ⟨ok208, List.forall_mem_cons.2 ⟨ok210, List.forall_mem_cons.2 ⟨ok207, List.forall_mem_cons.2 ⟨ok177, List.forall_mem_cons.2 ⟨ok103, List.forall_mem_cons.2 ⟨ok116, List.forall_mem_cons.2 ⟨ok102, List.forall_mem_cons.2 ⟨ok30, List.forall_mem_cons.2 ⟨ok85, List.forall_mem_cons.2 ⟨ok104, List.forall_mem_cons.2 ⟨ok178, List.forall_mem_cons.2 ⟨ok179, List.forall_mem_cons.2 ⟨ok109, List.forall_mem_cons.2 ⟨ok105, List.forall_mem_cons.2 ⟨ok106, List.forall_mem_cons.2 ⟨ok31, List.forall_mem_cons.2 ⟨ok107, List.forall_mem_cons.2 ⟨ok108, List.forall_mem_cons.2 ⟨ok32, List.forall_mem_cons.2 ⟨ok110, List.forall_mem_cons.2 ⟨ok180, List.forall_mem_cons.2 ⟨ok111, List.forall_mem_cons.2 ⟨ok33, List.forall_mem_cons.2 ⟨ok114, List.forall_mem_cons.2 ⟨ok113, List.forall_mem_cons.2 ⟨ok181, List.forall_mem_cons.2 ⟨ok112, List.forall_mem_cons.2 ⟨ok115, List.forall_mem_cons.2 ⟨ok34, List.forall_mem_cons.2 ⟨ok117, List.forall_mem_cons.2 ⟨ok35, List.forall_mem_cons.2 ⟨ok118, List.forall_mem_cons.2 ⟨ok36, List.forall_mem_cons.2 ⟨ok120, List.forall_mem_cons.2 ⟨ok182, List.forall_mem_cons.2 ⟨ok119, List.forall_mem_cons.2 ⟨ok121, List.forall_mem_cons.2 ⟨ok37, List.forall_mem_cons.2 ⟨ok122, List.forall_mem_cons.2 ⟨ok38, List.forall_mem_cons.2 ⟨ok98, List.forall_mem_cons.2 ⟨ok123, List.forall_mem_cons.2 ⟨ok39, List.forall_mem_cons.2 ⟨ok6, fun _ h => absurd h List.not_mem_nil⟩⟩⟩⟩⟩⟩⟩⟩⟩⟩⟩⟩⟩⟩⟩⟩⟩⟩⟩⟩⟩⟩⟩⟩⟩⟩⟩⟩⟩⟩⟩⟩⟩⟩⟩⟩⟩⟩⟩⟩⟩⟩⟩⟩⟩⟩⟩⟩)
theorem noExt : ∀ j, (C j).ext = none := by
  have hC : C = find I28 CL := by delta C; with_reducible rfl
  exact fun j => noExt_of (C := C) _ _ hC (by kernel_rfl) (by kernel_rfl) j
end Go.Proofs.Ytdhgdfofgeccgaa.LPl
