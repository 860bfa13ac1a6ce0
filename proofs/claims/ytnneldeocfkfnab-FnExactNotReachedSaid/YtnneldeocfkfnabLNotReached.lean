/- The types and the functions that a law reaches, told for the reading (Fw). Written by a program (gen.py). -/
import Derived.Test.YtnneldeocfkfnabFwC
import Derived.Test.YtnneldeocfkfnabProg
namespace Go.Proofs.Ytnneldeocfkfnab.LNotReached
open Go Go.Fw
open Go.Proofs
noncomputable def tyL : List (Nat × TI) := [(2, ⟨(.int .i64), 0, 8⟩),
  (3, ⟨(.int .i64), 0, 8⟩),
  (4, ⟨.bool, 0, 1⟩),
  (22, ⟨(.slc (.int .i16)), 39, 24⟩),
  (23, ⟨(.slc (.int .i64)), 2, 24⟩),
  (26, ⟨(.slc (.int .i16)), 39, 24⟩),
  (28, ⟨(.slc (.int .i16)), 39, 24⟩),
  (39, ⟨(.int .i16), 0, 2⟩),
  (52, ⟨.fn, 0, 8⟩),
  (53, ⟨.fn, 0, 8⟩),
  (58, ⟨.fn, 0, 8⟩)]
noncomputable def T : Nat → Option TI := findT tyL
/- laws.toCam -/
noncomputable def I5 : Inst := { f := 5, nt := 22, params := [((.ro (.slc (.int .i16))), false)], res := [(.row false (.int .i16))], slots := [.tmp 2], code := bd Try.f5, loops := fun b => find [] [(0, [.own 0 (.ro (.slc (.int .i16))), .own 3 (.row false (.int .i16)), .own 4 (.ro (.int .i64))])] b, deep := fun r i => find false [(1002, true)] (r * 1000 + i) }
/- laws.toCutter -/
noncomputable def I6 : Inst := { f := 6, nt := 22, params := [((.ro (.slc (.int .i16))), false)], res := [(.row false (.int .i16))], slots := [.tmp 2], code := bd Try.f6, loops := fun b => find [] [(0, [.own 0 (.ro (.slc (.int .i16))), .own 3 (.row false (.int .i16)), .own 4 (.ro (.int .i64))])] b, deep := fun r i => find false [(1002, true)] (r * 1000 + i) }
/- spec.l00In -/
noncomputable def I35 : Inst := { f := 35, nt := 15, params := [((.ro (.int .i64)), false), ((.ro (.int .i64)), false), ((.ro (.int .i64)), false)], res := [(.ro .bool)], slots := [.tmp 6], code := bd Try.f35 }
/- spec.l01Steps -/
noncomputable def I33 : Inst := { f := 33, nt := 5, params := [((.ro (.int .i64)), false)], res := [(.ro .bool)], slots := [.tmp 2], code := bd Try.f33, callee := fun r i => find 0 [(1001, 35)] (r * 1000 + i) }
/- spec.l01Lift -/
noncomputable def I34 : Inst := { f := 34, nt := 5, params := [((.ro (.int .i64)), false)], res := [(.ro .bool)], slots := [.tmp 2], code := bd Try.f34, callee := fun r i => find 0 [(1001, 35)] (r * 1000 + i) }
/- spec.l01Ok -/
noncomputable def I19 : Inst := { f := 19, nt := 21, params := [((.ro (.slc (.int .i16))), false)], res := [(.ro .bool)], slots := [.tmp 2], code := bd Try.f19, callee := fun r i => find 0 [(1002, 33), (6005, 34)] (r * 1000 + i), loops := fun b => find [] [(0, [.own 0 (.ro (.slc (.int .i16))), .own 3 (.ro (.int .i64))])] b }
/- spec.l06Ok -/
noncomputable def I20 : Inst := { f := 20, nt := 66, params := [((.ro (.slc (.int .i16))), false)], res := [(.ro .bool)], slots := [.tmp 2], code := bd Try.f20, callee := fun r i => find 0 [(2001, 35), (7005, 34)] (r * 1000 + i), loops := fun b => find [] [(0, [.own 0 (.ro (.slc (.int .i16))), .own 3 (.ro (.int .i64)), .own 4 (.ro (.int .i64))])] b }
/- spec.l06Asked -/
noncomputable def I15 : Inst := { f := 15, nt := 13, params := [((.ro (.slc (.int .i16))), false), ((.ro (.slc (.int .i16))), false)], res := [(.ro (.int .i64))], slots := [.tmp 4], code := bd Try.f15, callee := fun r i => find 0 [(1001, 19), (1005, 20)] (r * 1000 + i) }
/- spec.l01At -/
noncomputable def I47 : Inst := { f := 47, nt := 19, params := [((.ro (.slc (.int .i16))), false), ((.ro (.int .i64)), false)], res := [(.ro (.int .i64))], slots := [.tmp 4], code := bd Try.f47 }
/- spec.l00Max -/
noncomputable def I46 : Inst := { f := 46, nt := 10, params := [((.ro (.int .i64)), false), ((.ro (.int .i64)), false)], res := [(.ro (.int .i64))], slots := [.tmp 4], code := bd Try.f46 }
/- spec.l06Tip -/
noncomputable def I36 : Inst := { f := 36, nt := 36, params := [((.ro (.slc (.int .i16))), false), ((.ro (.slc (.int .i16))), false), ((.ro (.int .i64)), false)], res := [(.ro (.int .i64))], slots := [.tmp 6], code := bd Try.f36, callee := fun r i => find 0 [(6005, 47), (6014, 46)] (r * 1000 + i), loops := fun b => find [] [(0, [.own 0 (.ro (.slc (.int .i16))), .own 1 (.ro (.slc (.int .i16))), .own 2 (.ro (.int .i64)), .own 7 (.ro (.int .i64)), .own 8 (.ro (.int .i64)), .own 9 (.ro (.int .i64))])] b }
/- spec.l06Tips -/
noncomputable def I21 : Inst := { f := 21, nt := 22, params := [((.ro (.slc (.int .i16))), false), ((.ro (.slc (.int .i16))), false)], res := [(.row false (.int .i64))], slots := [.tmp 4], code := bd Try.f21, callee := fun r i => find 0 [(5004, 36)] (r * 1000 + i), loops := fun b => find [] [(0, [.own 0 (.ro (.slc (.int .i16))), .own 1 (.ro (.slc (.int .i16))), .own 5 (.row false (.int .i64)), .own 6 (.ro (.int .i64))])] b, deep := fun r i => find false [(1000, true), (5005, true), (5006, true)] (r * 1000 + i) }
/- spec.l06Cut -/
noncomputable def I22 : Inst := { f := 22, nt := 73, params := [((.ro (.slc (.int .i16))), false), ((.ro (.slc (.int .i16))), false), ((.ro (.int .i64)), false), ((.ro (.int .i64)), false)], res := [(.row false (.int .i16)), (.ro (.int .i64))], slots := [.tmp 8, .tmp 9], code := bd Try.f22, loops := fun b => find [] [(0, [.own 1 (.ro (.slc (.int .i16))), .own 2 (.ro (.int .i64)), .own 3 (.ro (.int .i64)), .own 10 (.row false (.int .i16)), .own 11 (.ro (.int .i64)), .own 12 (.ro (.int .i64)), .own 13 (.ro (.int .i64)), .own 14 (.ro (.int .i64))])] b, deep := fun r i => find false [(1000, true), (1002, true)] (r * 1000 + i) }
/- spec.l06Left -/
noncomputable def I16 : Inst := { f := 16, nt := 38, params := [((.ro (.slc (.int .i16))), false), ((.ro (.slc (.int .i16))), false)], res := [(.row false (.int .i16))], slots := [.tmp 4], code := bd Try.f16, callee := fun r i => find 0 [(6002, 21), (10007, 22)] (r * 1000 + i), loops := fun b => find [] [(2, [.own 1 (.ro (.slc (.int .i16))), .own 5 (.row false (.int .i16)), .own 6 (.ro (.slc (.int .i64))), .own 7 (.ro (.int .i64))]), (0, [.own 0 (.ro (.slc (.int .i16))), .own 1 (.ro (.slc (.int .i16))), .own 5 (.row false (.int .i16)), .own 10 (.ro (.int .i64)), .own 11 (.ro (.int .i64))])] b, deep := fun r i => find false [(1000, true), (4001, true), (4002, true)] (r * 1000 + i) }
/- spec.NotReached -/
noncomputable def I4 : Inst := { f := 4, nt := 41, params := [((.ro (.slc (.int .i16))), false), ((.ro (.slc (.int .i16))), false)], res := [(.row false (.int .i64)), (.ro (.int .i64))], slots := [.tmp 4, .tmp 5], code := bd Try.f4, callee := fun r i => find 0 [(1002, 15), (4002, 16)] (r * 1000 + i), loops := fun b => find [] [(0, [.own 0 (.ro (.slc (.int .i16))), .own 7 (.ro (.slc (.int .i16))), .own 8 (.row false (.int .i64)), .own 9 (.ro (.int .i64))])] b, deep := fun r i => find false [(3000, true), (5000, true), (10002, true), (10003, true)] (r * 1000 + i) }
/- impl.Cam).steps -/
noncomputable def I28 : Inst := { f := 28, nt := 5, params := [((.ro (.slc (.int .i16))), false)], res := [(.ro (.int .i64))], slots := [.tmp 2], code := bd Try.f28 }
/- impl.inRange -/
noncomputable def I48 : Inst := { f := 48, nt := 15, params := [((.ro (.int .i64)), false), ((.ro (.int .i64)), false), ((.ro (.int .i64)), false)], res := [(.ro .bool)], slots := [.tmp 6], code := bd Try.f48 }
/- impl.isSteps -/
noncomputable def I37 : Inst := { f := 37, nt := 5, params := [((.ro (.int .i64)), false)], res := [(.ro .bool)], slots := [.tmp 2], code := bd Try.f37, callee := fun r i => find 0 [(1001, 48)] (r * 1000 + i) }
/- impl.isLift -/
noncomputable def I40 : Inst := { f := 40, nt := 5, params := [((.ro (.int .i64)), false)], res := [(.ro .bool)], slots := [.tmp 2], code := bd Try.f40, callee := fun r i => find 0 [(1001, 48)] (r * 1000 + i) }
/- impl.ValidCam$1 -/
noncomputable def I39 : Inst := { f := 39, nt := 7, params := [((.ro (.int .i16)), false)], res := [(.ro .bool)], slots := [.tmp 2], code := bd Try.f39, callee := fun r i => find 0 [(1002, 40)] (r * 1000 + i) }
/- impl.Cam,int16] -/
noncomputable def I49 : Inst := { f := 49, nt := 19, params := [((.ro (.slc (.int .i16))), false), ((.clo 39 (.ro .unit) (.ro .unit)), false)], res := [(.ro (.int .i64))], slots := [.tmp 4], code := bd Try.f49, callee := fun r i => find 0 [(4005, 39)] (r * 1000 + i), loops := fun b => find [] [(0, [.own 0 (.ro (.slc (.int .i16))), .own 1 (.clo 39 (.ro .unit) (.ro .unit)), .own 7 (.ro (.int .i64)), .own 8 (.ro (.int .i64))])] b }
/- impl.Cam,int16] -/
noncomputable def I38 : Inst := { f := 38, nt := 9, params := [((.ro (.slc (.int .i16))), false), ((.clo 39 (.ro .unit) (.ro .unit)), false)], res := [(.ro .bool)], slots := [.tmp 4], code := bd Try.f38, callee := fun r i => find 0 [(1002, 49)] (r * 1000 + i) }
/- impl.ValidCam -/
noncomputable def I24 : Inst := { f := 24, nt := 11, params := [((.ro (.slc (.int .i16))), false)], res := [(.ro .bool)], slots := [.tmp 2], code := bd Try.f24, callee := fun r i => find 0 [(1001, 28), (1002, 37), (1005, 38)] (r * 1000 + i) }
/- impl.ValidCutter -/
noncomputable def I25 : Inst := { f := 25, nt := 61, params := [((.ro (.slc (.int .i16))), false)], res := [(.ro .bool)], slots := [.tmp 2], code := bd Try.f25, callee := fun r i => find 0 [(7002, 40)] (r * 1000 + i), loops := fun b => find [] [(0, [.own 0 (.ro (.slc (.int .i16))), .own 3 (.ro (.int .i64)), .own 23 (.ro (.slc (.int .i16))), .own 24 (.ro (.int .i64)), .own 25 (.ro (.int .i64))])] b }
/- impl.codeIf -/
noncomputable def I23 : Inst := { f := 23, nt := 7, params := [((.ro .bool), false), ((.ro (.int .i64)), false)], res := [(.ro (.int .i64))], slots := [.tmp 4], code := bd Try.f23 }
/- impl.cutterCode -/
noncomputable def I17 : Inst := { f := 17, nt := 14, params := [((.ro (.slc (.int .i16))), false), ((.ro (.slc (.int .i16))), false)], res := [(.ro (.int .i64))], slots := [.tmp 4], code := bd Try.f17, callee := fun r i => find 0 [(1001, 24), (1005, 25), (1008, 23)] (r * 1000 + i) }
/- impl.floorDiv -/
noncomputable def I45 : Inst := { f := 45, nt := 16, params := [((.ro (.int .i64)), false), ((.ro (.int .i64)), false)], res := [(.ro (.int .i64))], slots := [.tmp 4], code := bd Try.f45 }
/- impl.mod -/
noncomputable def I32 : Inst := { f := 32, nt := 12, params := [((.ro (.int .i64)), false), ((.ro (.int .i64)), false)], res := [(.ro (.int .i64))], slots := [.tmp 4], code := bd Try.f32, callee := fun r i => find 0 [(1004, 45)] (r * 1000 + i) }
/- impl.Cam).at -/
noncomputable def I44 : Inst := { f := 44, nt := 13, params := [((.ro (.slc (.int .i16))), false), ((.ro (.int .i64)), false)], res := [(.ro (.int .i64))], slots := [.tmp 4], code := bd Try.f44, callee := fun r i => find 0 [(1003, 28), (1004, 32)] (r * 1000 + i) }
/- impl.Cam).tips$1$1 -/
noncomputable def I43 : Inst := { f := 43, nt := 13, params := [((.ro (.int .i64)), false), ((.ro (.int .i64)), false), ((.box (.ro (.int .i64))), true), ((.box (.ro (.slc (.int .i16)))), true)], res := [], slots := [], code := bd Try.f43, strict := true, callee := fun r i => find 0 [(3, 44)] (r * 1000 + i), pins := [2, 3] }
/- impl.Cutter).each -/
noncomputable def I30 : Inst := { f := 30, nt := 29, params := [((.ro (.slc (.int .i16))), false), ((.ro (.int .i64)), false), ((.clo 43 (.ro .unit) (.pr (.box (.ro (.int .i64))) (.pr (.box (.ro (.slc (.int .i16)))) (.ro .unit)))), true)], res := [], slots := [], code := bd Try.f30, strict := true, callee := fun r i => find 0 [(4008, 43)] (r * 1000 + i), loops := fun b => find [] [(0, [.own 1 (.ro (.int .i64)), .own 2 (.clo 43 (.ro .unit) (.pr (.box (.ro (.int .i64))) (.pr (.box (.ro (.slc (.int .i16)))) (.ro .unit)))), .own 6 (.ro (.int .i64)), .own 12 (.ro (.slc (.int .i16))), .own 13 (.ro (.int .i64)), .own 14 (.ro (.int .i64))])] b, pins := [2] }
/- impl.Cam).tips$1 -/
noncomputable def I42 : Inst := { f := 42, nt := 11, params := [((.ro (.int .i64)), false), ((.box (.ro (.slc (.int .i16)))), true), ((.box (.ro (.slc (.int .i16)))), true)], res := [(.ro (.int .i64))], slots := [.tmp 4], code := bd Try.f42, strict := true, callee := fun r i => find 0 [(2003, 30)] (r * 1000 + i), pins := [1, 2] }
/- impl.Cam).numbers -/
noncomputable def I41 : Inst := { f := 41, nt := 21, params := [((.ro (.slc (.int .i16))), false), ((.clo 42 (.ro .unit) (.pr (.box (.ro (.slc (.int .i16)))) (.pr (.box (.ro (.slc (.int .i16)))) (.ro .unit)))), true)], res := [(.row false (.int .i64))], slots := [.tmp 4], code := bd Try.f41, strict := true, callee := fun r i => find 0 [(2001, 28), (5003, 42)] (r * 1000 + i), loops := fun b => find [] [(0, [.own 1 (.clo 42 (.ro .unit) (.pr (.box (.ro (.slc (.int .i16)))) (.pr (.box (.ro (.slc (.int .i16)))) (.ro .unit)))), .own 5 (.row false (.int .i64)), .own 9 (.ro (.int .i64)), .own 10 (.ro (.int .i64))])] b, pins := [1], deep := fun r i => find false [(1000, true), (5004, true), (5005, true)] (r * 1000 + i) }
/- impl.Cam).tips -/
noncomputable def I26 : Inst := { f := 26, nt := 8, params := [((.ro (.slc (.int .i16))), false), ((.ro (.slc (.int .i16))), false)], res := [(.row false (.int .i64))], slots := [.tmp 4], code := bd Try.f26, callee := fun r i => find 0 [(1002, 41)] (r * 1000 + i) }
/- impl.Cam).left$1$1 -/
noncomputable def I31 : Inst := { f := 31, nt := 18, params := [((.ro (.int .i64)), false), ((.ro (.int .i64)), false), ((.box (.ro (.int .i64))), true), ((.box (.ro (.slc (.int .i64)))), true), ((.box (.ro (.slc (.int .i16)))), true)], res := [], slots := [], code := bd Try.f31, strict := true, callee := fun r i => find 0 [(4, 28), (5, 32)] (r * 1000 + i), pins := [2, 3, 4] }
/- impl.Cutter).each -/
noncomputable def I1030 : Inst := { f := 30, nt := 29, params := [((.ro (.slc (.int .i16))), false), ((.ro (.int .i64)), false), ((.clo 31 (.ro .unit) (.pr (.box (.ro (.int .i64))) (.pr (.box (.ro (.slc (.int .i64)))) (.pr (.box (.ro (.slc (.int .i16)))) (.ro .unit))))), true)], res := [], slots := [], code := bd Try.f30, strict := true, callee := fun r i => find 0 [(4008, 31)] (r * 1000 + i), loops := fun b => find [] [(0, [.own 1 (.ro (.int .i64)), .own 2 (.clo 31 (.ro .unit) (.pr (.box (.ro (.int .i64))) (.pr (.box (.ro (.slc (.int .i64)))) (.pr (.box (.ro (.slc (.int .i16)))) (.ro .unit))))), .own 6 (.ro (.int .i64)), .own 12 (.ro (.slc (.int .i16))), .own 13 (.ro (.int .i64)), .own 14 (.ro (.int .i64))])] b, pins := [2] }
/- impl.Cam).left$1 -/
noncomputable def I29 : Inst := { f := 29, nt := 16, params := [((.ro (.int .i64)), false), ((.box (.ro (.slc (.int .i64)))), true), ((.box (.ro (.slc (.int .i16)))), true), ((.box (.ro (.slc (.int .i16)))), true)], res := [(.ro (.int .i64))], slots := [.tmp 5], code := bd Try.f29, strict := true, callee := fun r i => find 0 [(2003, 1030)] (r * 1000 + i), pins := [1, 2, 3] }
/- impl.camOf -/
noncomputable def I27 : Inst := { f := 27, nt := 27, params := [((.ro (.int .i64)), false), ((.clo 29 (.ro .unit) (.pr (.box (.ro (.slc (.int .i64)))) (.pr (.box (.ro (.slc (.int .i16)))) (.pr (.box (.ro (.slc (.int .i16)))) (.ro .unit))))), true)], res := [(.row false (.int .i16)), (.ro (.int .i64))], slots := [.tmp 4, .tmp 5], code := bd Try.f27, strict := true, callee := fun r i => find 0 [(5002, 29), (6001, 40)] (r * 1000 + i), loops := fun b => find [] [(0, [.own 1 (.clo 29 (.ro .unit) (.pr (.box (.ro (.slc (.int .i64)))) (.pr (.box (.ro (.slc (.int .i16)))) (.pr (.box (.ro (.slc (.int .i16)))) (.ro .unit))))), .own 6 (.row false (.int .i16)), .own 10 (.ro (.int .i64)), .own 11 (.ro (.int .i64))])] b, pins := [1], deep := fun r i => find false [(1000, true), (8003, true), (8004, true)] (r * 1000 + i) }
/- impl.Cam).left -/
noncomputable def I18 : Inst := { f := 18, nt := 19, params := [((.ro (.slc (.int .i16))), false), ((.ro (.slc (.int .i16))), false)], res := [(.row false (.int .i16))], slots := [.tmp 4], code := bd Try.f18, callee := fun r i => find 0 [(1002, 26), (2001, 28), (2003, 27)] (r * 1000 + i) }
/- impl.NotReached -/
noncomputable def I7 : Inst := { f := 7, nt := 38, params := [((.ro (.slc (.int .i16))), false), ((.ro (.slc (.int .i16))), false)], res := [(.row false (.int .i64)), (.ro (.int .i64))], slots := [.tmp 4, .tmp 5], code := bd Try.f7, callee := fun r i => find 0 [(1002, 17), (5002, 18)] (r * 1000 + i), loops := fun b => find [] [(0, [.own 0 (.ro (.slc (.int .i16))), .own 7 (.row false (.int .i64)), .own 19 (.ro (.slc (.int .i16))), .own 20 (.ro (.int .i64)), .own 21 (.ro (.int .i64))])] b, deep := fun r i => find false [(4000, true), (9002, true), (9003, true)] (r * 1000 + i) }
/- laws.eqInt64S -/
noncomputable def I8 : Inst := { f := 8, nt := 26, params := [((.ro (.slc (.int .i64))), false), ((.ro (.slc (.int .i64))), false)], res := [(.ro .bool)], slots := [.tmp 4], code := bd Try.f8, loops := fun b => find [] [(0, [.own 0 (.ro (.slc (.int .i64))), .own 1 (.ro (.slc (.int .i64))), .own 5 (.ro (.int .i64))])] b }
/- laws.eqCam -/
noncomputable def I9 : Inst := { f := 9, nt := 26, params := [((.ro (.slc (.int .i16))), false), ((.ro (.slc (.int .i16))), false)], res := [(.ro .bool)], slots := [.tmp 4], code := bd Try.f9, loops := fun b => find [] [(0, [.own 0 (.ro (.slc (.int .i16))), .own 1 (.ro (.slc (.int .i16))), .own 5 (.ro (.int .i64))])] b }
/- laws.eqCutter -/
noncomputable def I10 : Inst := { f := 10, nt := 26, params := [((.ro (.slc (.int .i16))), false), ((.ro (.slc (.int .i16))), false)], res := [(.ro .bool)], slots := [.tmp 4], code := bd Try.f10, loops := fun b => find [] [(0, [.own 0 (.ro (.slc (.int .i16))), .own 1 (.ro (.slc (.int .i16))), .own 5 (.ro (.int .i64))])] b }
/- laws.markCam -/
noncomputable def I11 : Inst := { f := 11, nt := 20, params := [((.row false (.int .i16)), true), ((.ro (.int .i64)), false)], res := [(.ro (.int .i64))], slots := [.tmp 4], code := bd Try.f11, loops := fun b => find [] [(0, [.own 0 (.row false (.int .i16)), .own 1 (.ro (.int .i64)), .own 5 (.ro (.int .i64))])] b, pins := [0] }
/- laws.markCutter -/
noncomputable def I12 : Inst := { f := 12, nt := 20, params := [((.row false (.int .i16)), true), ((.ro (.int .i64)), false)], res := [(.ro (.int .i64))], slots := [.tmp 4], code := bd Try.f12, loops := fun b => find [] [(0, [.own 0 (.row false (.int .i16)), .own 1 (.ro (.int .i64)), .own 5 (.ro (.int .i64))])] b, pins := [0] }
/- laws.markInt64S -/
noncomputable def I13 : Inst := { f := 13, nt := 19, params := [((.row false (.int .i64)), true), ((.ro (.int .i64)), false)], res := [(.ro (.int .i64))], slots := [.tmp 4], code := bd Try.f13, loops := fun b => find [] [(0, [.own 0 (.row false (.int .i64)), .own 1 (.ro (.int .i64)), .own 5 (.ro (.int .i64))])] b, pins := [0] }
/- laws.heldInt64S -/
noncomputable def I14 : Inst := { f := 14, nt := 21, params := [((.ro (.slc (.int .i64))), false), ((.ro (.int .i64)), false)], res := [(.ro (.int .i64))], slots := [.tmp 4], code := bd Try.f14, loops := fun b => find [] [(0, [.own 0 (.ro (.slc (.int .i64))), .own 1 (.ro (.int .i64)), .own 5 (.ro (.int .i64))])] b }
/- laws.FnExactNotReached -/
noncomputable def I3 : Inst := { f := 3, nt := 114, params := [((.ro (.slc (.int .i16))), false), ((.ro (.slc (.int .i16))), false)], res := [(.ro .bool)], slots := [.tmp 4], code := bd Try.f3, callee := fun r i => find 0 [(5001, 5), (5003, 6), (5004, 4), (6001, 5), (7001, 6), (8002, 7), (9002, 8), (11002, 5), (11003, 9), (13002, 6), (13003, 10), (16002, 11), (17002, 12), (18005, 8), (21002, 13), (23002, 14), (28001, 5), (28003, 6), (28004, 7), (29002, 8), (32002, 14)] (r * 1000 + i) }
noncomputable def C : Nat → Inst := find I5 [(5, I5), (6, I6), (35, I35), (33, I33), (34, I34), (19, I19), (20, I20), (15, I15), (47, I47), (46, I46), (36, I36), (21, I21), (22, I22), (16, I16), (4, I4), (28, I28), (48, I48), (37, I37), (40, I40), (39, I39), (49, I49), (38, I38), (24, I24), (25, I25), (23, I23), (17, I17), (45, I45), (32, I32), (44, I44), (43, I43), (30, I30), (42, I42), (41, I41), (26, I26), (31, I31), (1030, I1030), (29, I29), (27, I27), (18, I18), (7, I7), (8, I8), (9, I9), (10, I10), (11, I11), (12, I12), (13, I13), (14, I14), (3, I3)]
theorem tsOk : TsOk Try.prog T := tsOkB_sound (by kernel_rfl)
theorem ok5 : InstOk Try.prog I5 := instOk_of Try.func5 (by kernel_rfl) (by kernel_rfl) (by kernel_rfl) (by kernel_rfl)
theorem ok6 : InstOk Try.prog I6 := instOk_of Try.func6 (by kernel_rfl) (by kernel_rfl) (by kernel_rfl) (by kernel_rfl)
theorem ok35 : InstOk Try.prog I35 := instOk_of Try.func35 (by kernel_rfl) (by kernel_rfl) (by kernel_rfl) (by kernel_rfl)
theorem ok33 : InstOk Try.prog I33 := instOk_of Try.func33 (by kernel_rfl) (by kernel_rfl) (by kernel_rfl) (by kernel_rfl)
theorem ok34 : InstOk Try.prog I34 := instOk_of Try.func34 (by kernel_rfl) (by kernel_rfl) (by kernel_rfl) (by kernel_rfl)
theorem ok19 : InstOk Try.prog I19 := instOk_of Try.func19 (by kernel_rfl) (by kernel_rfl) (by kernel_rfl) (by kernel_rfl)
theorem ok20 : InstOk Try.prog I20 := instOk_of Try.func20 (by kernel_rfl) (by kernel_rfl) (by kernel_rfl) (by kernel_rfl)
theorem ok15 : InstOk Try.prog I15 := instOk_of Try.func15 (by kernel_rfl) (by kernel_rfl) (by kernel_rfl) (by kernel_rfl)
theorem ok47 : InstOk Try.prog I47 := instOk_of Try.func47 (by kernel_rfl) (by kernel_rfl) (by kernel_rfl) (by kernel_rfl)
theorem ok46 : InstOk Try.prog I46 := instOk_of Try.func46 (by kernel_rfl) (by kernel_rfl) (by kernel_rfl) (by kernel_rfl)
theorem ok36 : InstOk Try.prog I36 := instOk_of Try.func36 (by kernel_rfl) (by kernel_rfl) (by kernel_rfl) (by kernel_rfl)
theorem ok21 : InstOk Try.prog I21 := instOk_of Try.func21 (by kernel_rfl) (by kernel_rfl) (by kernel_rfl) (by kernel_rfl)
theorem ok22 : InstOk Try.prog I22 := instOk_of Try.func22 (by kernel_rfl) (by kernel_rfl) (by kernel_rfl) (by kernel_rfl)
theorem ok16 : InstOk Try.prog I16 := instOk_of Try.func16 (by kernel_rfl) (by kernel_rfl) (by kernel_rfl) (by kernel_rfl)
theorem ok4 : InstOk Try.prog I4 := instOk_of Try.func4 (by kernel_rfl) (by kernel_rfl) (by kernel_rfl) (by kernel_rfl)
theorem ok28 : InstOk Try.prog I28 := instOk_of Try.func28 (by kernel_rfl) (by kernel_rfl) (by kernel_rfl) (by kernel_rfl)
theorem ok48 : InstOk Try.prog I48 := instOk_of Try.func48 (by kernel_rfl) (by kernel_rfl) (by kernel_rfl) (by kernel_rfl)
theorem ok37 : InstOk Try.prog I37 := instOk_of Try.func37 (by kernel_rfl) (by kernel_rfl) (by kernel_rfl) (by kernel_rfl)
theorem ok40 : InstOk Try.prog I40 := instOk_of Try.func40 (by kernel_rfl) (by kernel_rfl) (by kernel_rfl) (by kernel_rfl)
theorem ok39 : InstOk Try.prog I39 := instOk_of Try.func39 (by kernel_rfl) (by kernel_rfl) (by kernel_rfl) (by kernel_rfl)
theorem ok49 : InstOk Try.prog I49 := instOk_of Try.func49 (by kernel_rfl) (by kernel_rfl) (by kernel_rfl) (by kernel_rfl)
theorem ok38 : InstOk Try.prog I38 := instOk_of Try.func38 (by kernel_rfl) (by kernel_rfl) (by kernel_rfl) (by kernel_rfl)
theorem ok24 : InstOk Try.prog I24 := instOk_of Try.func24 (by kernel_rfl) (by kernel_rfl) (by kernel_rfl) (by kernel_rfl)
theorem ok25 : InstOk Try.prog I25 := instOk_of Try.func25 (by kernel_rfl) (by kernel_rfl) (by kernel_rfl) (by kernel_rfl)
theorem ok23 : InstOk Try.prog I23 := instOk_of Try.func23 (by kernel_rfl) (by kernel_rfl) (by kernel_rfl) (by kernel_rfl)
theorem ok17 : InstOk Try.prog I17 := instOk_of Try.func17 (by kernel_rfl) (by kernel_rfl) (by kernel_rfl) (by kernel_rfl)
theorem ok45 : InstOk Try.prog I45 := instOk_of Try.func45 (by kernel_rfl) (by kernel_rfl) (by kernel_rfl) (by kernel_rfl)
theorem ok32 : InstOk Try.prog I32 := instOk_of Try.func32 (by kernel_rfl) (by kernel_rfl) (by kernel_rfl) (by kernel_rfl)
theorem ok44 : InstOk Try.prog I44 := instOk_of Try.func44 (by kernel_rfl) (by kernel_rfl) (by kernel_rfl) (by kernel_rfl)
theorem ok43 : InstOk Try.prog I43 := instOk_of Try.func43 (by kernel_rfl) (by kernel_rfl) (by kernel_rfl) (by kernel_rfl)
theorem ok30 : InstOk Try.prog I30 := instOk_of Try.func30 (by kernel_rfl) (by kernel_rfl) (by kernel_rfl) (by kernel_rfl)
theorem ok42 : InstOk Try.prog I42 := instOk_of Try.func42 (by kernel_rfl) (by kernel_rfl) (by kernel_rfl) (by kernel_rfl)
theorem ok41 : InstOk Try.prog I41 := instOk_of Try.func41 (by kernel_rfl) (by kernel_rfl) (by kernel_rfl) (by kernel_rfl)
theorem ok26 : InstOk Try.prog I26 := instOk_of Try.func26 (by kernel_rfl) (by kernel_rfl) (by kernel_rfl) (by kernel_rfl)
theorem ok31 : InstOk Try.prog I31 := instOk_of Try.func31 (by kernel_rfl) (by kernel_rfl) (by kernel_rfl) (by kernel_rfl)
theorem ok1030 : InstOk Try.prog I1030 := instOk_of Try.func30 (by kernel_rfl) (by kernel_rfl) (by kernel_rfl) (by kernel_rfl)
theorem ok29 : InstOk Try.prog I29 := instOk_of Try.func29 (by kernel_rfl) (by kernel_rfl) (by kernel_rfl) (by kernel_rfl)
theorem ok27 : InstOk Try.prog I27 := instOk_of Try.func27 (by kernel_rfl) (by kernel_rfl) (by kernel_rfl) (by kernel_rfl)
theorem ok18 : InstOk Try.prog I18 := instOk_of Try.func18 (by kernel_rfl) (by kernel_rfl) (by kernel_rfl) (by kernel_rfl)
theorem ok7 : InstOk Try.prog I7 := instOk_of Try.func7 (by kernel_rfl) (by kernel_rfl) (by kernel_rfl) (by kernel_rfl)
theorem ok8 : InstOk Try.prog I8 := instOk_of Try.func8 (by kernel_rfl) (by kernel_rfl) (by kernel_rfl) (by kernel_rfl)
theorem ok9 : InstOk Try.prog I9 := instOk_of Try.func9 (by kernel_rfl) (by kernel_rfl) (by kernel_rfl) (by kernel_rfl)
theorem ok10 : InstOk Try.prog I10 := instOk_of Try.func10 (by kernel_rfl) (by kernel_rfl) (by kernel_rfl) (by kernel_rfl)
theorem ok11 : InstOk Try.prog I11 := instOk_of Try.func11 (by kernel_rfl) (by kernel_rfl) (by kernel_rfl) (by kernel_rfl)
theorem ok12 : InstOk Try.prog I12 := instOk_of Try.func12 (by kernel_rfl) (by kernel_rfl) (by kernel_rfl) (by kernel_rfl)
theorem ok13 : InstOk Try.prog I13 := instOk_of Try.func13 (by kernel_rfl) (by kernel_rfl) (by kernel_rfl) (by kernel_rfl)
theorem ok14 : InstOk Try.prog I14 := instOk_of Try.func14 (by kernel_rfl) (by kernel_rfl) (by kernel_rfl) (by kernel_rfl)
theorem ok3 : InstOk Try.prog I3 := instOk_of Try.func3 (by kernel_rfl) (by kernel_rfl) (by kernel_rfl) (by kernel_rfl)
theorem insts : ∀ j, InstOk Try.prog (C j) := find_all ok5 (List.forall_mem_cons.2 ⟨ok5, List.forall_mem_cons.2 ⟨ok6, List.forall_mem_cons.2 ⟨ok35, List.forall_mem_cons.2 ⟨ok33, List.forall_mem_cons.2 ⟨ok34, List.forall_mem_cons.2 ⟨ok19, List.forall_mem_cons.2 ⟨ok20, List.forall_mem_cons.2 ⟨ok15, List.forall_mem_cons.2 ⟨ok47, List.forall_mem_cons.2 ⟨ok46, List.forall_mem_cons.2 ⟨ok36, List.forall_mem_cons.2 ⟨ok21, List.forall_mem_cons.2 ⟨ok22, List.forall_mem_cons.2 ⟨ok16, List.forall_mem_cons.2 ⟨ok4, List.forall_mem_cons.2 ⟨ok28, List.forall_mem_cons.2 ⟨ok48, List.forall_mem_cons.2 ⟨ok37, List.forall_mem_cons.2 ⟨ok40, List.forall_mem_cons.2 ⟨ok39, List.forall_mem_cons.2 ⟨ok49, List.forall_mem_cons.2 ⟨ok38, List.forall_mem_cons.2 ⟨ok24, List.forall_mem_cons.2 ⟨ok25, List.forall_mem_cons.2 ⟨ok23, List.forall_mem_cons.2 ⟨ok17, List.forall_mem_cons.2 ⟨ok45, List.forall_mem_cons.2 ⟨ok32, List.forall_mem_cons.2 ⟨ok44, List.forall_mem_cons.2 ⟨ok43, List.forall_mem_cons.2 ⟨ok30, List.forall_mem_cons.2 ⟨ok42, List.forall_mem_cons.2 ⟨ok41, List.forall_mem_cons.2 ⟨ok26, List.forall_mem_cons.2 ⟨ok31, List.forall_mem_cons.2 ⟨ok1030, List.forall_mem_cons.2 ⟨ok29, List.forall_mem_cons.2 ⟨ok27, List.forall_mem_cons.2 ⟨ok18, List.forall_mem_cons.2 ⟨ok7, List.forall_mem_cons.2 ⟨ok8, List.forall_mem_cons.2 ⟨ok9, List.forall_mem_cons.2 ⟨ok10, List.forall_mem_cons.2 ⟨ok11, List.forall_mem_cons.2 ⟨ok12, List.forall_mem_cons.2 ⟨ok13, List.forall_mem_cons.2 ⟨ok14, List.forall_mem_cons.2 ⟨ok3, fun _ h => absurd h List.not_mem_nil⟩⟩⟩⟩⟩⟩⟩⟩⟩⟩⟩⟩⟩⟩⟩⟩⟩⟩⟩⟩⟩⟩⟩⟩⟩⟩⟩⟩⟩⟩⟩⟩⟩⟩⟩⟩⟩⟩⟩⟩⟩⟩⟩⟩⟩⟩⟩⟩)
end Go.Proofs.Ytnneldeocfkfnab.LNotReached
