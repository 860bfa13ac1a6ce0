/- The functions that the law reaches, read whole: each comes to a plain term. Written by a program (lawgen.py, resid.py). -/
import Derived.Test.YtipjblnjaicbfaaGreatDoorLRv
namespace Go.Proofs.YtipjblnjaicbfaaGreatDoor.LRv
open Go Go.Fw Go.Proofs
/- impl.inRange -/
theorem r103 (n : Nat) (a0 : Int) (a1 : Int) (a2 : Int) : call T C (n + 1) 103 (a0, a1, a2, ()) = (if (decide (a1 ≤ a0)) = true then some (((bif true then (decide (a0 ≤ a2)) else false), ()), (())) else some ((false, ()), (()))) := by kernel_rfl
/- impl.isLift -/
theorem r102 (n : Nat) (a0 : Int) : call T C (n + 1) 102 (a0, ()) = (call T C n 103 (a0, (0 : Int), (10000 : Int), ())).bind fun r1 => some ((r1.1.1, ()), (())) := by kernel_rfl
/- impl.isLaw -/
theorem r111 (n : Nat) (a0 : Int) : call T C (n + 1) 111 (a0, ()) = (call T C n 103 (a0, (0 : Int), (3 : Int), ())).bind fun r1 => some ((r1.1.1, ()), (())) := by kernel_rfl
/- impl.ValidProgram$1 -/
theorem r110 (n : Nat) (a0 : (Int × (Int × (Int × Unit)))) : call T C (n + 1) 110 (a0, ()) = (call T C n 111 ((wr .i64 a0.1), ())).bind fun r1 => (if (!r1.1.1) = true then some ((true, ()), (())) else (if (bif false then true else (decide (a0.2.1 < (1 : Int)))) = true then some ((true, ()), (())) else (call T C n 102 ((wr .i64 a0.2.2.1), ())).bind fun r2 => some (((bif false then true else (!r2.1.1)), ()), (())))) := by kernel_rfl
/- slices.IndexFunc[[]impl.Motion,impl.Motion]{impl.ValidProgram$1} -/
theorem r180 (n : Nat) (a0 : (List (Int × (Int × (Int × Unit))))) (a1 : (Unit × Unit)) : call T C (n + 1) 180 (a0, a1, ()) = loopK (fun (x1 : (List (Int × (Int × (Int × Unit)))) × (Unit × Unit) × Int × Int × Unit) again2 => (if (decide (x1.2.2.2.1 < x1.2.2.1)) = true then (idx x1.1 x1.2.2.2.1).bind fun v3 => (call T C n 110 (v3, ())).bind fun r4 => (if r4.1.1 = true then some ((x1.2.2.2.1, ()), (())) else again2 (x1.1, ((), ()), x1.2.2.1, (wr .i64 (x1.2.2.2.1 + (1 : Int))), ())) else some (((-1 : Int), ()), (())))) n (a0, ((), ()), (a0.length : Int), (0 : Int), ()) := by kernel_rfl
/- slices.ContainsFunc[[]impl.Motion,impl.Motion]{impl.ValidProgram$1} -/
theorem r109 (n : Nat) (a0 : (List (Int × (Int × (Int × Unit))))) (a1 : (Unit × Unit)) : call T C (n + 1) 109 (a0, a1, ()) = (call T C n 180 (a0, ((), ()), ())).bind fun r1 => some (((decide (r1.1.1 ≥ (0 : Int))), ()), (())) := by kernel_rfl
/- (impl.Program).steps -/
theorem r100 (n : Nat) (a0 : (Int × ((List (Int × (Int × (Int × Unit)))) × Unit))) : call T C (n + 1) 100 (a0, ()) = loopK (fun (x1 : Int × (List (Int × (Int × (Int × Unit)))) × Int × Int × Unit) again2 => (if (decide (x1.2.2.2.1 < x1.2.2.1)) = true then (idx x1.2.1 x1.2.2.2.1).bind fun v3 => again2 ((wr .i64 (x1.1 + (wr .i64 v3.2.1))), x1.2.1, x1.2.2.1, (wr .i64 (x1.2.2.2.1 + (1 : Int))), ()) else some ((x1.1, ()), (())))) n ((0 : Int), a0.2.1, (a0.2.1.length : Int), (0 : Int), ()) := by kernel_rfl
/- impl.isSteps -/
theorem r112 (n : Nat) (a0 : Int) : call T C (n + 1) 112 (a0, ()) = (call T C n 103 (a0, (8 : Int), (360 : Int), ())).bind fun r1 => some ((r1.1.1, ()), (())) := by kernel_rfl
/- impl.ValidProgram -/
theorem r38 (n : Nat) (a0 : (Int × ((List (Int × (Int × (Int × Unit)))) × Unit))) : call T C (n + 1) 38 (a0, ()) = (call T C n 103 ((a0.2.1.length : Int), (1 : Int), (24 : Int), ())).bind fun r1 => (if (!r1.1.1) = true then some ((false, ()), (())) else (call T C n 102 ((wr .i64 a0.1), ())).bind fun r2 => (if (bif false then true else (!r2.1.1)) = true then some ((false, ()), (())) else (call T C n 109 (a0.2.1, ((), ()), ())).bind fun r3 => (if (!r3.1.1) = true then (call T C n 100 (a0, ())).bind fun r4 => (call T C n 112 (r4.1.1, ())).bind fun r5 => (if (bif true then r5.1.1 else false) = true then (idx a0.2.1 (wr .i64 ((a0.2.1.length : Int) - (1 : Int)))).bind fun v6 => some (((bif true then (v6.2.2.1 == a0.1) else false), ()), (())) else some ((false, ()), (()))) else some ((false, ()), (()))))) := by kernel_rfl
end Go.Proofs.YtipjblnjaicbfaaGreatDoor.LRv
