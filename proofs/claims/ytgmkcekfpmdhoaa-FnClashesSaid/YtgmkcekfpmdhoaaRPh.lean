/- The functions that the law reaches, read whole: each comes to a plain term. Written by a program (lawgen.py, resid.py). -/
import Derived.Test.YtgmkcekfpmdhoaaLPh
namespace Go.Proofs.Ytgmkcekfpmdhoaa.LPh
open Go Go.Fw Go.Proofs
/- impl.inRange -/
theorem r34 (n : Nat) (a0 : Int) (a1 : Int) (a2 : Int) : call T C (n + 1) 34 (a0, a1, a2, ()) = (if (decide (a1 ≤ a0)) = true then some (((bif true then (decide (a0 ≤ a2)) else false), ()), (())) else some ((false, ()), (()))) := by kernel_rfl
/- (impl.Cam).steps -/
theorem r48 (n : Nat) (a0 : (List Int)) : call T C (n + 1) 48 (a0, ()) = some (((a0.length : Int), ()), (())) := by kernel_rfl
/- impl.isSteps -/
theorem r80 (n : Nat) (a0 : Int) : call T C (n + 1) 80 (a0, ()) = (call T C n 34 (a0, (8 : Int), (360 : Int), ())).bind fun r1 => some ((r1.1.1, ()), (())) := by kernel_rfl
/- impl.isLift -/
theorem r83 (n : Nat) (a0 : Int) : call T C (n + 1) 83 (a0, ()) = (call T C n 34 (a0, (0 : Int), (10000 : Int), ())).bind fun r1 => some ((r1.1.1, ()), (())) := by kernel_rfl
/- impl.ValidCam$1 -/
theorem r82 (n : Nat) (a0 : Int) : call T C (n + 1) 82 (a0, ()) = (call T C n 83 ((wr .i64 a0), ())).bind fun r1 => some (((!r1.1.1), ()), (())) := by kernel_rfl
/- slices.IndexFunc[impl.Cam,int16]{impl.ValidCam$1} -/
theorem r85 (n : Nat) (a0 : (List Int)) (a1 : (Unit × Unit)) : call T C (n + 1) 85 (a0, a1, ()) = loopK (fun (x1 : (List Int) × (Unit × Unit) × Int × Int × Unit) again2 => (if (decide (x1.2.2.2.1 < x1.2.2.1)) = true then (idx x1.1 x1.2.2.2.1).bind fun v3 => (call T C n 82 (v3, ())).bind fun r4 => (if r4.1.1 = true then some ((x1.2.2.2.1, ()), (())) else again2 (x1.1, ((), ()), x1.2.2.1, (wr .i64 (x1.2.2.2.1 + (1 : Int))), ())) else some (((-1 : Int), ()), (())))) n (a0, ((), ()), (a0.length : Int), (0 : Int), ()) := by kernel_rfl
/- slices.ContainsFunc[impl.Cam,int16]{impl.ValidCam$1} -/
theorem r81 (n : Nat) (a0 : (List Int)) (a1 : (Unit × Unit)) : call T C (n + 1) 81 (a0, a1, ()) = (call T C n 85 (a0, ((), ()), ())).bind fun r1 => some (((decide (r1.1.1 ≥ (0 : Int))), ()), (())) := by kernel_rfl
/- impl.ValidCam -/
theorem r69 (n : Nat) (a0 : (List Int)) : call T C (n + 1) 69 (a0, ()) = (call T C n 48 (a0, ())).bind fun r1 => (call T C n 80 (r1.1.1, ())).bind fun r2 => (if r2.1.1 = true then (call T C n 81 (a0, ((), ()), ())).bind fun r3 => some (((bif true then (!r3.1.1) else false), ()), (())) else some ((false, ()), (()))) := by kernel_rfl
/- impl.isPlace -/
theorem r51 (n : Nat) (a0 : Int) (a1 : Int) : call T C (n + 1) 51 (a0, a1, ()) = (call T C n 34 (a0, (0 : Int), (wr .i64 (a1 - (1 : Int))), ())).bind fun r1 => some ((r1.1.1, ()), (())) := by kernel_rfl
/- impl.ValidShafts$1 -/
theorem r68 (n : Nat) (a0 : (Int × (Int × (Int × ((List Int) × Unit))))) : call T C (n + 1) 68 (a0, ()) = (call T C n 34 ((wr .i64 a0.1), (1 : Int), (60 : Int), ())).bind fun r1 => (if (!r1.1.1) = true then some ((true, ()), (())) else (call T C n 34 ((wr .i64 a0.2.1), (1 : Int), (60 : Int), ())).bind fun r2 => (if (bif false then true else (!r2.1.1)) = true then some ((true, ()), (())) else (call T C n 69 (a0.2.2.2.1, ())).bind fun r3 => (if (bif false then true else (!r3.1.1)) = true then some ((true, ()), (())) else (call T C n 51 ((wr .i64 a0.2.2.1), (a0.2.2.2.1.length : Int), ())).bind fun r4 => some (((bif false then true else (!r4.1.1)), ()), (()))))) := by kernel_rfl
/- slices.IndexFunc[[]impl.Shaft,impl.Shaft]{impl.ValidShafts$1} -/
theorem r79 (n : Nat) (a0 : (List (Int × (Int × (Int × ((List Int) × Unit)))))) (a1 : (Unit × Unit)) : call T C (n + 1) 79 (a0, a1, ()) = loopK (fun (x1 : (List (Int × (Int × (Int × ((List Int) × Unit))))) × (Unit × Unit) × Int × Int × Unit) again2 => (if (decide (x1.2.2.2.1 < x1.2.2.1)) = true then (idx x1.1 x1.2.2.2.1).bind fun v3 => (call T C n 68 (v3, ())).bind fun r4 => (if r4.1.1 = true then some ((x1.2.2.2.1, ()), (())) else again2 (x1.1, ((), ()), x1.2.2.1, (wr .i64 (x1.2.2.2.1 + (1 : Int))), ())) else some (((-1 : Int), ()), (())))) n (a0, ((), ()), (a0.length : Int), (0 : Int), ()) := by kernel_rfl
/- slices.ContainsFunc[[]impl.Shaft,impl.Shaft]{impl.ValidShafts$1} -/
theorem r67 (n : Nat) (a0 : (List (Int × (Int × (Int × ((List Int) × Unit)))))) (a1 : (Unit × Unit)) : call T C (n + 1) 67 (a0, a1, ()) = (call T C n 79 (a0, ((), ()), ())).bind fun r1 => some (((decide (r1.1.1 ≥ (0 : Int))), ()), (())) := by kernel_rfl
/- impl.ValidShafts -/
theorem r45 (n : Nat) (a0 : (List (Int × (Int × (Int × ((List Int) × Unit)))))) : call T C (n + 1) 45 (a0, ()) = (call T C n 34 ((a0.length : Int), (1 : Int), (6 : Int), ())).bind fun r1 => (if r1.1.1 = true then (call T C n 67 (a0, ((), ()), ())).bind fun r2 => some (((bif true then (!r2.1.1) else false), ()), (())) else some ((false, ()), (()))) := by kernel_rfl
/- impl.codeIf -/
theorem r44 (n : Nat) (a0 : Bool) (a1 : Int) : call T C (n + 1) 44 (a0, a1, ()) = (if a0 = true then some ((a1, ()), (())) else some (((0 : Int), ()), (()))) := by kernel_rfl
/- impl.firstCode -/
theorem r43 (n : Nat) (a0 : (List Int)) : call T C (n + 1) 43 (a0, ()) = loopK (fun (x1 : (List Int) × Int × Int × Unit) again2 => (if (decide (x1.2.2.1 < x1.2.1)) = true then (idx x1.1 x1.2.2.1).bind fun v3 => (if (v3 != (0 : Int)) = true then some ((v3, ()), (())) else again2 (x1.1, x1.2.1, (wr .i64 (x1.2.2.1 + (1 : Int))), ())) else some (((0 : Int), ()), (())))) n (a0, (a0.length : Int), (0 : Int), ()) := by kernel_rfl
/- impl.common -/
theorem r74 (n : Nat) (a0 : Int) (a1 : Int) : call T C (n + 1) 74 (a0, a1, ()) = loopK (fun (x1 : Int × Int × Unit) again2 => (if (x1.2.1 != (0 : Int)) = true then chk (x1.2.1 != 0) (again2 (x1.2.1, (Int.tmod x1.1 x1.2.1), ())) else some ((x1.1, ()), (())))) n (a0, a1, ()) := by kernel_rfl
/- (impl.Shaft).period -/
theorem r73 (n : Nat) (a0 : (Int × (Int × (Int × ((List Int) × Unit))))) : call T C (n + 1) 73 (a0, ()) = (call T C n 48 (a0.2.2.2.1, ())).bind fun r1 => (call T C n 74 ((wr .i64 ((wr .i64 a0.2.1) * r1.1.1)), (wr .i64 a0.1), ())).bind fun r2 => chk (r2.1.1 != 0) (some (((wr .i64 (Int.tdiv (wr .i64 ((wr .i64 a0.2.1) * r1.1.1)) r2.1.1)), ()), (()))) := by kernel_rfl
/- impl.periodOf -/
theorem r58 (n : Nat) (a0 : (List (Int × (Int × (Int × ((List Int) × Unit)))))) : call T C (n + 1) 58 (a0, ()) = loopK (fun (x1 : Int × (List (Int × (Int × (Int × ((List Int) × Unit))))) × Int × Int × Unit) again2 => (if (decide (x1.2.2.2.1 < x1.2.2.1)) = true then (idx x1.2.1 x1.2.2.2.1).bind fun v3 => (call T C n 73 (v3, ())).bind fun r4 => (call T C n 74 (x1.1, r4.1.1, ())).bind fun r5 => chk (r5.1.1 != 0) ((if (decide ((wr .i64 ((wr .i64 (Int.tdiv x1.1 r5.1.1)) * r4.1.1)) > (20000 : Int))) = true then some (((0 : Int), false, ()), (())) else again2 ((wr .i64 ((wr .i64 (Int.tdiv x1.1 r5.1.1)) * r4.1.1)), x1.2.1, x1.2.2.1, (wr .i64 (x1.2.2.2.1 + (1 : Int))), ()))) else some ((x1.1, true, ()), (())))) n ((1 : Int), a0, (a0.length : Int), (0 : Int), ()) := by kernel_rfl
/- impl.shaftsCode -/
theorem r32 (n : Nat) (a0 : (List (Int × (Int × (Int × ((List Int) × Unit)))))) (a1 : Bool) : call T C (n + 1) 32 (a0, a1, ()) = (call T C n 45 (a0, ())).bind fun r1 => (call T C n 44 ((!r1.1.1), (1 : Int), ())).bind fun r2 => (call T C n 44 ((!a1), (2 : Int), ())).bind fun r3 => (call T C n 43 (([r2.1.1, r3.1.1] : (List Int)), ())).bind fun r4 => (if (r4.1.1 != (0 : Int)) = true then some (((0 : Int), r4.1.1, ()), (())) else (call T C n 58 (a0, ())).bind fun r5 => (call T C n 44 ((!r5.1.2.1), (3 : Int), ())).bind fun r6 => some ((r5.1.1, r6.1.1, ()), (()))) := by kernel_rfl
/- impl.isRoom -/
theorem r33 (n : Nat) (a0 : Int) : call T C (n + 1) 33 (a0, ()) = (call T C n 34 (a0, (0 : Int), (20000 : Int), ())).bind fun r1 => some ((r1.1.1, ()), (())) := by kernel_rfl
/- (impl.Shaft).step -/
theorem r84 (n : Nat) (a0 : (Int × (Int × (Int × ((List Int) × Unit))))) (a1 : Int) (a2 : Int) : call T C (n + 1) 84 (a0, a1, a2, ()) = chk ((wr .i64 a0.2.1) != 0) ((call T C n 48 (a0.2.2.2.1, ())).bind fun r1 => chk (r1.1.1 != 0) (some (((Int.tmod (wr .i64 (a2 + (wr .i64 (Int.tdiv (wr .i64 (a1 * (wr .i64 a0.1))) (wr .i64 a0.2.1))))) r1.1.1), ()), (())))) := by kernel_rfl
/- (impl.Shaft).lift -/
theorem r70 (n : Nat) (a0 : (Int × (Int × (Int × ((List Int) × Unit))))) (a1 : Int) (a2 : Int) : call T C (n + 1) 70 (a0, a1, a2, ()) = (call T C n 84 (a0, a1, a2, ())).bind fun r1 => (idx a0.2.2.2.1 r1.1.1).bind fun v2 => some (((wr .i64 v2), ()), (())) := by kernel_rfl
end Go.Proofs.Ytgmkcekfpmdhoaa.LPh
