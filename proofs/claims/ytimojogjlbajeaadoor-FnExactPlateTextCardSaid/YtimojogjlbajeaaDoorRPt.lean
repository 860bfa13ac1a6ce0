/- The functions that the law reaches, read whole: each comes to a plain term. Written by a program (lawgen.py, resid.py). -/
import Derived.Test.YtimojogjlbajeaaDoorLPt
namespace Go.Proofs.YtimojogjlbajeaaDoor.LPt
open Go Go.Fw Go.Proofs
/- laws.toPlate -/
theorem r6 (n : Nat) (a0 : (List Int)) : call T C (n + 1) 6 (a0, ()) = loopK (fun (x1 : (List Int) × (List Int) × (List Int) × Int × Unit) again2 => (if (decide (x1.2.2.2.1 < (64 : Int))) = true then chk (decide (0 ≤ x1.2.2.2.1 ∧ x1.2.2.2.1 < ((64 : Nat) : Int))) ((x1.1[(Int.toNat x1.2.2.2.1)]?).bind fun v6 => chk (decide (0 ≤ x1.2.2.2.1 ∧ x1.2.2.2.1 < ((64 : Nat) : Int))) ((x1.2.2.1[(Int.toNat x1.2.2.2.1)]?).bind fun v7 => again2 (x1.1, x1.2.1, (x1.2.2.1.set (Int.toNat x1.2.2.2.1) v6), (wr .i64 (x1.2.2.2.1 + (1 : Int))), ()))) else some ((x1.2.2.1, ()), (())))) n (a0, (List.replicate 64 (0 : Int)), (List.replicate 64 (0 : Int)), (0 : Int), ()) := by kernel_rfl
/- spec.l07Plate -/
theorem r13 (n : Nat) (a0 : (List Int)) : call T C (n + 1) 13 (a0, ()) = loopK (fun (x1 : (List Int) × ByteArray × (List Int) × Int × Unit) again2 => (if (decide (x1.2.2.2.1 < (64 : Int))) = true then loopK (fun (x4 : (List Int) × ByteArray × (List Int) × Int × Int × Unit) again5 => (if (decide (x4.2.2.2.2.1 ≥ (0 : Int))) = true then (idx x4.1 x4.2.2.2.1).bind fun v7 => chk (decide (0 ≤ (wr .u64 x4.2.2.2.2.1))) ((idx (numsOf x4.2.1) (bitsI .and .u64 (shr_ .u64 v7 (wr .u64 x4.2.2.2.2.1)) (15 : Int))).bind fun v8 => chk (decide ((x4.2.2.1.length + ([v8] : (List Int)).length) * 1 ≤ 140737488355328)) (again5 (x4.1, x4.2.1, (x4.2.2.1 ++ ([v8] : (List Int))), x4.2.2.2.1, (wr .i64 (x4.2.2.2.2.1 - (4 : Int))), ()))) else chk (decide ((x4.2.2.1.length + ([(10 : Int)] : (List Int)).length) * 1 ≤ 140737488355328)) (again2 (x4.1, x4.2.1, (x4.2.2.1 ++ ([(10 : Int)] : (List Int))), (wr .i64 (x4.2.2.2.1 + (1 : Int))), ())))) n (x1.1, x1.2.1, x1.2.2.1, x1.2.2.2.1, (60 : Int), ()) else some (((strOf x1.2.2.1), ()), (())))) n (a0, (⟨#[48, 49, 50, 51, 52, 53, 54, 55, 56, 57, 97, 98, 99, 100, 101, 102]⟩ : ByteArray), ([] : (List Int)), (0 : Int), ()) := by kernel_rfl
/- spec.PlateText -/
theorem r5 (n : Nat) (a0 : (List Int)) : call T C (n + 1) 5 (a0, ()) = (call T C n 13 (a0, ())).bind fun r1 => some ((r1.1.1, ()), (())) := by kernel_rfl
/- strconv.FormatUint -/
theorem r26 (n : Nat) (a0 : Int) (a1 : Int) : call T C (n + 1) 26 (a0, a1, ()) = (fun x => if 0 ≤ x.1 ∧ x.1 < 18446744073709551616 ∧ x.2.1 = 16 then some (((⟨(hexD x.1.toNat).toArray⟩ : ByteArray), ()), ()) else none) (a0, a1, ()) := by kernel_rfl
/- strings.Repeat -/
theorem r27 (n : Nat) (a0 : ByteArray) (a1 : Int) : call T C (n + 1) 27 (a0, a1, ()) = (fun x => if x.1.data = #[48] ∧ 0 ≤ x.2.1 ∧ x.2.1 ≤ 15 then some (((⟨(List.replicate x.2.1.toNat (48 : UInt8)).toArray⟩ : ByteArray), ()), ()) else none) (a0, a1, ()) := by kernel_rfl
/- impl.hex -/
theorem r15 (n : Nat) (a0 : Int) : call T C (n + 1) 15 (a0, ()) = (call T C n 26 (a0, (16 : Int), ())).bind fun r1 => (call T C n 27 ((⟨#[48]⟩ : ByteArray), (wr .i64 ((16 : Int) - (r1.1.1.size : Int))), ())).bind fun r2 => chk (decide (((r2.1.1.size + r1.1.1.size : Nat) : Int) ≤ 4611686018427387904)) (some (((r2.1.1 ++ r1.1.1), ()), (()))) := by kernel_rfl
/- (*strings.Builder).WriteString -/
theorem r14 (n : Nat) (a0 : ByteArray) (a1 : ByteArray) : call T C (n + 1) 14 (a0, a1, ()) = (fun x => if x.1.size + x.2.1.size ≤ 140737488355328 then some ((((x.2.1.size : Nat) : Int), false, ()), (x.1 ++ x.2.1, ())) else none) (a0, a1, ()) := by kernel_rfl
/- (*strings.Builder).String -/
theorem r16 (n : Nat) (a0 : ByteArray) : call T C (n + 1) 16 (a0, ()) = (fun x => some ((x.1, ()), ())) (a0, ()) := by kernel_rfl
/- impl.PlateText -/
theorem r7 (n : Nat) (a0 : (List Int)) : call T C (n + 1) 7 (a0, ()) = loopK (fun (x1 : ByteArray × (List Int) × Int × Unit) again2 => (if (decide (x1.2.2.1 < (64 : Int))) = true then (idx x1.2.1 x1.2.2.1).bind fun v4 => (call T C n 15 (v4, ())).bind fun r5 => chk (decide (((r5.1.1.size + (⟨#[10]⟩ : ByteArray).size : Nat) : Int) ≤ 4611686018427387904)) ((call T C n 14 (x1.1, (r5.1.1 ++ (⟨#[10]⟩ : ByteArray)), ())).bind fun r6 => again2 (r6.2.1, x1.2.1, (wr .i64 (x1.2.2.1 + (1 : Int))), ())) else (call T C n 16 (x1.1, ())).bind fun r7 => some ((r7.1.1, ()), (())))) n ((⟨#[]⟩ : ByteArray), a0, (0 : Int), ()) := by kernel_rfl
/- laws.FnExactPlateText -/
theorem r3 (n : Nat) (a0 : (List Int)) : call T C (n + 1) 3 (a0, ()) = (call T C n 6 (a0, ())).bind fun r1 => (call T C n 5 (r1.1.1, ())).bind fun r2 => (call T C n 6 (a0, ())).bind fun r3 => (call T C n 7 (r3.1.1, ())).bind fun r4 => (if (!(r4.1.1.toList == r2.1.1.toList)) = true then some ((false, ()), (())) else some ((true, ()), (()))) := by kernel_rfl
end Go.Proofs.YtimojogjlbajeaaDoor.LPt
