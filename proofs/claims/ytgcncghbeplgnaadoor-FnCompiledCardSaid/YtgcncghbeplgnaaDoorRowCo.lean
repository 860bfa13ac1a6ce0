/- The law FnCompiled returns true for all arguments, in every run, and leaves its arguments as they were; no conditions. The library's table of bits is as the program's text lays it: the card ties it. -/
import Derived.Test.YtgcncghbeplgnaaDoorECo
import Derived.Test.YtgcncghbeplgnaaDoorRows
import Derived.Test.YtgcncghbeplgnaaDoorTie
import Derived.Test.YtgcncghbeplgnaaDoorCards
import Derived.ProofKit
import Derived.LaidMore
import Derived.OpenShut
import Derived.Stop.Joined
import Derived.Lib.LaidTab
import Derived.Shelf.Spec.TrailingZeros
import Derived.WalkKit
namespace Go.Proofs.YtgcncghbeplgnaaDoor
open Go Go.Fw Go.Proofs Go.RowKit
theorem tz_core (x k idx : Nat) (w : World) (hx0 : ((x : Int) == 0) = false)
    (key : IntKind.u64.wrap (bits BinOp.and IntKind.u64 (x : Int) (IntKind.u64.wrap (-(x : Int))) * 285870213051353865) / 288230376151711744 = (idx : Int))
    (hi : idx < 64) (hk : k < 64) (hcell : w.cell? ⟨0, idx, none⟩ = some (.int .u8 k)) :
    Calls Tryd.prog 45 #[.int .u64 x] w fun e w' => e = .returned (.int .i64 k) ∧ w' = w := by
  go_enter Tryd.func45, Tryd.ntmps45
  go_wp2_with (simp only [key])
  go_ret
  exact ⟨rfl, rfl⟩
theorem tz_zero (w : World) : Calls Tryd.prog 45 #[.int .u64 0] w fun e w' => e = .returned (.int .i64 64) ∧ w' = w := by
  go_enter Tryd.func45, Tryd.ntmps45
  go_wp2
  go_ret
  exact ⟨rfl, rfl⟩
theorem tz_calls (x : Nat) (hx : x < 18446744073709551616) (w : World) (hT : TabAt 0 Lib.deBruijn64tab w) : Calls Tryd.prog 45 #[.int .u64 x] w fun e w' => e = .returned (.int .i64 (Lib.ctz 64 x)) ∧ w' = w := by
  by_cases hx0 : x = 0
  · subst hx0
    exact tz_zero w
  · obtain ⟨hlow, hk⟩ := Lib.lowest_bit 64 x hx0 hx
    obtain ⟨hi, htab⟩ := Lib.deBruijn64_at _ hk
    have hcell := hT _ hi
    rw [htab] at hcell
    exact tz_core x _ _ w (by simp; omega) (tz64_key x _ hx hx0 hlow) hi hk hcell
theorem tz_ext {L : Laid} (hL : ∀ w, L.on w → TabAt 0 Lib.deBruijn64tab w) : ExtOk Tryd.prog L LCo.I45 := by
  refine extOk_of (I := LCo.I45) (g := fun x => if 0 ≤ x.1 ∧ x.1 < 18446744073709551616 then some ((((Lib.ctz 64 x.1.toNat : Nat) : Int), ()), ()) else none) (fn := Tryd.f45) (code := bd Tryd.f45) rfl Tryd.func45 (by kernel_rfl) (by kernel_rfl) ?_
  intro x r o w vals okc Fs hg hA hok hon
  obtain ⟨c, hv, hc, rfl⟩ := args_one hA
  obtain ⟨a, u⟩ := x
  change Int at a
  have hc : c = [.int .u64 a] := hc
  subst hc
  have hv : vals = [.int .u64 a] := hv
  subst hv
  split at hg
  · rename_i hx
    have hx : (0 : Int) ≤ a ∧ a < 18446744073709551616 := hx
    obtain ⟨n, rfl⟩ : ∃ n : Nat, a = (n : Int) := ⟨a.toNat, by omega⟩
    change some ((((Lib.ctz 64 ((n : Int)).toNat : Nat) : Int), ()), ()) = some (r, o) at hg
    rw [Int.toNat_natCast] at hg
    injection hg with hg
    injection hg with h1 h2
    subst h1
    refine (tz_calls n (by omega) w (hL w hon)).mono fun e w' ⟨he, hw⟩ => ?_
    subst hw
    refine ⟨_, he, post_plain (xs := [.int .i64 ((Lib.ctz 64 n : Nat) : Int)]) ?_ ?_ hok (KeptBut.refl _ _)⟩
    · exact ⟨[.int .i64 ((Lib.ctz 64 n : Nat) : Int)], [], [], [], rfl, rfl, ⟨rfl, rfl⟩, rfl, rfl⟩
    · exact ⟨_, [], rfl, rfl⟩
  · cases hg
open Go.ChangeShapes Go.WideShapes Go.ChangeAt
abbrev laidL : List (String × DataW Unit) := Rows.fnCompiledRow.laid
theorem Tryd.own : ownKnob Tryd.prog.godebug = none := by kernel_rfl
theorem Tryd.laidOut : laidOutB Tryd.prog = true := by kernel_rfl
theorem gTab : Tryd.prog.globalNamed "math/bits.deBruijn64tab" = some 0 := by kernel_rfl
theorem tTab : (Tryd.prog.globals[0]?).map (·.type) = some 115 := by kernel_rfl
theorem door_met (os : Os) (args : Array Value) : laidMetH Tryd.prog laidL ((World.doorLaid Tryd.prog 400 os).forCall (fun _ _ => 0) ⟨#[], args, []⟩).memory :=
  laidMetH_of_parts3 (fuel := 8) (laidMet_of_run' 8 (by kernel_rfl) (by kernel_rfl)) (by kernel_rfl) (by kernel_rfl)
theorem tab_of {W : World} (h : laidMetH Tryd.prog laidL W) : TabAt 0 Lib.deBruijn64tab W := by
  rw [MakeChecks.laidMetH_plain _ _ _ (by kernel_rfl)] at h
  have ht : Lib.TabIs Tryd.prog W "math/bits.deBruijn64tab" .u8 (Lib.deBruijn64tab.map fun (n : Nat) => (n : Int)) := Lib.tabIs_of_head gTab tTab Tryd.underlying115 Tryd.underlying5 (by kernel_rfl) (by kernel_rfl) h
  intro j hj
  have := ht.cell gTab j (by simpa using hj)
  rw [this]
  congr 2
  simp [List.getD_eq_getElem?_getD, hj]
theorem fnCompiled_law : ∀ x, DomA (LCo.C 3).params x → ∃ n r o, call LCo.T LCo.C n 3 x = some (r, o) ∧ IsTrue (LCo.C 3).res r := by
  intro x hd
  obtain ⟨x0, x1, u⟩ := x
  obtain ⟨N, hN⟩ := Go.Cams.YtgcncghbeplgnaaDoorLCo.e3 x0 x1 hd
  exact ⟨N, _, _, hN N (Nat.le_refl _), rfl⟩
theorem fnCompiled_rec : (Tryd.f3.params.toList.all fun t => Tryd.prog.readableRec t && decide (t < Tryd.prog.types.size)) = true := by kernel_rfl
set_option maxRecDepth 100000 in
theorem fnCompiled_lifted (os : Os) (started : os.Started) (H : Type) (enc : TypeId × Value → H) :
    ReturnsInHanded {} Tryd.checked os 3 .any (fun w args => (Rows.fnCompiledSpec.pre enc Tryd.prog Tryd.f3 Rows.fnCompiledRow.domain false w args ∧ laidMetH Tryd.prog laidL w) ∧ sizedMet enc Tryd.prog Tryd.f3 (OpenSpec.ofChange Rows.fnCompiledSpec) false w args) (Rows.fnCompiledSpec.post enc Tryd.prog Tryd.f3 false true false false) := by
  refine returnsInHanded_of_change_and (C := Tryd.checked) (X := fun w _ => laidMetH Tryd.prog laidL w) (fun _ _ _ hh h => h.of_heap hh) Tryd.own started (by kernel_rfl) Tryd.func3
    (ChangeSpec.witness_shaped (enc := enc) (C := Tryd.checked) (os := os) (X := fun w _ => laidMetH Tryd.prog laidL w) false (World.doorLaid Tryd.prog 400 os) #[.slice none 0 0, .slice none 0 0] 8 rfl (World.shaped_of_RefB (by kernel_rfl) (by kernel_rfl)) (by kernel_rfl) (by kernel_rfl) (by kernel_rfl) (door_met os _)) ?_
  intro W base args ds gs before hval hW _ hw hL _
  have htab := tab_of hL
  have hsz : 0 < W.heap.size := by
    have h0 := htab 0 (by decide)
    unfold World.cell? at h0
    apply Classical.byContradiction
    intro hn
    rw [Array.getElem?_eq_none (by omega)] at h0
    cases h0
  refine law_callsX LCo.tsOk LCo.insts (by kernel_rfl) Tryd.laidOut (j := 3) (by kernel_rfl) (f := 3) (fn := Tryd.f3) rfl (tb := 4) (by kernel_rfl) Tryd.underlying4 (by kernel_rfl) (fun t ht => by have := List.all_eq_true.1 fnCompiled_rec t ht; simp only [Bool.and_eq_true, decide_eq_true_eq] at this; exact this) rfl (fun H ds h => match ds, h with | [_, _], _ => rfl) fnCompiled_law hval hW hw (bl := fun b => b = 0) (fun b hb => by rw [hb]; exact hsz) (LCo.exts (tz_ext fun w hon => ?_))
  intro j hj
  have := cellsAt_keep (w' := w) (fun i v hi => by
    have e : (Addr.add ⟨0, j, none⟩ i) = ⟨0, j, none⟩ := by
      match i, hi with
      | 0, _ => rfl
    rw [e, htab j hj]
    match i, hi with
    | 0, hi => simpa using hi) (a := ⟨0, j, none⟩) (cs := [.int .u8 (Lib.deBruijn64tab.getD j 0)]) (hon.1.heap 0 hsz (by simp))
  exact this 0 _ rfl
theorem fnCompiled_bare : Rows.FnCompiledSaid :=
  OpenClaim.holds_of_wide 3 Tryd.f3 rfl rfl rfl rfl rfl rfl rfl ⟨rfl, rfl, rfl, rfl, rfl⟩ rfl rfl rfl rfl rfl (by kernel_rfl) Tryd.func3 (by kernel_rfl)
    (of_decide_eq_true (by kernel_rfl)) (by unfold Func.isWrapper; rw [if_neg (by decide +kernel)]; exact ⟨rfl, rfl⟩)
    (fun os started H enc _ => fnCompiled_lifted os started H enc)
theorem fnCompiled_named : Tryd.prog.funcNamed Rows.fnCompiledRow.func = some 3 := by kernel_rfl
theorem fnCompiled_holds : Rows.FnCompiledCardSaid :=
  Claim7.holds_tied_plain_at .later [] [.data] true (true, "c3d215bf860955538d6f11ace1a6cfc8872fc60859f73a473f297a2240451e05") false
    fnCompiled_bare (fun _ h => by cases h) (by kernel_rfl) (fun _ h => by cases h) fnCompiled_row_tie rfl ⟨rfl, rfl⟩ (by kernel_rfl) rfl
    (fun f fn hf hfn => by
      obtain rfl : f = 3 := Option.some.inj (fnCompiled_named.symm.trans hf) |>.symm
      obtain rfl : fn = Tryd.f3 := (Option.some.inj (Tryd.func3.symm.trans hfn)).symm
      exact ⟨by kernel_rfl, fun j t ht => by
        have hm := Array.mem_of_getElem? ht
        have hall : (Tryd.f3.params.toList.all fun u => !Tryd.prog.wantsStandIn u) = true := by kernel_rfl
        exact (show Tryd.prog.wantsStandIn t = false by simpa using List.all_eq_true.1 hall t (by simpa using hm))⟩)
    (by kernel_rfl)
#print axioms fnCompiled_holds
end Go.Proofs.YtgcncghbeplgnaaDoor
