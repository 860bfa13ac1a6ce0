/- A reading of Go code as plain functions, part FwC. -/
import Derived.Test.YtgmkcekfpmdhoaaFwB
import Derived.Orders
import Derived.LoopN
import Derived.SizedLaws
import Derived.Carry
import Derived.WideShapes
import Derived.JoinedOf
import Derived.RowKit
import Derived.OpenShut
import Derived.KernelRfl
/- Each operation keeps what the state tells. -/
namespace Go.Fw
variable {P : Program} {T : Nat → Option TI} {C : Nat → Inst} {E : Env} {S S' S1 S2 : St} {G G1 : Gh} {w w1 : World} {a : Act}

theorem evs_arr (Iv : Inv E S G a w) {xs : Array Operand} {vs : List V} (h : (evs xs.toList).run S = some (vs, S')) : S' = S ∧ SRs S G w vs (xs.map a.eval).toList := by
  have := evs_sound Iv h
  simpa using this

theorem evs_parts (Iv : Inv E S G a w) {ps : Array (Nat × Operand)} {vs : List V} (h : (evs (ps.toList.map (·.2))).run S = some (vs, S')) : S' = S ∧ SRs S G w vs ((ps.toList.map (·.2)).map a.eval) := evs_sound Iv h

theorem parts_eq (ps : Array (Nat × Operand)) (f : Operand → Value) : ps.map (fun (x : Nat × Operand) => (x.1, f x.2)) = ((ps.toList.map (·.1)).zip ((ps.toList.map (·.2)).map f)).toArray := by
  apply Array.ext'
  simp only [Array.toList_map, List.toList_toArray]
  induction ps.toList with
  | nil => rfl
  | cons p r ih => simp [ih]

theorem stepOp_sound (hT : TsOk P T) {F : CallF C} (hC : Contract P C E.L F) {I : Inst} (hnt : I.nt = E.nt ∧ I.pins = E.pins.map (·.1)) {rid ix : Nat} {o : Oper} {u : Unit} (Iv : Inv E S G a w) (hr : (stepOp T C F I rid ix o).run S = some (u, S')) {K : Act → World → Prop} {Q : Exit → Act → World → Prop} (hK : ∀ a1 w1 G1, Inv E S' G1 a1 w1 → K a1 w1) : o.wp P a w K Q := by
  have M := Iv.mem
  unfold stepOp at hr
  simp only [hnt.1, hnt.2] at hr
  split at hr
  · -- move
    rename_i x ho
    obtain ⟨v, hv, hr⟩ := ev_sound Iv hr
    exact wp_value (m := pure (a.eval x)) Iv (by simp [execOp, ho]) (Step.same M (by simp) hv) hr hK
  · -- assign
    rename_i x ho
    obtain ⟨v, hv, hr⟩ := ev_sound Iv hr
    exact wp_value (m := pure (a.eval x)) Iv (by simp [execOp, ho]) (Step.same M (by simp) hv) hr hK
  · -- pick
    rename_i c x y ho
    obtain ⟨vc, hc, hr1⟩ := ev_sound Iv hr
    obtain ⟨va, ha, hr2⟩ := ev_sound Iv hr1
    obtain ⟨vb, hb, hr3⟩ := ev_sound Iv hr2
    split at hr3
    · rename_i p
      have hcv := hc.bool
      have hex : ∀ {z : Value} {v : V}, z = (if p = true then a.eval x else a.eval y) → SR (used S) G w v z → (ret E.nt (E.pins.map (fun (p : Nat × Value) => p.1)) o.dst v).run S = some (u, S') → o.wp P a w K Q := fun {z v} hz hv hret =>
        wp_value (m := pure z) Iv (by simp [execOp, ho, hcv, asBool, hz]) (Step.same M (by simp) hv) hret hK
      have gen : (match p with | true => ret E.nt (E.pins.map fun (p : Nat × Value) => p.1) o.dst va | false => ret E.nt (E.pins.map fun (p : Nat × Value) => p.1) o.dst vb).run S = some (u, S') → o.wp P a w K Q := fun hr => by
        cases p with
        | true => exact hex rfl ha hr
        | false => exact hex rfl hb hr
      split at hr3
      · rename_i t xx u' yy
        split at hr3
        · rename_i h
          subst h
          cases p with
          | true => exact hex rfl ha hr3
          | false => exact hex rfl hb hr3
        · exact gen hr3
      · exact gen hr3
    · cases hr3
  · -- alloc
    rename_i e ho
    split at hr
    rotate_left
    · obtain ⟨t, s1, h1, hr1⟩ := AM.of_bind hr
      obtain ⟨es1, i, hi, eti⟩ := tyOf_sound h1
      subst es1; subst eti
      obtain ⟨hm, hr2⟩ := AM.of_must_bind hr1
      have hty : i.ty = bldTy := by simpa using hm
      obtain ⟨un, s3, h3, hr3⟩ := AM.of_bind hr2
      obtain ⟨hi0, rfl⟩ := AM.of_newO h3
      obtain ⟨fo, hfo, hsz, hby, z0, hz0, hzc⟩ := (hT e i hi).info
      obtain ⟨M1, K1, hs⟩ := new_bld (t := e) (e := elemNo T e) M hi0
      refine wp_value (m := Instr.alloc e true (.tuple #[])) Iv (by simp [execOp, ho]) ⟨_, _, _, ?_, M1, K1, rfl, hs⟩ hr3 hK
      have : z0.cells = #[.pointer none, .slice none 0 0] := by apply Array.ext'; rw [hzc, hty]; rfl
      simp [Instr.alloc, zeroValue, typeInfo, hfo, hz0, newVar, newRow, this]
    obtain ⟨t, s1, h1, hr1⟩ := AM.of_bind hr
    obtain ⟨es1, i, hi, eti⟩ := tyOf_sound h1
    subst es1; subst eti
    obtain ⟨v, s2, h2, hr2⟩ := AM.of_bind hr1
    obtain ⟨es2, hf, hz⟩ := zeroV_sound (w := w) i.ty h2
    subst es2
    obtain ⟨un, s3, h3, hr3⟩ := AM.of_bind hr2
    obtain ⟨hi0, rfl⟩ := AM.of_newO h3
    obtain ⟨fo, hfo, hsz, hby, z0, hz0, hzc⟩ := (hT e i hi).info
    obtain ⟨M1, K1, hs⟩ := new_box (e := e) M hi0 hf (hz (U := used s2) (G := G))
    refine wp_value (m := Instr.alloc e true (.tuple #[])) Iv (by simp [execOp, ho]) ⟨_, _, _, ?_, M1, K1, rfl, hs⟩ hr3 hK
    have : z0.cells = (zeroCells_ i.ty).toArray := by apply Array.ext'; rw [hzc]
    simp [Instr.alloc, zeroValue, typeInfo, hfo, hz0, newVar, newRow, this]
  · -- box
    rename_i e x ho
    obtain ⟨t, s1, h1, hr1⟩ := AM.of_bind hr
    obtain ⟨es1, i, hi, eti⟩ := tyOf_sound h1
    subst es1; subst eti
    obtain ⟨v, hv, hr2⟩ := ev_sound Iv hr1
    obtain ⟨hf, hr3⟩ := AM.of_must_bind hr2
    obtain ⟨un, s3, h3, hr4⟩ := AM.of_bind hr3
    obtain ⟨hi0, rfl⟩ := AM.of_newO h3
    obtain ⟨d, hd, hc, hl⟩ := SR.fits_cells M hf hv
    obtain ⟨M1, K1, hs⟩ := new_box (e := e) M hi0 hf hd
    have hrun : (Instr.box e (a.eval x)).run P w = .ok (.pointer (some ⟨w.heap.size, 0, none⟩)) (w.alloc (.cells d.toArray e)) := by simp [Instr.box, newVar, newRow, hc]
    split at hr4
    · exact wp_value (m := Instr.box e (a.eval x)) Iv (by simp [execOp, ho]) ⟨_, _, _, hrun, M1, K1, rfl, hs⟩ hr4 hK
    · split at hr4
      · rename_i i0
        simp only [AM.run] at hr4
        obtain ⟨M2, K2, hs2⟩ := pin_box hi0 M1 K1 hd
        exact wp_value (m := Instr.box e (a.eval x)) Iv (by simp [execOp, ho]) ⟨_, _, _, hrun, M2, K1.trans K2, rfl, hs2⟩ hr4 hK
      · cases hr4
  · -- build
    rename_i t ps ho
    obtain ⟨t', s1, h1, hr1⟩ := AM.of_bind hr
    obtain ⟨es1, i, hi, eti⟩ := tyOf_sound h1
    subst es1; subst eti
    obtain ⟨hag, hr1⟩ := AM.of_must_bind hr1
    obtain ⟨v, s2, h2, hr2⟩ := AM.of_bind hr1
    obtain ⟨ys, s3, h3, hr3⟩ := AM.of_bind hr2
    obtain ⟨z, s4, h4, hr4⟩ := AM.of_bind hr3
    obtain ⟨es2, hf, hz⟩ := zeroV_sound (w := w) i.ty h2
    subst es2
    obtain ⟨es3, hys⟩ := evs_parts Iv h3
    subst es3
    have hlen : ys.length = ps.size := by have := hys.len; simpa using this
    have e2 : ((ps.toList.map (·.1)).zip ys).map (·.2) = ys := by rw [List.map_snd_zip]; simp [hlen]
    have e1 : ((ps.toList.map (·.1)).zip ys).map (·.1) = ps.toList.map (·.1) := by rw [List.map_fst_zip]; simp [hlen]
    obtain ⟨es4, r, hrun, hz'⟩ := build_sound (P := P) hT M hi h2 (ps := (ps.toList.map (·.1)).zip ys) (by rw [e2]; exact hys) h4 hag
    subst es4
    rw [e1, ← parts_eq] at hrun
    exact wp_value (m := Instr.build t (ps.map fun (x : Nat × Operand) => (x.1, a.eval x.2))) Iv (by simp [execOp, ho]) (Step.same M hrun hz') hr4 hK
  · -- buildSlice
    rename_i t n ps ho
    obtain ⟨e, s1, h1, hr1⟩ := AM.of_bind hr
    obtain ⟨hm, hr2⟩ := AM.of_must_bind hr1
    obtain ⟨ys, s3, h3, hr3⟩ := AM.of_bind hr2
    obtain ⟨l, s4, h4, hr4⟩ := AM.of_bind hr3
    obtain ⟨un, s5, h5, hr5⟩ := AM.of_bind hr4
    obtain ⟨es1, _⟩ := elemTy_sound hT h1
    subst es1
    obtain ⟨es3, hys⟩ := evs_parts Iv h3
    subst es3
    have hlen : ys.length = ps.size := by have := hys.len; simpa using this
    have hst := buildSlice_sound hT M h1 hm (xs := (ps.toList.map (·.2)).map a.eval) (by simp) hys h4 h5
    rw [← parts_eq] at hst
    have hex : (execOp a.eval o).run P w = ((Instr.buildSlice t n (ps.map fun (x : Nat × Operand) => (x.1, a.eval x.2))).run P w).andThen fun x w' => .ok (.value x) w' := by simp [execOp, ho]
    split at hr5
    · obtain ⟨v, s6, h6, hr6⟩ := AM.of_bind hr5
      obtain ⟨x, w1, G1, hrun, M1, K1, t1, hv⟩ := hst
      obtain ⟨G2, M2, K2, t2, hv2, _⟩ := freeze_sound M1 hv rfl h6
      exact wp_value Iv hex ⟨x, w1, G2, hrun, M2, K1.trans K2, t2.trans t1, hv2⟩ hr6 hK
    · exact wp_value Iv hex hst hr5 hK
  · -- makeSlice
    rename_i t n c ho
    obtain ⟨e, s1, h1, hr1⟩ := AM.of_bind hr
    obtain ⟨es1, _⟩ := elemTy_sound hT h1
    subst es1
    obtain ⟨vn, hn, hr2⟩ := ev_sound Iv hr1
    obtain ⟨vc, hc, hr3⟩ := ev_sound Iv hr2
    obtain ⟨hfl, hr4⟩ := AM.of_must_bind hr3
    split at hr4
    · rename_i kn nn kc cc
      obtain ⟨hg, hr5⟩ := AM.of_guard_bind hr4
      obtain ⟨un, s5, h5, hr6⟩ := AM.of_bind hr5
      have hst := make_sound (P := P) (k1 := kn) (k2 := kc) hT M h1 hfl (of_decide_eq_true hg) h5
      exact wp_value (m := Instr.makeSlice t (.int kn nn) (.int kc cc)) Iv (by simp [execOp, ho, hn.int, hc.int]) hst hr6 hK
    · cases hr4
  · -- load
    rename_i t x ho
    obtain ⟨t', s1, h1, hr1⟩ := AM.of_bind hr
    obtain ⟨es1, i, hi, eti⟩ := tyOf_sound h1
    subst es1; subst eti
    obtain ⟨v, hv, hr2⟩ := ev_sound Iv hr1
    obtain ⟨y, s2, h2, hr3⟩ := AM.of_bind hr2
    split at h2
    · exact wp_value (m := Instr.loadAt t (a.eval x)) Iv (by simp [execOp, ho]) (openV_sound hT M hi hv h2) hr3 hK
    obtain ⟨es2, r, hrun, hy⟩ := load_sound hT M hi hv h2
    subst es2
    exact wp_value (m := Instr.loadAt t (a.eval x)) Iv (by simp [execOp, ho]) (Step.same M hrun hy) hr3 hK
  · -- store
    rename_i t x y ho
    obtain ⟨t', s1, h1, hr1⟩ := AM.of_bind hr
    obtain ⟨es1, i, hi, eti⟩ := tyOf_sound h1
    subst es1; subst eti
    obtain ⟨v, hv, hr2⟩ := ev_sound Iv hr1
    obtain ⟨v', hv', hr3⟩ := ev_sound Iv hr2
    obtain ⟨un, s2, h2, hr4⟩ := AM.of_bind hr3
    obtain ⟨w1, G1, hrun, M1, K1, t1⟩ := store_sound hT M hi hv hv' h2
    unfold Oper.wp
    have : (execOp a.eval o).run P w = .ok .skip w1 := by simp [execOp, ho, hrun]
    rw [this]
    exact hK _ _ G1 (ret_sound Iv M1 K1 t1 (show SR (used s2) G1 w1 .undef undef from trivial) hr4)
  · -- nilCheck
    rename_i x ho
    obtain ⟨v, hv, hr1⟩ := ev_sound Iv hr
    split at hr1
    · obtain ⟨_, b, _, ex⟩ := hv.adr
      exact wp_value (m := pure (a.eval x)) Iv (by simp [execOp, ho, ex]) (Step.same M (by simp) hv) hr1 hK
    · obtain ⟨b, _, ex, _⟩ := hv.ptr
      exact wp_value (m := pure (a.eval x)) Iv (by simp [execOp, ho, ex]) (Step.same M (by simp) hv) hr1 hK
    · cases hr1
  · -- binOp
    rename_i op t x y ty ho
    obtain ⟨v, hv, hr1⟩ := ev_sound Iv hr
    obtain ⟨v', hv', hr2⟩ := ev_sound Iv hr1
    obtain ⟨z, s1, h1, hr3⟩ := AM.of_bind hr2
    obtain ⟨es1, r, hrun, hz⟩ := bin_sound (P := P) (x := x) (y := y) hT hv hv' h1
    subst es1
    exact wp_value (m := (do eqGuard op t x y (a.eval x) (a.eval y); binOp op t (a.eval x) (a.eval y) : Sem Value)) Iv (by simp only [execOp, ho]; rw [Sem.run_bind]; rfl) (Step.same M hrun hz) hr3 hK
  · -- unOp
    rename_i op t x ho
    obtain ⟨v, hv, hr1⟩ := ev_sound Iv hr
    obtain ⟨z, s1, h1, hr3⟩ := AM.of_bind hr1
    obtain ⟨es1, r, hrun, hz⟩ := un_sound (P := P) hv h1
    subst es1
    exact wp_value (m := Op.unary op (a.eval x)) Iv (by simp [execOp, ho]) (Step.same M hrun hz) hr3 hK
  · -- convert
    rename_i s t x ho
    obtain ⟨u1, s1, h1, hr1⟩ := AM.of_bind hr
    obtain ⟨es1, i, hi, eti⟩ := tyOf_sound h1
    subst es1
    obtain ⟨u2, s2, h2, hr2⟩ := AM.of_bind hr1
    obtain ⟨es2, j, hj, etj⟩ := tyOf_sound h2
    subst es2
    obtain ⟨v, hv, hr3⟩ := ev_sound Iv hr2
    split at hr3
    · exact wp_value (m := convert s t (a.eval x)) Iv (by simp [execOp, ho]) (convert_int_sound hT M hi hj etj hv) hr3 hK
    · exact wp_value (m := convert s t (a.eval x)) Iv (by simp [execOp, ho]) (convert_str_sound hT M hi hj etj hv) hr3 hK
    · obtain ⟨e, s4, h4, hr4⟩ := AM.of_bind hr3
      obtain ⟨hm, hr5⟩ := AM.of_must_bind hr4
      obtain ⟨es4, hst⟩ := convert_bytes_sound hT M hj etj h4 (of_decide_eq_true hm) hv
      subst es4
      exact wp_value (m := convert s t (a.eval x)) Iv (by simp [execOp, ho]) hst hr5 hK
    · cases hr3
  · -- fieldAddr
    rename_i s x f ho
    obtain ⟨u1, s1, h1, hr1⟩ := AM.of_bind hr
    obtain ⟨es1, i, hi, eti⟩ := tyOf_sound h1
    subst es1; subst eti
    obtain ⟨v, hv, hr2⟩ := ev_sound Iv hr1
    obtain ⟨un, s2, h2, hr3⟩ := AM.of_bind hr2
    obtain ⟨es2, _⟩ := ptrTo_sound h2
    subst es2
    obtain ⟨hm, hr4⟩ := AM.of_must_bind hr3
    obtain ⟨y, s3, h3, hr5⟩ := AM.of_bind hr4
    split at hm
    · rename_i u0 hu
      obtain ⟨es3, b, o0, ex, ho0, hy⟩ := along_sound M hv h2 hu h3
      subst es3
      exact wp_value (m := Instr.fieldAt s (a.eval x) f) Iv (by simp [execOp, ho]) (Step.same M (by rw [ex]; exact fieldAt_run hT hi hu ho0 (of_decide_eq_true hm)) hy) hr5 hK
    · cases hm
  · -- field
    rename_i s x f ho
    obtain ⟨u1, s1, h1, hr1⟩ := AM.of_bind hr
    obtain ⟨es1, i, hi, eti⟩ := tyOf_sound h1
    subst es1; subst eti
    obtain ⟨v, hv, hr2⟩ := ev_sound Iv hr1
    obtain ⟨hm, hr3⟩ := AM.of_must_bind hr2
    obtain ⟨y, s2, h2, hr4⟩ := AM.of_bind hr3
    simp only [Bool.and_eq_true] at hm
    exact wp_value (m := Instr.field s (a.eval x) f) Iv (by simp [execOp, ho]) (field_sound hT M hi hm.1 hm.2 hv h2) hr4 hK
  · -- indexAddr
    rename_i s x j ho
    obtain ⟨u1, s1, h1, hr1⟩ := AM.of_bind hr
    obtain ⟨es1, i, hi, eti⟩ := tyOf_sound h1
    subst es1
    obtain ⟨v, hv, hr2⟩ := ev_sound Iv hr1
    obtain ⟨v', hv', hr3⟩ := ev_sound Iv hr2
    split at hr3
    · rename_i kk nn
      obtain ⟨y, s2, h2, hr4⟩ := AM.of_bind hr3
      obtain ⟨es2, r, hrun, hy⟩ := elemS_sound (P := P) (k := kk) hT M hi eti hv h2
      subst es2
      exact wp_value (m := Instr.indexAt s (a.eval x) (.int kk nn)) Iv (by simp [execOp, ho, hv'.int]) (Step.same M hrun hy) hr4 hK
    · rename_i kk nn
      obtain ⟨y, s2, h2, hr4⟩ := AM.of_bind hr3
      obtain ⟨es2, r, hrun, hy⟩ := elemA_sound (P := P) (k := kk) hT M hi eti hv h2
      subst es2
      exact wp_value (m := Instr.indexAt s (a.eval x) (.int kk nn)) Iv (by simp [execOp, ho, hv'.int]) (Step.same M hrun hy) hr4 hK
    · cases hr3
  · -- index
    rename_i s x j ho
    obtain ⟨u1, s1, h1, hr1⟩ := AM.of_bind hr
    obtain ⟨es1, i, hi, eti⟩ := tyOf_sound h1
    subst es1
    obtain ⟨v, hv, hr2⟩ := ev_sound Iv hr1
    obtain ⟨v', hv', hr3⟩ := ev_sound Iv hr2
    split at hr3
    · rename_i kk nn
      split at hr3
      · rename_i h
        subst h
        obtain ⟨y, hy, hr4⟩ := AM.of_ask hr3
        exact wp_value (m := Instr.index s (a.eval x) (.int kk nn)) Iv (by simp [execOp, ho, hv'.int]) (index_arr_sound hT M hi eti hv hy) hr4 hK
      · cases hr3
    · rename_i kk nn
      obtain ⟨y, hy, hr4⟩ := AM.of_ask hr3
      exact wp_value (m := Instr.index s (a.eval x) (.int kk nn)) Iv (by simp [execOp, ho, hv'.int]) (index_str_sound hT M hi eti hv hy) hr4 hK
    · cases hr3
  · -- slice
    rename_i s x lo hi mx ho
    split at hr
    · split at hr
      · rename_i k1 k2
        obtain ⟨u1, s1, h1, hr1⟩ := AM.of_bind hr
        obtain ⟨es1, i, hii, eti⟩ := tyOf_sound h1
        subst es1; subst eti
        split at hr1
        · rename_i u hty
          obtain ⟨v, hv, hr2⟩ := ev_sound Iv hr1
          obtain ⟨hm, hr3⟩ := AM.of_must_bind hr2
          obtain ⟨_, s2, h2, hr4⟩ := AM.of_bind hr3
          obtain ⟨hc, rfl⟩ := AM.of_newO h2
          split at hm
          · rename_i w0 l0
            have hw := of_decide_eq_true hm
            subst hw
            exact wp_value (m := Instr.sliceAt s (a.eval x) none (some (.int k1 0)) (some (.int k2 0))) Iv (by simp [execOp, ho, Act.eval]) (slice_empty hT M hii hty hv hc) hr4 hK
          · cases hm
        · cases hr1
      · cases hr
    · obtain ⟨u1, s1, h1, hr1⟩ := AM.of_bind hr
      obtain ⟨es1, i, hii, eti⟩ := tyOf_sound h1
      subst es1; subst eti
      obtain ⟨v, hv, hr2⟩ := ev_sound Iv hr1
      split at hr2
      · obtain ⟨y, s2, h2, hr3⟩ := AM.of_bind hr2
        exact wp_value (m := Instr.sliceAt s (a.eval x) none none none) Iv (by simp [execOp, ho]) (slice_sound (lo := none) (hi' := none) (lov := none) (hiv := none) hT M hii hv trivial trivial h2) hr3 hK
      · obtain ⟨va, ha, hr3⟩ := ev_sound Iv hr2
        obtain ⟨y, s2, h2, hr4⟩ := AM.of_bind hr3
        exact wp_value (m := Instr.sliceAt s (a.eval x) (some _) none none) Iv (by simp [execOp, ho]) (slice_sound (lo := some va) (hi' := none) (lov := some _) (hiv := none) hT M hii hv ha trivial h2) hr4 hK
      · obtain ⟨va, ha, hr3⟩ := ev_sound Iv hr2
        obtain ⟨y, s2, h2, hr4⟩ := AM.of_bind hr3
        exact wp_value (m := Instr.sliceAt s (a.eval x) none (some _) none) Iv (by simp [execOp, ho]) (slice_sound (lo := none) (hi' := some va) (lov := none) (hiv := some _) hT M hii hv trivial ha h2) hr4 hK
      · obtain ⟨va, ha, hr3⟩ := ev_sound Iv hr2
        obtain ⟨vb, hb, hr4⟩ := ev_sound Iv hr3
        obtain ⟨y, s2, h2, hr5⟩ := AM.of_bind hr4
        exact wp_value (m := Instr.sliceAt s (a.eval x) (some _) (some _) none) Iv (by simp [execOp, ho]) (slice_sound (lo := some va) (hi' := some vb) (lov := some _) (hiv := some _) hT M hii hv ha hb h2) hr5 hK
  · -- extract
    rename_i x j ho
    obtain ⟨v, hv, hr1⟩ := ev_sound Iv hr
    split at hr1
    · rename_i y hy
      exact wp_value (m := Instr.extract (a.eval x) j) Iv (by simp [execOp, ho]) (extract_sound M hv hy) hr1 hK
    · cases hr1
  · -- makeFunc
    rename_i g fs cs ho
    split at hr
    · obtain ⟨va, s1, h1, hr1⟩ := AM.of_bind hr
      obtain ⟨es1, ha⟩ := evs_arr Iv h1
      subst es1
      obtain ⟨vb, s2, h2, hr2⟩ := AM.of_bind hr1
      obtain ⟨es2, hb⟩ := evs_arr Iv h2
      subst es2
      obtain ⟨hm, hr3⟩ := AM.of_must_bind hr2
      exact wp_value (m := Instr.makeFunc (.func _) (fs.map a.eval) (cs.map a.eval)) Iv (by simp [execOp, ho]) (func_sound M hm ha hb) hr3 hK
    · cases hr
  · -- call
    rename_i c ho
    split at hr
    · rename_i b hcal
      obtain ⟨vs, s1, h1, hr1⟩ := AM.of_bind hr
      obtain ⟨es1, hs⟩ := evs_arr Iv h1
      subst es1
      obtain ⟨v, s2, h2, hr2⟩ := AM.of_bind hr1
      obtain ⟨m, hm, hst⟩ := builtin_sound (P := P) (ty := o.type) (cs := c.args.map fun | .const _ => true | _ => false) hT M hs h2
      refine wp_value (m := m) Iv ?_ hst hr2 hK
      have : execOp a.eval o = builtin b c.argTypes o.type (c.args.map fun | .const _ => true | _ => false) (c.args.map a.eval) := by
        simp only [execOp, ho, resolve, hcal]
        rfl
      rw [this, hm]
      simp
    · rename_i f hcal
      obtain ⟨g, hg, hr1⟩ := ev_sound Iv hr
      obtain ⟨vs, s1, h1, hr2⟩ := AM.of_bind hr1
      obtain ⟨es1, hs⟩ := evs_arr Iv h1
      subst es1
      split at hr2
      · rename_i g fa fb
        obtain ⟨v, s2, h2, hr3⟩ := AM.of_bind hr2
        obtain ⟨cl, hcl, ecl⟩ := hg
        simp only [VR] at hcl
        obtain ⟨first, caps, e1, hca, hcb⟩ := hcl
        have hfv : a.eval f = .func (.func g) first caps := by rw [ecl, e1]; rfl
        have hall := ((chainRs hca).append hs).append (chainRs hcb)
        have hent := callV_sound hC M hall h2
        refine wp_enters (f := g) (args := (first.toList ++ (c.args.map a.eval).toList ++ caps.toList).toArray) ?_ hent ?_
        · have e : first ++ c.args.map a.eval ++ caps = (first.toList ++ (c.args.map a.eval).toList ++ caps.toList).toArray := by apply Array.ext'; simp
          rw [← e]
          simp [execOp, ho, resolve, hcal, Deferred.ofValue, hfv, invoke]
        · rintro x w1 ⟨G1, M1, K1, t1, hv⟩
          exact hK _ _ G1 (ret_sound Iv M1 K1 t1 hv hr3)
      · cases hr2
    · cases hr
  · cases hr
end Go.Fw

/- Regions: one order, and any order. -/
namespace Go.Fw
variable {P : Program} {T : Nat → Option TI} {C : Nat → Inst} {E : Env} {S S' S1 S2 : St} {G G1 : Gh} {w w1 : World} {a : Act}

theorem St.putT_self {s : St} {n : Nat} {v : V} (h : s.tm n = v) : s.putT n v = s := by
  cases s with
  | mk tm ob =>
  unfold St.putT
  congr 1
  funext m
  by_cases hm : m = n
  · subst hm
    have : (m == m) = true := by simp
    rw [this]; exact h.symm
  · have : (m == n) = false := by simpa using hm
    rw [this]; rfl

namespace AM
variable {α β R : Type}
def runL : AM α → St → Log → Option (α × St × Log)
  | .pure a, s, g => some (a, s, g)
  | .fail, _, _ => none
  | .getT n k, s, g => (k (s.tm n)).runL s { g with rd := .t n :: g.rd }
  | .putT n v k, s, g => k.runL (s.putT n v) { g with wr := .t n :: g.wr }
  | .getO i k, s, g => (k (s.ob i)).runL s { g with rd := .o i :: g.rd }
  | .putO i o k, s, g => k.runL (s.putO i o) { g with wr := .o i :: g.wr }
  | .ask _ x k, s, g => x.bind fun b => (k b).runL s g
  | .test n x y z, s, g => match s.tm n with
    | .val .bool b => if b = true then x.runL s { g with rd := .t n :: g.rd } else y.runL s { g with rd := .t n :: g.rd }
    | .skip => z.runL s { g with rd := .t n :: g.rd }
    | _ => none

theorem runK_eq (m : AM α) (s : St) (g : Log) (κ : α → St → Log → Option R) : m.runK s g κ = (m.runL s g).bind fun x => κ x.1 x.2.1 x.2.2 := by
  induction m generalizing s g with
  | pure a => rfl
  | fail => rfl
  | getT n k ih => exact ih _ _ _
  | putT n v k ih => exact ih _ _
  | getO i k ih => exact ih _ _ _
  | putO i o k ih => exact ih _ _
  | ask β x k ih =>
    simp only [runK, runL]
    cases x with
    | none => rfl
    | some b => exact ih b s g
  | test n x y z ihx ihy ihz =>
    simp only [runK, runL]
    cases hv : s.tm n with
    | val t b =>
      cases t with
      | bool =>
        simp only
        cases b with
        | true => rw [St.putT_self hv]; simp only [if_true]; exact ihx _ _
        | false => rw [St.putT_self hv]; simp only [Bool.false_eq_true, if_false]; exact ihy _ _
      | _ => rfl
    | skip => exact ihz _ _
    | _ => rfl

theorem runL_run (m : AM α) (s : St) (g : Log) {a : α} {s' : St} {g' : Log} (h : m.runL s g = some (a, s', g')) : m.run s = some (a, s') := by
  induction m generalizing s g with
  | pure a => simp only [runL, Option.some.injEq, Prod.mk.injEq] at h; simp [run, h.1, h.2.1]
  | fail => cases h
  | getT n k ih => exact ih _ _ _ h
  | putT n v k ih => exact ih _ _ h
  | getO i k ih => exact ih _ _ _ h
  | putO i o k ih => exact ih _ _ h
  | ask β x k ih =>
    simp only [runL] at h
    cases x with
    | none => cases h
    | some b => exact ih b s g h
  | test n x y z ihx ihy ihz =>
    simp only [runL] at h
    simp only [run]
    split at h
    · rename_i b hb
      rw [hb]
      simp only
      split at h
      · rename_i hb; rw [if_pos hb]; exact ihx _ _ h
      · rename_i hb; rw [if_neg hb]; exact ihy _ _ h
    · rename_i hb
      rw [hb]
      exact ihz _ _ h
    · cases h

def agr (s t : St) : Loc → Prop
  | .t n => s.tm n = t.tm n
  | .o i => s.ob i = t.ob i

theorem agr_refl (s : St) (l : Loc) : agr s s l := by cases l <;> rfl
theorem agr.trans {s t u : St} {l : Loc} (h : agr s t l) (k : agr t u l) : agr s u l := by cases l <;> exact Eq.trans h k
theorem agr.symm {s t : St} {l : Loc} (h : agr s t l) : agr t s l := by cases l <;> exact Eq.symm h
theorem agr_ext {s t : St} (h : ∀ l, agr s t l) : s = t := by
  cases s; cases t
  congr 1
  · funext n; exact h (.t n)
  · funext i; exact h (.o i)
theorem agr_putT {s t : St} {n : Nat} {v : V} {l : Loc} (h : agr s t l ∨ l = .t n) : agr (s.putT n v) (t.putT n v) l := by
  cases l with
  | t m =>
    simp only [agr, St.tm_putT]
    by_cases hm : m = n
    · simp [hm]
    · rw [if_neg hm, if_neg hm]
      rcases h with h | h
      · exact h
      · injection h with h; exact absurd h hm
  | o i =>
    rcases h with h | h
    · exact h
    · cases h
theorem agr_putO {s t : St} {i : Nat} {o : Obj} {l : Loc} (h : agr s t l ∨ l = .o i) : agr (s.putO i o) (t.putO i o) l := by
  cases l with
  | o m =>
    simp only [agr, St.ob_putO]
    by_cases hm : m = i
    · simp [hm]
    · rw [if_neg hm, if_neg hm]
      rcases h with h | h
      · exact h
      · injection h with h; exact absurd h hm
  | t n =>
    rcases h with h | h
    · exact h
    · cases h
theorem agr_put_neT {s : St} {n : Nat} {v : V} {l : Loc} (h : l ≠ .t n) : agr s (s.putT n v) l := by
  cases l with
  | t m =>
    simp only [agr, St.tm_putT]
    rw [if_neg (fun e => h (by rw [e]))]
  | o i => rfl
theorem agr_put_neO {s : St} {i : Nat} {o : Obj} {l : Loc} (h : l ≠ .o i) : agr s (s.putO i o) l := by
  cases l with
  | o m =>
    simp only [agr, St.ob_putO]
    rw [if_neg (fun e => h (by rw [e]))]
  | t n => rfl

/-- A run leans on what it reads alone, and turns what it writes alone. -/
theorem runL_local (m : AM α) : ∀ (s : St) (g : Log) {a : α} {s' : St} {g' : Log}, m.runL s g = some (a, s', g') →
    (∀ l ∈ g.rd, l ∈ g'.rd) ∧ (∀ l ∈ g.wr, l ∈ g'.wr) ∧ (∀ l, l ∉ g'.wr → agr s s' l) ∧
    ∀ t, (∀ l ∈ g'.rd, agr s t l) → ∃ t', m.runL t g = some (a, t', g') ∧ ∀ l, agr s t l → agr s' t' l := by
  induction m with
  | pure a =>
    intro s g b s' g' h
    simp only [runL, Option.some.injEq, Prod.mk.injEq] at h
    obtain ⟨rfl, rfl, rfl⟩ := h
    exact ⟨fun _ h => h, fun _ h => h, fun l _ => agr_refl _ l, fun t _ => ⟨t, rfl, fun _ h => h⟩⟩
  | fail => intro s g b s' g' h; cases h
  | getT n k ih =>
    intro s g b s' g' h
    obtain ⟨h1, h2, h3, h4⟩ := ih _ _ _ h
    refine ⟨fun l hl => h1 l (List.mem_cons_of_mem _ hl), h2, h3, fun t ht => ?_⟩
    have hn : s.tm n = t.tm n := ht (.t n) (h1 _ (List.mem_cons_self ..))
    obtain ⟨t', ht', ha⟩ := h4 t ht
    exact ⟨t', by simp only [runL]; rw [← hn]; exact ht', ha⟩
  | putT n v k ih =>
    intro s g b s' g' h
    obtain ⟨h1, h2, h3, h4⟩ := ih _ _ h
    refine ⟨h1, fun l hl => h2 l (List.mem_cons_of_mem _ hl), fun l hl => ?_, fun t ht => ?_⟩
    · exact (agr_put_neT (fun e => hl (by rw [e]; exact h2 _ (List.mem_cons_self ..)))).trans (h3 l hl)
    · obtain ⟨t', ht', ha⟩ := h4 (t.putT n v) fun l hl => agr_putT (.inl (ht l hl))
      exact ⟨t', ht', fun l hl => ha l (agr_putT (.inl hl))⟩
  | getO i k ih =>
    intro s g b s' g' h
    obtain ⟨h1, h2, h3, h4⟩ := ih _ _ _ h
    refine ⟨fun l hl => h1 l (List.mem_cons_of_mem _ hl), h2, h3, fun t ht => ?_⟩
    have hn : s.ob i = t.ob i := ht (.o i) (h1 _ (List.mem_cons_self ..))
    obtain ⟨t', ht', ha⟩ := h4 t ht
    exact ⟨t', by simp only [runL]; rw [← hn]; exact ht', ha⟩
  | putO i o k ih =>
    intro s g b s' g' h
    obtain ⟨h1, h2, h3, h4⟩ := ih _ _ h
    refine ⟨h1, fun l hl => h2 l (List.mem_cons_of_mem _ hl), fun l hl => ?_, fun t ht => ?_⟩
    · exact (agr_put_neO (fun e => hl (by rw [e]; exact h2 _ (List.mem_cons_self ..)))).trans (h3 l hl)
    · obtain ⟨t', ht', ha⟩ := h4 (t.putO i o) fun l hl => agr_putO (.inl (ht l hl))
      exact ⟨t', ht', fun l hl => ha l (agr_putO (.inl hl))⟩
  | ask β x k ih =>
    intro s g b s' g' h
    simp only [runL] at h
    cases x with
    | none => cases h
    | some y => exact ih y s g h
  | test n x y u ihx ihy ihu =>
    intro s g b s' g' h
    simp only [runL] at h
    split at h
    case h_3 => cases h
    all_goals
      have key : ∀ {z : AM α}, z.runL s { g with rd := .t n :: g.rd } = some (b, s', g') → (∀ (s : St) (g : Log) {a : α} {s' : St} {g' : Log}, z.runL s g = some (a, s', g') → (∀ l ∈ g.rd, l ∈ g'.rd) ∧ (∀ l ∈ g.wr, l ∈ g'.wr) ∧ (∀ l, l ∉ g'.wr → agr s s' l) ∧ ∀ t, (∀ l ∈ g'.rd, agr s t l) → ∃ t', z.runL t g = some (a, t', g') ∧ ∀ l, agr s t l → agr s' t' l) →
          (∀ t, t.tm n = s.tm n → (AM.test n x y u).runL t g = z.runL t { g with rd := .t n :: g.rd }) → (∀ l ∈ g.rd, l ∈ g'.rd) ∧ (∀ l ∈ g.wr, l ∈ g'.wr) ∧ (∀ l, l ∉ g'.wr → agr s s' l) ∧ ∀ t, (∀ l ∈ g'.rd, agr s t l) → ∃ t', (AM.test n x y u).runL t g = some (b, t', g') ∧ ∀ l, agr s t l → agr s' t' l := by
        intro z hz ih heq
        obtain ⟨h1, h2, h3, h4⟩ := ih _ _ hz
        refine ⟨fun l hl => h1 l (List.mem_cons_of_mem _ hl), h2, h3, fun t ht => ?_⟩
        have hn : s.tm n = t.tm n := ht (.t n) (h1 _ (List.mem_cons_self ..))
        obtain ⟨t', ht', ha⟩ := h4 t ht
        exact ⟨t', by rw [heq t hn.symm]; exact ht', ha⟩
    · rename_i p hp
      split at h
      · rename_i hb
        exact key h ihx fun t ht => by simp only [runL]; rw [ht, hp]; simp only [hb, if_true]
      · rename_i hb
        exact key h ihy fun t ht => by simp only [runL]; rw [ht, hp]; simp only [hb]; rfl
    · rename_i hp
      exact key h ihu fun t ht => by simp only [runL]; rw [ht, hp]
end AM

theorem meets_false {a b : List AM.Loc} (h : meets a b = false) : ∀ l ∈ a, l ∉ b := by
  intro l hl hb
  unfold meets at h
  rw [List.any_eq_false] at h
  exact h l hl (by simpa using hb)

/-- Two that are apart change places. -/
theorem swap_sound {α β : Type} {m : AM α} {n : AM β} {s s1 s2 : St} {x : α} {y : β} {gm gn : AM.Log} (hm : m.runL s ⟨[], []⟩ = some (x, s1, gm)) (hn : n.runL s1 ⟨[], []⟩ = some (y, s2, gn)) (h : apart gm gn = true) :
    ∃ t1, n.runL s ⟨[], []⟩ = some (y, t1, gn) ∧ m.runL t1 ⟨[], []⟩ = some (x, s2, gm) := by
  simp only [apart, Bool.and_eq_true, Bool.not_eq_true'] at h
  obtain ⟨⟨h1, h2⟩, h3⟩ := h
  have h1 := meets_false h1
  have h2 := meets_false h2
  have h3 := meets_false h3
  obtain ⟨_, _, mW, mL⟩ := AM.runL_local m _ _ hm
  obtain ⟨_, _, nW, nL⟩ := AM.runL_local n _ _ hn
  obtain ⟨t1, ht1, ha1⟩ := nL s fun l hl => (mW l fun hw => h1 l hw hl).symm
  obtain ⟨_, _, nW1, _⟩ := AM.runL_local n _ _ ht1
  obtain ⟨t2, ht2, ha2⟩ := mL t1 fun l hl => nW1 l fun hw => h3 l hl hw
  have : t2 = s2 := by
    obtain ⟨_, _, mW2, _⟩ := AM.runL_local m _ _ ht2
    apply AM.agr_ext
    intro l
    by_cases hl : l ∈ gm.wr
    · exact ((ha2 l (nW1 l (h2 l hl))).symm).trans (nW l (h2 l hl))
    · exact (mW2 l hl).symm.trans (ha1 l (mW l hl).symm).symm
  subst this
  exact ⟨t1, ht1, ht2⟩
end Go.Fw

/- Regions. -/
namespace Go.Fw
variable {P : Program} {T : Nat → Option TI} {C : Nat → Inst} {E : Env} {S S' S1 S2 : St} {G G1 GG : Gh} {S0 : St} {w w1 : World} {a : Act} {ops : Array Oper}

theorem undef_ne_bool (b : Bool) : undef ≠ .bool b := by intro h; cases h

theorem yielded_slot (Iv : Inv E S G a w) {j n : Nat} {g : Oper} (hg : ops[j]? = some g) (hn : g.dst = some n) {b : Bool} (hb : S.tm n = .val .bool b) : yielded ops a.tmps j = some b := by
  have h := Iv.slot n
  rw [hb] at h
  have h := h.bool
  have hs : a.tmps[n]? = some (.bool b) := by
    simp only [Array.getD_eq_getD_getElem?] at h
    cases hx : a.tmps[n]? with
    | none => rw [hx] at h; exact absurd h (undef_ne_bool b)
    | some v => rw [hx] at h; simp at h; rw [h]
  simp [yielded, hg, hn, hs]

theorem yielded_skip (Iv : Inv E S G a w) {j n : Nat} {g : Oper} (hg : ops[j]? = some g) (hn : g.dst = some n) (hb : S.tm n = .skip) : yielded ops a.tmps j = none := by
  have h := Iv.slot n
  rw [hb] at h
  have h : a.tmps.getD n undef = undef := h
  simp only [Array.getD_eq_getD_getElem?] at h
  cases hx : a.tmps[n]? with
  | none => simp [yielded, hg, hn, hx]
  | some v =>
    rw [hx] at h
    simp at h
    subst h
    simp [yielded, hg, hn, hx, undef]
theorem Inv.freeze (Iv : Inv E S G a w) {i : Nat} {y : V} {S1 : St} (hu : ∃ n, S.tm n = .hdr i) (hr : (freeze (.hdr i)).run S = some (y, S1)) : ∃ G1, Inv E S1 G1 a w ∧ S1.tm = S.tm ∧ ∀ m, S.tm m = .hdr i → SR (used S1) G1 w y (a.tmps.getD m undef) := by
  obtain ⟨n, hn⟩ := hu
  have h := Iv.slot n
  rw [hn] at h
  obtain ⟨G1, M1, K1, t1, hy, _⟩ := freeze_sound Iv.mem h rfl hr
  refine ⟨G1, ⟨M1, fun m => ?_, Iv.df, Iv.tn, Iv.pin⟩, t1, fun m hm => ?_⟩
  · rw [t1]; exact (Iv.slot m).keep K1
  · have hm' := Iv.slot m
    rw [hm] at hm'
    obtain ⟨G2, _, _, _, hy2, _⟩ := freeze_sound Iv.mem hm' rfl hr
    obtain ⟨c, hc, e⟩ := h
    obtain ⟨c', hc', e'⟩ := hm'
    simp only [VR] at hc hc'
    have : a.tmps.getD n undef = a.tmps.getD m undef := by rw [e, e', hc.2.2, hc'.2.2]
    rw [← this]; exact hy
theorem Inv.tm_put (Iv : Inv E S G a w) {n : Nat} {y : V} (hy : SR (used S) G w y (a.tmps.getD n undef)) : Inv E (S.putT n y) G a w := by
  have hus : used (S.putT n y) = used S := by funext i; simp [used, St.ob_putT]
  refine ⟨?_, fun m => ?_, Iv.df, Iv.tn, Iv.pin⟩
  · exact ⟨fun i o hi => by rw [hus]; exact Iv.mem.obj i o (by rwa [St.ob_putT] at hi), Iv.mem.dj, Iv.mem.nd, Iv.mem.own, Iv.mem.okl, Iv.mem.fr, Iv.mem.hds⟩
  · rw [hus, St.tm_putT]
    by_cases h : m = n
    · rw [if_pos h, h]; exact hy
    · rw [if_neg h]; exact Iv.slot m
theorem iceMore_sound {i : Nat} {y : V} : ∀ {ns : List Nat} {S S' : St} {u : Unit}, Inv E S G a w → (∀ m, S.tm m = .hdr i → SR (used S) G w y (a.tmps.getD m undef)) → (iceMore i y ns).run S = some (u, S') → Inv E S' G a w
  | [], S, S', u, Iv, _, hr => by
    obtain ⟨_, rfl⟩ := AM.of_pure hr
    exact Iv
  | n :: r, S, S', u, Iv, hy, hr => by
    simp only [iceMore, AM.run] at hr
    split at hr
    · rename_i j hj
      split at hr
      · rename_i hij
        have hij : i = j := by simpa using hij
        subst hij
        simp only [AM.run] at hr
        have hus : used (S.putT n y) = used S := by funext i; simp [used, St.ob_putT]
        refine iceMore_sound (Iv.tm_put (hy n hj)) (fun m hm => ?_) hr
        rw [hus]
        rw [St.tm_putT] at hm
        by_cases h : m = n
        · rw [h]; exact hy n hj
        · rw [if_neg h] at hm; exact hy m hm
      · exact iceMore_sound Iv hy hr
    · exact iceMore_sound Iv hy hr
theorem frz_sound : ∀ {v y : V} {cs : List Value} {S S1 : St} {G : Gh}, Mem E S G w → VR (used S) G w v cs → (frz v).run S = some (y, S1) → ∃ G1, Mem E S1 G1 w ∧ Keeps (used S) (used S1) G G1 w w ∧ S1.tm = S.tm ∧ VR (used S1) G1 w y cs ∧ y.agg = v.agg := by
  intro v
  induction v with
  | pr a b iha ihb =>
    intro y cs S S1 G M hv hr
    unfold frz at hr
    obtain ⟨x, s1, h1, hr⟩ := AM.of_bind hr
    obtain ⟨z, s2, h2, hr⟩ := AM.of_bind hr
    obtain ⟨rfl, rfl⟩ := AM.of_pure hr
    simp only [VR] at hv
    obtain ⟨c, d, e, ha, hb⟩ := hv
    obtain ⟨G1, M1, K1, t1, v1, _⟩ := iha M ha h1
    obtain ⟨G2, M2, K2, t2, v2, _⟩ := ihb M1 (hb.keep K1) h2
    refine ⟨G2, M2, K1.trans K2, t2.trans t1, ?_, mkpr_agg _ _⟩
    rw [e]
    exact VR_mkpr (v1.keep K2) v2
  | hdr i =>
    intro y cs S S1 G M hv hr
    unfold frz freeze at hr
    simp only [AM.run] at hr
    split at hr
    · rename_i d t l ho
      simp only [AM.run, Option.some.injEq, Prod.mk.injEq] at hr
      obtain ⟨rfl, rfl⟩ := hr
      obtain ⟨hTk, hrep, _⟩ := Took.row M ho
      obtain ⟨M1, K1⟩ := hTk.mem.thaw hTk.free.own hTk.free.nl
      simp only [VR] at hv
      exact ⟨_, M1, hTk.keeps.trans K1, rfl, by simp only [VR]; rw [hv.2.2]; exact hrep, rfl⟩
    · cases hr
  | _ =>
    intro y cs S S1 G M hv hr
    unfold frz at hr
    obtain ⟨rfl, rfl⟩ := AM.of_pure hr
    exact ⟨G, M, Keeps.refl _ _ _, rfl, hv, rfl⟩
theorem pack_gone {t : Ty} {i : Nat} {l : List t.I} (hr : (pack (.row true t) (.hdr i)).run S = some (l, S')) : S'.ob i = some .gone := by
  unfold pack at hr
  simp only [AM.run] at hr
  split at hr
  · obtain ⟨hd, hr⟩ := AM.of_must_bind hr
    simp only [AM.run] at hr
    obtain ⟨d', y, hc, hr⟩ := AM.of_withRow hr
    obtain ⟨hm, hr⟩ := AM.of_must_bind hr
    obtain ⟨x0, hx, hr⟩ := AM.of_ask hr
    obtain ⟨z, s1, hz, hr⟩ := AM.of_bind hr
    obtain ⟨z', s2, hz', hr⟩ := AM.of_bind hr
    split at hr
    · rename_i ht
      subst ht
      simp only [AM.run, Option.some.injEq, Prod.mk.injEq] at hr
      obtain ⟨_, rfl⟩ := hr
      rw [St.ob_putO, if_pos rfl]
    · cases hr
  · obtain ⟨d', l, ho, hr⟩ := AM.of_withRow hr
    obtain ⟨hm, hr⟩ := AM.of_must_bind hr
    simp only [AM.run, Option.some.injEq, Prod.mk.injEq] at hr
    obtain ⟨_, rfl⟩ := hr
    rw [St.ob_putO, if_pos rfl]
theorem Inv.shut (Iv : Inv E S G a w) {i : Nat} {t : Ty} {u : Unit} {S1 : St} (hu : ∃ n, S.tm n = .hdr i) (hr : (shut i t).run S = some (u, S1)) : ∃ G1, Inv E S1 G1 a w := by
  obtain ⟨n, hn⟩ := hu
  have h := Iv.slot n
  rw [hn] at h
  obtain ⟨cs, hv, _⟩ := SR.vr h (by simp) (by simp) (by simp)
  unfold Fw.shut at hr
  obtain ⟨l, S2, h1, h2⟩ := AM.of_bind hr
  simp only [AM.run, Option.some.injEq, Prod.mk.injEq] at h2
  obtain ⟨_, rfl⟩ := h2
  obtain ⟨F, K, Tk, hS, _, hL⟩ := pack_sound (.row true t) Iv.mem hv h1
  simp only [ShR] at hS
  obtain ⟨hd, es, F1, F2, ec, eF, hrow, hown⟩ := hS
  subst eF
  simp only [VR] at hv
  obtain ⟨_, hbx, ec'⟩ := hv
  rw [ec] at ec'
  injection ec' with ec' _
  simp only [LentR] at hL
  have g := Gave.row (i := i) (d := true) Tk.mem (.inr ⟨pack_gone h1, ec', hbx.symm, hL.symm⟩) Tk.free.sub.1 hrow hown
  exact ⟨_, g.mem, fun m => by rw [g.tm, Tk.tm]; exact (Iv.slot m).keep (Tk.keeps.trans g.keeps), Iv.df, Iv.tn, Iv.pin⟩
theorem shut_tm {i : Nat} {t : Ty} {u : Unit} {S1 : St} (Iv : Inv E S G a w) (hu : ∃ n, S.tm n = .hdr i) (hr : (shut i t).run S = some (u, S1)) : S1.tm = S.tm := by
  obtain ⟨n, hn⟩ := hu
  have h := Iv.slot n
  rw [hn] at h
  obtain ⟨cs, hv, _⟩ := SR.vr h (by simp) (by simp) (by simp)
  unfold Fw.shut at hr
  obtain ⟨l, S2, h1, h2⟩ := AM.of_bind hr
  simp only [AM.run, Option.some.injEq, Prod.mk.injEq] at h2
  obtain ⟨_, rfl⟩ := h2
  obtain ⟨F, K, Tk, _⟩ := pack_sound (.row true t) Iv.mem hv h1
  exact Tk.tm
theorem iceV_sound : ∀ {ns : List Nat} {S S' : St} {G : Gh} {u : Unit} (_ : Inv E S G a w) (_ : (iceV ns).run S = some (u, S')), ∃ G1, Inv E S' G1 a w := by
  intro ns
  induction ns with
  | nil =>
    intro S S' G u Iv hr
    unfold iceV at hr
    obtain ⟨_, rfl⟩ := AM.of_pure hr
    exact ⟨G, Iv⟩
  | cons n r ih =>
    intro S S' G u Iv hr
    unfold iceV at hr
    simp only [AM.run] at hr
    split at hr
    · rename_i i hi
      simp only [AM.run] at hr
      split at hr
      · obtain ⟨u1, S1, h1, h2⟩ := AM.of_bind hr
        obtain ⟨G1, Iv1⟩ := Iv.shut ⟨n, hi⟩ h1
        exact ih Iv1 h2
      obtain ⟨y, S1, h1, h2⟩ := AM.of_bind hr
      obtain ⟨G1, Iv1, t1, hy⟩ := Iv.freeze ⟨n, hi⟩ h1
      simp only [AM.run] at h2
      have hus : used (S1.putT n y) = used S1 := by funext i; simp [used, St.ob_putT]
      refine ⟨G1, iceMore_sound (Iv1.tm_put (hy n hi)) (fun m hm => ?_) h2⟩
      rw [hus]
      rw [St.tm_putT] at hm
      by_cases h : m = n
      · rw [h]; exact hy n hi
      · rw [if_neg h, t1] at hm; exact hy m hm
    · rename_i x0 y0 hi
      obtain ⟨y, S1, h1, h2⟩ := AM.of_bind hr
      simp only [AM.run] at h2
      have h := Iv.slot n
      rw [hi] at h
      obtain ⟨c, hc, e⟩ := h
      obtain ⟨G1, M1, K1, t1, hy, hag⟩ := frz_sound Iv.mem hc h1
      have Iv1 : Inv E S1 G1 a w := ⟨M1, fun m => by rw [t1]; exact (Iv.slot m).keep K1, Iv.df, Iv.tn, Iv.pin⟩
      refine ih (Iv1.tm_put ?_) h2
      rw [e, ← hag]
      exact hy.sr
    · obtain ⟨_, rfl⟩ := AM.of_pure hr
      exact ⟨G, Iv⟩
/-- One operation, under its guard. -/
theorem stepG_sound (hT : TsOk P T) {F : CallF C} (hC : Contract P C E.L F) {I : Inst} (hnt : I.nt = E.nt ∧ I.pins = E.pins.map (·.1)) {rid ix i : Nat} {o : Oper} {u : Unit} (ho : ops[i]? = some o) (Iv0 : Inv E S0 GG a w) (hr : (stepG T C F I rid ix ops o).run S0 = some (u, S')) {K : Act → World → Prop} {Q : Exit → Act → World → Prop} (hK : ∀ a1 w1 G1, Inv E S' G1 a1 w1 → K a1 w1) :
    wpOp P ops Q i K a w := by
  unfold wpOp
  rw [ho]
  simp only
  unfold stepG at hr
  obtain ⟨_, S, hi, hr⟩ := AM.of_bind hr
  obtain ⟨G, Iv⟩ := iceV_sound Iv0 hi
  have yes : Region.wanted o (yielded ops a.tmps) = true → (stepOp T C F I rid ix o).run S = some (u, S') → (if Region.wanted o (yielded ops a.tmps) = true then o.wp P a w K Q ∨ (o.asks P a w ∧ LetsOut Q) else K (a.put o.dst undef) w) := fun hw hr => by
    rw [if_pos hw]
    exact .inl (stepOp_sound hT hC hnt Iv hr hK)
  have no : Region.wanted o (yielded ops a.tmps) = false → (ret I.nt I.pins o.dst .skip).run S = some (u, S') → (if Region.wanted o (yielded ops a.tmps) = true then o.wp P a w K Q ∨ (o.asks P a w ∧ LetsOut Q) else K (a.put o.dst undef) w) := fun hw hr => by
    rw [hw]
    simp only [Bool.false_eq_true, if_false]
    rw [hnt.1, hnt.2] at hr
    exact hK _ _ G (ret_same Iv (show SR (used S) G w .skip undef from rfl) hr)
  split at hr
  · rename_i hg
    exact yes (by simp [Region.wanted, hg]) hr
  · rename_i j want hg
    split at hr
    · rename_i g hgj
      split at hr
      · rename_i n hn
        split at hr
        · simp only [AM.run] at hr
          split at hr
          · rename_i b hb
            have hy := yielded_slot Iv hgj hn hb
            split at hr
            · rename_i hbt
              exact yes (by simp only [Region.wanted, hg, hy]; rw [hbt]; rfl) hr
            · rename_i hbt
              have : b = false := by cases b; rfl; exact absurd rfl hbt
              exact no (by simp only [Region.wanted, hg, hy]; rw [this]; rfl) hr
          · rename_i hb
            exact no (by simp only [Region.wanted, hg, yielded_skip Iv hgj hn hb]; rfl) hr
          · cases hr
        · simp only [AM.run] at hr
          split at hr
          · rename_i b hb
            have hy := yielded_slot Iv hgj hn hb
            split at hr
            · rename_i hbt
              exact no (by simp only [Region.wanted, hg, hy]; rw [hbt]; rfl) hr
            · rename_i hbt
              have : b = false := by cases b; rfl; exact absurd rfl hbt
              exact yes (by simp only [Region.wanted, hg, hy]; rw [this]; rfl) hr
          · rename_i hb
            exact no (by simp only [Region.wanted, hg, yielded_skip Iv hgj hn hb]; rfl) hr
          · cases hr
      · cases hr
    · cases hr

/-! ### Runs of many -/
abbrev G0 : AM.Log := ⟨[], []⟩

def Seq (step : Nat → AM Unit) : List (Nat × AM.Log) → St → St → Prop
  | [], s, s' => s' = s
  | (i, g) :: r, s, s' => ∃ s1, (step i).runL s G0 = some ((), s1, g) ∧ Seq step r s1 s'

def stepAt (T : Nat → Option TI) (C : Nat → Inst) (F : CallF C) (I : Inst) (rid : Nat) (ops : Array Oper) (i : Nat) : AM Unit := match ops[i]? with
  | some o => stepG T C F I rid i ops o
  | none => .fail

theorem runOps_seq {F : CallF C} {I : Inst} {rid : Nat} {R : Type} : ∀ (l : List Oper) (ix : Nat) (s : St) (gs : List AM.Log) (κ : St → List AM.Log → Option R) {r : R}, (∀ k o, l[k]? = some o → ops[ix + k]? = some o) → runOps T C F I rid ops l ix s gs κ = some r →
    ∃ (lg : List AM.Log) (s' : St), lg.length = l.length ∧ Seq (stepAt T C F I rid ops) ((List.range' ix l.length).zip lg) s s' ∧ κ s' (lg.reverse ++ gs) = some r
  | [], ix, s, gs, κ, r, _, h => ⟨[], s, rfl, rfl, h⟩
  | o :: l, ix, s, gs, κ, r, ho, h => by
    simp only [runOps] at h
    rw [AM.runK_eq] at h
    cases hx : (stepG T C F I rid ix ops o).runL s ⟨[], []⟩ with
    | none => rw [hx] at h; cases h
    | some x =>
      obtain ⟨u, s1, g⟩ := x
      rw [hx] at h
      simp only [Option.bind_some] at h
      obtain ⟨lg, s', h1, h2, h3⟩ := runOps_seq l (ix + 1) s1 (g :: gs) κ (fun k o' hk => by have := ho (k + 1) o' (by simpa using hk); rwa [show ix + (k + 1) = ix + 1 + k by omega] at this) h
      refine ⟨g :: lg, s', by simp [h1], ?_, by simpa using h3⟩
      rw [List.length_cons, List.range'_succ, List.zip_cons_cons]
      refine ⟨s1, ?_, h2⟩
      have := ho 0 o rfl
      simp only [Nat.add_zero] at this
      unfold stepAt
      rw [this]
      exact hx

theorem stepAt_sound (hT : TsOk P T) {F : CallF C} (hC : Contract P C E.L F) {I : Inst} (hnt : I.nt = E.nt ∧ I.pins = E.pins.map (·.1)) {rid i : Nat} {g : AM.Log} (Iv : Inv E S G a w) (hr : (stepAt T C F I rid ops i).runL S G0 = some ((), S', g)) {K : Act → World → Prop} {Q : Exit → Act → World → Prop} (hK : ∀ a1 w1 G1, Inv E S' G1 a1 w1 → K a1 w1) :
    wpOp P ops Q i K a w := by
  have hr := AM.runL_run _ _ _ hr
  unfold stepAt at hr
  cases ho : ops[i]? with
  | none => rw [ho] at hr; cases hr
  | some o =>
    rw [ho] at hr
    exact stepG_sound hT hC hnt ho Iv hr hK

/-- In the text's order. -/
theorem seq_plain (hT : TsOk P T) {F : CallF C} (hC : Contract P C E.L F) {I : Inst} (hnt : I.nt = E.nt ∧ I.pins = E.pins.map (·.1)) {rid : Nat} {Q : Exit → Act → World → Prop} : ∀ (l : List (Nat × AM.Log)) {S S' : St} {G : Gh} {a : Act} {w : World}, Seq (stepAt T C F I rid ops) l S S' → Inv E S G a w → (∀ a1 w1 G1, Inv E S' G1 a1 w1 → Q .normal a1 w1) → wpOps P ops Q (l.map (·.1)) a w
  | [], S, S', G, a, w, hs, Iv, hQ => by
    have : S' = S := hs
    subst this
    exact hQ _ _ _ Iv
  | (i, g) :: l, S, S', G, a, w, ⟨s1, h1, h2⟩, Iv, hQ => by
    rw [List.map_cons, wpOps_cons]
    exact stepAt_sound hT hC hnt Iv h1 fun a1 w1 G1 Iv1 => seq_plain hT hC hnt l h2 Iv1 hQ

/-! ### Any order -/
inductive Bef (ops : Array Oper) : Nat → Nat → Prop
  | one {i : Nat} {o : Oper} {e : Edge} : ops[i]? = some o → e ∈ o.after.toList → Region.binds .any e = true → Bef ops i e.on
  | more {i j : Nat} {o : Oper} {e : Edge} : ops[i]? = some o → e ∈ o.after.toList → Region.binds .any e = true → Bef ops e.on j → Bef ops i j

def ord (ops : Array Oper) (x y : Nat × AM.Log) : Prop := Bef ops y.1 x.1 ∨ apart x.2 y.2 = true

theorem before_one (look : Nat → Nat) (i : Nat) (o : Oper) (ho : ops[i]? = some o) (hl : ∀ k j, (look k).testBit j = true → Bef ops k j) : ∀ (es : List Edge) (s : Nat), (∀ e ∈ es, e ∈ o.after.toList) → (∀ j, s.testBit j = true → Bef ops i j) → ∀ j, (es.foldl (fun s e => if Region.binds .any e then s ||| 2 ^ e.on ||| look e.on else s) s).testBit j = true → Bef ops i j
  | [], s, _, hs, j, h => hs j h
  | e :: es, s, hes, hs, j, h => by
    rw [List.foldl_cons] at h
    refine before_one look i o ho hl es _ (fun e' he' => hes e' (by simp [he'])) ?_ j h
    intro k hk
    split at hk
    · rename_i hb
      rw [Nat.testBit_or, Nat.testBit_or, Bool.or_eq_true, Bool.or_eq_true] at hk
      rcases hk with (hk | hk) | hk
      · exact hs k hk
      · rw [Nat.testBit_two_pow] at hk
        have : e.on = k := by simpa using hk
        subst this
        exact .one ho (hes e (by simp)) hb
      · exact .more ho (hes e (by simp)) hb (hl _ _ hk)
    · exact hs k hk

theorem before_spec : ∀ (l : List Oper) (acc : Array Nat), (∀ k o, l[k]? = some o → ops[acc.size + k]? = some o) → (∀ i j, (acc.getD i 0).testBit j = true → Bef ops i j) → ∀ i j, ((l.foldl (fun acc o => acc.push (CheckFast.one (fun i => acc.getD i 0) o)) acc).getD i 0).testBit j = true → Bef ops i j
  | [], acc, _, ha, i, j, h => ha i j h
  | o :: l, acc, ho, ha, i, j, h => by
    rw [List.foldl_cons] at h
    refine before_spec l _ (fun k o' hk => ?_) ?_ i j h
    · rw [Array.size_push]
      have := ho (k + 1) o' (by simpa using hk)
      rwa [show acc.size + (k + 1) = acc.size + 1 + k by omega] at this
    · intro i j hb
      by_cases hi : i = acc.size
      · subst hi
        have e : (acc.push (CheckFast.one (fun i => acc.getD i 0) o)).getD acc.size 0 = CheckFast.one (fun i => acc.getD i 0) o := by simp
        rw [e] at hb
        unfold CheckFast.one at hb
        rw [← Array.foldl_toList] at hb
        exact before_one _ _ o (by have := ho 0 o rfl; simpa using this) ha _ 0 (fun e he => he) (fun j h => by simp at h) j hb
      · refine ha i j ?_
        simp only [Array.getD_eq_getD_getElem?, Array.getElem?_push, hi, if_false] at hb
        simpa [Array.getD_eq_getD_getElem?] using hb

theorem befores_spec {i j : Nat} (h : ((befores ops).getD i 0).testBit j = true) : Bef ops i j := by
  unfold befores at h
  have e := CheckFast.beforeL_eq ops.toList #[]
  simp only [Array.size_empty, List.reverse_nil] at e
  rw [e] at h
  refine before_spec ops.toList #[] (fun k o hk => by simpa using hk) (fun i j h => by simp at h) i j ?_
  simpa [Array.getD_eq_getD_getElem?, List.getD_eq_getElem?_getD] using h

theorem logsOk1_spec {j : Nat} {g : AM.Log} : ∀ (lg : List AM.Log) (i : Nat), logsOk1 (befores ops) j g i lg = true → ∀ x ∈ (List.range' i lg.length).zip lg, ord ops (j, g) x
  | [], _, _, x, hx => by simp at hx
  | h :: r, i, ho, x, hx => by
    simp only [logsOk1, Bool.and_eq_true, Bool.or_eq_true] at ho
    rw [List.length_cons, List.range'_succ, List.zip_cons_cons] at hx
    rcases List.mem_cons.1 hx with rfl | hx
    · exact ho.1.imp befores_spec id
    · exact logsOk1_spec r (i + 1) ho.2 x hx
theorem logsOk_spec : ∀ (lg : List AM.Log) (i : Nat), logsOk (befores ops) i lg = true → ((List.range' i lg.length).zip lg).Pairwise (ord ops)
  | [], _, _ => by simp
  | g :: r, i, ho => by
    simp only [logsOk, Bool.and_eq_true] at ho
    rw [List.length_cons, List.range'_succ, List.zip_cons_cons]
    exact List.pairwise_cons.2 ⟨logsOk1_spec r (i + 1) ho.1, logsOk_spec r (i + 1) ho.2⟩

theorem edgesOk_spec : ∀ (l : List Oper) (i : Nat), edgesOk l i = true → ∀ k o, l[k]? = some o → ∀ e ∈ o.after.toList, Region.binds .any e = true → e.on < i + k
  | [], _, _, _, _, h, _, _, _ => by simp at h
  | o :: l, i, ho, k, o', hk, e, he, hb => by
    simp only [edgesOk, Bool.and_eq_true] at ho
    cases k with
    | zero =>
      simp at hk
      subst hk
      have := List.all_eq_true.1 ho.1 e he
      simpa [hb] using this
    | succ k =>
      have := edgesOk_spec l (i + 1) ho.2 k o' (by simpa using hk) e he hb
      omega

theorem seq_front {step : Nat → AM Unit} {i : Nat} {g : AM.Log} {post : List (Nat × AM.Log)} : ∀ (pre : List (Nat × AM.Log)) {s s' : St}, Seq step (pre ++ (i, g) :: post) s s' → (∀ x ∈ pre, apart x.2 g = true) → ∃ s1, (step i).runL s G0 = some ((), s1, g) ∧ Seq step (pre ++ post) s1 s'
  | [], s, s', h, _ => h
  | (j, gj) :: pre, s, s', ⟨s0, h1, h2⟩, hp => by
    obtain ⟨s1, h3, h4⟩ := seq_front pre h2 fun x hx => hp x (by simp [hx])
    obtain ⟨t1, h5, h6⟩ := swap_sound h1 h3 (hp (j, gj) (by simp))
    exact ⟨t1, h5, s1, h6, h4⟩

/-- In any order that the edges allow. -/
theorem seq_any (hT : TsOk P T) {F : CallF C} (hC : Contract P C E.L F) {I : Inst} (hnt : I.nt = E.nt ∧ I.pins = E.pins.map (·.1)) {rid : Nat} {Q : Exit → Act → World → Prop} (hedge : ∀ i o, ops[i]? = some o → ∀ e ∈ o.after.toList, Region.binds .any e = true → e.on < i) :
    ∀ (n : Nat) (rem : List (Nat × AM.Log)) (listed : Array Bool) {S S' : St} {G : Gh} {a : Act} {w : World}, rem.length = n → listed.size = ops.size → (rem.map (·.1)).Nodup → (∀ i, i ∈ rem.map (·.1) ↔ (i < ops.size ∧ listed.getD i true = false)) → rem.Pairwise (ord ops) →
      (∀ i j, i < ops.size → listed.getD i false = true → Bef ops i j → listed.getD j false = true) → Seq (stepAt T C F I rid ops) rem S S' → Inv E S G a w → (∀ a1 w1 G1, Inv E S' G1 a1 w1 → Q .normal a1 w1) → wpAny P .any ops Q n listed a w := by
  have gd : ∀ (listed : Array Bool), listed.size = ops.size → ∀ i, i < ops.size → listed.getD i true = listed.getD i false := by
    intro listed hs i hi
    simp [Array.getD_eq_getD_getElem?, Array.getElem?_eq_getElem (show i < listed.size by omega)]
  have ready : ∀ (listed : Array Bool) (i : Nat), i ∈ Region.ready .any ops listed ↔ i < ops.size ∧ listed.getD i true = false ∧ ∃ o, ops[i]? = some o ∧ ∀ e ∈ o.after.toList, Region.binds .any e = true → listed.getD e.on false = true := by
    intro listed i
    unfold Region.ready
    rw [List.mem_filter, List.mem_range]
    constructor
    · rintro ⟨h1, h2⟩
      simp only [Bool.and_eq_true, Bool.not_eq_true'] at h2
      refine ⟨h1, h2.1, ops[i], by simp [h1], fun e he hb => ?_⟩
      have h3 := h2.2
      rw [Array.getElem?_eq_getElem h1] at h3
      simp only [Option.map_some, Option.getD_some] at h3
      rw [Array.all_eq_true'] at h3
      have := h3 e (by simpa using he)
      simpa [hb] using this
    · rintro ⟨h1, h2, o, ho, h3⟩
      refine ⟨h1, ?_⟩
      simp only [h2, Bool.not_false, Bool.true_and, ho, Option.map_some, Option.getD_some]
      rw [Array.all_eq_true']
      intro e he
      cases hb : Region.binds .any e with
      | false => rfl
      | true => simpa [hb] using h3 e (by simpa using he) hb
  intro n
  induction n with
  | zero =>
    intro rem listed S S' G a w hn hls hnd hrem hpw hdown hs Iv hQ
    have : rem = [] := List.length_eq_zero_iff.1 hn
    subst this
    have : S' = S := hs
    subst this
    refine ⟨?_, hQ _ _ _ Iv⟩
    apply List.eq_nil_iff_forall_not_mem.2
    intro i hi
    obtain ⟨h1, h2, _⟩ := (ready listed i).1 hi
    have := (hrem i).2 ⟨h1, h2⟩
    simp at this
  | succ n ih =>
    intro rem listed S S' G a w hn hls hnd hrem hpw hdown hs Iv hQ
    refine ⟨fun hr => ?_, fun i hi => ?_⟩
    · -- the least that is not listed is ready
      exfalso
      have hex : ∃ i, i < ops.size ∧ listed.getD i true = false := by
        match rem, hn with
        | x :: _, _ => exact ⟨x.1, (hrem x.1).1 (by simp)⟩
      obtain ⟨i, hi, hmin⟩ : ∃ i, (i < ops.size ∧ listed.getD i true = false) ∧ ∀ k, k < i → ¬ (k < ops.size ∧ listed.getD k true = false) := by
        obtain ⟨i0, h0⟩ := hex
        induction i0 using Nat.strongRecOn with
        | ind i0 ihh =>
          by_cases h : ∃ k, k < i0 ∧ (k < ops.size ∧ listed.getD k true = false)
          · obtain ⟨k, hk, hk'⟩ := h
            exact ihh k hk hk'
          · exact ⟨i0, h0, fun k hk hk' => h ⟨k, hk, hk'⟩⟩
      have : i ∈ Region.ready .any ops listed := (ready listed i).2 ⟨hi.1, hi.2, ops[i], by simp [hi.1], fun e he hb => by
        have hlt := hedge i ops[i] (by simp [hi.1]) e he hb
        have hlt' : e.on < ops.size := by omega
        have := hmin e.on hlt
        rw [← gd listed hls e.on hlt']
        cases h : listed.getD e.on true with
        | true => rfl
        | false => exact absurd ⟨hlt', h⟩ this⟩
      rw [hr] at this
      simp at this
    · obtain ⟨h1, h2, o, ho, h3⟩ := (ready listed i).1 hi
      have hmem := (hrem i).2 ⟨h1, h2⟩
      obtain ⟨x, hx, hxi⟩ := List.mem_map.1 hmem
      obtain ⟨i', g⟩ := x
      simp only at hxi
      subst hxi
      obtain ⟨pre, post, rfl⟩ := List.append_of_mem hx
      have hbl : ∀ j, Bef ops i' j → listed.getD j false = true := by
        intro j hb
        cases hb with
        | one ho' he hb =>
          rw [ho] at ho'; injection ho' with ho'; subst ho'
          exact h3 _ he hb
        | more ho' he hb hbb =>
          rw [ho] at ho'; injection ho' with ho'; subst ho'
          have hlt := hedge i' o ho _ he hb
          exact hdown _ j (by omega) (h3 _ he hb) hbb
      have hap : ∀ x ∈ pre, apart x.2 g = true := by
        intro x hx'
        have hp := (List.pairwise_append.1 hpw).2.2 x hx' (i', g) (by simp)
        rcases hp with hp | hp
        · have hl := hbl x.1 hp
          have hm := (hrem x.1).1 (List.mem_map.2 ⟨x, by simp [hx'], rfl⟩)
          rw [gd listed hls x.1 hm.1, hl] at hm
          cases hm.2
        · exact hp
      obtain ⟨s1, hstep, hrest⟩ := seq_front pre hs hap
      have hsub : (pre ++ post).Sublist (pre ++ (i', g) :: post) := List.Sublist.append_left (List.sublist_cons_self _ _) _
      refine stepAt_sound hT hC hnt Iv hstep fun a1 w1 G1 Iv1 => ?_
      have hset : ∀ j d, (listed.setIfInBounds i' true).getD j d = if j = i' then true else listed.getD j d := by
        intro j d
        simp only [Array.getD_eq_getD_getElem?]
        by_cases hj : j = i'
        · subst hj
          rw [if_pos rfl, Array.getElem?_setIfInBounds_self_of_lt (by omega)]
          rfl
        · rw [if_neg hj, Array.getElem?_setIfInBounds_ne (Ne.symm hj)]
      have hnd' : i' ∉ (pre ++ post).map (·.1) := by
        rw [List.map_append, List.map_cons] at hnd
        rw [List.map_append]
        have := List.nodup_append.1 hnd
        intro hm
        rcases List.mem_append.1 hm with hm | hm
        · exact this.2.2 i' hm i' (by simp) rfl
        · exact (List.nodup_cons.1 this.2.1).1 hm
      refine ih (pre ++ post) _ (by simp at hn ⊢; omega) (by simpa using hls) ((hsub.map _).nodup hnd) (fun j => ?_) (hpw.sublist hsub) (fun k j hk hl hb => ?_) hrest Iv1 hQ
      · rw [hset]
        constructor
        · intro hm
          have hj : j ≠ i' := fun e => hnd' (e ▸ hm)
          rw [if_neg hj]
          exact (hrem j).1 ((hsub.map _).subset hm)
        · rintro ⟨hj1, hj2⟩
          by_cases hj : j = i'
          · rw [if_pos hj] at hj2; cases hj2
          · rw [if_neg hj] at hj2
            have := (hrem j).2 ⟨hj1, hj2⟩
            simp only [List.map_append, List.map_cons, List.mem_append, List.mem_cons] at this ⊢
            rcases this with h | h | h
            · exact .inl h
            · exact absurd h hj
            · exact .inr h
      · rw [hset] at hl ⊢
        by_cases hj : j = i'
        · rw [if_pos hj]
        · rw [if_neg hj]
          by_cases hk' : k = i'
          · subst hk'
            exact hbl j hb
          · rw [if_neg hk'] at hl
            exact hdown k j hk hl hb

theorem Inv.drawn (Iv : Inv E S G a w) (n : Nat) : Inv E S G a { w with drawn := n } := ⟨Iv.mem.drawn n, fun m => (Iv.slot m).keep (Keeps.drawn _ G w n), Iv.df, Iv.tn, Iv.pin⟩

/-- A region. -/
theorem region_sound (hT : TsOk P T) {F : CallF C} (hC : Contract P C E.L F) {I : Inst} (hnt : I.nt = E.nt ∧ I.pins = E.pins.map (·.1)) (hm : P.follows .mixedOrders = true) {rid : Nat} {draw : Bool} {R : Type} {κ : St → Option R} {r : R}
    (h : runOps T C F I rid ops ops.toList 0 S [] (fun s' gs => match draw with
      | false => κ s'
      | true => match edgesOk ops.toList 0 && logsOk (befores ops) 0 gs.reverse with
        | true => κ s'
        | false => none) = some r) :
    ∃ S', κ S' = some r ∧ ∀ (G : Gh) (a : Act) (w : World) (Q : Exit → Act → World → Prop), Inv E S G a w → (∀ a1 w1 G1, Inv E S' G1 a1 w1 → Q .normal a1 w1) → (Code.region rid ops draw).wp P Q a w := by
  obtain ⟨lg, S', hl, hs, hk⟩ := runOps_seq ops.toList 0 S [] _ (fun k o hk => by simpa using hk) h
  have hmap : ((List.range' 0 ops.toList.length).zip lg).map (·.1) = List.range ops.size := by
    rw [List.map_fst_zip (by simp [hl]), List.range_eq_range']
    simp
  cases draw with
  | false =>
    refine ⟨S', hk, fun G a w Q Iv hQ => wp_region ?_⟩
    rw [← hmap]
    exact seq_plain hT hC hnt _ hs Iv hQ
  | true =>
    simp only at hk
    split at hk
    · rename_i hok
      simp only [Bool.and_eq_true, List.append_nil, List.reverse_reverse] at hok
      refine ⟨S', hk, fun G a w Q Iv hQ => wp_region_any hm ?_⟩
      have hlen : ((List.range' 0 ops.toList.length).zip lg).length = ops.size := by simp [hl]
      refine seq_any hT hC hnt (fun i o ho e he hb => by have := edgesOk_spec ops.toList 0 hok.1 i o (by simpa using ho) e he hb; omega) ops.size _ _ hlen (by simp) (by rw [hmap]; exact List.nodup_range) (fun i => ?_) (by rw [← hl]; exact logsOk_spec lg 0 hok.2) (fun i j hi hl' _ => ?_) hs (Iv.drawn _) hQ
      · rw [hmap, List.mem_range]
        constructor
        · intro hi
          exact ⟨hi, by simp [Array.getD_eq_getD_getElem?, hi]⟩
        · exact fun h => h.1
      · simp [Array.getD_eq_getD_getElem?, hi] at hl'
    · cases hk
end Go.Fw

/- Loops, control, and whole functions. -/
namespace Go.Fw
variable {P : Program} {T : Nat → Option TI} {C : Nat → Inst} {E : Env} {S S' S1 S2 : St} {G G1 : Gh} {w w1 : World} {a : Act}

def slot (a : Act) (n : Nat) : Value := a.tmps.getD n undef

/-- A slot is a pointer to the element k of the row of another slot. -/
def EltR (a : Act) (n m : Nat) (t : Ty) (k : Nat) : Prop := ∃ A len c, slot a m = .slice (some A) len c ∧ slot a n = .pointer (some (A.add (k * t.size + 0)))
def EltsR (S : St) (a : Act) (l : List Sl) : Prop := ∀ n m t, Sl.elt n m t ∈ l → ∃ i k, S.tm n = .adr i [.elem k] ∧ EltR a n m t k

def SlR (w : World) (ok : Nat → Prop) (a : Act) : (l : List Sl) → (slTy l).I → List Nat → Prop
  | [], _, F => F = []
  | .own n s :: r, x, F => ∃ c F1 F2, slot a n = ofCells s.agg c ∧ F = F1 ++ F2 ∧ ShR w ok s x.1 c F1 ∧ SlR w ok a r x.2 F2
  | .same n m :: r, x, F => slot a n = slot a m ∧ SlR w ok a r x F
  | .elt n m t :: r, x, F => EltR a n m t (Int.toNat x.1) ∧ SlR w ok a r x.2 F

theorem SlR.mono {ok ok' : Nat → Prop} (hk : ∀ b, ok b → ok' b) : ∀ {l : List Sl} {x : (slTy l).I} {F : List Nat}, SlR w ok a l x F → SlR w ok' a l x F
  | [], _, _, h => h
  | .own n s :: r, _, _, ⟨c, F1, F2, e1, e2, h1, h2⟩ => ⟨c, F1, F2, e1, e2, h1.mono hk, SlR.mono hk h2⟩
  | .same n m :: r, _, _, ⟨e, h⟩ => ⟨e, SlR.mono hk h⟩
  | .elt n m t :: r, _, _, ⟨e, h⟩ => ⟨e, SlR.mono hk h⟩

/-- What holds at a loop's head. -/
structure Head (E : Env) (l : List Sl) (x : (slTy l).I) (a : Act) (w : World) : Prop where
  ex : ∃ (ok : Nat → Prop) (F : List Nat), SlR w ok a l x F ∧ F.Nodup ∧ (∀ b ∈ F, b < w.heap.size ∧ (E.w0.heap.size ≤ b ∨ b ∈ E.md) ∧ ¬ ok b) ∧ (∀ b, ok b → b < w.heap.size ∧ (E.okc b ∨ E.w0.heap.size ≤ b ∨ b ∈ E.md))
  fr : KeptBut (· ∈ E.md) E.w0 w
  df : a.defers = []
  tn : a.tmps.size = E.nt
  pin : ∀ p ∈ E.pins, a.tmps.getD p.1 undef = p.2

theorem sames_sound (Iv : Inv E S G a w) : ∀ (l : List Sl) {u : Unit}, (sames l).run S = some (u, S') → S' = S ∧ (∀ n m, Sl.same n m ∈ l → slot a n = slot a m) ∧ EltsR S a l
  | [], u, h => by
    obtain ⟨_, rfl⟩ := AM.of_pure h
    exact ⟨rfl, fun n m hm => by simp at hm, fun n m t hm => by simp at hm⟩
  | .own n s :: r, u, h => by
    obtain ⟨e, k, k2⟩ := sames_sound Iv r h
    exact ⟨e, fun n m hm => k n m (by simpa using hm), fun n m t hm => k2 n m t (by simpa using hm)⟩
  | .elt n m t :: r, u, h => by
    simp only [sames, AM.run] at h
    have hn := Iv.slot n
    have hm := Iv.slot m
    split at h
    · rename_i i k j h1 h2
      obtain ⟨hij, h3⟩ := AM.of_must_bind h
      clear h
      have hij : i = j := by simpa using hij
      subst hij
      have h : (withRow t (S.ob i) fun _ _ => sames r).run S = some (u, S') := h3
      obtain ⟨d, l0, ho, h⟩ := AM.of_withRow h
      obtain ⟨e, kk, k2⟩ := sames_sound Iv r h
      refine ⟨e, fun n m hm => kk n m (by simpa using hm), fun n' m' t' hmm => ?_⟩
      rcases List.mem_cons.1 hmm with hmm | hmm
      · injection hmm with e1 e2 e3
        subst e1; subst e2; subst e3
        refine ⟨i, k, h1, ?_⟩
        rw [h1] at hn
        rw [h2] at hm
        obtain ⟨_, b, hb, eb⟩ := hn.adr
        obtain ⟨c, hc, ec⟩ := hm
        simp only [VR] at hc
        obtain ⟨hbx, hty, _⟩ := Iv.mem.obj i _ ho
        unfold adrOf at hb
        rw [hbx] at hb
        have em : slot a m' = G.hd i := by unfold slot; rw [ec, hc.2.2]; rfl
        revert hb em
        cases G.hd i with
        | slice A len c =>
          cases A with
          | none => intro hb; cases hb
          | some A =>
            intro hb em
            simp only [offT, Option.map_some, Option.some.injEq] at hb
            exact ⟨A, len, c, em, by unfold slot; rw [eb, ← hb, hty]⟩
        | _ => intro hb; cases hb
      · exact k2 n' m' t' hmm
    · cases h
  | .same n m :: r, u, h => by
    simp only [sames, AM.run] at h
    have hn := Iv.slot n
    have hm := Iv.slot m
    split at h
    · rename_i i j h1 h2
      obtain ⟨hij, h⟩ := AM.of_must_bind h
      obtain ⟨e, k, k2⟩ := sames_sound Iv r h
      have hij : i = j := by simpa using hij
      subst hij
      rw [h1] at hn
      rw [h2] at hm
      refine ⟨e, fun n' m' hmm => ?_, fun n m t hm => k2 n m t (by simpa using hm)⟩
      rcases List.mem_cons.1 hmm with hmm | hmm
      · injection hmm with e1 e2
        subst e1; subst e2
        obtain ⟨c, hc, ec⟩ := hn
        obtain ⟨d, hd, ed⟩ := hm
        simp only [VR] at hc hd
        unfold slot
        rw [ec, ed, hc.2.2, hd.2.2]
      · exact k n' m' hmm
    · rename_i i j h1 h2
      obtain ⟨hij, h⟩ := AM.of_must_bind h
      obtain ⟨e, k, k2⟩ := sames_sound Iv r h
      have hij : i = j := by simpa using hij
      subst hij
      rw [h1] at hn
      rw [h2] at hm
      refine ⟨e, fun n' m' hmm => ?_, fun n m t hm => k2 n m t (by simpa using hm)⟩
      rcases List.mem_cons.1 hmm with hmm | hmm
      · injection hmm with e1 e2
        subst e1; subst e2
        obtain ⟨_, b, hb, eb⟩ := hn.adr
        obtain ⟨_, d, hd, ed⟩ := hm.adr
        rw [hb] at hd
        injection hd with hd
        unfold slot
        rw [eb, ed, hd]
      · exact k n' m' hmm
    · cases h

theorem packOwn_sound : ∀ (l : List Sl) {S S' : St} {x : (slTy l).I}, Mem E S G w → (∀ n, SR (used S) G w (S.tm n) (slot a n)) → (∀ n m, Sl.same n m ∈ l → slot a n = slot a m) → EltsR S a l → (packOwn l).run S = some (x, S') →
    ∃ F K, Took E S G w S' (F ++ K) ∧ SlR w (inK G K) a l x F
  | [], S, S', x, M, _, _, _, h => by
    obtain ⟨_, rfl⟩ := AM.of_pure h
    exact ⟨[], [], Took.refl M, rfl⟩
  | .elt n m t :: r, S, S', x, M, hs, hm, he, h => by
    obtain ⟨i, k, h1, hk⟩ := he n m t (by simp)
    simp only [packOwn, AM.run, h1] at h
    obtain ⟨z, s2, h3, h4⟩ := AM.of_bind h
    obtain ⟨rfl, rfl⟩ := AM.of_pure h4
    obtain ⟨F, K, hT, hR⟩ := packOwn_sound r M hs (fun n m hm' => hm n m (by simp [hm'])) (fun n m t hm' => he n m t (by simp [hm'])) h3
    exact ⟨F, K, hT, hk, hR⟩
  | .same n m :: r, S, S', x, M, hs, hm, he, h => by
    obtain ⟨F, K, hT, hR⟩ := packOwn_sound r M hs (fun n m hm' => hm n m (by simp [hm'])) (fun n m t hm' => he n m t (by simp [hm'])) h
    exact ⟨F, K, hT, hm n m (by simp), hR⟩
  | .own n s :: r, S, S', x, M, hs, hm, he, h => by
    simp only [packOwn, AM.run] at h
    obtain ⟨y, s1, h1, h2⟩ := AM.of_bind h
    obtain ⟨z, s2, h3, h4⟩ := AM.of_bind h2
    obtain ⟨rfl, rfl⟩ := AM.of_pure h4
    obtain ⟨c, hc, ec⟩ := (hs n).solid (pack_solid h1)
    obtain ⟨F1, K1, hT1, hS, hag, _⟩ := pack_sound s M hc h1
    obtain ⟨F2, K2, hT2, hR⟩ := packOwn_sound r hT1.mem (fun n => by rw [hT1.tm]; exact (hs n).keep hT1.keeps) (fun n m hm' => hm n m (by simp [hm'])) (fun n m t hm' => by rw [hT1.tm]; exact he n m t (by simp [hm'])) h3
    exact ⟨F1 ++ F2, K1 ++ K2, hT1.trans2 hT2, c, F1, F2, by rw [ec, hag], rfl, hS.mono fun b hb => hb.imp id fun h => by simp [h], hR.mono fun b hb => hb.imp id fun h => by simp [h]⟩

theorem packLoop_sound (Iv : Inv E S G a w) (l : List Sl) {x : (slTy l).I} (h : (packLoop l).run S = some (x, S')) : Head E l x a w := by
  unfold packLoop at h
  obtain ⟨u, s1, h1, h2⟩ := AM.of_bind h
  obtain ⟨rfl, hm, he⟩ := sames_sound Iv l h1
  obtain ⟨F, K, hT, hR⟩ := packOwn_sound l Iv.mem Iv.slot hm he h2
  obtain ⟨M1, K1⟩ := hT.mem.thaw hT.free.sub.2.own hT.free.sub.2.nl
  refine ⟨⟨inK G K, F, hR, hT.free.sub.1.nd, fun b hb => ⟨(hT.free.sub.1.own b hb).1, (hT.free.sub.1.own b hb).2, fun hok => ?_⟩, fun b hb => ⟨(M1.okl b hb).1, (M1.okl b hb).2.1⟩⟩, Iv.mem.fr, Iv.df, Iv.tn, Iv.pin⟩
  rcases hok with hok | hok
  · exact hT.free.sub.1.nok b hb hok
  · exact (List.nodup_append.1 hT.free.nd).2.2 b hb b hok rfl

theorem unpackOwn_sound : ∀ (l : List Sl) {S S' : St} {G : Gh} {x : (slTy l).I} {F : List Nat} {c : Nat} {u : Unit}, Mem E S G w → (∀ n, SR (used S) G w (S.tm n) (slot a n)) → Free E S G w F → SlR w G.ok a l x F → (unpackOwn l x c).run S = some (u, S') →
    ∃ G', Mem E S' G' w ∧ ∀ n, SR (used S') G' w (S'.tm n) (slot a n)
  | [], S, S', G, x, F, c, u, M, hs, f, hR, h => by
    obtain ⟨_, rfl⟩ := AM.of_pure h
    exact ⟨G, M, hs⟩
  | .same n m :: r, S, S', G, x, F, c, u, M, hs, f, hR, h => unpackOwn_sound r M hs f hR.2 h
  | .elt n m t :: r, S, S', G, x, F, c, u, M, hs, f, hR, h => unpackOwn_sound r M hs f hR.2 h
  | .own n s :: r, S, S', G, x, F, c, u, M, hs, f, ⟨cs, F1, F2, e1, e2, hS, hR⟩, h => by
    subst e2
    simp only [unpackOwn] at h
    obtain ⟨v, s1, h1, h2⟩ := AM.of_bind h
    obtain ⟨v, c1⟩ := v
    simp only [AM.run] at h2
    obtain ⟨G1, g1, hv, _, hag⟩ := unpack_sound s M f.sub.1 hS h1
    have M2 : Mem E (s1.putT n v) G1 w := ⟨g1.mem.obj, g1.mem.dj, g1.mem.nd, g1.mem.own, g1.mem.okl, g1.mem.fr, g1.mem.hds⟩
    have f2 : Free E (s1.putT n v) G1 w F2 := let k := g1.free f; ⟨k.nd, k.own, k.nok, k.nl⟩
    refine unpackOwn_sound r M2 (fun m => ?_) f2 (hR.mono fun b hb => by rw [g1.ok]; exact hb) h2
    rw [St.tm_putT]
    by_cases hm : m = n
    · subst hm
      rw [if_pos rfl, e1, ← hag]
      exact hv.sr
    · rw [if_neg hm, g1.tm]
      exact (hs m).keep g1.keeps
theorem setSames_sound : ∀ (l : List Sl) {x : (slTy l).I} {ok : Nat → Prop} {F : List Nat} {S S' : St} {u : Unit}, Mem E S G w → (∀ n, SR (used S) G w (S.tm n) (slot a n)) → SlR w ok a l x F → (setSames l x).run S = some (u, S') → Mem E S' G w ∧ ∀ n, SR (used S') G w (S'.tm n) (slot a n)
  | [], x, ok, F, S, S', u, M, hs, _, h => by
    obtain ⟨_, rfl⟩ := AM.of_pure h
    exact ⟨M, hs⟩
  | .own n s :: r, x, ok, F, S, S', u, M, hs, ⟨_, _, _, _, _, _, hR⟩, h => setSames_sound r M hs hR h
  | .same n m :: r, x, ok, F, S, S', u, M, hs, hR, h => by
    simp only [setSames, AM.run] at h
    refine setSames_sound r (S := S.putT n (S.tm m)) ⟨M.obj, M.dj, M.nd, M.own, M.okl, M.fr, M.hds⟩ (fun k => ?_) hR.2 h
    rw [St.tm_putT]
    by_cases hk : k = n
    · subst hk
      rw [if_pos rfl, hR.1]
      exact hs m
    · rw [if_neg hk]
      exact hs k
  | .elt n m t :: r, x, ok, F, S, S', u, M, hs, hR, h => by
    simp only [setSames, AM.run] at h
    have hm := hs m
    split at h
    · rename_i i hi
      simp only [AM.run] at h
      obtain ⟨d, l0, ho, h⟩ := AM.of_withRow h
      simp only [AM.run] at h
      refine setSames_sound r (S := S.putT n (.adr i [.elem (Int.toNat x.1)])) ⟨M.obj, M.dj, M.nd, M.own, M.okl, M.fr, M.hds⟩ (fun k => ?_) hR.2 h
      rw [St.tm_putT]
      by_cases hk : k = n
      · subst hk
        rw [if_pos rfl]
        rw [hi] at hm
        obtain ⟨c, hc, ec⟩ := hm
        simp only [VR] at hc
        obtain ⟨hbx, hty, _⟩ := M.obj i _ ho
        obtain ⟨A, len, c2, e1, e2⟩ := hR.1
        have em : G.hd i = .slice (some A) len c2 := by rw [← e1, ec, hc.2.2]; rfl
        refine ⟨_, ⟨hc.1, A.add (Int.toNat x.1 * t.size + 0), ?_, rfl⟩, ?_⟩
        · unfold adrOf
          rw [hbx, em, hty]
          simp only [offT, Option.map_some]
        · rw [e2]; rfl
      · rw [if_neg hk]
        exact hs k
    · cases h

def Gh.bare (ok : Nat → Prop) : Gh := ⟨ok, fun _ => .pointer none, fun _ => true, fun _ => .unit, fun _ => []⟩
theorem Mem.empty {ok : Nat → Prop} (h1 : ∀ b, ok b → b < w.heap.size ∧ (E.okc b ∨ E.w0.heap.size ≤ b ∨ b ∈ E.md)) (hfr : KeptBut (· ∈ E.md) E.w0 w) : Mem E St.empty (Gh.bare ok) w := by
  have hl : ∀ i, ¬ live St.empty i := fun i h => by obtain ⟨o, h, _⟩ := h; cases h
  exact ⟨fun i o h => (by cases h), fun i j _ h => absurd h (hl i), fun i h => absurd h (hl i), fun i h => absurd h (hl i), fun b hb => ⟨(h1 b hb).1, (h1 b hb).2, fun i h => absurd h (hl i)⟩, hfr, fun i h => absurd rfl h⟩

theorem unpackLoop_sound (l : List Sl) {x : (slTy l).I} {u : Unit} (H : Head E l x a w) (h : (unpackLoop l x).run St.empty = some (u, S')) : ∃ G, Inv E S' G a w := by
  obtain ⟨ok, F, hR, hnd, hF, hok⟩ := H.ex
  unfold unpackLoop at h
  obtain ⟨u1, s1, h1, h2⟩ := AM.of_bind h
  have M : Mem E St.empty (Gh.bare ok) w := Mem.empty hok H.fr
  have f : Free E St.empty (Gh.bare ok) w F := ⟨hnd, fun b hb => ⟨(hF b hb).1, (hF b hb).2.1⟩, fun b hb => (hF b hb).2.2, fun i hi => by obtain ⟨o, h, _⟩ := hi; cases h⟩
  obtain ⟨G1, M1, hs1⟩ := unpackOwn_sound l (a := a) M (fun n => trivial) f hR h1
  obtain ⟨M2, hs2⟩ := setSames_sound l M1 hs1 hR h2
  exact ⟨G1, M2, hs2, H.df, H.tn, H.pin⟩

/-! ### Code -/
def ex : X → Exit
  | .normal => .normal
  | .exit id => .exit id
  | .ret => .ret

theorem runC_sound (hT : TsOk P T) {F : CallF C} (hC : Contract P C E.L F) {I : Inst} (hnt : I.nt = E.nt ∧ I.pins = E.pins.map (·.1)) (hm : P.follows .mixedOrders = true) {k : Nat} {R : Type} {r : R} :
    ∀ (c : Code) (blk : Nat) (s : St) (κ : X → St → Option R), runC T C F I k c blk s κ = some r → ∀ (G : Gh) (a : Act) (w : World) (Q : Exit → Act → World → Prop), Inv E s G a w → (∀ e s', κ e s' = some r → ∀ G' a' w', Inv E s' G' a' w' → Q (ex e) a' w') → c.wp P Q a w := by
  intro c
  induction c with
  | skip => intro blk s κ h G a w Q Iv hQ; exact wp_skip (hQ _ _ h _ _ _ Iv)
  | region rid ops draw =>
    intro blk s κ h G a w Q Iv hQ
    obtain ⟨S', hk, hw⟩ := region_sound hT hC hnt hm (κ := fun s' => κ .normal s') h
    exact hw G a w Q Iv fun a1 w1 G1 Iv1 => hQ .normal S' hk _ _ _ Iv1
  | seq x y ihx ihy =>
    intro blk s κ h G a w Q Iv hQ
    simp only [runC] at h
    refine wp_seq (ihx blk s _ h G a w _ Iv fun e s' hk G' a' w' Iv' => ?_)
    cases e with
    | normal => exact ihy blk s' κ hk G' a' w' Q Iv' hQ
    | exit id => exact hQ _ _ hk _ _ _ Iv'
    | ret => exact hQ _ _ hk _ _ _ Iv'
  | cond c x y ihx ihy =>
    intro blk s κ h G a w Q Iv hQ
    simp only [runC] at h
    split at h
    · rename_i n
      cases hv : s.tm n with
      | val t p =>
        cases t with
        | bool =>
          rw [hv] at h
          simp only at h
          have hb := Iv.slot n
          rw [hv] at hb
          have hb := hb.bool
          cases p with
          | true =>
            simp only [if_true] at h
            rw [St.putT_self hv] at h
            exact wp_cond_true hb (ihx blk s κ h G a w Q Iv hQ)
          | false =>
            simp only [Bool.false_eq_true, if_false] at h
            rw [St.putT_self hv] at h
            exact wp_cond_false hb (ihy blk s κ h G a w Q Iv hQ)
        | _ => rw [hv] at h; cases h
      | tup t =>
        cases t with
        | val u l =>
          cases u with
          | slc u =>
            rw [hv] at h
            simp only at h
            have hb := Iv.slot n
            rw [hv] at hb
            obtain ⟨b, hb, hne⟩ := (show TR (used s) G w (.val (.slc u) l) (a.tmps.getD n undef) from hb)
            split at h
            · rename_i hl
              have hl := of_decide_eq_true hl
              have hbf : b = false := hne (fun e => hl (by rw [e]; rfl))
              subst hbf
              exact wp_cond_false hb (ihy blk _ κ h G a w Q (Iv.putT (by rw [hb]; exact SR.of_bool _)) hQ)
            · obtain ⟨h1, h2⟩ := both_some h
              cases b with
              | true => exact wp_cond_true hb (ihx blk _ κ h1 G a w Q (Iv.putT (by rw [hb]; exact SR.of_bool _)) hQ)
              | false => exact wp_cond_false hb (ihy blk _ κ h2 G a w Q (Iv.putT (by rw [hb]; exact SR.of_bool _)) hQ)
          | _ => rw [hv] at h; cases h
        | _ => rw [hv] at h; cases h
      | _ => rw [hv] at h; cases h
    · exact wp_cond_true rfl (ihx blk s κ h G a w Q Iv hQ)
    · exact wp_cond_false rfl (ihy blk s κ h G a w Q Iv hQ)
    · cases h
  | block id c ih =>
    intro blk s κ h G a w Q Iv hQ
    simp only [runC] at h
    refine wp_block (ih id s _ h G a w _ Iv fun e s' hk G' a' w' Iv' => ?_)
    cases e with
    | normal => exact hQ _ _ hk _ _ _ Iv'
    | exit j =>
      simp only [Exit.inBlock, ex]
      simp only at hk
      by_cases hj : j = id
      · rw [if_pos hj]
        have : (j == id) = true := by simpa using hj
        rw [this] at hk
        exact hQ .normal _ hk _ _ _ Iv'
      · rw [if_neg hj]
        have : (j == id) = false := by simpa using hj
        rw [this] at hk
        exact hQ (.exit j) _ hk _ _ _ Iv'
    | ret => exact hQ _ _ hk _ _ _ Iv'
  | loop c ih =>
    intro blk s κ h G a w Q Iv hQ
    simp only [runC] at h
    rw [AM.runK_eq] at h
    cases hp : (packLoop (I.loops blk)).runL s g0 with
    | none => rw [hp] at h; cases h
    | some x =>
      obtain ⟨x, s1, g1⟩ := x
      rw [hp] at h
      simp only [Option.bind_some] at h
      have H := packLoop_sound Iv _ (AM.runL_run _ _ _ hp)
      refine wp_loop_rounds k ?_
      have key : ∀ (n : Nat) (x : (slTy (I.loops blk)).I) (a : Act) (w : World), loopK (fun x again => (unpackLoop (I.loops blk) x).runK St.empty g0 fun _ s' _ => runC T C F I k c blk s' fun e s'' => match e with
          | .normal => (packLoop (I.loops blk)).runK s'' g0 fun x' _ _ => again x'
          | e => κ e s'') n x = some r → Head E (I.loops blk) x a w → Code.rounds P c Q n a w := by
        intro n
        induction n with
        | zero => intro x a w h; cases h
        | succ n ihn =>
          intro x a w h H
          rw [rounds_succ]
          simp only [loopK] at h
          rw [AM.runK_eq] at h
          cases hu : (unpackLoop (I.loops blk) x).runL St.empty g0 with
          | none => rw [hu] at h; cases h
          | some y =>
            obtain ⟨y, s2, g2⟩ := y
            rw [hu] at h
            simp only [Option.bind_some] at h
            obtain ⟨G2, Iv2⟩ := unpackLoop_sound _ H (AM.runL_run _ _ _ hu)
            refine ih blk s2 _ h G2 a w _ Iv2 fun e s' hk G' a' w' Iv' => ?_
            cases e with
            | normal =>
              simp only at hk
              rw [AM.runK_eq] at hk
              cases hp' : (packLoop (I.loops blk)).runL s' g0 with
              | none => rw [hp'] at hk; cases hk
              | some z =>
                obtain ⟨z, s3, g3⟩ := z
                rw [hp'] at hk
                simp only [Option.bind_some] at hk
                exact ihn z a' w' hk (packLoop_sound Iv' _ (AM.runL_run _ _ _ hp'))
            | exit id => exact hQ _ _ hk _ _ _ Iv'
            | ret => exact hQ _ _ hk _ _ _ Iv'
      exact key k x a w h H
  | exit id => intro blk s κ h G a w Q Iv hQ; exact wp_exit (hQ _ _ h _ _ _ Iv)
  | ret => intro blk s κ h G a w Q Iv hQ; exact wp_ret (hQ _ _ h _ _ _ Iv)
  | _ => intro blk s κ h; simp only [runC] at h; cases h

/-! ### Functions -/
structure InstOk (P : Program) (I : Inst) : Prop where
  ex : I.ext = none → ∃ fn, P.funcs[I.f]? = some fn ∧ fn.body = some I.code ∧ fn.results = I.slots.toArray ∧ fn.ntmps = I.nt ∧ (fn.name == "runtime.NumGoroutine") = false

def RunR (P : Program) (w : World) (a : Act) : List ResultVar → List Value → Prop
  | [], [] => True
  | .tmp n :: r, x :: xs => x = slot a n ∧ RunR P w a r xs
  | .cell n t :: r, x :: xs => (∃ ad, slot a n = .pointer (some ad) ∧ (loadVar t ad).run P w = .ok x w) ∧ RunR P w a r xs
  | _, _ => False

theorem results_run {fn : Func} {slots : List ResultVar} (h : fn.results = slots.toArray) {xs : List Value} (hr : RunR P w a slots xs) : (results fn a.tmps).run P w = .ok (resV xs) w := by
  have aux : ∀ (f : ResultVar → Sem Value), (∀ n, f (.tmp n) = pure (a.tmps.getD n undef)) → (∀ n t, f (.cell n t) = (do loadVar t (← asAddr (a.tmps.getD n undef)))) → ∀ (l : List ResultVar) (xs : List Value), RunR P w a l xs → (l.mapM f).run P w = .ok xs w := by
    intro f h1 h2 l
    induction l with
    | nil => intro xs hr; cases xs with
      | nil => simp
      | cons _ _ => exact hr.elim
    | cons v l ih =>
      intro xs hr
      cases xs with
      | nil => cases v <;> exact hr.elim
      | cons x xs =>
      rw [List.mapM_cons]
      cases v with
      | tmp n =>
        obtain ⟨e, hr⟩ := hr
        rw [h1]
        simp [ih xs hr, e, slot]
      | cell n t =>
        obtain ⟨⟨ad, e, hl⟩, hr⟩ := hr
        unfold slot at e
        rw [h2, e]
        simp [asAddr, hl, ih xs hr]
  have key := aux (fun | .tmp t => pure (a.tmps.getD t undef) | .cell b t => do loadVar t (← asAddr (a.tmps.getD b undef))) (fun _ => rfl) (fun _ _ => rfl) slots xs hr
  unfold results
  rw [h, List.mapM_toArray]
  generalize hm : (List.mapM (m := Sem) _ slots) = m
  have hk : m.run P w = .ok xs w := by rw [← hm]; exact key
  simp only [Sem.run_bind, Sem.run_map, hk, Result.andThen_ok, Sem.run_pure]
  congr 1
  match xs with
  | [] => rfl
  | [n] => rfl
  | _ :: _ :: _ => rfl

theorem initAM_sound : ∀ (ps : List (Sh × Bool)) {S S' : St} {G : Gh} {x : (argTy ps).I} {vals : List Value} {F : List Nat} {n c : Nat} {u : Unit}, Mem E S G w → (∀ m, SR (used S) G w (S.tm m) (slot a m)) → Free E S G w F → ArgsR w G.ok ps x vals F → (∀ (i : Nat) v, vals[i]? = some v → slot a (n + i) = v) → (initAM ps x n c).run S = some (u, S') →
    ∃ G', Mem E S' G' w ∧ ∀ m, SR (used S') G' w (S'.tm m) (slot a m)
  | [], S, S', G, x, vals, F, n, c, u, M, hs, f, hA, hv, h => by
    obtain ⟨_, rfl⟩ := AM.of_pure h
    exact ⟨G, M, hs⟩
  | (s, b) :: r, S, S', G, x, vals, F, n, c, u, M, hs, f, ⟨cs, vs', F1, F2, e1, e2, hS, hA⟩, hv, h => by
    subst e1; subst e2
    simp only [initAM] at h
    obtain ⟨v, s1, h1, h2⟩ := AM.of_bind h
    obtain ⟨v, c1⟩ := v
    simp only [AM.run] at h2
    obtain ⟨G1, g1, hvr, _, hag⟩ := unpack_sound s M f.sub.1 hS h1
    have M2 : Mem E (s1.putT n v) G1 w := ⟨g1.mem.obj, g1.mem.dj, g1.mem.nd, g1.mem.own, g1.mem.okl, g1.mem.fr, g1.mem.hds⟩
    have f2 : Free E (s1.putT n v) G1 w F2 := let k := g1.free f; ⟨k.nd, k.own, k.nok, k.nl⟩
    have hA2 : ArgsR w G1.ok r x.2 vs' F2 := by rw [g1.ok]; exact hA
    refine initAM_sound r M2 (fun m => ?_) f2 hA2 (fun i v hi => by have := hv (i + 1) v (by simpa using hi); rwa [show n + (i + 1) = n + 1 + i by omega] at this) h2
    rw [St.tm_putT]
    by_cases hm : m = n
    · subst hm
      rw [if_pos rfl]
      have e := hv 0 _ rfl
      simp only [Nat.add_zero] at e
      rw [e, ← hag]
      exact hvr.sr
    · rw [if_neg hm, g1.tm]
      exact (hs m).keep g1.keeps

theorem packRes_sound (hT : TsOk P T) : ∀ (rs : List Sh) (ns : List ResultVar) {S S' : St} {x : (resTy rs).I}, Mem E S G w → (∀ n, SR (used S) G w (S.tm n) (slot a n)) → (packRes T rs ns).run S = some (x, S') →
    ∃ F K xs, Took E S G w S' (F ++ K) ∧ ResR w (inK G K) rs x xs F ∧ RunR P w a ns xs := by
  have step : ∀ {s : Sh} {r : List Sh} {ns : List ResultVar} {S S' : St} {v : V} {xv : Value} {x : (resTy (s :: r)).I}, Mem E S G w → (∀ n, SR (used S) G w (S.tm n) (slot a n)) → SR (used S) G w v xv → ((pack s v).bind fun x => (packRes T r ns).bind fun y => AM.pure ((x, y) : (resTy (s :: r)).I)).run S = some (x, S') →
      (∀ {S S' : St} {x : (resTy r).I}, Mem E S G w → (∀ n, SR (used S) G w (S.tm n) (slot a n)) → (packRes T r ns).run S = some (x, S') → ∃ F K xs, Took E S G w S' (F ++ K) ∧ ResR w (inK G K) r x xs F ∧ RunR P w a ns xs) →
      ∃ F K xs, Took E S G w S' (F ++ K) ∧ ResR w (inK G K) (s :: r) x (xv :: xs) F ∧ RunR P w a ns xs := by
    intro s r ns S S' v xv x M hs hv h ih
    obtain ⟨y, s1, h1, h2⟩ := AM.of_bind h
    obtain ⟨z, s2, h3, h4⟩ := AM.of_bind h2
    obtain ⟨rfl, rfl⟩ := AM.of_pure h4
    obtain ⟨c, hc, ec⟩ := hv.solid (pack_solid h1)
    obtain ⟨F1, K1, hT1, hS, hag, _⟩ := pack_sound s M hc h1
    obtain ⟨F2, K2, xs, hT2, hR, hrun⟩ := ih hT1.mem (fun n => by rw [hT1.tm]; exact (hs n).keep hT1.keeps) h3
    exact ⟨F1 ++ F2, K1 ++ K2, xs, hT1.trans2 hT2, ⟨c, _, F1, F2, by rw [ec, hag], rfl, hS.mono fun b hb => hb.imp id fun h => by simp [h], hR.mono fun b hb => hb.imp id fun h => by simp [h]⟩, hrun⟩
  intro rs
  induction rs with
  | nil =>
    intro ns S S' x M hs h
    cases ns with
    | nil =>
      obtain ⟨_, rfl⟩ := AM.of_pure h
      exact ⟨[], [], [], Took.refl M, ⟨rfl, rfl⟩, trivial⟩
    | cons _ _ => cases h
  | cons s r ih =>
    intro ns S S' x M hs h
    cases ns with
    | nil => cases h
    | cons v ns =>
    cases v with
    | tmp n =>
      simp only [packRes, AM.run] at h
      obtain ⟨F, K, xs, h1, h2, h3⟩ := step M hs (hs n) h (fun M hs h => ih ns M hs h)
      exact ⟨F, K, _, h1, h2, rfl, h3⟩
    | cell n t =>
      simp only [packRes] at h
      obtain ⟨ty, s1, h1, h2⟩ := AM.of_bind h
      obtain ⟨es1, i, hi, eti⟩ := tyOf_sound h1
      subst es1; subst eti
      simp only [AM.run] at h2
      obtain ⟨y, s2, h3, h4⟩ := AM.of_bind h2
      have hp : ∃ ad, slot a n = .pointer (some ad) := by
        have hn := hs n
        have h3' := h3
        unfold loadV at h3'
        split at h3'
        · rename_i j hj
          rw [hj] at hn
          obtain ⟨cs, hv, ex⟩ := SR.vr hn (by simp) (by simp) (by simp)
          simp only [VR] at hv
          obtain ⟨_, _, ad, ec, _⟩ := hv
          exact ⟨ad, by rw [ex, ec]; rfl⟩
        obtain ⟨un, s3, h5, _⟩ := AM.of_bind h3'
        rcases (ptrTo_sound h5).2 with ⟨i0, p, e, _⟩ | ⟨z, e⟩
        · rw [e] at hn; obtain ⟨_, b, _, ex⟩ := hn.adr; exact ⟨b, ex⟩
        · rw [e] at hn; obtain ⟨b, _, ex, _⟩ := hn.ptr; exact ⟨b, ex⟩
      obtain ⟨ad, had⟩ := hp
      obtain ⟨es2, rv, hrun, hy⟩ := load_sound (P := P) hT M hi (hs n) h3
      subst es2
      obtain ⟨F, K, xs, h6, h7, h8⟩ := step M hs hy h4 (fun M hs h => ih ns M hs h)
      refine ⟨F, K, _, h6, h7, ⟨ad, had, ?_⟩, h8⟩
      rw [had] at hrun
      simpa [Instr.loadAt, Instr.sureAddr] using hrun

theorem packOut_sound {pn : List Nat} : ∀ (ps : List (Sh × Bool)) (n : Nat) {S S' : St} {x : (outTy ps).I} {vals : List Value}, Mem E S G w → (∀ n, SR (used S) G w (S.tm n) (slot a n)) → vals.length = ps.length → (∀ (i : Nat) v, vals[i]? = some v → pn.contains (n + i) = true → slot a (n + i) = v) → (packOut pn ps n).run S = some (x, S') →
    ∃ F K, Took E S G w S' (F ++ K) ∧ OutR w (inK G K) ps x vals F
  | [], n, S, S', x, vals, M, hs, hl, hv, h => by
    obtain ⟨_, rfl⟩ := AM.of_pure h
    exact ⟨[], [], Took.refl M, rfl⟩
  | (s, false) :: r, n, S, S', x, vals, M, hs, hl, hv, h => by
    match vals, hl with
    | v :: vals, hl =>
      simp only [packOut] at h
      obtain ⟨F, K, hT, hO⟩ := packOut_sound r (n + 1) M hs (by simpa using hl) (fun i v hi hp => by have := hv (i + 1) v (by simpa using hi) (by rwa [show n + (i + 1) = n + 1 + i by omega]); rwa [show n + (i + 1) = n + 1 + i by omega] at this) h
      exact ⟨F, K, hT, v, vals, rfl, hO⟩
  | (s, true) :: r, n, S, S', x, vals, M, hs, hl, hv, h => by
    match vals, hl with
    | v :: vals, hl =>
      simp only [packOut] at h
      obtain ⟨hp, h⟩ := AM.of_must_bind h
      simp only [AM.run] at h
      obtain ⟨y, s1, h1, h2⟩ := AM.of_bind h
      obtain ⟨z, s2, h3, h4⟩ := AM.of_bind h2
      obtain ⟨rfl, rfl⟩ := AM.of_pure h4
      obtain ⟨c, hc, ec⟩ := (hs n).solid (pack_solid h1)
      obtain ⟨F1, K1, hT1, hS, hag, _⟩ := pack_sound s M hc h1
      obtain ⟨F2, K2, hT2, hO⟩ := packOut_sound r (n + 1) hT1.mem (fun n => by rw [hT1.tm]; exact (hs n).keep hT1.keeps) (by simpa using hl) (fun i v hi hp => by have := hv (i + 1) v (by simpa using hi) (by rwa [show n + (i + 1) = n + 1 + i by omega]); rwa [show n + (i + 1) = n + 1 + i by omega] at this) h3
      have e := hv 0 v rfl (by simpa using hp)
      simp only [Nat.add_zero] at e
      refine ⟨F1 ++ F2, K1 ++ K2, hT1.trans2 hT2, c, vals, F1, F2, ?_, rfl, hS.mono fun b hb => hb.imp id fun h => by simp [h], hO.mono fun b hb => hb.imp id fun h => by simp [h]⟩
      rw [← e, ec, hag]

theorem ArgsR.length {ok : Nat → Prop} : ∀ {ps : List (Sh × Bool)} {x : (argTy ps).I} {vals : List Value} {F : List Nat}, ArgsR w ok ps x vals F → vals.length = ps.length
  | [], _, _, _, h => by rw [h.1]; rfl
  | (s, b) :: r, _, _, _, ⟨c, vs', F1, F2, e1, _, _, h⟩ => by rw [e1]; simp [ArgsR.length h]

/-- A library's function keeps its contract. -/
structure ExtOk (P : Program) (L : Laid) (I : Inst) : Prop where
  ex : ∀ f, I.ext = some f → ∀ (x : (argTy I.params).I) (r : (resTy I.res).I) (o : (outTy I.params).I) (w : World) (vals : List Value) (okc : Nat → Prop) (Fs : List Nat), f x = some (r, o) → ArgsR w okc I.params x vals Fs → Fs.Nodup → (∀ b ∈ Fs, b < w.heap.size ∧ ¬ okc b) → (∀ b, okc b → b < w.heap.size) → L.on w → (∀ b ∈ Fs, ¬ L.bl b) →
    Enters P I.f vals.toArray w (Post w okc Fs I.params I.res r o vals)

theorem inst_sound {L : Laid} (hT : TsOk P T) {F : CallF C} (hC : Contract P C L F) {I : Inst} (hI : InstOk P I) (hX : ExtOk P L I) (hm : P.follows .mixedOrders = true) {k : Nat} {x : (argTy I.params).I} {r : (resTy I.res).I} {o : (outTy I.params).I} {vals : List Value} {okc : Nat → Prop} {Fs : List Nat}
    (h : runInst T C F I k x = some (r, o)) (hA : ArgsR w okc I.params x vals Fs) (hnd : Fs.Nodup) (hF : ∀ b ∈ Fs, b < w.heap.size ∧ ¬ okc b) (hok : ∀ b, okc b → b < w.heap.size) (hon : L.on w) (hbl : ∀ b ∈ Fs, ¬ L.bl b) :
    Enters P I.f vals.toArray w (Post w okc Fs I.params I.res r o vals) := by
  unfold runInst at h
  cases hext : I.ext with
  | some f =>
    rw [hext] at h
    exact hX.ex f hext x r o w vals okc Fs h hA hnd hF hok hon hbl
  | none =>
  rw [hext] at h
  obtain ⟨fn, hf, hb, hres, hnt, hname⟩ := hI.ex hext
  have hcall : (callFunc I.f vals.toArray).run P w = .ok (.enter I.f vals.toArray) w := by
    have hname' : fn.name ≠ "runtime.NumGoroutine" := by simpa using hname
    simp [callFunc, hf, hb, hname']
  unfold Enters
  rw [hcall]
  simp only
  simp only at h
  unfold runCode at h
  rw [AM.runK_eq] at h
  cases hmust : (must (decide (I.params.length ≤ I.nt) && I.pins.all fun n => decide (n < I.params.length))).runL St.empty g0 with
  | none => rw [hmust] at h; cases h
  | some y0 =>
  obtain ⟨_, _, _⟩ := y0
  rw [hmust] at h
  simp only [Option.bind_some] at h
  obtain ⟨hchk, _⟩ := AM.of_must (AM.runL_run _ _ _ hmust)
  simp only [Bool.and_eq_true, decide_eq_true_eq, List.all_eq_true] at hchk
  rw [AM.runK_eq] at h
  cases hin : (initAM I.params x 0 2000000000).runL St.empty g0 with
  | none => rw [hin] at h; cases h
  | some y =>
  obtain ⟨u, s0, g⟩ := y
  rw [hin] at h
  simp only [Option.bind_some] at h
  have hlen := hA.length
  refine calls_of_wp hf hb ?_
  let E : Env := { nt := I.nt, w0 := w, okc := okc, md := Fs, pins := I.pins.map fun n => (n, vals.getD n undef), L := L, on := hon, md_bl := hbl }
  generalize hact : ({ tmps := vals.toArray ++ Array.replicate (fn.ntmps - vals.toArray.size) undef, defers := [] } : Act) = a
  have hslot : ∀ (i : Nat) v, vals[i]? = some v → slot a (0 + i) = v := by
    intro i v hi
    obtain ⟨hlt, _⟩ := List.getElem?_eq_some_iff.1 hi
    subst hact
    simp only [slot, Nat.zero_add, Array.getD_eq_getD_getElem?]
    rw [Array.getElem?_append_left (by simpa using hlt)]
    simp [hi]
  have hM : Mem E St.empty (Gh.bare okc) w := Mem.empty (fun b hb => ⟨hok b hb, .inl hb⟩) (KeptBut.refl _ _)
  have hfree : Free E St.empty (Gh.bare okc) w Fs := ⟨hnd, fun b hb => ⟨(hF b hb).1, .inr hb⟩, fun b hb => (hF b hb).2, fun i hi => by obtain ⟨o, h, _⟩ := hi; cases h⟩
  obtain ⟨G0, M0, hs0⟩ := initAM_sound (a := a) I.params hM (fun m => trivial) hfree hA hslot (AM.runL_run _ _ _ hin)
  have hpins : I.pins = E.pins.map (·.1) := by
    show I.pins = (I.pins.map fun n => (n, vals.getD n undef)).map (·.1)
    rw [List.map_map]
    exact (List.map_id _).symm
  have Iv0 : Inv E s0 G0 a w := by
    refine ⟨M0, hs0, by subst hact; rfl, by subst hact; simp [E, hnt]; omega, fun p hp => ?_⟩
    obtain ⟨n, hn, rfl⟩ := List.mem_map.1 hp
    have hlt := hchk.2 n hn
    have hlt' : n < vals.length := by omega
    have := hslot n vals[n] (by simp [hlt'])
    simp only [slot, Nat.zero_add] at this
    rw [this]
    simp [List.getD_eq_getElem?_getD, hlt']
  refine runC_sound hT hC (E := E) ⟨rfl, hpins⟩ hm I.code 0 s0 _ h G0 a w _ Iv0 fun e s' hk G' a' w' Iv' => ?_
  have fin : ((packRes T I.res I.slots).runK s' g0 fun r s'' _ => (packOut I.pins I.params 0).runK s'' g0 fun o _ _ => some (r, o)) = some (r, o) → a'.defers = [] ∧ ∃ v, (results fn a'.tmps).run P w' = .ok v w' ∧ Post w okc Fs I.params I.res r o vals v w' := by
    intro hk
    rw [AM.runK_eq] at hk
    cases hr : (packRes T I.res I.slots).runL s' g0 with
    | none => rw [hr] at hk; cases hk
    | some y1 =>
    obtain ⟨r1, s1, g1⟩ := y1
    rw [hr] at hk
    simp only [Option.bind_some] at hk
    rw [AM.runK_eq] at hk
    cases ho : (packOut I.pins I.params 0).runL s1 g0 with
    | none => rw [ho] at hk; cases hk
    | some y2 =>
    obtain ⟨o1, s2, g2⟩ := y2
    rw [ho] at hk
    simp only [Option.bind_some, Option.some.injEq, Prod.mk.injEq] at hk
    obtain ⟨rfl, rfl⟩ := hk
    obtain ⟨F1, K1, xs, hT1, hR, hrr⟩ := packRes_sound (P := P) hT I.res I.slots Iv'.mem Iv'.slot (AM.runL_run _ _ _ hr)
    obtain ⟨F2, K2, hT2, hO⟩ := packOut_sound (vals := vals) I.params 0 hT1.mem (fun n => by rw [hT1.tm]; exact (Iv'.slot n).keep hT1.keeps) hlen (fun i v hi hp => by
      have := Iv'.pin (i, vals.getD i undef) (List.mem_map.2 ⟨i, by simpa using hp, rfl⟩)
      simp only [slot, Nat.zero_add]
      rw [this]
      simp [List.getD_eq_getElem?_getD, hi]) (AM.runL_run _ _ _ ho)
    have hT := hT1.trans2 hT2
    obtain ⟨M3, _⟩ := hT.mem.thaw hT.free.sub.2.own hT.free.sub.2.nl
    refine ⟨Iv'.df, _, results_run hres hrr, xs, F1, F2, inK G' (K1 ++ K2), rfl, hR.mono fun b hb => hb.imp id fun h => by simp [h], hO.mono fun b hb => hb.imp id fun h => by simp [h], hT.free.sub.1.nd, hT.free.sub.1.own, fun b hb => ⟨(M3.okl b hb).1, (M3.okl b hb).2.1, fun hm' => ?_⟩, Iv'.mem.fr⟩
    rcases hb with hb | hb
    · exact hT.free.sub.1.nok b hm' hb
    · exact (List.nodup_append.1 hT.free.nd).2.2 b hm' b hb rfl
  cases e with
  | normal => exact fin hk
  | ret => exact fin hk
  | exit id => cases hk

/-- THE READING IS TRUE. -/
theorem call_sound {L : Laid} (hT : TsOk P T) (hI : ∀ j, InstOk P (C j)) (hX : ∀ j, ExtOk P L (C j)) (hm : P.follows .mixedOrders = true) : ∀ n, Contract P C L (call T C n)
  | 0 => by intro j x r o w vals okc Fs h; cases h
  | n + 1 => by
    intro j x r o w vals okc Fs h hA hnd hF hok hon hbl
    exact inst_sound hT (call_sound hT hI hX hm n) (hI j) (hX j) hm h hA hnd hF hok hon hbl
end Go.Fw

/- What came in, opened. -/
namespace Go.Fw
open Go.ChangeShapes Go.WideShapes Go.RowKit
variable {P : Program} {W : World}

def up (n a : Nat) : Nat := (n + a - 1) / a * a
def Ty.al : Ty → Nat
  | .int k => k.bits / 8
  | .bool => 1
  | .str => 8
  | .err => 8
  | .unit => 1
  | .fn => 8
  | .pair a b => Nat.max a.al b.al
  | .arr _ t => t.al
  | .slc _ => 8
  | .ptr _ => 8
mutual
def Ty.gob : Ty → Nat
  | .int k => k.bits / 8
  | .bool => 1
  | .str => 16
  | .err => 16
  | .unit => 0
  | .fn => 8
  | .pair a b => up (b.lay a.gob) (Nat.max a.al b.al)
  | .arr n t => n * t.gob
  | .slc _ => 24
  | .ptr _ => 8
def Ty.lay : Ty → Nat → Nat
  | .pair a b, off => b.lay (up off a.al + a.gob)
  | _, off => off
end

/-- What is known of a value that came in. -/
def Dom : (t : Ty) → t.I → Prop
  | .int k, n => k.min ≤ (show Int from n) ∧ (show Int from n) ≤ k.max
  | .str, s => (show ByteArray from s).size ≤ 140737488351232
  | .err, _ => True
  | .slc t, l => (show List t.I from l).length * t.gob ≤ 140737488351232 ∧ ∀ x ∈ (show List t.I from l), Dom t x
  | .pair a b, x => Dom a x.1 ∧ Dom b x.2
  | .arr n t, l => (show List t.I from l).length = n ∧ ∀ x ∈ (show List t.I from l), Dom t x
  | .bool, _ => True
  | .unit, _ => True
  | .fn, _ => True
  | .ptr _, _ => True

/-- The fields that a chain of parts stands for: those that are left of a struct, or all of a type's. -/
def chainOf (P : Program) (sz : Nat) (o : Option (List Field × Nat)) (t : TypeId) : Option (List Field × Nat) := match o with
  | some x => some x
  | none => match P.underlying t with
    | some (.struct fs) => if P.cellsOf t = sz then some (fs.toList, 0) else none
    | _ => none

def readsB (P : Program) : Ty → Option (List Field × Nat) → TypeId → Bool
  | .int k, none, t => match P.underlying t with | some (.int k') => decide (k = k') | _ => false
  | .bool, none, t => match P.underlying t with | some .bool => true | _ => false
  | .str, none, t => match P.underlying t with | some .string => true | _ => false
  | .slc e, none, t => match P.underlying t with | some (.slice el) => readsB P e none el && decide (P.cellsOf el = e.size) && decide (P.bytesOf el = e.gob) && decide (0 < e.size) | _ => false
  | .arr n e, none, t => match P.underlying t with | some (.array n' el) => decide (n = n') && readsB P e none el && decide (P.cellsOf el = e.size) && decide (P.cellsOf t = n * e.size) | _ => false
  | .pair a b, o, t => match chainOf P (a.size + b.size) o t with
    | some (f :: r, off) => decide (f.offset = off) && decide (P.cellsOf f.type = a.size) && readsB P a none f.type && readsB P b (some (r, off + a.size)) t
    | _ => false
  | .unit, o, t => match chainOf P 0 o t with
    | some ([], _) => true
    | _ => false
  | _, _, _ => false

/-! ### mapM -/
theorem mapM_some {α β : Type} {f : α → Option β} : ∀ {l : List α} {ys : List β}, l.mapM f = some ys → ys.length = l.length ∧ ∀ (i : Nat) a, l[i]? = some a → ∃ y, ys[i]? = some y ∧ f a = some y
  | [], ys, h => by simp at h; subst h; simp
  | a :: l, ys, h => by
    rw [List.mapM_cons] at h
    simp only [Option.bind_eq_bind, Option.bind_eq_some_iff] at h
    obtain ⟨y, h1, ys', h2, h3⟩ := h
    simp at h3
    subst h3
    obtain ⟨hl, hi⟩ := mapM_some h2
    refine ⟨by simp [hl], fun i b hb => ?_⟩
    cases i with
    | zero => simp at hb; subst hb; exact ⟨y, rfl, h1⟩
    | succ i => simpa using hi i b (by simpa using hb)

theorem cells_of {base n : Nat} {a : Addr} {cs : List Value} (h : W.cells? base a n = some cs) : cs.length = n ∧ cellsAt W a cs := by
  unfold World.cells? at h
  split at h
  · obtain ⟨hl, hi⟩ := mapM_some h
    refine ⟨by simpa using hl, fun i v hv => ?_⟩
    have hlt : i < n := by have := (List.getElem?_eq_some_iff.1 hv).1; simpa [hl] using this
    obtain ⟨y, hy, hc⟩ := hi i i (by rw [List.getElem?_range hlt])
    rw [hv] at hy
    injection hy with hy
    rw [hc, hy]
  · cases h
theorem cellsAt_lt {a : Addr} {cs : List Value} (h : cellsAt W a cs) (h0 : cs ≠ []) : a.block < W.heap.size := by
  match cs, h0 with
  | v :: r, _ =>
    have := h 0 v rfl
    rw [add_zero] at this
    unfold World.cell? at this
    split at this
    · rename_i c t fr hb
      exact lt_of_block hb
    · cases this

/-- Elements, one behind the other. -/
theorem repL_build {ok : Nat → Prop} {t : Ty} {a : Addr} {sz : Nat} (hsz : sz = t.size) : ∀ (n k : Nat) {cell : Nat → List Value} {Q : t.I → Prop}, (∀ i, k ≤ i → i < k + n → cellsAt W (a.add (i * sz)) (cell i) ∧ ∃ x, Rep W ok t x (cell i) ∧ Q x) →
    ∃ l : List t.I, ∃ es, l.length = n ∧ RepL (Rep W ok t) l es ∧ cellsAt W (a.add (k * sz)) es ∧ ∀ x ∈ l, Q x
  | 0, k, _, _, _ => ⟨[], [], rfl, rfl, cellsAt_nil _ _, by simp⟩
  | n + 1, k, cell, Q, h => by
    obtain ⟨hc, x, hx, hq⟩ := h k (Nat.le_refl _) (by omega)
    obtain ⟨l, es, h1, h2, h3, h4⟩ := repL_build hsz n (k + 1) (cell := cell) (Q := Q) fun i hi hi' => h i (by omega) (by omega)
    refine ⟨x :: l, cell k ++ es, by simp [h1], ⟨_, _, rfl, hx, h2⟩, cellsAt_join hc ?_, fun y hy => ?_⟩
    · rw [add_add, Rep.len t hx, ← hsz, ← Nat.succ_mul]
      exact h3
    · rcases List.mem_cons.1 hy with rfl | hy
      · exact hq
      · exact h4 y hy

theorem repL_cut {ok : Nat → Prop} {t : Ty} {Q : t.I → Prop} : ∀ (n : Nat) (cs : List Value), cs.length = n * t.size → (∀ i, i < n → ∃ x, Rep W ok t x ((cs.drop (i * t.size)).take t.size) ∧ Q x) → ∃ l : List t.I, l.length = n ∧ RepL (Rep W ok t) l cs ∧ ∀ x ∈ l, Q x
  | 0, cs, hl, _ => ⟨[], rfl, List.length_eq_zero_iff.1 (by simpa using hl), by simp⟩
  | n + 1, cs, hl, h => by
    obtain ⟨x, hx, hq⟩ := h 0 (by omega)
    rw [Nat.zero_mul, List.drop_zero] at hx
    obtain ⟨l, h1, h2, h3⟩ := repL_cut (ok := ok) (t := t) (Q := Q) n (cs.drop t.size) (by rw [List.length_drop, hl, Nat.succ_mul]; omega) fun i hi => by
      obtain ⟨y, hy, hqy⟩ := h (i + 1) (by omega)
      rw [List.drop_drop]
      refine ⟨y, ?_, hqy⟩
      rwa [show t.size + i * t.size = (i + 1) * t.size by rw [Nat.succ_mul]; omega]
    refine ⟨x :: l, by simp [h1], ⟨_, _, (List.take_append_drop t.size cs).symm, hx, h2⟩, fun y hy => ?_⟩
    rcases List.mem_cons.1 hy with rfl | hy
    · exact hq
    · exact h3 y hy

theorem weightsAll_all {H : Type} {e : TypeId} : ∀ {l : List (DataW H)}, (DataW.weightsAll P e l).all (· ≤ reachBytes) = true → ∀ d ∈ l, (d.weights P e).all (· ≤ reachBytes) = true
  | [], _, d, hd => by simp at hd
  | d :: l, h, d', hd => by
    rw [DataW.weightsAll, List.all_append, Bool.and_eq_true] at h
    rcases List.mem_cons.1 hd with rfl | hd
    · exact h.1
    · exact weightsAll_all h.2 d' hd

section
variable {H : Type} {enc : TypeId × Value → H} {fuel : Nat} {t : TypeId} {cs : List Value} {x : DataW H × List MemPlace}
theorem trodI {k : IntKind} (ht : P.underlying t = some (.int k)) (h : DataW.trod enc P W 0 (fun _ => true) true fuel t cs = some x) : ∃ n, cs = [.int k n] ∧ (Lit.int k n).wf = true := by
  cases fuel with
  | zero => simp [DataW.trod] at h
  | succ m =>
    unfold DataW.trod at h
    rw [ht] at h
    split at h <;> simp_all
theorem trodB (ht : P.underlying t = some .bool) (h : DataW.trod enc P W 0 (fun _ => true) true fuel t cs = some x) : ∃ b, cs = [.bool b] := by
  cases fuel with
  | zero => simp [DataW.trod] at h
  | succ m =>
    unfold DataW.trod at h
    rw [ht] at h
    split at h <;> simp_all
theorem trodS (ht : P.underlying t = some .string) (h : DataW.trod enc P W 0 (fun _ => true) true fuel t cs = some x) : ∃ b, cs = [.string b] ∧ x.1 = .lit (.string b.data.toList) := by
  cases fuel with
  | zero => simp [DataW.trod] at h
  | succ m =>
    unfold DataW.trod at h
    rw [ht] at h
    split at h <;> simp_all
    obtain ⟨_, rfl⟩ := h
    rfl
theorem trodSt {fs : Array Field} (ht : P.underlying t = some (.struct fs)) (h : DataW.trod enc P W 0 (fun _ => true) true fuel t cs = some x) :
    ∃ n xs, fs.toList.mapM (fun f => DataW.trod enc P W 0 (fun _ => true) true n f.type ((cs.drop f.offset).take (P.cellsOf f.type))) = some xs ∧ cs.length = P.cellsOf t ∧ x.1 = .agg (xs.map (·.1)) := by
  cases fuel with
  | zero => simp [DataW.trod] at h
  | succ m =>
    unfold DataW.trod at h
    rw [ht] at h
    split at h <;> simp_all
    obtain ⟨h1, y, h2, rfl⟩ := h
    exact ⟨m, y, h2, rfl⟩
theorem trodSl {e : TypeId} (ht : P.underlying t = some (.slice e)) (h : DataW.trod enc P W 0 (fun _ => true) true fuel t cs = some x) :
    cs = [.slice none 0 0] ∨ ∃ a len cap n elems, cs = [.slice (some a) len cap] ∧ len ≤ cap ∧ (List.range len).mapM (fun i => (W.cells? 0 (a.add (i * P.cellsOf e)) (P.cellsOf e)).bind (DataW.trod enc P W 0 (fun _ => true) true n e)) = some elems ∧ ∃ rest, x.1 = .slice (elems.map (·.1)) rest := by
  cases fuel with
  | zero => simp [DataW.trod] at h
  | succ m =>
    unfold DataW.trod at h
    rw [ht] at h
    split at h <;> simp_all
    obtain ⟨h1, h2⟩ := h
    obtain ⟨y, h3, h4⟩ := Option.bind_eq_some_iff.1 h2
    obtain ⟨z, h5, rfl⟩ := Option.map_eq_some_iff.1 h4
    exact ⟨_, _, _, ⟨rfl, rfl, rfl⟩, h1.1, m, y, h3, _, rfl⟩
end

def inW (W : World) (b : Nat) : Prop := b < W.heap.size

/-- What opening a type's cells, or a struct's last fields, gives. -/
def Opens (H : Type) (enc : TypeId × Value → H) (P : Program) (W : World) (ty : Ty) (t : TypeId) : Option (List Field × Nat) → Prop
  | none => ∀ (fuel : Nat) (cs : List Value) (x : DataW H × List MemPlace), DataW.trod enc P W 0 (fun _ => true) true fuel t cs = some x → (x.1.weights P t).all (· ≤ reachBytes) = true → ∃ v : ty.I, Rep W (inW W) ty v cs ∧ Dom ty v
  | some (fs, off) => ∀ (n : Nat) (cs : List Value) (xs : List (DataW H × List MemPlace)), cs.length = off + ty.size → fs.mapM (fun f => DataW.trod enc P W 0 (fun _ => true) true n f.type ((cs.drop f.offset).take (P.cellsOf f.type))) = some xs →
      (DataW.weightsEach P (fs.map (·.type)) (xs.map (·.1))).all (· ≤ reachBytes) = true → ∃ v : ty.I, Rep W (inW W) ty v (cs.drop off) ∧ Dom ty v

theorem opens_struct {H : Type} {enc : TypeId × Value → H} {ty : Ty} {t : TypeId} {o : Option (List Field × Nat)} {x : List Field × Nat} (h : chainOf P ty.size o t = some x) (hx : Opens H enc P W ty t (some x)) : Opens H enc P W ty t o := by
  cases o with
  | some y =>
    simp only [chainOf, Option.some.injEq] at h
    rw [h]; exact hx
  | none =>
    simp only [chainOf] at h
    split at h
    · rename_i fs hu
      split at h
      · rename_i hsz
        simp only [Option.some.injEq] at h
        subst h
        intro fuel cs x hx' hw
        obtain ⟨n, xs, hm, hl, hd⟩ := trodSt hu hx'
        rw [hd] at hw
        simp only [DataW.weights, hu] at hw
        have := hx n cs xs (by rw [hl, hsz]; omega) hm hw
        simpa using this
      · cases h
    · cases h

theorem open_sound {H : Type} {enc : TypeId × Value → H} : ∀ (ty : Ty) (o : Option (List Field × Nat)) (t : TypeId), readsB P ty o t = true → Opens H enc P W ty t o := by
  intro ty
  induction ty with
  | int k =>
    intro o t h
    cases o with
    | some x => simp [readsB] at h
    | none =>
      simp only [readsB] at h
      split at h
      · rename_i k' hu
        have hk := of_decide_eq_true h
        subst hk
        intro fuel cs x hx _
        obtain ⟨n, rfl, hw⟩ := trodI hu hx
        simp only [Lit.wf, Bool.and_eq_true, decide_eq_true_eq] at hw
        exact ⟨n, rfl, hw⟩
      · cases h
  | bool =>
    intro o t h
    cases o with
    | some x => simp [readsB] at h
    | none =>
      simp only [readsB] at h
      split at h
      · rename_i hu
        intro fuel cs x hx _
        obtain ⟨b, rfl⟩ := trodB hu hx
        exact ⟨b, rfl, trivial⟩
      · cases h
  | str =>
    intro o t h
    cases o with
    | some x => simp [readsB] at h
    | none =>
      simp only [readsB] at h
      split at h
      · rename_i hu
        intro fuel cs x hx hw
        obtain ⟨b, rfl, hd⟩ := trodS hu hx
        rw [hd] at hw
        have hw : b.data.size ≤ reachBytes := by simpa [DataW.weights] using hw
        exact ⟨b, rfl, hw⟩
      · cases h
  | unit =>
    intro o t h
    simp only [readsB] at h
    split at h
    · rename_i off hc
      refine opens_struct (ty := .unit) hc fun n cs xs hl _ _ => ⟨(), ?_, trivial⟩
      show cs.drop off = []
      exact List.drop_of_length_le (by simp [Ty.size] at hl; omega)
    · cases h
  | fn => intro o t h; cases o <;> simp [readsB] at h
  | err => intro o t h; cases o <;> simp [readsB] at h
  | ptr t' _ => intro o t h; cases o <;> simp [readsB] at h
  | arr n e ih =>
    intro o t h
    cases o with
    | some x => simp [readsB] at h
    | none =>
      simp only [readsB] at h
      split at h
      · rename_i n' el hu
        simp only [Bool.and_eq_true, decide_eq_true_eq] at h
        obtain ⟨⟨⟨h0, h1⟩, h2⟩, h3⟩ := h
        subst h0
        intro fuel cs x hx hw
        obtain ⟨xs, m, _, rfl, hl, hxl, hi⟩ := DataW.trod_array hu hx
        simp only [DataW.weights, hu] at hw
        rw [h3] at hl
        obtain ⟨l, e1, e2, e3⟩ := repL_cut (W := W) (t := e) (Q := Dom e) n cs hl fun i hin => by
          have hin' : i < xs.length := by omega
          have ht := hi i hin
          rw [h2, List.getElem?_eq_getElem hin'] at ht
          exact ih none el h1 m _ xs[i] ht (weightsAll_all hw xs[i].1 (List.mem_map.2 ⟨xs[i], List.getElem_mem hin', rfl⟩))
        exact ⟨l, ⟨e1, e2⟩, e1, e3⟩
      · cases h
  | slc e ih =>
    intro o t h
    cases o with
    | some x => simp [readsB] at h
    | none =>
      simp only [readsB] at h
      split at h
      · rename_i el hu
        simp only [Bool.and_eq_true, decide_eq_true_eq] at h
        obtain ⟨⟨⟨h1, h2⟩, h3⟩, h4⟩ := h
        intro fuel cs x hx hw
        rcases trodSl hu hx with rfl | ⟨a, len, cap, n, elems, rfl, hlc, hm, rest, hd⟩
        · exact ⟨([] : List e.I), ⟨none, 0, rfl, Nat.le_refl _, .inl rfl⟩, by simp [Dom]⟩
        · rw [hd] at hw
          simp only [DataW.weights, hu, List.all_cons, List.all_append, Bool.and_eq_true, decide_eq_true_eq] at hw
          obtain ⟨hw1, hw2, _⟩ := hw
          obtain ⟨hel, hi⟩ := mapM_some hm
          have hel : elems.length = len := by simpa using hel
          have hcell : ∀ i, i < len → ∃ c, cellsAt W (a.add (i * e.size)) c ∧ ∃ v : e.I, Rep W (inW W) e v c ∧ Dom e v := by
            intro i hil
            obtain ⟨y, hy, hb⟩ := hi i i (by rw [List.getElem?_range hil])
            obtain ⟨c, hc, htr⟩ := Option.bind_eq_some_iff.1 hb
            obtain ⟨hcl, hca⟩ := cells_of hc
            have hwi := weightsAll_all hw2 y.1 (List.mem_map.2 ⟨y, List.mem_of_getElem? hy, rfl⟩)
            obtain ⟨v, hv⟩ := ih none el h1 n c y htr hwi
            rw [h2] at hca
            exact ⟨c, hca, v, hv⟩
          obtain ⟨cell, hcell⟩ : ∃ cell : Nat → List Value, ∀ i, i < len → cellsAt W (a.add (i * e.size)) (cell i) ∧ ∃ v : e.I, Rep W (inW W) e v (cell i) ∧ Dom e v :=
            ⟨fun i => if h : i < len then (hcell i h).choose else [], fun i hil => by simp only [dif_pos hil]; exact (hcell i hil).choose_spec⟩
          obtain ⟨l, es, hl, hr, hca, hq⟩ := repL_build (W := W) (a := a) (sz := e.size) (t := e) rfl len 0 (cell := cell) (Q := Dom e) (fun i _ hil => hcell i (by omega))
          rw [Nat.zero_mul, add_zero] at hca
          refine ⟨l, ⟨some a, cap, by rw [hl], by rw [hl]; exact hlc, ?_⟩, ?_, hq⟩
          · by_cases h0 : l = []
            · exact .inl h0
            · refine .inr ⟨a, es, rfl, ?_, ?_, hca, hr⟩ <;>
              · refine cellsAt_lt hca fun e0 => ?_
                have := RepL.len (fun _ _ h => Rep.len e h) hr
                rw [e0] at this
                have : l.length = 0 := by
                  rcases Nat.eq_zero_or_pos l.length with h | h
                  · exact h
                  · have := Nat.mul_pos h h4; simp_all
                exact h0 (List.length_eq_zero_iff.1 this)
          · rw [hl, ← hel]
            simp only [reachBytes, List.length_map] at hw1
            rw [h3] at hw1
            have : elems.length * e.gob ≤ (elems.length + rest.length) * e.gob := Nat.mul_le_mul_right _ (Nat.le_add_right _ _)
            omega
      · cases h
  | pair a b iha ihb =>
    intro o t h
    simp only [readsB] at h
    split at h
    · rename_i f r off hc
      simp only [Bool.and_eq_true, decide_eq_true_eq] at h
      obtain ⟨⟨⟨h1, h2⟩, h3⟩, h4⟩ := h
      refine opens_struct (ty := .pair a b) hc fun n cs xs hl hm hw => ?_
      rw [List.mapM_cons] at hm
      simp only [Option.bind_eq_bind, Option.bind_eq_some_iff] at hm
      obtain ⟨y, hy, ys, hys, hxs⟩ := hm
      simp at hxs
      subst hxs
      simp only [List.map_cons, DataW.weightsEach, List.all_append, Bool.and_eq_true] at hw
      obtain ⟨v1, r1, d1⟩ := iha none f.type h3 n _ y hy hw.1
      obtain ⟨v2, r2, d2⟩ := ihb (some (r, off + a.size)) t h4 n cs ys (by simp [Ty.size] at hl; omega) hys hw.2
      refine ⟨(v1, v2), ⟨_, _, ?_, r1, r2⟩, d1, d2⟩
      rw [h1, h2, ← List.drop_drop, List.take_append_drop]
    · cases h

end Go.Fw

/- From a reading of a law's function to the law's row. -/
namespace Go.Fw
open Go.ChangeShapes Go.WideShapes Go.RowKit
variable {P : Program} {T : Nat → Option TI} {C : Nat → Inst}

def DomA : (ps : List (Sh × Bool)) → (argTy ps).I → Prop
  | [], _ => True
  | (s, _) :: r, x => Dom s.ty x.1 ∧ DomA r x.2

def readsP (P : Program) : List (Sh × Bool) → List TypeId → Bool
  | [], [] => true
  | (.ro ty, _) :: r, t :: ts => readsB P ty none t && readsP P r ts
  | _, _ => false

theorem okWide_shape {W : World} {base : Nat} {ty : Ty} {t : TypeId} {v : Value} (h : readsB P ty none t = true) (hv : Value.okWide P W .any base t v) : v = ofCells ty.isAgg v.cells.toList := by
  cases ty with
  | int k =>
    simp only [readsB] at h
    split at h
    · rename_i k' hu
      obtain ⟨n, rfl⟩ := okWide_int hu hv
      rfl
    · cases h
  | bool =>
    simp only [readsB] at h
    split at h
    · rename_i hu
      obtain ⟨n, rfl⟩ := okWide_bool hu hv
      rfl
    · cases h
  | str =>
    simp only [readsB] at h
    split at h
    · rename_i hu
      obtain ⟨n, rfl⟩ := okWide_string hu hv
      rfl
    · cases h
  | slc e =>
    simp only [readsB] at h
    split at h
    · rename_i el hu
      obtain ⟨a, len, cap, rfl⟩ := okWide_slice hu hv
      rfl
    · cases h
  | arr n e =>
    simp only [readsB] at h
    split at h
    · rename_i n' el hu
      simp only [Value.okWide, hu] at hv
      obtain ⟨cs, rfl, _⟩ := hv
      rfl
    · cases h
  | pair a b =>
    simp only [readsB] at h
    split at h
    · rename_i f r off hc
      simp only [chainOf] at hc
      split at hc
      · rename_i fs hu
        simp only [Value.okWide, hu] at hv
        obtain ⟨cs, rfl, _⟩ := hv
        rfl
      · cases hc
    · cases h
  | unit =>
    simp only [readsB] at h
    split at h
    · rename_i off hc
      simp only [chainOf] at hc
      split at hc
      · rename_i fs hu
        simp only [Value.okWide, hu] at hv
        obtain ⟨cs, rfl, _⟩ := hv
        rfl
      · cases hc
    · cases h
  | fn => simp [readsB] at h
  | err => simp [readsB] at h
  | ptr t => simp [readsB] at h

theorem args_open {H : Type} {enc : TypeId × Value → H} {W : World} {base : Nat} : ∀ (ps : List (Sh × Bool)) (ts : List TypeId) (vs : List Value) (ds : List (DataW H)) (p : List MemPlace), readsP P ps ts = true → DataW.TrodAll enc P W 0 (fun _ => true) true ts vs ds p →
    (∀ (j : Nat) t v, ts[j]? = some t → vs[j]? = some v → Value.okWide P W .any base t v) → (DataW.weightsEach P ts ds).all (· ≤ reachBytes) = true → ∃ x : (argTy ps).I, ArgsR W (inW W) ps x vs [] ∧ DomA ps x
  | [], ts, vs, ds, p, hr, ht, hv, hw => by
    cases ts with
    | cons _ _ => simp [readsP] at hr
    | nil =>
      obtain ⟨rfl, rfl, rfl⟩ := trodAll_nil ht
      exact ⟨(), ⟨rfl, rfl⟩, trivial⟩
  | (s, b) :: r, ts, vs, ds, p, hr, ht, hv, hw => by
    cases ts with
    | nil => cases s <;> simp [readsP] at hr
    | cons t ts =>
      cases s with
      | ro ty =>
        simp only [readsP, Bool.and_eq_true] at hr
        obtain ⟨v, vs', d, ds', p1, p2, rfl, rfl, rfl, h1, h2⟩ := trodAll_cons ht
        rw [DataW.weightsEach, List.all_append, Bool.and_eq_true] at hw
        obtain ⟨fuel, hf⟩ := h1
        obtain ⟨y, hy, hd⟩ := open_sound (enc := enc) ty none t hr.1 fuel _ _ hf hw.1
        obtain ⟨x, hx, hdx⟩ := args_open r ts vs' ds' p2 hr.2 h2 (fun j t v h h' => hv (j + 1) t v (by simpa using h) (by simpa using h')) hw.2
        refine ⟨(y, x), ⟨v.cells.toList, vs', [], [], ?_, rfl, ?_, hx⟩, hd, hdx⟩
        · rw [← show v = ofCells (Sh.ro ty).agg v.cells.toList from okWide_shape hr.1 (hv 0 t v rfl rfl)]
        · simp only [ShR]
          exact ⟨trivial, hy⟩
      | nl => simp [readsP] at hr
      | row d t => simp [readsP] at hr
      | pin d t => simp [readsP] at hr
      | box s => simp [readsP] at hr
      | pr a b => simp [readsP] at hr
      | clo g a b => simp [readsP] at hr
      | bld a b => simp [readsP] at hr

theorem trodAll_below {H : Type} {enc : TypeId × Value → H} {W W' : World} (hl : laidOutB P = true) (hb : Below W.heap.size W W') : ∀ {ts : List TypeId} {vs : List Value} {ds : List (DataW H)} {p : List MemPlace}, (∀ t ∈ ts, P.readableRec t = true ∧ t < P.types.size) → (∀ x ∈ p, x.block < W.heap.size) → DataW.TrodAll enc P W 0 (fun _ => true) true ts vs ds p →
    DataW.TrodAll enc P W' 0 (fun b => decide (b < W.heap.size)) true ts vs ds p
  | [], _, _, _, _, _, h => by
    obtain ⟨rfl, rfl, rfl⟩ := trodAll_nil h
    rfl
  | t :: ts, _, _, _, ht, hlt, h => by
    obtain ⟨v, vs', d, ds', p1, p2, rfl, rfl, rfl, h1, h2⟩ := trodAll_cons h
    have h0 := ht t (by simp)
    exact ⟨p1, p2, Below.trod hl h0.1 h0.2 h1 hb (fun x hx => hlt x (by simp [hx])), trodAll_below hl hb (fun t ht' => ht t (by simp [ht'])) (fun x hx => hlt x (by simp [hx])) h2, rfl⟩

theorem enters_calls {I : Inst} (hI : InstOk P I) (hne : I.ext = none) {vals : Array Value} {w : World} {R : Value → World → Prop} (h : Enters P I.f vals w R) : Calls P I.f vals w (fun e w' => match e with | .returned v => R v w' | _ => False) := by
  obtain ⟨fn, hf, hb, hres, hnt, hname⟩ := hI.ex hne
  have hcall : (callFunc I.f vals).run P w = .ok (.enter I.f vals) w := by
    have hname' : fn.name ≠ "runtime.NumGoroutine" := by simpa using hname
    simp [callFunc, hf, hb, hname']
  unfold Enters at h
  rw [hcall] at h
  exact h

def IsTrue : (rs : List Sh) → (resTy rs).I → Prop
  | [.ro .bool], x => x.1 = true
  | _, _ => False

theorem res_true {w : World} {ok : Nat → Prop} : ∀ {rs : List Sh} {r : (resTy rs).I} {xs : List Value} {F : List Nat}, IsTrue rs r → ResR w ok rs r xs F → resV xs = .bool true := by
  intro rs r xs F ht hR
  unfold IsTrue at ht
  split at ht
  · obtain ⟨c, vs', F1, F2, rfl, _, hS, hvs, _⟩ := hR
    subst hvs
    simp only [ShR, Rep] at hS
    rw [hS.2, ht]
    rfl
  · exact ht.elim

theorem KeptBut.below {w w' : World} (h : KeptBut (· ∈ ([] : List Nat)) w w') : Below w.heap.size w w' :=
  ⟨h.os, h.tape, h.output, h.size, fun k hk => h.heap k hk (by simp)⟩

theorem law_callsX (hT : TsOk P T) (hI : ∀ j, InstOk P (C j)) (hm : P.follows .mixedOrders = true) (hlaid : laidOutB P = true) {j : Nat} (hroot : (C j).ext = none) {f : FuncId} {fn : Func} (hfj : (C j).f = f) {tb : TypeId} (hrt : fn.resultTypes = #[tb]) (hub : P.underlying tb = some .bool)
    (hreads : readsP P (C j).params fn.params.toList = true) (hrec : ∀ t ∈ fn.params.toList, P.readableRec t = true ∧ t < P.types.size) {s : ChangeSpec} (hvars : s.vars = [])
    (hspec : ∀ (H : Type) (ds : List (DataW H)), ds.length = fn.params.size → s.fn H ds = { results := [.lit (.bool true)], args := ds })
    (h : ∀ x, DomA (C j).params x → ∃ n r o, call T C n j x = some (r, o) ∧ IsTrue (C j).res r)
    {H : Type} {enc : TypeId × Value → H} {W : World} {base : Nat} {args : Array Value} {ds gs : List (DataW H)} {before : List MemPlace}
    (hval : ∀ (i : Nat) t v, fn.params[i]? = some t → args[i]? = some v → Value.okWide P W .any base t v)
    (hW : DataW.Whole enc P fn.params.toList s.vars false W args.toList ds gs before)
    (hw : (DataW.weightsEach P (fn.params.toList ++ s.plain.varTypes P) (ds ++ gs)).all (· ≤ reachBytes) = true) {bl : Nat → Prop} (hbl : ∀ b, bl b → b < W.heap.size) (hX : ∀ j, ExtOk P ⟨W, bl⟩ (C j)) :
    Calls P f args W fun e W' => ∃ v, e = .returned v ∧ s.post enc P fn false true false false W args v W' := by
  have hW' := hW
  obtain ⟨p, q, hA, hV, rfl, _, _⟩ := hW
  rw [hvars] at hV
  obtain ⟨rfl, rfl⟩ := trodVars_none hV
  have hvt : s.plain.varTypes P = [] := by simp [DataSpec.varTypes, ChangeSpec.plain, hvars]
  rw [hvt, List.append_nil, List.append_nil] at hw
  simp only [List.append_nil] at hW'
  have hlt : ∀ x ∈ p, x.block < W.heap.size := fun x hx => by simpa using hW'.lt x hx
  obtain ⟨x, hx, hd⟩ := args_open (C j).params fn.params.toList args.toList ds p hreads hA (fun i t v h1 h2 => hval i t v (by simpa using h1) (by simpa using h2)) hw
  obtain ⟨n, r, o, hcall, htrue⟩ := h x hd
  have hent := call_sound hT hI hX hm n j x r o W args.toList (inW W) [] hcall hx (by simp) (by simp) (fun b hb => hb) ⟨KeptBut.refl _ _, hbl⟩ (by simp)
  have hcalls := enters_calls (hI j) hroot hent
  rw [hfj] at hcalls
  have hlen : ds.length = fn.params.size := by
    have : ∀ {ts : List TypeId} {vs : List Value} {ds : List (DataW H)} {p : List MemPlace}, DataW.TrodAll enc P W 0 (fun _ => true) true ts vs ds p → ds.length = ts.length := by
      intro ts
      induction ts with
      | nil => intro vs ds p h; obtain ⟨_, rfl, _⟩ := trodAll_nil h; rfl
      | cons t ts ih =>
        intro vs ds p h
        obtain ⟨v, vs', d, ds', p1, p2, rfl, rfl, rfl, _, h2⟩ := trodAll_cons h
        simp [ih h2]
    have := this hA
    simpa using this
  refine Calls.mono (by simpa using hcalls) fun e W1 he => ?_
  cases e with
  | panicked _ => exact he.elim
  | outgrown => exact he.elim
  | returned v =>
    obtain ⟨xs, Fr, Fo, ok', rfl, hR, _, _, _, _, hk⟩ := he
    have hb := hk.below
    have hv := res_true htrue hR
    refine ⟨_, rfl, _, _, _, [], p, [], hW', ?_, ?_, ?_, hb.frame _, fun h => by cases h⟩
    · rw [List.append_nil, hspec H ds hlen, hrt, hv]
      exact trodAll_mk1 (shut_bool hub true)
    · rw [List.append_nil, hspec H ds hlen]
      exact trodAll_below hlaid hb hrec hlt hA
    · rw [hvars]
      rw [List.append_nil, hspec H ds hlen]
      rfl

theorem extOk_none {L : Laid} {I : Inst} (h : I.ext = none) : ExtOk P L I := ⟨fun f hf => by rw [h] at hf; cases hf⟩
/-- The same where no library's function is told apart. -/
theorem law_calls (hT : TsOk P T) (hI : ∀ j, InstOk P (C j)) (hne : ∀ j, (C j).ext = none) (hm : P.follows .mixedOrders = true) (hlaid : laidOutB P = true) {j : Nat} {f : FuncId} {fn : Func} (hfj : (C j).f = f) {tb : TypeId} (hrt : fn.resultTypes = #[tb]) (hub : P.underlying tb = some .bool)
    (hreads : readsP P (C j).params fn.params.toList = true) (hrec : ∀ t ∈ fn.params.toList, P.readableRec t = true ∧ t < P.types.size) {s : ChangeSpec} (hvars : s.vars = [])
    (hspec : ∀ (H : Type) (ds : List (DataW H)), ds.length = fn.params.size → s.fn H ds = { results := [.lit (.bool true)], args := ds })
    (h : ∀ x, DomA (C j).params x → ∃ n r o, call T C n j x = some (r, o) ∧ IsTrue (C j).res r)
    {H : Type} {enc : TypeId × Value → H} {W : World} {base : Nat} {args : Array Value} {ds gs : List (DataW H)} {before : List MemPlace}
    (hval : ∀ (i : Nat) t v, fn.params[i]? = some t → args[i]? = some v → Value.okWide P W .any base t v)
    (hW : DataW.Whole enc P fn.params.toList s.vars false W args.toList ds gs before)
    (hw : (DataW.weightsEach P (fn.params.toList ++ s.plain.varTypes P) (ds ++ gs)).all (· ≤ reachBytes) = true) :
    Calls P f args W fun e W' => ∃ v, e = .returned v ∧ s.post enc P fn false true false false W args v W' :=
  law_callsX hT hI hm hlaid (hne j) hfj hrt hub hreads hrec hvars hspec h hval hW hw (bl := fun _ => False) (fun _ h => h.elim) fun j => extOk_none (hne j)
end Go.Fw

/- Tables of types and of functions, checked by the kernel. -/
namespace Go.Fw
variable {P : Program}

def find {α : Type} (d : α) : List (Nat × α) → Nat → α
  | [], _ => d
  | (k, v) :: r, n => match Nat.beq n k with
    | true => v
    | false => find d r n
theorem find_all {α : Type} {p : α → Prop} {d : α} (hd : p d) : ∀ {l : List (Nat × α)}, (∀ x ∈ l, p x.2) → ∀ n, p (find d l n)
  | [], _, _ => hd
  | (k, v) :: r, h, n => by
    unfold find
    split
    · exact h (k, v) (by simp)
    · exact find_all hd (fun x hx => h x (by simp [hx])) n
theorem find_mem {α : Type} {l : List (Nat × α)} {n : Nat} {i : α} (h : find none (l.map fun x => (x.1, some x.2)) n = some i) : (n, i) ∈ l := by
  induction l with
  | nil => cases h
  | cons x r ih =>
    simp only [List.map_cons, find] at h
    split at h
    · rename_i hb
      injection h with h
      have : n = x.1 := Nat.eq_of_beq_eq_true hb
      subst this; subst h
      simp
    · exact List.mem_cons_of_mem _ (ih h)

def findT (l : List (Nat × TI)) (n : Nat) : Option TI := match l with
  | [] => none
  | (k, v) :: r => match Nat.beq n k with
    | true => some v
    | false => findT r n
theorem findT_mem : ∀ {l : List (Nat × TI)} {n : Nat} {i : TI}, findT l n = some i → (n, i) ∈ l
  | [], _, _, h => by cases h
  | (k, v) :: r, n, i, h => by
    simp only [findT] at h
    split at h
    · rename_i hb
      injection h with h
      have : n = k := Nat.eq_of_beq_eq_true hb
      subst this; subst h
      simp
    · exact List.mem_cons_of_mem _ (findT_mem h)

def cellB : Value → Value → Bool
  | .int k n, .int k' n' => decide (k = k') && decide (n = n')
  | .bool b, .bool b' => b == b'
  | .string s, .string s' => s.data.isEmpty && s'.data.isEmpty
  | .slice none 0 0, .slice none 0 0 => true
  | .pointer none, .pointer none => true
  | .nilFunc, .nilFunc => true
  | .nilIface, .nilIface => true
  | _, _ => false
theorem cellB_sound : ∀ {x y : Value}, cellB x y = true → x = y := by
  intro x y h
  unfold cellB at h
  split at h
  · simp only [Bool.and_eq_true, decide_eq_true_eq] at h; rw [h.1, h.2]
  · rw [eq_of_beq h]
  · rename_i s s'
    simp only [Bool.and_eq_true, Array.isEmpty_iff] at h
    cases s; cases s'
    simp_all
  · rfl
  · rfl
  · rfl
  · rfl
  · cases h
def cellsB : List Value → List Value → Bool
  | [], [] => true
  | x :: r, y :: s => cellB x y && cellsB r s
  | _, _ => false
theorem cellsB_sound : ∀ {x y : List Value}, cellsB x y = true → x = y
  | [], [], _ => rfl
  | x :: r, y :: s, h => by
    simp only [cellsB, Bool.and_eq_true] at h
    rw [cellB_sound h.1, cellsB_sound h.2]
  | [], _ :: _, h => by cases h
  | _ :: _, [], h => by cases h

def fieldsB (P : Program) : List Field → Ty → Nat → Bool
  | [], .unit, _ => true
  | f :: r, .pair a b, off => decide (f.offset = off) && (match P.info? f.type with | some i => decide (i.size = a.size) | none => false) && (match P.underlying f.type with | some d => aggD d == a.isAgg | none => false) && fieldsB P r b (off + a.size)
  | _, _, _ => false
theorem fieldsB_sound : ∀ {fs : List Field} {t : Ty} {off : Nat}, fieldsB P fs t off = true → FieldsOk P fs t off
  | [], t, off, h => by cases t <;> simp [fieldsB] at h; trivial
  | f :: r, t, off, h => by
    cases t <;> simp only [fieldsB] at h <;> try (cases h; done)
    simp only [Bool.and_eq_true, decide_eq_true_eq] at h
    obtain ⟨⟨⟨h1, h2⟩, h3⟩, h4⟩ := h
    refine ⟨h1, ?_, ?_, fieldsB_sound h4⟩
    · split at h2
      · rename_i i hi; exact ⟨i, hi, of_decide_eq_true h2⟩
      · cases h2
    · split at h3
      · rename_i d hd
        rw [run_isAgg_of hd, eq_of_beq h3]
      · cases h3

def descB (P : Program) (T : Nat → Option TI) (i : TI) (d : TypeDesc) : Bool := match i.ty, d with
  | .int k, .int k' => decide (k = k')
  | .bool, .bool => true
  | .str, .string => true
  | .err, .interface _ => true
  | .fn, .func _ _ _ => true
  | .ptr _, .pointer _ => true
  | .slc e, .slice el => decide (el = i.elem) && (match T i.elem with | some j => decide (j.ty = e) | none => false)
  | .arr n e, .array n' el => decide (n' = n) && decide (el = i.elem) && (match T i.elem with | some j => decide (j.ty = e) | none => false)
  | .unit, .struct fs => fieldsB P fs.toList .unit 0
  | .pair a b, .struct fs => fieldsB P fs.toList (.pair a b) 0
  | _, _ => false
theorem descB_sound {T : Nat → Option TI} {i : TI} {d : TypeDesc} (h : descB P T i d = true) : DescOk P T i i.ty d := by
  unfold descB at h
  split at h <;> rename_i hty <;> try rw [hty]
  · rw [of_decide_eq_true h]; rfl
  · rfl
  · rfl
  · exact ⟨_, rfl⟩
  · exact ⟨_, _, _, rfl⟩
  · exact ⟨_, rfl⟩
  · simp only [Bool.and_eq_true, decide_eq_true_eq] at h
    obtain ⟨h1, h2⟩ := h
    split at h2
    · rename_i j hj; exact ⟨by rw [h1], j, hj, of_decide_eq_true h2⟩
    · cases h2
  · simp only [Bool.and_eq_true, decide_eq_true_eq] at h
    obtain ⟨⟨h0, h1⟩, h2⟩ := h
    split at h2
    · rename_i j hj; exact ⟨by rw [h0, h1], j, hj, of_decide_eq_true h2⟩
    · cases h2
  · exact ⟨_, rfl, fieldsB_sound h⟩
  · exact ⟨_, rfl, fieldsB_sound h⟩
  · cases h

def scaDB (d : Option TypeDesc) (t : Ty) : Bool := match t, d with
  | .int k, some (.int k') => decide (k' = k)
  | .bool, some .bool => true
  | _, _ => false
theorem scaDB_sound {d : Option TypeDesc} {t : Ty} (h : scaDB d t = true) : ∃ s, scaD t = some s ∧ d = some s := by
  unfold scaDB at h
  split at h
  · rw [of_decide_eq_true h]; exact ⟨_, rfl, rfl⟩
  · exact ⟨_, rfl, rfl⟩
  · cases h
def fldEqB (P : Program) (t : TypeId) (a : Ty) : Bool := match a with
  | .arr m u => match P.underlying t with
    | some (.array m' el) => decide (m' = m) && scaDB (P.underlying el) u && (match P.info? el with | some fe => decide (fe.size = 1) | none => false)
    | _ => false
  | a => scaDB (P.underlying t) a
theorem fldEqB_sound {t : TypeId} {a : Ty} (h : fldEqB P t a = true) : FldEq P t a := by
  unfold fldEqB at h
  split at h
  · rename_i m u
    split at h
    · rename_i m' el hu
      simp only [Bool.and_eq_true, decide_eq_true_eq] at h
      obtain ⟨⟨h1, h2⟩, h3⟩ := h
      subst h1
      obtain ⟨s, hs, he⟩ := scaDB_sound h2
      split at h3
      · rename_i fe hfe
        exact ⟨el, s, fe, hu, hs, he, hfe, of_decide_eq_true h3⟩
      · cases h3
    · cases h
  · rename_i hne
    have := scaDB_sound h
    unfold FldEq
    split
    · rename_i m u; exact absurd rfl (hne m u)
    · exact this
def fieldsEqB (P : Program) : List Field → Ty → Bool
  | [], .unit => true
  | f :: r, .pair a b => !(f.name == "_") && fldEqB P f.type a && fieldsEqB P r b
  | _, _ => false
theorem fieldsEqB_sound : ∀ {fs : List Field} {t : Ty}, fieldsEqB P fs t = true → FieldsEq P fs t
  | [], .unit, _ => trivial
  | f :: r, .pair a b, h => by
    simp only [fieldsEqB, Bool.and_eq_true, Bool.not_eq_true', beq_eq_false_iff_ne] at h
    exact ⟨h.1.1, fldEqB_sound h.1.2, fieldsEqB_sound h.2⟩
  | [], .int _, h => by cases h
  | [], .bool, h => by cases h
  | [], .str, h => by cases h
  | [], .err, h => by cases h
  | [], .fn, h => by cases h
  | [], .pair _ _, h => by cases h
  | [], .arr _ _, h => by cases h
  | [], .slc _, h => by cases h
  | [], .ptr _, h => by cases h
  | _ :: _, .unit, h => by cases h
  | _ :: _, .int _, h => by cases h
  | _ :: _, .bool, h => by cases h
  | _ :: _, .str, h => by cases h
  | _ :: _, .err, h => by cases h
  | _ :: _, .fn, h => by cases h
  | _ :: _, .arr _ _, h => by cases h
  | _ :: _, .slc _, h => by cases h
  | _ :: _, .ptr _, h => by cases h
def eqOkB (P : Program) (t : TypeId) (i : TI) : Bool := !(P.eqGuardType P.depth t) && (match i.ty with
  | .arr _ e => scaDB (P.underlying i.elem) e
  | .pair a b => !(P.stoodInHeld t) && fieldsEqB P (P.fieldsOf t).toList (.pair a b)
  | _ => false)
theorem eqOkB_sound {t : TypeId} {i : TI} (h : eqOkB P t i = true) : EqOk P t i := by
  simp only [eqOkB, Bool.and_eq_true, Bool.not_eq_true'] at h
  refine ⟨h.1, ?_⟩
  have h2 := h.2
  cases hty : i.ty <;> rw [hty] at h2 <;> first | cases h2 | skip
  case pair a b =>
    simp only [Bool.and_eq_true, Bool.not_eq_true'] at h2
    exact ⟨h2.1, fieldsEqB_sound h2.2⟩
  case arr n e => exact scaDB_sound h2
def tOkB (P : Program) (T : Nat → Option TI) (t : TypeId) (i : TI) : Bool :=
  (match P.underlying t with | some d => descB P T i d | none => false) &&
  (match P.info? t with | some f => decide (f.size = i.ty.size) && decide (f.bytes = i.bytes) && (match f.zero with | some z => cellsB z.cells.toList (zeroCells_ i.ty) | none => false) | none => false) &&
  (!i.ty.eqT || eqOkB P t i)
theorem tOkB_sound {T : Nat → Option TI} {t : TypeId} {i : TI} (h : tOkB P T t i = true) : TOk P T t i := by
  simp only [tOkB, Bool.and_eq_true] at h
  obtain ⟨⟨h1, h2⟩, h6⟩ := h
  refine ⟨?_, ?_, fun he => eqOkB_sound (by rw [he] at h6; simpa using h6)⟩
  · split at h1
    · rename_i d hd; exact ⟨d, hd, descB_sound h1⟩
    · cases h1
  · split at h2
    · rename_i f hf
      simp only [Bool.and_eq_true, decide_eq_true_eq] at h2
      obtain ⟨⟨h3, h4⟩, h5⟩ := h2
      split at h5
      · rename_i z hz; exact ⟨f, hf, h3, h4, z, hz, cellsB_sound h5⟩
      · cases h5
    · cases h2
def tsOkB (P : Program) (l : List (Nat × TI)) : Bool := l.all fun x => tOkB P (findT l) x.1 x.2
theorem tsOkB_sound {l : List (Nat × TI)} (h : tsOkB P l = true) : TsOk P (findT l) := by
  intro t i hi
  exact tOkB_sound (List.all_eq_true.1 h _ (findT_mem hi))

def bd (o : Func) : Code := o.body.getD .skip
theorem instOk_of {I : Inst} {fn : Func} (h1 : P.funcs[I.f]? = some fn) (h2 : fn.body = some I.code) (h3 : fn.results = I.slots.toArray) (h4 : fn.ntmps = I.nt) (h5 : (fn.name == "runtime.NumGoroutine") = false) : InstOk P I := ⟨fun _ => ⟨fn, h1, h2, h3, h4, h5⟩⟩
theorem instOk_ext {I : Inst} (h : I.ext.isSome = true) : InstOk P I := ⟨fun e => by rw [e] at h; cases h⟩
theorem find_or {α : Type} {d : α} : ∀ {l : List (Nat × α)} {n : Nat}, find d l n = d ∨ ∃ x ∈ l, x.1 = n ∧ find d l n = x.2
  | [], _ => .inl rfl
  | (k, v) :: r, n => by
    unfold find
    split
    · rename_i hb
      exact .inr ⟨(k, v), by simp, (Nat.eq_of_beq_eq_true hb).symm, rfl⟩
    · rcases find_or (d := d) (l := r) (n := n) with h | ⟨x, hx, h1, h2⟩
      · exact .inl h
      · exact .inr ⟨x, by simp [hx], h1, h2⟩
theorem noExt_of {C : Nat → Inst} (d : Inst) (l : List (Nat × Inst)) (hC : C = find d l) (hd : d.ext.isNone = true) (h : (l.all fun x => x.2.ext.isNone) = true) (n : Nat) : (C n).ext = none := by
  subst hC
  rcases find_or (d := d) (l := l) (n := n) with e | ⟨x, hx, _, e⟩
  · rw [e]; simpa using hd
  · rw [e]; simpa using List.all_eq_true.1 h x hx
theorem exts_of {L : Laid} {C : Nat → Inst} (d : Inst) (l : List (Nat × Inst)) (es : List Nat) (hC : C = find d l) (hd : d.ext.isNone = true) (h : (l.all fun x => es.contains x.1 || x.2.ext.isNone) = true) (hx : ∀ e ∈ es, ExtOk P L (C e)) (n : Nat) : ExtOk P L (C n) := by
  subst hC
  by_cases hn : n ∈ es
  · exact hx n hn
  rcases find_or (d := d) (l := l) (n := n) with e | ⟨x, hm, h1, e⟩
  · rw [e]; exact extOk_none (by simpa using hd)
  · rw [e]
    have := List.all_eq_true.1 h x hm
    simp only [Bool.or_eq_true, List.contains_iff_mem] at this
    rcases this with h2 | h2
    · rw [h1] at h2; exact absurd h2 hn
    · exact extOk_none (by simpa using h2)
end Go.Fw

/- Sooner or later: what a reading comes to with fuel enough. -/
namespace Go.Fw
def wr (k : IntKind) (x : Int) : Int := k.wrap x
def chk {α : Type} (c : Bool) (x : Option α) : Option α := (if c = true then some () else none).bind fun _ => x

def Evt {α : Type} (f : Nat → Option α) (y : α) : Prop := ∃ N, ∀ n, N ≤ n → f n = some y

section
variable {α β σ : Type}
theorem Evt.some (y : α) : Evt (fun _ => some y) y := ⟨0, fun _ _ => rfl⟩
theorem Evt.of_eq {f g : Nat → Option α} {y : α} (h : Evt f y) (e : ∀ n, g n = f n) : Evt g y := by
  obtain ⟨N, hN⟩ := h
  exact ⟨N, fun n hn => by rw [e, hN n hn]⟩
theorem Evt.bind {f : Nat → Option β} {g : Nat → β → Option α} {x : β} {y : α} (h : Evt f x) (k : Evt (fun n => g n x) y) : Evt (fun n => (f n).bind (g n)) y := by
  obtain ⟨N, hN⟩ := h
  obtain ⟨M, hM⟩ := k
  exact ⟨N + M, fun n hn => by show (f n).bind (g n) = _; rw [hN n (by omega)]; exact hM n (by omega)⟩
/-- A value at hand. -/
theorem Evt.at {o : Option β} {g : Nat → β → Option α} {x : β} {y : α} (h : o = .some x) (k : Evt (fun n => g n x) y) : Evt (fun n => o.bind (g n)) y := by
  subst h; exact k
theorem Evt.chk {c : Bool} {f : Nat → Option α} {y : α} (h : c = true) (k : Evt f y) : Evt (fun n => Fw.chk c (f n)) y := by
  subst h; exact k
theorem Evt.both {f g : Nat → Option α} {y : α} (h : Evt f y) (k : Evt g y) : Evt (fun n => Fw.both (f n) (g n)) y := by
  obtain ⟨N, hN⟩ := h
  obtain ⟨M, hM⟩ := k
  exact ⟨N + M, fun n hn => by show Fw.both (f n) (g n) = _; rw [hN n (by omega), hM n (by omega)]; exact both_same _⟩
theorem Evt.yes {c : Prop} [Decidable c] {f g : Nat → Option α} {y : α} (h : c) (k : Evt f y) : Evt (fun n => if c then f n else g n) y := by
  obtain ⟨N, hN⟩ := k
  exact ⟨N, fun n hn => by show (if c then f n else g n) = _; rw [if_pos h]; exact hN n hn⟩
theorem Evt.no {c : Prop} [Decidable c] {f g : Nat → Option α} {y : α} (h : ¬ c) (k : Evt g y) : Evt (fun n => if c then f n else g n) y := by
  obtain ⟨N, hN⟩ := k
  exact ⟨N, fun n hn => by show (if c then f n else g n) = _; rw [if_neg h]; exact hN n hn⟩
theorem Evt.ite {c : Prop} [Decidable c] {f g : Nat → Option α} {y : α} (h : c → Evt f y) (k : ¬ c → Evt g y) : Evt (fun n => if c then f n else g n) y := by
  by_cases hc : c
  · exact Evt.yes hc (h hc)
  · exact Evt.no hc (k hc)

/-- One round: it ends with y, or comes back with another state. -/
def Round (f : Nat → (σ → Option α) → Option α) (y : α) (P : σ → Prop) : Prop :=
  (∃ N, ∀ n, N ≤ n → ∀ ag, f n ag = .some y) ∨ ∃ x', P x' ∧ ∃ N, ∀ n, N ≤ n → ∀ ag, f n ag = ag x'

theorem loop_evt {f : Nat → σ → (σ → Option α) → Option α} (I : σ → Prop) (μ : σ → Nat) {y : α} {x : σ} (h : I x) (step : ∀ x, I x → Round (fun n ag => f n x ag) y (fun x' => I x' ∧ μ x' < μ x)) : Evt (fun n => loopK (f n) n x) y := by
  have key : ∀ m x, I x → μ x ≤ m → ∃ N, ∀ n, N ≤ n → ∀ k, m < k → loopK (f n) k x = .some y := by
    intro m
    induction m with
    | zero =>
      intro x hx hm
      rcases step x hx with ⟨N, hN⟩ | ⟨x', ⟨_, h2⟩, _⟩
      · refine ⟨N, fun n hn k hk => ?_⟩
        obtain ⟨k, rfl⟩ : ∃ j, k = j + 1 := ⟨k - 1, by omega⟩
        exact hN n hn _
      · omega
    | succ m ih =>
      intro x hx hm
      rcases step x hx with ⟨N, hN⟩ | ⟨x', ⟨h1, h2⟩, N, hN⟩
      · refine ⟨N, fun n hn k hk => ?_⟩
        obtain ⟨k, rfl⟩ : ∃ j, k = j + 1 := ⟨k - 1, by omega⟩
        exact hN n hn _
      · obtain ⟨M, hM⟩ := ih x' h1 (by omega)
        refine ⟨N + M, fun n hn k hk => ?_⟩
        obtain ⟨k, rfl⟩ : ∃ j, k = j + 1 := ⟨k - 1, by omega⟩
        exact (hN n (by omega) (loopK (f n) k)).trans (hM n (by omega) k (by omega))
  obtain ⟨N, hN⟩ := key (μ x) x h (Nat.le_refl _)
  exact ⟨N + μ x + 1, fun n hn => hN n (by omega) n (by omega)⟩

variable {P : σ → Prop}
theorem Round.again (x' : σ) {y : α} (h : P x') : Round (fun _ ag => ag x') y P := .inr ⟨x', h, 0, fun _ _ _ => rfl⟩
theorem Round.done {f : Nat → Option α} {y : α} (h : Evt f y) : Round (fun n _ => f n) y P := by
  obtain ⟨N, hN⟩ := h
  exact .inl ⟨N, fun n hn _ => hN n hn⟩
theorem Round.bind {f : Nat → Option β} {g : Nat → (σ → Option α) → β → Option α} {v : β} {y : α} (h : Evt f v) (k : Round (fun n ag => g n ag v) y P) : Round (fun n ag => (f n).bind (g n ag)) y P := by
  obtain ⟨N, hN⟩ := h
  rcases k with ⟨M, hM⟩ | ⟨x', hx', M, hM⟩
  · exact .inl ⟨N + M, fun n hn ag => by show (f n).bind (g n ag) = _; rw [hN n (by omega)]; exact hM n (by omega) ag⟩
  · exact .inr ⟨x', hx', N + M, fun n hn ag => by show (f n).bind (g n ag) = _; rw [hN n (by omega)]; exact hM n (by omega) ag⟩
theorem Round.at {o : Option β} {g : Nat → (σ → Option α) → β → Option α} {v : β} {y : α} (h : o = .some v) (k : Round (fun n ag => g n ag v) y P) : Round (fun n ag => o.bind (g n ag)) y P := by
  subst h; exact k
theorem Round.chk {c : Bool} {f : Nat → (σ → Option α) → Option α} {y : α} (h : c = true) (k : Round f y P) : Round (fun n ag => Fw.chk c (f n ag)) y P := by
  subst h; exact k
theorem Round.yes {c : Prop} [Decidable c] {f g : Nat → (σ → Option α) → Option α} {y : α} (h : c) (k : Round f y P) : Round (fun n ag => if c then f n ag else g n ag) y P := by
  have : (fun n ag => if c then f n ag else g n ag) = f := by funext n ag; exact if_pos h
  rw [this]; exact k
theorem Round.no {c : Prop} [Decidable c] {f g : Nat → (σ → Option α) → Option α} {y : α} (h : ¬ c) (k : Round g y P) : Round (fun n ag => if c then f n ag else g n ag) y P := by
  have : (fun n ag => if c then f n ag else g n ag) = g := by funext n ag; exact if_neg h
  rw [this]; exact k
theorem Round.ite {c : Prop} [Decidable c] {f g : Nat → (σ → Option α) → Option α} {y : α} (h : c → Round f y P) (k : ¬ c → Round g y P) : Round (fun n ag => if c then f n ag else g n ag) y P := by
  by_cases hc : c
  · exact Round.yes hc (h hc)
  · exact Round.no hc (k hc)
end

/-- A loop in a round. -/
theorem loop_round {α σ τ : Type} {f : Nat → (σ → Option α) → τ → (τ → Option α) → Option α} (I : τ → Prop) (μ : τ → Nat) {y : α} {P : σ → Prop} {x : τ} (h : I x)
    (step : ∀ x, I x → Round (σ := σ ⊕ τ) (fun n ag => f n (fun s => ag (.inl s)) x (fun t => ag (.inr t))) y (fun z => match z with | .inl s => P s | .inr t => I t ∧ μ t < μ x)) : Round (fun n ag => loopK (f n ag) n x) y P := by
  have key : ∀ m x, I x → μ x ≤ m → (∃ N, ∀ n, N ≤ n → ∀ k, m < k → ∀ ag, loopK (f n ag) k x = some y) ∨ ∃ x', P x' ∧ ∃ N, ∀ n, N ≤ n → ∀ k, m < k → ∀ ag, loopK (f n ag) k x = ag x' := by
    intro m
    induction m with
    | zero =>
      intro x hx hm
      rcases step x hx with ⟨N, hN⟩ | ⟨z, hz, N, hN⟩
      · refine .inl ⟨N, fun n hn k hk ag => ?_⟩
        obtain ⟨k, rfl⟩ : ∃ j, k = j + 1 := ⟨k - 1, by omega⟩
        exact hN n hn (fun z => match z with | .inl s => ag s | .inr t => loopK (f n ag) k t)
      · cases z with
        | inl s =>
          refine .inr ⟨s, hz, N, fun n hn k hk ag => ?_⟩
          obtain ⟨k, rfl⟩ : ∃ j, k = j + 1 := ⟨k - 1, by omega⟩
          exact hN n hn (fun z => match z with | .inl s => ag s | .inr t => loopK (f n ag) k t)
        | inr t => have := hz.2; omega
    | succ m ih =>
      intro x hx hm
      rcases step x hx with ⟨N, hN⟩ | ⟨z, hz, N, hN⟩
      · refine .inl ⟨N, fun n hn k hk ag => ?_⟩
        obtain ⟨k, rfl⟩ : ∃ j, k = j + 1 := ⟨k - 1, by omega⟩
        exact hN n hn (fun z => match z with | .inl s => ag s | .inr t => loopK (f n ag) k t)
      · cases z with
        | inl s =>
          refine .inr ⟨s, hz, N, fun n hn k hk ag => ?_⟩
          obtain ⟨k, rfl⟩ : ∃ j, k = j + 1 := ⟨k - 1, by omega⟩
          exact hN n hn (fun z => match z with | .inl s => ag s | .inr t => loopK (f n ag) k t)
        | inr t =>
          have h1 : ∀ n, N ≤ n → ∀ k ag, loopK (f n ag) (k + 1) x = loopK (f n ag) k t := fun n hn k ag => hN n hn (fun z => match z with | .inl s => ag s | .inr t => loopK (f n ag) k t)
          rcases ih t hz.1 (by have := hz.2; omega) with ⟨M, hM⟩ | ⟨x', hx', M, hM⟩
          · refine .inl ⟨N + M, fun n hn k hk ag => ?_⟩
            obtain ⟨k, rfl⟩ : ∃ j, k = j + 1 := ⟨k - 1, by omega⟩
            rw [h1 n (by omega)]
            exact hM n (by omega) k (by omega) ag
          · refine .inr ⟨x', hx', N + M, fun n hn k hk ag => ?_⟩
            obtain ⟨k, rfl⟩ : ∃ j, k = j + 1 := ⟨k - 1, by omega⟩
            rw [h1 n (by omega)]
            exact hM n (by omega) k (by omega) ag
  rcases key (μ x) x h (Nat.le_refl _) with ⟨N, hN⟩ | ⟨x', hx', N, hN⟩
  · exact .inl ⟨N + μ x + 1, fun n hn ag => hN n (by omega) n (by omega) ag⟩
  · exact .inr ⟨x', hx', N + μ x + 1, fun n hn ag => hN n (by omega) n (by omega) ag⟩

theorem wrap_id {x : Int} (h1 : -9223372036854775808 ≤ x) (h2 : x ≤ 9223372036854775807) : wr .i64 x = x := by
  show IntKind.i64.wrap x = x
  rw [IntKind.wrap_i64]; omega
theorem idx_at {α : Type} {l : List α} {i : Int} (h0 : 0 ≤ i) (h1 : i < l.length) : ∃ v, idx l i = some v ∧ l[i.toNat]? = some v := by
  unfold idx
  rw [if_pos h0, List.getElem?_eq_getElem (by omega)]
  exact ⟨_, rfl, rfl⟩
end Go.Fw
namespace Go.Fw
theorem Evt.next {α : Type} {f g : Nat → Option α} {y : α} (h : Evt g y) (e : ∀ n, f (n + 1) = g n) : Evt f y := by
  obtain ⟨N, hN⟩ := h
  refine ⟨N + 1, fun n hn => ?_⟩
  obtain ⟨n, rfl⟩ : ∃ m, n = m + 1 := ⟨n - 1, by omega⟩
  rw [e, hN n (by omega)]
end Go.Fw

/- Counted loops, on their own and within a round of another loop, and what is known of lists there. -/
namespace Go.Fw
variable {α β γ σ τ : Type}

theorem Round.weak {f : Nat → (σ → Option α) → Option α} {y : α} {P Q : σ → Prop} (h : Round f y P) (w : ∀ x, P x → Q x) : Round f y Q := by
  rcases h with h | ⟨x', h1, h2⟩
  · exact .inl h
  · exact .inr ⟨x', w _ h1, h2⟩
theorem Round.eq {f g : Nat → (σ → Option α) → Option α} {y : α} {P : σ → Prop} (h : Round f y P) (e : ∀ n ag, g n ag = f n ag) : Round g y P := by
  have : g = f := by funext n ag; exact e n ag
  rw [this]; exact h

/-- A loop that counts from lo up to hi. -/
theorem for_evt {f : Nat → σ → (σ → Option α) → Option α} (lo hi : Int) (mk : Int → β → σ) (P : Int → β → Prop) {y : α} {b0 : β} (hle : lo ≤ hi) (h0 : P lo b0)
    (step : ∀ i b, lo ≤ i → i < hi → P i b → Round (fun n ag => f n (mk i b) ag) y (fun x' => ∃ b', x' = mk (i + 1) b' ∧ P (i + 1) b'))
    (last : ∀ b, P hi b → Round (fun n ag => f n (mk hi b) ag) y (fun _ => False)) : Evt (fun n => loopK (f n) n (mk lo b0)) y := by
  have key : ∀ m : Nat, ∀ i b, lo ≤ i → i ≤ hi → (hi - i).toNat ≤ m → P i b → ∃ N, ∀ n, N ≤ n → ∀ k, m < k → loopK (f n) k (mk i b) = .some y := by
    intro m
    induction m with
    | zero =>
      intro i b h1 h2 hm hp
      have e : i = hi := by omega
      subst e
      rcases last b hp with ⟨N, hN⟩ | ⟨x', h, _⟩
      · refine ⟨N, fun n hn k hk => ?_⟩
        obtain ⟨k, rfl⟩ : ∃ j, k = j + 1 := ⟨k - 1, by omega⟩
        exact hN n hn _
      · exact h.elim
    | succ m ih =>
      intro i b h1 h2 hm hp
      by_cases e : i = hi
      · subst e
        rcases last b hp with ⟨N, hN⟩ | ⟨x', h, _⟩
        · refine ⟨N, fun n hn k hk => ?_⟩
          obtain ⟨k, rfl⟩ : ∃ j, k = j + 1 := ⟨k - 1, by omega⟩
          exact hN n hn _
        · exact h.elim
      · rcases step i b h1 (by omega) hp with ⟨N, hN⟩ | ⟨x', ⟨b', rfl, hp'⟩, N, hN⟩
        · refine ⟨N, fun n hn k hk => ?_⟩
          obtain ⟨k, rfl⟩ : ∃ j, k = j + 1 := ⟨k - 1, by omega⟩
          exact hN n hn _
        · obtain ⟨M, hM⟩ := ih (i + 1) b' (by omega) (by omega) (by omega) hp'
          refine ⟨N + M, fun n hn k hk => ?_⟩
          obtain ⟨k, rfl⟩ : ∃ j, k = j + 1 := ⟨k - 1, by omega⟩
          exact (hN n (by omega) (loopK (f n) k)).trans (hM n (by omega) k (by omega))
  obtain ⟨N, hN⟩ := key (hi - lo).toNat lo b0 (Int.le_refl _) hle (Nat.le_refl _) h0
  exact ⟨N + (hi - lo).toNat + 1, fun n hn => hN n (by omega) n (by omega)⟩

/-- A loop that counts from lo up to hi, in a round of another one. -/
theorem for_round {f : Nat → (σ → Option α) → τ → (τ → Option α) → Option α} (lo hi : Int) (mk : Int → β → τ) (P : Int → β → Prop) {y : α} {Q : σ → Prop} {b0 : β} (hle : lo ≤ hi) (h0 : P lo b0)
    (step : ∀ i b, lo ≤ i → i < hi → P i b → Round (σ := σ ⊕ τ) (fun n ag => f n (fun s => ag (.inl s)) (mk i b) (fun t => ag (.inr t))) y (fun z => match z with | .inl s => Q s | .inr x' => ∃ b', x' = mk (i + 1) b' ∧ P (i + 1) b'))
    (last : ∀ b, P hi b → Round (σ := σ ⊕ τ) (fun n ag => f n (fun s => ag (.inl s)) (mk hi b) (fun t => ag (.inr t))) y (fun z => match z with | .inl s => Q s | .inr _ => False)) : Round (fun n ag => loopK (f n ag) n (mk lo b0)) y Q := by
  have key : ∀ m : Nat, ∀ i b, lo ≤ i → i ≤ hi → (hi - i).toNat ≤ m → P i b → (∃ N, ∀ n, N ≤ n → ∀ k, m < k → ∀ ag, loopK (f n ag) k (mk i b) = some y) ∨ ∃ x', Q x' ∧ ∃ N, ∀ n, N ≤ n → ∀ k, m < k → ∀ ag, loopK (f n ag) k (mk i b) = ag x' := by
    have fin : ∀ m : Nat, ∀ b, P hi b → (∃ N, ∀ n, N ≤ n → ∀ k, m < k → ∀ ag, loopK (f n ag) k (mk hi b) = some y) ∨ ∃ x', Q x' ∧ ∃ N, ∀ n, N ≤ n → ∀ k, m < k → ∀ ag, loopK (f n ag) k (mk hi b) = ag x' := by
      intro m b hp
      rcases last b hp with ⟨N, hN⟩ | ⟨z, hz, N, hN⟩
      · refine .inl ⟨N, fun n hn k hk ag => ?_⟩
        obtain ⟨k, rfl⟩ : ∃ j, k = j + 1 := ⟨k - 1, by omega⟩
        exact hN n hn (fun z => match z with | .inl s => ag s | .inr t => loopK (f n ag) k t)
      · cases z with
        | inl s =>
          refine .inr ⟨s, hz, N, fun n hn k hk ag => ?_⟩
          obtain ⟨k, rfl⟩ : ∃ j, k = j + 1 := ⟨k - 1, by omega⟩
          exact hN n hn (fun z => match z with | .inl s => ag s | .inr t => loopK (f n ag) k t)
        | inr t => exact hz.elim
    intro m
    induction m with
    | zero =>
      intro i b h1 h2 hm hp
      have e : i = hi := by omega
      subst e
      exact fin 0 b hp
    | succ m ih =>
      intro i b h1 h2 hm hp
      by_cases e : i = hi
      · subst e
        exact fin (m + 1) b hp
      · rcases step i b h1 (by omega) hp with ⟨N, hN⟩ | ⟨z, hz, N, hN⟩
        · refine .inl ⟨N, fun n hn k hk ag => ?_⟩
          obtain ⟨k, rfl⟩ : ∃ j, k = j + 1 := ⟨k - 1, by omega⟩
          exact hN n hn (fun z => match z with | .inl s => ag s | .inr t => loopK (f n ag) k t)
        · cases z with
          | inl s =>
            refine .inr ⟨s, hz, N, fun n hn k hk ag => ?_⟩
            obtain ⟨k, rfl⟩ : ∃ j, k = j + 1 := ⟨k - 1, by omega⟩
            exact hN n hn (fun z => match z with | .inl s => ag s | .inr t => loopK (f n ag) k t)
          | inr t =>
            have h1' : ∀ n, N ≤ n → ∀ k ag, loopK (f n ag) (k + 1) (mk i b) = loopK (f n ag) k t := fun n hn k ag => hN n hn (fun z => match z with | .inl s => ag s | .inr t => loopK (f n ag) k t)
            obtain ⟨b', rfl, hp'⟩ := hz
            rcases ih (i + 1) b' (by omega) (by omega) (by omega) hp' with ⟨M, hM⟩ | ⟨x', hx', M, hM⟩
            · refine .inl ⟨N + M, fun n hn k hk ag => ?_⟩
              obtain ⟨k, rfl⟩ : ∃ j, k = j + 1 := ⟨k - 1, by omega⟩
              rw [h1' n (by omega)]
              exact hM n (by omega) k (by omega) ag
            · refine .inr ⟨x', hx', N + M, fun n hn k hk ag => ?_⟩
              obtain ⟨k, rfl⟩ : ∃ j, k = j + 1 := ⟨k - 1, by omega⟩
              rw [h1' n (by omega)]
              exact hM n (by omega) k (by omega) ag
  rcases key (hi - lo).toNat lo b0 (Int.le_refl _) hle (Nat.le_refl _) h0 with ⟨N, hN⟩ | ⟨x', hx', N, hN⟩
  · exact .inl ⟨N + (hi - lo).toNat + 1, fun n hn ag => hN n (by omega) n (by omega) ag⟩
  · exact .inr ⟨x', hx', N + (hi - lo).toNat + 1, fun n hn ag => hN n (by omega) n (by omega) ag⟩

theorem for_evt' {f : Nat → σ → (σ → Option α) → Option α} (lo hi : Int) (mk : Int → β → σ) (P : Int → β → Prop) {y : α} {b0 : β} {x : σ} (hx : x = mk lo b0) (hle : lo ≤ hi) (h0 : P lo b0)
    (step : ∀ i b, lo ≤ i → i < hi → P i b → Round (fun n ag => f n (mk i b) ag) y (fun x' => ∃ b', x' = mk (i + 1) b' ∧ P (i + 1) b'))
    (last : ∀ b, P hi b → Round (fun n ag => f n (mk hi b) ag) y (fun _ => False)) : Evt (fun n => loopK (f n) n x) y := by
  subst hx; exact for_evt lo hi mk P hle h0 step last
theorem for_round' {f : Nat → (σ → Option α) → τ → (τ → Option α) → Option α} (lo hi : Int) (mk : Int → β → τ) (P : Int → β → Prop) {y : α} {Q : σ → Prop} {b0 : β} {x : τ} (hx : x = mk lo b0) (hle : lo ≤ hi) (h0 : P lo b0)
    (step : ∀ i b, lo ≤ i → i < hi → P i b → Round (σ := σ ⊕ τ) (fun n ag => f n (fun s => ag (.inl s)) (mk i b) (fun t => ag (.inr t))) y (fun z => match z with | .inl s => Q s | .inr x' => ∃ b', x' = mk (i + 1) b' ∧ P (i + 1) b'))
    (last : ∀ b, P hi b → Round (σ := σ ⊕ τ) (fun n ag => f n (fun s => ag (.inl s)) (mk hi b) (fun t => ag (.inr t))) y (fun z => match z with | .inl s => Q s | .inr _ => False)) : Round (fun n ag => loopK (f n ag) n x) y Q := by
  subst hx; exact for_round lo hi mk P hle h0 step last
/-- To go round again: the inner loop, or the outer one. -/
theorem Round.inr {σ τ α : Type} {P : σ ⊕ τ → Prop} {y : α} (t : τ) (h : P (.inr t)) : Round (σ := σ ⊕ τ) (fun (_ : Nat) (ag : σ ⊕ τ → Option α) => ag (Sum.inr t)) y P := Round.again (Sum.inr t) h
theorem Round.inl {σ τ α : Type} {P : σ ⊕ τ → Prop} {y : α} (s : σ) (h : P (.inl s)) : Round (σ := σ ⊕ τ) (fun (_ : Nat) (ag : σ ⊕ τ → Option α) => ag (Sum.inl s)) y P := Round.again (Sum.inl s) h

/-! ### Lists -/
theorem drop_cons {l : List α} {i : Nat} {v : α} (h : l[i]? = some v) : l.drop i = v :: l.drop (i + 1) := by
  obtain ⟨hlt, e⟩ := List.getElem?_eq_some_iff.1 h
  rw [← e]; exact List.drop_eq_getElem_cons hlt
/-- What is to be known of the element at a place within a list. -/
structure At (l : List α) (i : Int) (v : α) : Prop where
  idx : Fw.idx l i = some v
  get : l[i.toNat]? = some v
  mem : v ∈ l
  drop : l.drop i.toNat = v :: l.drop (i + 1).toNat
  take : l.take (i + 1).toNat = l.take i.toNat ++ [v]
theorem at_of {l : List α} {i : Int} (h0 : 0 ≤ i) (h1 : i < l.length) : ∃ v, At l i v := by
  obtain ⟨v, hv, hv'⟩ := idx_at h0 h1
  have e : (i + 1).toNat = i.toNat + 1 := by omega
  refine ⟨v, hv, hv', List.mem_of_getElem? hv', by rw [e]; exact drop_cons hv', ?_⟩
  rw [e, List.take_add_one, hv']; rfl
theorem drop_all (l : List α) : l.drop (l.length : Int).toNat = [] := List.drop_of_length_le (by omega)
theorem take_all (l : List α) : l.take (l.length : Int).toNat = l := List.take_of_length_le (by omega)
theorem At.map {l : List α} {i : Int} {v : α} (h : At l i v) (g : α → β) : At (l.map g) i (g v) := by
  have hi := h.idx
  refine ⟨?_, by rw [List.getElem?_map, h.get]; rfl, List.mem_map_of_mem h.mem, by rw [← List.map_drop, h.drop]; simp, by rw [← List.map_take, h.take]; simp⟩
  unfold Fw.idx at hi ⊢
  split at hi
  · rename_i h0
    rw [if_pos h0, List.getElem?_map, hi]
    rfl
  · cases hi
/-- Counting on. -/
theorem wr_succ {i n : Int} (h0 : 0 ≤ i) (h1 : i < n) (hn : n ≤ 9223372036854775807) : wr .i64 (i + 1) = i + 1 := wrap_id (by omega) (by omega)
end Go.Fw

/- Functions of a library, told by their contracts. -/
namespace Go.Fw
variable {P : Program} {T : Nat → Option TI} {C : Nat → Inst}

/-- A contract of a function that has a body. -/
theorem extOk_of {L : Laid} {I : Inst} {fn : Func} {code : Code} {g : (argTy I.params).I → Option ((resTy I.res).I × (outTy I.params).I)} (hI : I.ext = some g) (hf : P.funcs[I.f]? = some fn) (hb : fn.body = some code) (hname : (fn.name == "runtime.NumGoroutine") = false)
    (h : ∀ (x : (argTy I.params).I) (r : (resTy I.res).I) (o : (outTy I.params).I) (w : World) (vals : List Value) (okc : Nat → Prop) (Fs : List Nat), g x = some (r, o) → ArgsR w okc I.params x vals Fs → (∀ b, okc b → b < w.heap.size) → L.on w →
      Calls P I.f vals.toArray w fun e w' => ∃ v, e = .returned v ∧ Post w okc Fs I.params I.res r o vals v w') : ExtOk P L I := ⟨by
  intro f hf' x r o w vals okc Fs hg hA _ _ hok hon _
  have e : g = f := Option.some.inj (hI.symm.trans hf')
  subst e
  have hcall : (callFunc I.f vals.toArray).run P w = .ok (.enter I.f vals.toArray) w := by
    have hname' : fn.name ≠ "runtime.NumGoroutine" := by simpa using hname
    simp [callFunc, hf, hb, hname']
  unfold Enters
  rw [hcall]
  exact (h x r o w vals okc Fs hg hA hok hon).mono fun e w' ⟨v, he, hp⟩ => by subst he; exact hp⟩

/-- The same, with what is known of the blocks that are handed over. -/
theorem extOk_of2 {L : Laid} {I : Inst} {fn : Func} {code : Code} {g : (argTy I.params).I → Option ((resTy I.res).I × (outTy I.params).I)} (hI : I.ext = some g) (hf : P.funcs[I.f]? = some fn) (hb : fn.body = some code) (hname : (fn.name == "runtime.NumGoroutine") = false)
    (h : ∀ (x : (argTy I.params).I) (r : (resTy I.res).I) (o : (outTy I.params).I) (w : World) (vals : List Value) (okc : Nat → Prop) (Fs : List Nat), g x = some (r, o) → ArgsR w okc I.params x vals Fs → Fs.Nodup → (∀ b ∈ Fs, b < w.heap.size ∧ ¬ okc b) → (∀ b, okc b → b < w.heap.size) → L.on w →
      Calls P I.f vals.toArray w fun e w' => ∃ v, e = .returned v ∧ Post w okc Fs I.params I.res r o vals v w') : ExtOk P L I := ⟨by
  intro f hf' x r o w vals okc Fs hg hA hnd hF hok hon _
  have e : g = f := Option.some.inj (hI.symm.trans hf')
  subst e
  have hcall : (callFunc I.f vals.toArray).run P w = .ok (.enter I.f vals.toArray) w := by
    have hname' : fn.name ≠ "runtime.NumGoroutine" := by simpa using hname
    simp [callFunc, hf, hb, hname']
  unfold Enters
  rw [hcall]
  exact (h x r o w vals okc Fs hg hA hnd hF hok hon).mono fun e w' ⟨v, he, hp⟩ => by subst he; exact hp⟩
/-- A call that adds to the memory alone keeps all that was. -/
theorem keptBut_below {w w' : World} {Ch : Nat → Prop} (h1 : w'.os = w.os) (h2 : w'.tape = w.tape) (h3 : w'.output = w.output) (h4 : w.heap.size ≤ w'.heap.size) (h5 : ∀ b, b < w.heap.size → w'.heap[b]? = w.heap[b]?) : KeptBut Ch w w' := ⟨h1, h2, h3, h4, fun b hb _ => h5 b hb⟩
/-- A row of values, and a plain value: the row comes back, a plain value is answered. -/
theorem post_row {w w' : World} {okc : Nat → Prop} {Fs : List Nat} {t u v : Ty} (hu : u.flat = true) (ht : t.flat = true) {l : List t.I} {s : u.I} {y : v.I} {vals : List Value} {z : Value} (hA : ArgsR w okc [(Sh.row false t, true), (Sh.ro u, false)] (l, s, ()) vals Fs)
    (hnd : Fs.Nodup) (hF : ∀ b ∈ Fs, b < w.heap.size ∧ ¬ okc b) (hok : ∀ b, okc b → b < w.heap.size) (hz : ∀ ok, ShR w' ok (Sh.ro v) y [z] []) (hv : v.isAgg = false) (hk : KeptBut (fun _ => False) w w') :
    Post w okc Fs [(Sh.row false t, true), (Sh.ro u, false)] [Sh.ro v] (y, ()) (l, ()) vals (resV [z]) w' := by
  obtain ⟨c1, v1, F1, F2, e1, e2, h1, c2, v2, F3, F4, e3, e4, h2, e5, e6⟩ := hA
  simp only [ShR] at h2
  obtain ⟨rfl, h2⟩ := h2
  subst e6
  have h1' : ShR w' okc (Sh.row false t) l c1 F1 := ShR.keep (fun b hb hlt => ⟨hb, hk.heap b hlt (fun h => h.elim)⟩) hk.size _ (fun b hb => hk.heap b (hF b (by rw [e2]; simp [hb])).1 (fun h => h.elim)) h1
  have eF : Fs = F1 := by rw [e2, e4]; simp
  refine ⟨[z], [], F1, okc, rfl, ⟨[z], [], [], [], ?_, rfl, hz okc, rfl, rfl⟩, ⟨c1, v1, F1, [], e1, by simp, h1', _, _, e3, rfl⟩, by simpa [eF] using hnd, fun b hb => ?_, fun b hb => ?_, hk.mono fun _ _ h => h.elim⟩
  · simp [Sh.agg, hv, ofCells]
  · have hb : b ∈ F1 := by simpa using hb
    exact ⟨Nat.lt_of_lt_of_le (hF b (by rw [eF]; exact hb)).1 hk.size, .inr (by rw [eF]; exact hb)⟩
  · exact ⟨Nat.lt_of_lt_of_le (hok b hb) hk.size, .inl hb, fun hm => (hF b (by rw [eF]; simpa using hm)).2 hb⟩

/-- What is handed over are plain values, nothing comes back but plain values. -/
theorem post_plain {w w' : World} {okc : Nat → Prop} {Fs : List Nat} {ps : List (Sh × Bool)} {rs : List Sh} {r : (resTy rs).I} {o : (outTy ps).I} {vals : List Value} {xs : List Value} (hR : ResR w' okc rs r xs []) (hO : OutR w' okc ps o vals []) (hok : ∀ b, okc b → b < w.heap.size) (hk : KeptBut (· ∈ Fs) w w') : Post w okc Fs ps rs r o vals (resV xs) w' :=
  ⟨xs, [], [], okc, rfl, hR, hO, by simp, by simp, fun b hb => ⟨Nat.lt_of_lt_of_le (hok b hb) hk.size, .inl hb, by simp⟩, hk⟩
theorem args_one {w : World} {ok : Nat → Prop} {t : Ty} {x : (argTy [(Sh.ro t, false)]).I} {vals : List Value} {F : List Nat} (h : ArgsR w ok [(Sh.ro t, false)] x vals F) : ∃ c, vals = [ofCells t.isAgg c] ∧ Rep w ok t x.1 c ∧ F = [] := by
  obtain ⟨c, vs', F1, F2, e1, e2, h1, e3, e4⟩ := h
  simp only [ShR] at h1
  subst e3; subst e4
  obtain ⟨rfl, h1⟩ := h1
  exact ⟨c, e1, h1, e2⟩
end Go.Fw
/-! ### Numbers in base 16 -/
namespace Go.Fw
/-- A digit in base 16. -/
def hd (k : Nat) : UInt8 := if k < 10 then UInt8.ofNat (48 + k) else UInt8.ofNat (87 + k)
/-- A number in base 16. -/
def hexD (u : Nat) : List UInt8 := if h : u < 16 then [hd u] else hexD (u / 16) ++ [hd (u % 16)]
termination_by u
decreasing_by omega
theorem hexD_lt {u : Nat} (h : u < 16) : hexD u = [hd u] := by rw [hexD]; simp [h]
theorem hexD_ge {u : Nat} (h : 16 ≤ u) : hexD u = hexD (u / 16) ++ [hd (u % 16)] := by rw [hexD]; simp [show ¬ u < 16 by omega]
/-- A digit of base 16, in either case. -/
def hexVal (c : UInt8) : Option Nat := if 48 ≤ c.toNat ∧ c.toNat ≤ 57 then some (c.toNat - 48) else if 97 ≤ c.toNat ∧ c.toNat ≤ 102 then some (c.toNat - 87) else if 65 ≤ c.toNat ∧ c.toNat ≤ 70 then some (c.toNat - 55) else none
/-- A number in base 16 and a code: 0, 1 (too great), 2 (no number). -/
def pu16 : List UInt8 → Nat → Nat × Nat
  | [], n => (n, 0)
  | c :: r, n => match hexVal c with
    | none => (0, 2)
    | some d => if 1152921504606846976 ≤ n then (18446744073709551615, 1) else pu16 r (n * 16 + d)
/-- The same of a whole text: one without a byte is no number. -/
def puT (l : List UInt8) : Nat × Nat := if l = [] then (0, 2) else pu16 l 0
/-- Pairs are sorted by their first number. -/
def insK (p : List Int) : List (List Int) → List (List Int)
  | [] => [p]
  | q :: l => if p.headD 0 < q.headD 0 then p :: q :: l else q :: insK p l
def sortK (l : List (List Int)) : List (List Int) := l.foldr insK []
/-- Pairs whose first numbers differ. -/
def sortOk (l : List (List Int)) : Bool := l.all (fun p => decide (p.length = 2 ∧ -1000000000000 ≤ p.headD 0 ∧ p.headD 0 ≤ 1000000000000)) && decide (l.map (·.headD 0)).Nodup && decide (l.length ≤ 1000000)
end Go.Fw
