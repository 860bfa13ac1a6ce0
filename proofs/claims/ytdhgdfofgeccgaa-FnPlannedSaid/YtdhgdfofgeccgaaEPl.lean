/- What the functions that the law reaches come to. -/
import Derived.Test.YtdhgdfofgeccgaaRPl
import Derived.Test.YtdhgdfofgeccgaaPuAll
namespace Go.Cams.YtdhgdfofgeccgaaLPl
open Go Go.Fw Go.Proofs Go.Proofs.Ytdhgdfofgeccgaa.LPl
/- laws.a2Long -/
theorem e28 (a b : List Int) : Evt (fun n => call T C n 28 (a, b, ())) ((decide ((a.length : Int) > 3000) || decide ((b.length : Int) > 3000), ()), ()) := by
  refine Evt.next ?_ (fun n => r28 n a b)
  cases decide ((a.length : Int) > 3000) with
  | true => exact Evt.yes rfl (Evt.some _)
  | false => exact Evt.no (by simp) (Evt.some _)
/- laws.a2At -/
theorem e29 {b : List Int} (hb : ∀ v ∈ b, 0 ≤ v ∧ v ≤ 255) {i m : Int} (i0 : 0 ≤ i) (m1 : 1 ≤ m) : ∃ v : Int, Evt (fun n => call T C n 29 (b, i, m, ())) ((v, ()), ()) ∧ 0 ≤ v ∧ v < m := by
  by_cases h : i < (b.length : Int)
  · obtain ⟨v, hv⟩ := at_of i0 h
    have hvb := hb v hv.mem
    have ev : wr .i64 v = v := wrap_id (by omega) (by omega)
    refine ⟨Int.tmod v m, Evt.next (Evt.no (by simp; omega) (Evt.no (by simp; omega) (Evt.at hv.idx (Evt.chk (bne_pos (by omega)) ((Evt.some _).of_eq fun n => ?_))))) (fun n => r29 n b i m), Int.tmod_nonneg m hvb.1, Int.tmod_lt_of_pos v (by omega)⟩
    rw [ev]
    rfl
  · exact ⟨0, Evt.next (Evt.yes (decide_eq_true (by omega)) (Evt.some _)) (fun n => r29 n b i m), by omega, by omega⟩
/- impl.inRange -/
theorem e91 (a b c : Int) : Evt (fun n => call T C n 91 (a, b, c, ())) ((inR a b c, ()), ()) := by
  refine Evt.next ?_ (fun n => r91 n a b c)
  refine Evt.ite (fun h => ?_) (fun h => ?_)
  · refine (Evt.some _).of_eq fun n => ?_
    have h : b ≤ a := of_decide_eq_true h
    simp [inR, h]
    rfl
  · refine (Evt.some _).of_eq fun n => ?_
    have h : ¬ b ≤ a := by simpa using h
    simp [inR, h]
    rfl
/- impl.isLaw -/
theorem e101 (w : Int) : Evt (fun n => call T C n 101 (w, ())) ((inR w 0 3, ()), ()) := Evt.next (Evt.bind (e91 _ _ _) (Evt.some _)) (fun n => r101 n w)
/- impl.shape -/
theorem e208 {w k n : Int} (w0 : 0 ≤ w) (w1 : w ≤ 3) (k0 : 0 ≤ k) (k1 : k ≤ n) (n1 : n ≤ 360) : Evt (fun m => call T C m 208 (w, k, n, ())) ((shN w k n, shD w n, ()), ()) := by
  refine Evt.next ?_ (fun m => r208 m w k n)
  have W : ∀ x : Int, -9000000000000000000 ≤ x → x ≤ 9000000000000000000 → wr .i64 x = x := fun x a b => wrap_id (by omega) (by omega)
  have q2 := mulB (show 0 ≤ n by omega) n1 (show 0 ≤ n by omega) n1
  have q3 := mulB q2.1 q2.2 (show 0 ≤ n by omega) n1
  have q4 := mulB q3.1 q3.2 (show 0 ≤ n by omega) n1
  have q5 := mulB q4.1 q4.2 (show 0 ≤ n by omega) n1
  have kk := mulB (show 0 ≤ 2 * k by omega) (show 2 * k ≤ 720 by omega) k0 (show k ≤ 360 by omega)
  have dd := mulB (show 0 ≤ 2 * (n - k) by omega) (show 2 * (n - k) ≤ 720 by omega) (show 0 ≤ n - k by omega) (show n - k ≤ 360 by omega)
  have k3 := mulB (show 0 ≤ 3 * k by omega) (show 3 * k ≤ 1080 by omega) k0 (show k ≤ 360 by omega)
  have k3n := mulB k3.1 k3.2 (show 0 ≤ n by omega) n1
  have kkk := mulB kk.1 kk.2 k0 (show k ≤ 360 by omega)
  have c2 := mulB k0 (show k ≤ 360 by omega) k0 (show k ≤ 360 by omega)
  have c3 := mulB c2.1 c2.2 k0 (show k ≤ 360 by omega)
  have e1 := mulB (show 0 ≤ 10 * n by omega) (show 10 * n ≤ 3600 by omega) (show 0 ≤ n by omega) n1
  have e2 := mulB (show 0 ≤ 15 * k by omega) (show 15 * k ≤ 5400 by omega) (show 0 ≤ n by omega) n1
  have e3 := mulB (show 0 ≤ 6 * k by omega) (show 6 * k ≤ 2160 by omega) k0 (show k ≤ 360 by omega)
  have a1 : k * k * k * (-1944000) ≤ k * k * k * (10 * n * n - 15 * k * n + 6 * k * k) := Int.mul_le_mul_of_nonneg_left (by omega) c3.1
  have a2 : k * k * k * (10 * n * n - 15 * k * n + 6 * k * k) ≤ k * k * k * 2073600 := Int.mul_le_mul_of_nonneg_left (by omega) c3.1
  have one : Evt (fun _ => if decide (wr .i64 (2 * k) ≤ n) = true then some ((wr .i64 (wr .i64 (2 * k) * k), wr .i64 (n * n), ()), ()) else some ((wr .i64 (wr .i64 (n * n) - wr .i64 (wr .i64 (2 * wr .i64 (n - k)) * wr .i64 (n - k))), wr .i64 (n * n), ()), ())) ((shN 1 k n, shD 1 n, ()), ()) := by
    rw [W (2 * k) (by omega) (by omega), W (2 * k * k) (by omega) (by omega), W (n * n) (by omega) (by omega), W (n - k) (by omega) (by omega), W (2 * (n - k)) (by omega) (by omega), W (2 * (n - k) * (n - k)) (by omega) (by omega), W (n * n - 2 * (n - k) * (n - k)) (by omega) (by omega)]
    refine Evt.ite (fun h => ?_) (fun h => ?_)
    · have : shN 1 k n = 2 * k * k := by unfold shN; rw [if_pos rfl, if_pos (of_decide_eq_true h)]
      rw [this]; exact Evt.some _
    · have : shN 1 k n = n * n - 2 * (n - k) * (n - k) := by unfold shN; rw [if_pos rfl, if_neg (by simpa using h)]
      rw [this]; exact Evt.some _
  have two : Evt (fun _ => some ((wr .i64 (wr .i64 (wr .i64 (wr .i64 (3 * k) * k) * n) - wr .i64 (wr .i64 (wr .i64 (2 * k) * k) * k)), wr .i64 (wr .i64 (n * n) * n), ()), ())) ((shN 2 k n, shD 2 n, ()), ()) := by
    rw [W (3 * k) (by omega) (by omega), W (3 * k * k) (by omega) (by omega), W (3 * k * k * n) (by omega) (by omega), W (2 * k) (by omega) (by omega), W (2 * k * k) (by omega) (by omega), W (2 * k * k * k) (by omega) (by omega), W (3 * k * k * n - 2 * k * k * k) (by omega) (by omega), W (n * n) (by omega) (by omega), W (n * n * n) (by omega) (by omega)]
    exact Evt.some _
  have three : Evt (fun _ => some ((wr .i64 (wr .i64 (wr .i64 (k * k) * k) * wr .i64 (wr .i64 (wr .i64 (wr .i64 (10 * n) * n) - wr .i64 (wr .i64 (15 * k) * n)) + wr .i64 (wr .i64 (6 * k) * k))), wr .i64 (wr .i64 (wr .i64 (wr .i64 (n * n) * n) * n) * n), ()), ())) ((shN 3 k n, shD 3 n, ()), ()) := by
    rw [W (k * k) (by omega) (by omega), W (k * k * k) (by omega) (by omega), W (10 * n) (by omega) (by omega), W (10 * n * n) (by omega) (by omega), W (15 * k) (by omega) (by omega), W (15 * k * n) (by omega) (by omega), W (10 * n * n - 15 * k * n) (by omega) (by omega), W (6 * k) (by omega) (by omega), W (6 * k * k) (by omega) (by omega), W (10 * n * n - 15 * k * n + 6 * k * k) (by omega) (by omega), W (k * k * k * (10 * n * n - 15 * k * n + 6 * k * k)) (by omega) (by omega), W (n * n) (by omega) (by omega), W (n * n * n) (by omega) (by omega), W (n * n * n * n) (by omega) (by omega), W (n * n * n * n * n) (by omega) (by omega)]
    exact Evt.some _
  rcases (show w = 0 ∨ w = 1 ∨ w = 2 ∨ w = 3 by omega) with rfl | rfl | rfl | rfl
  · exact Evt.yes rfl (Evt.some _)
  · exact Evt.no (by decide) (Evt.yes rfl one)
  · exact Evt.no (by decide) (Evt.no (by decide) (Evt.yes rfl two))
  · exact Evt.no (by decide) (Evt.no (by decide) (Evt.no (by decide) three))
/- impl.floorDiv -/
theorem e210 {a b : Int} (hb : 0 < b) (h1 : -4500000000000000000 ≤ a) (h2 : a ≤ 4500000000000000000) : Evt (fun n => call T C n 210 (a, b, ())) ((a / b, ()), ()) := by
  have hbd := ediv_bd hb h1 h2 (by omega)
  have he := floorDiv_eq (a := a) hb
  refine Evt.next (Evt.chk (bne_pos hb) (Evt.chk (bne_pos hb) (Evt.ite (fun h => ?_) (fun h => ?_)))) (fun n => r210 n a b)
  · have h : Int.tmod a b < 0 := of_decide_eq_true h
    rw [if_pos h] at he
    refine (Evt.some _).of_eq fun n => ?_
    rw [wrap_id (x := Int.tdiv a b) (by omega) (by omega), wrap_id (by omega) (by omega), he]
    rfl
  · have h : ¬ Int.tmod a b < 0 := by simpa using h
    rw [if_neg h] at he
    refine (Evt.some _).of_eq fun n => ?_
    rw [wrap_id (x := Int.tdiv a b) (by omega) (by omega), he]
    rfl
/- impl.nearest -/
theorem e207 {x n : Int} (hn : 0 < n) (hn' : n ≤ 10000000000000) (h1 : -2000000000000000000 ≤ x) (h2 : x ≤ 2000000000000000000) : Evt (fun m => call T C m 207 (x, n, ())) ((nr x n, ()), ()) := by
  refine Evt.next ?_ (fun m => r207 m x n)
  rw [wrap_id (x := 2 * n) (by omega) (by omega), wrap_id (x := 2 * x) (by omega) (by omega), wrap_id (x := 2 * x + n) (by omega) (by omega)]
  exact Evt.bind (e210 (by omega) (by omega) (by omega)) (Evt.some _)
/- impl.liftIn -/
theorem e177 {f t w k n : Int} (f0 : 0 ≤ f) (f1 : f ≤ 10000) (t0 : 0 ≤ t) (t1 : t ≤ 10000) (w0 : 0 ≤ w) (w1 : w ≤ 3) (k0 : 0 ≤ k) (k1 : k ≤ n) (n0 : 1 ≤ n) (n1 : n ≤ 360) : Evt (fun m => call T C m 177 (f, t, w, k, n, ())) ((liftP f t w k n, ()), ()) := by
  have hd := shD_bd (w := w) n0 n1
  have hb := lift_bd (w := w) f0 f1 t0 t1 k0 k1 n0 n1
  refine Evt.next (Evt.bind (e208 w0 w1 k0 k1 n1) ?_) (fun m => r177 m f t w k n)
  show Evt (fun m => (call T C m 207 (wr .i64 (wr .i64 (f * shD w n) + wr .i64 (wr .i64 (t - f) * shN w k n)), shD w n, ())).bind _) _
  rw [wrap_id (x := f * shD w n) (by omega) (by omega), wrap_id (x := t - f) (by omega) (by omega), wrap_id (x := (t - f) * shN w k n) (by omega) (by omega), wrap_id (x := f * shD w n + (t - f) * shN w k n) (by omega) (by omega)]
  exact Evt.bind (e207 (by omega) (by omega) (by omega) (by omega)) (Evt.some _)
/- impl.changesIn -/
theorem e103 {f t w : Int} {n0 : Nat} (f0 : 0 ≤ f) (f1 : f ≤ 10000) (t0 : 0 ≤ t) (t1 : t ≤ 10000) (w0 : 0 ≤ w) (w1 : w ≤ 3) (n1 : 1 ≤ n0) (n2 : n0 ≤ 360) : Evt (fun n => call T C n 103 (f, t, w, (n0 : Int), ())) ((tb n0 (fun k => liftP f t w ((k : Nat) + 1) n0 - liftP f t w (k : Nat) n0), ()), ()) := by
  refine Evt.next ?_ (fun n => r103 n f t w n0)
  refine for_evt' 0 (n0 : Int) (fun i (_ : Unit) => (f, t, w, (n0 : Int), tb i.toNat (fun k => liftP f t w ((k : Nat) + 1) n0 - liftP f t w (k : Nat) n0), (n0 : Int), i, ())) (fun _ _ => True) (b0 := ()) rfl (by omega) trivial ?_ ?_
  · intro i' _ h2 h3 _
    obtain ⟨i, rfl⟩ : ∃ i : Nat, i' = i := ⟨i'.toNat, by omega⟩
    have hl : (tb i (fun k => liftP f t w ((k : Nat) + 1) n0 - liftP f t w (k : Nat) n0)).length = i := tb_len _ _
    have b1 := liftP_in (f := f) (t := t) (w := w) (k := (i : Int)) (n := (n0 : Int)) (lo := 0) (hi := 10000) w0 w1 (by omega) (by omega) (by omega) (by omega) f0 f1 t0 t1
    have b2 := liftP_in (f := f) (t := t) (w := w) (k := (i : Int) + 1) (n := (n0 : Int)) (lo := 0) (hi := 10000) w0 w1 (by omega) (by omega) (by omega) (by omega) f0 f1 t0 t1
    refine Round.yes (decide_eq_true h3) ?_
    simp only [wrap_id (x := (i : Int) + 1) (by omega) (by omega)]
    refine Round.bind (e177 f0 f1 t0 t1 w0 w1 (show (0 : Int) ≤ (i : Int) + 1 by omega) (show (i : Int) + 1 ≤ (n0 : Int) by omega) (show (1 : Int) ≤ (n0 : Int) by omega) (show (n0 : Int) ≤ 360 by omega)) (Round.bind (e177 f0 f1 t0 t1 w0 w1 (show (0 : Int) ≤ (i : Int) by omega) (show (i : Int) ≤ (n0 : Int) by omega) (show (1 : Int) ≤ (n0 : Int) by omega) (show (n0 : Int) ≤ 360 by omega)) (Round.chk (decide_eq_true (by simp only [Int.toNat_natCast, List.length_cons, List.length_nil]; omega)) (Round.again _ ⟨(), ?_, trivial⟩)))
    rw [Int.toNat_natCast, wrap_id (x := liftP f t w ((i : Int) + 1) n0 - liftP f t w (i : Int) n0) (by omega) (by omega), tb_snoc (G := fun k : Nat => liftP f t w ((k : Nat) + 1) n0 - liftP f t w (k : Nat) n0), show ((i : Int) + 1).toNat = i + 1 by omega]
  · intro _ _
    rw [Int.toNat_natCast]
    exact Round.no (by simp) (Round.done (Evt.some _))
/- impl.abs -/
theorem e116 {a : Int} (h1 : -1000000000000 ≤ a) (h2 : a ≤ 1000000000000) : Evt (fun n => call T C n 116 (a, ())) ((siz a, ()), ()) := by
  refine Evt.next ((Evt.some _).of_eq fun n => ?_) (fun n => r116 n a)
  rw [wrap_id (x := 0 - a) (by omega) (by omega)]
  unfold siz
  have : (if 0 - a > a then 0 - a else a) = if a < 0 then -a else a := by split <;> split <;> omega
  rw [this]
  rfl
/- impl.greatest -/
theorem e102 {l : List Int} (hl : (l.length : Int) ≤ 1000000) (hb : ∀ v ∈ l, -1000000000000 ≤ v ∧ v ≤ 1000000000000) : Evt (fun n => call T C n 102 (l, ())) (((gr l).1, (gr l).2.1, ()), ()) := by
  refine Evt.next ?_ (fun n => r102 n l)
  refine for_evt' 0 (l.length : Int) (fun i (_ : Unit) => ((gr (l.take i.toNat)).1, (gr (l.take i.toNat)).2.1, l, (l.length : Int), i, ())) (fun _ _ => True) (b0 := ()) rfl (by omega) trivial ?_ ?_
  · intro i _ h2 h3 _
    obtain ⟨v, hv⟩ := at_of h2 h3
    have hvb := hb v hv.mem
    have hA := e116 hvb.1 hvb.2
    have hn : (gr (l.take i.toNat)).2.2 = i := by
      have := gr_n (l.take i.toNat) (0, -1, 0)
      have h4 : (l.take i.toNat).length = i.toNat := by rw [List.length_take]; omega
      rw [h4] at this
      unfold gr
      rw [this]
      show (0 : Int) + ((i.toNat : Nat) : Int) = i
      omega
    refine Round.yes (decide_eq_true h3) (Round.at hv.idx (Round.bind hA (Round.ite (fun hc => ?_) (fun hc => ?_))))
    · have hc : siz v > (gr (l.take i.toNat)).2.1 := of_decide_eq_true hc
      refine Round.bind hA (Round.again _ ⟨(), ?_, trivial⟩)
      rw [hv.take, gr_snoc, wr_succ h2 h3 (by omega)]
      unfold grS
      rw [if_pos hc, hn]
    · have hc : ¬ siz v > (gr (l.take i.toNat)).2.1 := by simpa using hc
      refine Round.again _ ⟨(), ?_, trivial⟩
      rw [hv.take, gr_snoc, wr_succ h2 h3 (by omega)]
      unfold grS
      rw [if_neg hc]
  · intro _ _
    simp only [take_all]
    exact Round.no (by simp) (Round.done (Evt.some _))
/- impl.LeastSteps -/
theorem e30 {w r m : Int} (w0 : 0 ≤ w) (w1 : w ≤ 3) (r0 : 1 ≤ r) (r1 : r ≤ 10000) (m0 : 1 ≤ m) (m1 : m ≤ 10000) : Evt (fun n => call T C n 30 (w, r, m, ())) (lsR w r m, ()) := by
  have h1 := e101 w
  rw [show inR w 0 3 = true from inR_iff.2 ⟨w0, w1⟩] at h1
  have h2 := e91 r 1 10000
  rw [show inR r 1 10000 = true from inR_iff.2 ⟨r0, r1⟩] at h2
  have h3 := e91 m 1 10000
  rw [show inR m 1 10000 = true from inR_iff.2 ⟨m0, m1⟩] at h3
  refine Evt.next (Evt.bind h1 (Evt.no (by decide) (Evt.bind h2 (Evt.no (by decide) (Evt.bind h3 (Evt.no (by decide) ?_)))))) (fun n => r30 n w r m)
  refine for_evt' 1 361 (fun i (_ : Unit) => (w, r, m, i, ())) (fun i _ => lsR w r m = lsF w r m (361 - i).toNat i.toNat) (b0 := ()) rfl (by omega) rfl ?_ ?_
  · intro i' _ h4 h5 hp
    obtain ⟨i, rfl⟩ : ∃ i : Nat, i' = i := ⟨i'.toNat, by omega⟩
    rw [Int.toNat_natCast, show (361 - (i : Int)).toNat = (360 - i) + 1 by omega, lsF] at hp
    have hc := chgs_bd (f := 0) (t := r) (w := w) (n := i) (Int.le_refl 0) (by omega) (by omega) r1 w0 w1 (by omega)
    refine Round.yes (decide_eq_true (show (i : Int) ≤ 360 by omega)) (Round.bind (e103 (f := 0) (t := r) (w := w) (n0 := i) (Int.le_refl 0) (by omega) (by omega) r1 w0 w1 (by omega) (by omega)) (Round.bind (e102 (l := chgs 0 r w i) (by unfold chgs; rw [tb_len]; omega) (fun v hv => by have := hc v hv; omega)) (Round.ite (fun hk => ?_) (fun hk => ?_))))
    · have hk : okN w r m i = true := hk
      rw [if_pos hk] at hp
      rw [hp]
      exact Round.done (Evt.some _)
    · have hk : ¬ okN w r m i = true := hk
      rw [if_neg hk] at hp
      exact Round.again _ ⟨(), by rw [wrap_id (x := (i : Int) + 1) (by omega) (by omega)], by rw [hp, show (361 - ((i : Int) + 1)).toNat = 360 - i by omega, show ((i : Int) + 1).toNat = i + 1 by omega]⟩
  · intro _ hp
    have hp : lsR w r m = (0, 6, ()) := hp
    rw [hp]
    exact Round.no (by simp) (Round.done (Evt.some _))
/- spec.l00In -/
theorem e85 (a b c : Int) : Evt (fun n => call T C n 85 (a, b, c, ())) ((inR a b c, ()), ()) := by
  refine Evt.next ?_ (fun n => r85 n a b c)
  refine Evt.ite (fun h => ?_) (fun h => ?_)
  · refine (Evt.some _).of_eq fun n => ?_
    have h : b ≤ a := of_decide_eq_true h
    simp [inR, h]
    rfl
  · refine (Evt.some _).of_eq fun n => ?_
    have h : ¬ b ≤ a := by simpa using h
    simp [inR, h]
    rfl
/- spec.l02Law -/
theorem e104 (a : Int) : Evt (fun n => call T C n 104 (a, ())) ((inR a 0 3, ()), ()) := Evt.next (Evt.bind (e85 a 0 3) (Evt.some _)) (fun n => r104 n a)
/- spec.l02Shape -/
theorem e178 {w k n : Int} (w0 : 0 ≤ w) (w1 : w ≤ 3) (k0 : 0 ≤ k) (k1 : k ≤ n) (n1 : n ≤ 360) : Evt (fun m => call T C m 178 (w, k, n, ())) ((shN w k n, shD w n, ()), ()) := by
  refine Evt.next ?_ (fun m => r178 m w k n)
  have W : ∀ x : Int, -9000000000000000000 ≤ x → x ≤ 9000000000000000000 → wr .i64 x = x := fun x a b => wrap_id (by omega) (by omega)
  have q2 := mulB (show 0 ≤ n by omega) n1 (show 0 ≤ n by omega) n1
  have q3 := mulB q2.1 q2.2 (show 0 ≤ n by omega) n1
  have q4 := mulB q3.1 q3.2 (show 0 ≤ n by omega) n1
  have q5 := mulB q4.1 q4.2 (show 0 ≤ n by omega) n1
  have kk := mulB (show 0 ≤ 2 * k by omega) (show 2 * k ≤ 720 by omega) k0 (show k ≤ 360 by omega)
  have dd := mulB (show 0 ≤ 2 * (n - k) by omega) (show 2 * (n - k) ≤ 720 by omega) (show 0 ≤ n - k by omega) (show n - k ≤ 360 by omega)
  have k3 := mulB (show 0 ≤ 3 * k by omega) (show 3 * k ≤ 1080 by omega) k0 (show k ≤ 360 by omega)
  have k3n := mulB k3.1 k3.2 (show 0 ≤ n by omega) n1
  have kkk := mulB kk.1 kk.2 k0 (show k ≤ 360 by omega)
  have c2 := mulB k0 (show k ≤ 360 by omega) k0 (show k ≤ 360 by omega)
  have c3 := mulB c2.1 c2.2 k0 (show k ≤ 360 by omega)
  have e1 := mulB (show 0 ≤ 10 * n by omega) (show 10 * n ≤ 3600 by omega) (show 0 ≤ n by omega) n1
  have e2 := mulB (show 0 ≤ 15 * k by omega) (show 15 * k ≤ 5400 by omega) (show 0 ≤ n by omega) n1
  have e3 := mulB (show 0 ≤ 6 * k by omega) (show 6 * k ≤ 2160 by omega) k0 (show k ≤ 360 by omega)
  have a1 : k * k * k * (-1944000) ≤ k * k * k * (10 * n * n - 15 * k * n + 6 * k * k) := Int.mul_le_mul_of_nonneg_left (by omega) c3.1
  have a2 : k * k * k * (10 * n * n - 15 * k * n + 6 * k * k) ≤ k * k * k * 2073600 := Int.mul_le_mul_of_nonneg_left (by omega) c3.1
  have one : Evt (fun _ => if decide (wr .i64 (2 * k) ≤ n) = true then some ((wr .i64 (wr .i64 (2 * k) * k), wr .i64 (n * n), ()), ()) else some ((wr .i64 (wr .i64 (n * n) - wr .i64 (wr .i64 (2 * wr .i64 (n - k)) * wr .i64 (n - k))), wr .i64 (n * n), ()), ())) ((shN 1 k n, shD 1 n, ()), ()) := by
    rw [W (2 * k) (by omega) (by omega), W (2 * k * k) (by omega) (by omega), W (n * n) (by omega) (by omega), W (n - k) (by omega) (by omega), W (2 * (n - k)) (by omega) (by omega), W (2 * (n - k) * (n - k)) (by omega) (by omega), W (n * n - 2 * (n - k) * (n - k)) (by omega) (by omega)]
    refine Evt.ite (fun h => ?_) (fun h => ?_)
    · have : shN 1 k n = 2 * k * k := by unfold shN; rw [if_pos rfl, if_pos (of_decide_eq_true h)]
      rw [this]; exact Evt.some _
    · have : shN 1 k n = n * n - 2 * (n - k) * (n - k) := by unfold shN; rw [if_pos rfl, if_neg (by simpa using h)]
      rw [this]; exact Evt.some _
  have two : Evt (fun _ => some ((wr .i64 (wr .i64 (wr .i64 (wr .i64 (3 * k) * k) * n) - wr .i64 (wr .i64 (wr .i64 (2 * k) * k) * k)), wr .i64 (wr .i64 (n * n) * n), ()), ())) ((shN 2 k n, shD 2 n, ()), ()) := by
    rw [W (3 * k) (by omega) (by omega), W (3 * k * k) (by omega) (by omega), W (3 * k * k * n) (by omega) (by omega), W (2 * k) (by omega) (by omega), W (2 * k * k) (by omega) (by omega), W (2 * k * k * k) (by omega) (by omega), W (3 * k * k * n - 2 * k * k * k) (by omega) (by omega), W (n * n) (by omega) (by omega), W (n * n * n) (by omega) (by omega)]
    exact Evt.some _
  have three : Evt (fun _ => some ((wr .i64 (wr .i64 (wr .i64 (k * k) * k) * wr .i64 (wr .i64 (wr .i64 (wr .i64 (10 * n) * n) - wr .i64 (wr .i64 (15 * k) * n)) + wr .i64 (wr .i64 (6 * k) * k))), wr .i64 (wr .i64 (wr .i64 (wr .i64 (n * n) * n) * n) * n), ()), ())) ((shN 3 k n, shD 3 n, ()), ()) := by
    rw [W (k * k) (by omega) (by omega), W (k * k * k) (by omega) (by omega), W (10 * n) (by omega) (by omega), W (10 * n * n) (by omega) (by omega), W (15 * k) (by omega) (by omega), W (15 * k * n) (by omega) (by omega), W (10 * n * n - 15 * k * n) (by omega) (by omega), W (6 * k) (by omega) (by omega), W (6 * k * k) (by omega) (by omega), W (10 * n * n - 15 * k * n + 6 * k * k) (by omega) (by omega), W (k * k * k * (10 * n * n - 15 * k * n + 6 * k * k)) (by omega) (by omega), W (n * n) (by omega) (by omega), W (n * n * n) (by omega) (by omega), W (n * n * n * n) (by omega) (by omega), W (n * n * n * n * n) (by omega) (by omega)]
    exact Evt.some _
  rcases (show w = 0 ∨ w = 1 ∨ w = 2 ∨ w = 3 by omega) with rfl | rfl | rfl | rfl
  · exact Evt.no (by decide) (Evt.no (by decide) (Evt.no (by decide) (Evt.some _)))
  · exact Evt.yes rfl one
  · exact Evt.no (by decide) (Evt.yes rfl two)
  · exact Evt.no (by decide) (Evt.no (by decide) (Evt.yes rfl three))
/- spec.l01Near -/
theorem e179 {x n : Int} (hn : 0 < n) (hn' : n ≤ 10000000000000) (h1 : -2000000000000000000 ≤ x) (h2 : x ≤ 2000000000000000000) : Evt (fun m => call T C m 179 (x, n, ())) ((nr x n, ()), ()) := by
  have hbd := ediv_bd (a := 2 * x + n) (b := 2 * n) (M := 4500000000000000000) (by omega) (by omega) (by omega) (by omega)
  have he := floorDiv_eq (a := 2 * x + n) (b := 2 * n) (by omega)
  refine Evt.next ?_ (fun m => r179 m x n)
  rw [wrap_id (x := 2 * n) (by omega) (by omega), wrap_id (x := 2 * x) (by omega) (by omega), wrap_id (x := 2 * x + n) (by omega) (by omega)]
  refine Evt.chk (bne_pos (by omega)) (Evt.chk (bne_pos (by omega)) (Evt.ite (fun h => ?_) (fun h => ?_)))
  · have h : Int.tmod (2 * x + n) (2 * n) < 0 := of_decide_eq_true h
    rw [if_pos h] at he
    refine (Evt.some _).of_eq fun m => ?_
    rw [wrap_id (x := Int.tdiv (2 * x + n) (2 * n)) (by omega) (by omega), wrap_id (by omega) (by omega), he]
    rfl
  · have h : ¬ Int.tmod (2 * x + n) (2 * n) < 0 := by simpa using h
    rw [if_neg h] at he
    refine (Evt.some _).of_eq fun m => ?_
    rw [wrap_id (x := Int.tdiv (2 * x + n) (2 * n)) (by omega) (by omega), he]
    rfl
/- spec.l02Lift -/
theorem e109 {f t w k n : Int} (f0 : 0 ≤ f) (f1 : f ≤ 10000) (t0 : 0 ≤ t) (t1 : t ≤ 10000) (w0 : 0 ≤ w) (w1 : w ≤ 3) (k0 : 0 ≤ k) (k1 : k ≤ n) (n0 : 1 ≤ n) (n1 : n ≤ 360) : Evt (fun m => call T C m 109 (f, t, w, k, n, ())) ((liftP f t w k n, ()), ()) := by
  have hd := shD_bd (w := w) n0 n1
  have hb := lift_bd (w := w) f0 f1 t0 t1 k0 k1 n0 n1
  refine Evt.next (Evt.bind (e178 w0 w1 k0 k1 n1) ?_) (fun m => r109 m f t w k n)
  show Evt (fun m => (call T C m 179 (wr .i64 (wr .i64 (f * shD w n) + wr .i64 (wr .i64 (t - f) * shN w k n)), shD w n, ())).bind _) _
  rw [wrap_id (x := f * shD w n) (by omega) (by omega), wrap_id (x := t - f) (by omega) (by omega), wrap_id (x := (t - f) * shN w k n) (by omega) (by omega), wrap_id (x := f * shD w n + (t - f) * shN w k n) (by omega) (by omega)]
  exact Evt.bind (e179 (by omega) (by omega) (by omega) (by omega)) (Evt.some _)
/- spec.l02Lifts -/
theorem e105 {f t w : Int} {n0 : Nat} (f0 : 0 ≤ f) (f1 : f ≤ 10000) (t0 : 0 ≤ t) (t1 : t ≤ 10000) (w0 : 0 ≤ w) (w1 : w ≤ 3) (n1 : 1 ≤ n0) (n2 : n0 ≤ 360) : Evt (fun n => call T C n 105 (f, t, w, (n0 : Int), ())) ((tb (n0 + 1) (fun k => liftP f t w (k : Nat) n0), ()), ()) := by
  refine Evt.next ?_ (fun n => r105 n f t w n0)
  refine for_evt' 0 ((n0 : Int) + 1) (fun i (_ : Unit) => (f, t, w, (n0 : Int), tb i.toNat (fun k => liftP f t w (k : Nat) n0), i, ())) (fun _ _ => True) (b0 := ()) rfl (by omega) trivial ?_ ?_
  · intro i' _ h2 h3 _
    obtain ⟨i, rfl⟩ : ∃ i : Nat, i' = i := ⟨i'.toNat, by omega⟩
    have hl : (tb i (fun k => liftP f t w (k : Nat) n0)).length = i := tb_len _ _
    refine Round.yes (decide_eq_true (show (i : Int) ≤ (n0 : Int) by omega)) (Round.bind (e109 f0 f1 t0 t1 w0 w1 h2 (show (i : Int) ≤ (n0 : Int) by omega) (show (1 : Int) ≤ (n0 : Int) by omega) (show (n0 : Int) ≤ 360 by omega)) (Round.chk (decide_eq_true (by simp only [Int.toNat_natCast, List.length_cons, List.length_nil]; omega)) (Round.again _ ⟨(), ?_, trivial⟩)))
    rw [Int.toNat_natCast, tb_snoc (G := fun k : Nat => liftP f t w (k : Nat) n0), wrap_id (x := (i : Int) + 1) (by omega) (by omega), show ((i : Int) + 1).toNat = i + 1 by omega]
  · intro _ _
    rw [show ((n0 : Int) + 1).toNat = n0 + 1 by omega]
    exact Round.no (by simp; omega) (Round.done (Evt.some _))
/- spec.l01Size -/
theorem e106 {a : Int} (h1 : -1000000000000 ≤ a) (h2 : a ≤ 1000000000000) : Evt (fun n => call T C n 106 (a, ())) ((siz a, ()), ()) := by
  refine Evt.next ?_ (fun n => r106 n a)
  unfold siz
  rw [wrap_id (x := 0 - a) (by omega) (by omega)]
  refine Evt.ite (fun h => ?_) (fun h => ?_)
  · rw [if_pos (of_decide_eq_true h), Int.zero_sub]; exact Evt.some _
  · rw [if_neg (by simpa using h)]; exact Evt.some _
/- spec.LeastSteps -/
theorem e31 {w r m : Int} (w0 : 0 ≤ w) (w1 : w ≤ 3) (r0 : 1 ≤ r) (r1 : r ≤ 10000) (m0 : 1 ≤ m) (m1 : m ≤ 10000) : Evt (fun n => call T C n 31 (w, r, m, ())) (lsR w r m, ()) := by
  have h1 := e104 w
  rw [show inR w 0 3 = true from inR_iff.2 ⟨w0, w1⟩] at h1
  have h2 := e85 r 1 10000
  rw [show inR r 1 10000 = true from inR_iff.2 ⟨r0, r1⟩] at h2
  have h3 := e85 m 1 10000
  rw [show inR m 1 10000 = true from inR_iff.2 ⟨m0, m1⟩] at h3
  refine Evt.next (Evt.bind h1 (Evt.no (by decide) (Evt.bind h2 (Evt.no (by decide) (Evt.bind h3 (Evt.no (by decide) ?_)))))) (fun n => r31 n w r m)
  refine for_evt' 1 361 (fun i (_ : Unit) => (w, r, m, i, ())) (fun i _ => lsR w r m = lsF w r m (361 - i).toNat i.toNat) (b0 := ()) rfl (by omega) rfl ?_ ?_
  · intro i' _ h4 h5 hp
    obtain ⟨i, rfl⟩ : ∃ i : Nat, i' = i := ⟨i'.toNat, by omega⟩
    rw [Int.toNat_natCast, show (361 - (i : Int)).toNat = (360 - i) + 1 by omega, lsF] at hp
    have hL := e105 (f := 0) (t := r) (w := w) (n0 := i) (Int.le_refl 0) (by omega) (by omega) r1 w0 w1 (by omega) (by omega)
    obtain ⟨L, eL⟩ : ∃ L, L = tb (i + 1) (fun k => liftP 0 r w (k : Nat) i) := ⟨_, rfl⟩
    rw [← eL] at hL
    have hlen : L.length = i + 1 := by rw [eL]; exact tb_len _ _
    have hw : wr .i64 ((L.length : Int) - 1) = (i : Int) := by rw [wrap_id (by omega) (by omega)]; omega
    have hat : ∀ j : Nat, j ≤ i → At L (j : Int) (liftP 0 r w (j : Nat) i) := fun j hj => by
      rw [eL]; exact tb_at (n := i + 1) (G := fun k : Nat => liftP 0 r w (k : Nat) i) (i := (j : Int)) (by omega) (by omega)
    refine Round.yes (decide_eq_true (show (i : Int) ≤ 360 by omega)) (Round.bind hL ?_)
    refine for_round' 0 (i : Int) (fun k (b : Bool) => (w, r, m, (i : Int), L, b, k, ())) (fun k b => b = allTo (fun j => decide (siz (liftP 0 r w ((j : Nat) + 1) i - liftP 0 r w (j : Nat) i) ≤ m)) k.toNat) (b0 := true) rfl (by omega) rfl ?_ ?_
    · intro j' b h6 h7 hb
      obtain ⟨j, rfl⟩ : ∃ j : Nat, j' = j := ⟨j'.toNat, by omega⟩
      rw [Int.toNat_natCast] at hb
      have e1 : ((j : Int) + 1).toNat = j + 1 := by omega
      have hcb := chg_bd (f := 0) (t := r) (w := w) (n := i) (i := j) (Int.le_refl 0) (by omega) (by omega) r1 w0 w1 (by omega) (by omega)
      refine Round.yes (decide_eq_true (by rw [hw]; exact h7)) ?_
      simp only [wrap_id (x := (j : Int) + 1) (by omega) (by omega)]
      cases b with
      | true =>
        refine Round.yes rfl (Round.at (by have := (hat (j + 1) (by omega)).idx; exact this) (Round.at (hat j (by omega)).idx ?_))
        have hs := e106 (a := liftP 0 r w ((j : Nat) + 1) i - liftP 0 r w (j : Nat) i) (by omega) (by omega)
        rw [← wrap_id (x := liftP 0 r w ((j : Nat) + 1) i - liftP 0 r w (j : Nat) i) (by omega) (by omega)] at hs
        refine Round.bind hs (Round.inr _ ⟨_, rfl, ?_⟩)
        rw [e1, allTo_succ, ← hb, wrap_id (x := liftP 0 r w ((j : Nat) + 1) i - liftP 0 r w (j : Nat) i) (by omega) (by omega)]
        rfl
      | false =>
        refine Round.no (by simp) (Round.inr _ ⟨false, rfl, ?_⟩)
        rw [e1, allTo_succ, ← hb]
        rfl
    · intro b hb
      rw [Int.toNat_natCast, okN_all (by omega)] at hb
      subst hb
      refine Round.no (by simp [hw]) (Round.ite (fun hk => ?_) (fun hk => ?_))
      · have hk : okN w r m i = true := hk
        rw [if_pos hk] at hp
        rw [hp]
        exact Round.done (Evt.some _)
      · have hk : ¬ okN w r m i = true := hk
        rw [if_neg hk] at hp
        exact Round.inl _ ⟨(), by rw [wrap_id (x := (i : Int) + 1) (by omega) (by omega)], by rw [hp, show (361 - ((i : Int) + 1)).toNat = 360 - i by omega, show ((i : Int) + 1).toNat = i + 1 by omega]⟩
  · intro _ hp
    have hp : lsR w r m = (0, 6, ()) := hp
    rw [hp]
    exact Round.no (by simp) (Round.done (Evt.some _))
/- spec.l02Asked -/
theorem e107 {w k n0 : Int} (w0 : 0 ≤ w) (w1 : w ≤ 3) (k0 : 0 ≤ k) (k1 : k ≤ n0) (n1 : 1 ≤ n0) (n2 : n0 ≤ 360) : Evt (fun n => call T C n 107 (w, k, n0, ())) ((true, ()), ()) := by
  have h1 := e104 w
  rw [show inR w 0 3 = true from inR_iff.2 ⟨w0, w1⟩] at h1
  have h2 := e85 n0 1 360
  rw [show inR n0 1 360 = true from inR_iff.2 ⟨n1, n2⟩] at h2
  have h3 := e85 k 0 n0
  rw [show inR k 0 n0 = true from inR_iff.2 ⟨k0, k1⟩] at h3
  refine Evt.next (Evt.bind h1 ?_) (fun n => r107 n w k n0)
  refine Evt.yes rfl (Evt.bind h2 ?_)
  exact Evt.yes rfl (Evt.bind h3 (Evt.some _))
/- spec.l01Lift -/
theorem e108 (a : Int) : Evt (fun n => call T C n 108 (a, ())) ((inR a 0 10000, ()), ()) := Evt.next (Evt.bind (e85 a 0 10000) (Evt.some _)) (fun n => r108 n a)
/- spec.LiftIn -/
theorem e32 {f t w k n0 : Int} (f0 : 0 ≤ f) (f1 : f ≤ 10000) (t0 : 0 ≤ t) (t1 : t ≤ 10000) (w0 : 0 ≤ w) (w1 : w ≤ 3) (k0 : 0 ≤ k) (k1 : k ≤ n0) (n1 : 1 ≤ n0) (n2 : n0 ≤ 360) : Evt (fun n => call T C n 32 (f, t, w, k, n0, ())) ((liftP f t w k n0, 0, ()), ()) := by
  have h2 := e108 f
  rw [show inR f 0 10000 = true from inR_iff.2 ⟨f0, f1⟩] at h2
  have h3 := e108 t
  rw [show inR t 0 10000 = true from inR_iff.2 ⟨t0, t1⟩] at h3
  refine Evt.next (Evt.bind (e107 w0 w1 k0 k1 n1 n2) ?_) (fun n => r32 n f t w k n0)
  refine Evt.no (by decide) (Evt.bind h2 ?_)
  refine Evt.no (by decide) (Evt.bind h3 ?_)
  exact Evt.no (by decide) (Evt.bind (e109 f0 f1 t0 t1 w0 w1 k0 k1 n1 n2) (Evt.some _))
/- spec.l00From -/
theorem e110 (a : List Int) : Evt (fun n => call T C n 110 (a, ())) (((a, 0, 0, ()), ()), ()) := Evt.next (Evt.some _) (fun n => r110 n a)
/- (*spec.l00Src).next -/
theorem e180 {k : Int} {s : Src} (h : SrcAt k s) (hk : k ≤ 1000000000000) : ∃ (v : Int) (s' : Src), Evt (fun n => call T C n 180 (s, ())) ((v, ()), (s', ())) ∧ 0 ≤ v ∧ v ≤ 255 ∧ SrcAt (k + 1) s' := by
  obtain ⟨h1, h2, h3, h4⟩ := h
  have hw : wr .i64 (s.2.1 + 1) = s.2.1 + 1 := wrap_id (by omega) (by omega)
  by_cases hp : s.2.1 < (s.1.length : Int)
  · obtain ⟨v, hv⟩ := at_of h3 hp
    have hb := h1 v hv.mem
    have ev : wr .i64 v = v := wrap_id (by omega) (by omega)
    obtain ⟨z, hz⟩ : ∃ z, z = wr .u64 ((wr .u64 ((wr .u64 (s.2.2.1 * (6364136223846793005 : Int))) + (wr .u64 (wr .i64 v)))) + (1442695040888963407 : Int)) := ⟨_, rfl⟩
    refine ⟨v, (s.1, s.2.1 + 1, z, ()), Evt.next (Evt.yes (decide_eq_true hp) (Evt.at hv.idx (Evt.yes (decide_eq_true (by rw [hw]; omega)) ((Evt.some _).of_eq fun n => ?_)))) (fun n => r180 n s), hb.1, hb.2, h1, h2, by show 0 ≤ s.2.1 + 1; omega, by show s.2.1 + 1 ≤ k + 1; omega⟩
    rw [← hz, hw, ev]
    rfl
  · obtain ⟨z, hz⟩ : ∃ z, z = wr .u64 ((wr .u64 ((wr .u64 (s.2.2.1 * (6364136223846793005 : Int))) + (wr .u64 (0 : Int)))) + (1442695040888963407 : Int)) := ⟨_, rfl⟩
    have hzb : 0 ≤ z ∧ z < 18446744073709551616 := by rw [hz]; exact wrap_u64 _
    obtain ⟨y, rfl⟩ : ∃ y : Nat, z = y := ⟨z.toNat, by omega⟩
    have hval : wr .i64 (bitsI .and .u64 (shr_ .u64 (y : Int) (40 : Int)) (255 : Int)) = ((y / 2 ^ 40 % 256 : Nat) : Int) := by
      rw [show (40 : Int) = ((40 : Nat) : Int) from rfl, shr_nat (by omega), and_255 (Nat.lt_of_le_of_lt (Nat.div_le_self _ _) (by omega))]
      have := Nat.mod_lt (y / 2 ^ 40) (show 0 < 256 by omega)
      exact wrap_id (by omega) (by omega)
    have hm := Nat.mod_lt (y / 2 ^ 40) (show 0 < 256 by omega)
    refine ⟨((y / 2 ^ 40 % 256 : Nat) : Int), (s.1, s.2.1 + 1, (y : Int), ()), Evt.next (Evt.no (by simpa using hp) (Evt.no (by rw [hw]; simp; omega) (Evt.chk rfl ((Evt.some _).of_eq fun n => ?_)))) (fun n => r180 n s), by omega, by omega, h1, h2, by show 0 ≤ s.2.1 + 1; omega, by show s.2.1 + 1 ≤ k + 1; omega⟩
    rw [← hz, hw, hval]
    rfl
/- (*spec.l00Src).pick -/
theorem e111 {k : Int} {s : Src} (h : SrcAt k s) (hk : k ≤ 999999999000) {m : Int} (m1 : 1 ≤ m) (m2 : m ≤ 1000000) : ∃ (v : Int) (s' : Src), Evt (fun n => call T C n 111 (s, m, ())) ((v, ()), (s', ())) ∧ 0 ≤ v ∧ v < m ∧ SrcAt (k + 2) s' := by
  by_cases hm : m ≤ 1
  · exact ⟨0, s, Evt.next (Evt.yes (decide_eq_true hm) (Evt.some _)) (fun n => r111 n s m), by omega, by omega, h.mono (by omega)⟩
  · obtain ⟨v, s1, hE, v0, v1, hs1⟩ := e180 h (by omega)
    by_cases hb : m > 200
    · obtain ⟨u, s2, hE2, u0, u1, hs2⟩ := e180 hs1 (by omega)
      have hx : wr .i64 (wr .i64 (v * 256) + u) = v * 256 + u := by rw [wrap_id (x := v * 256) (by omega) (by omega), wrap_id (by omega) (by omega)]
      have ht0 := Int.tmod_nonneg m (show 0 ≤ v * 256 + u by omega)
      have ht1 := Int.tmod_lt_of_pos (v * 256 + u) (show 0 < m by omega)
      refine ⟨Int.tmod (v * 256 + u) m, s2, Evt.next (Evt.no (by simpa using hm) (Evt.bind hE (Evt.yes (decide_eq_true hb) (Evt.bind hE2 (Evt.chk (bne_pos (by omega)) ((Evt.some _).of_eq fun n => ?_)))))) (fun n => r111 n s m), ht0, ht1, hs2.mono (by omega)⟩
      rw [hx]
      rfl
    · have ht0 := Int.tmod_nonneg m v0
      have ht1 := Int.tmod_lt_of_pos v (show 0 < m by omega)
      exact ⟨Int.tmod v m, s1, Evt.next (Evt.no (by simpa using hm) (Evt.bind hE (Evt.no (by simpa using hb) (Evt.chk (bne_pos (by omega)) (Evt.some _))))) (fun n => r111 n s m), ht0, ht1, hs1.mono (by omega)⟩
/- spec.A2Lifts -/
theorem e33 {b : List Int} (hb : ∀ v ∈ b, 0 ≤ v ∧ v ≤ 255) (hl : (b.length : Int) ≤ 3000) : ∃ L : List Int, Evt (fun n => call T C n 33 (b, ())) ((L, ()), ()) ∧ (1 ≤ L.length ∧ L.length ≤ 6) ∧ ∀ v ∈ L, 0 ≤ v ∧ v ≤ 49 := by
  have h0 : SrcAt 0 ((b, 0, 0, ()) : Src) := ⟨hb, by show (b.length : Int) ≤ 1000000; omega, Int.le_refl _, Int.le_refl _⟩
  obtain ⟨c, s1, hE1, c0, c1, hs1⟩ := e111 h0 (by omega) (m := 6) (by omega) (by omega)
  have key : EvtX (fun n => call T C n 33 (b, ())) (fun y => (1 ≤ y.1.1.length ∧ y.1.1.length ≤ 6) ∧ ∀ v ∈ y.1.1, 0 ≤ v ∧ v ≤ 49) := by
    refine EvtX.next (EvtX.bind (e110 b) (EvtX.bind hE1 ?_)) (fun n => r33 n b)
    refine EvtX.loop (fun x => ∃ (src : Src) (L : List Int) (m : Nat), x = (src, L, (m : Int), ()) ∧ SrcAt (2 + 2 * (6 - m)) src ∧ (∀ v ∈ L, 0 ≤ v ∧ v ≤ 49) ∧ L.length + m ≤ 6 ∧ 1 ≤ L.length + m) (fun x => x.2.2.1.toNat)
      ⟨s1, [], (1 + c).toNat, ?_, hs1.mono (by omega), by simp, by simp; omega, by simp; omega⟩ ?_
    · show (s1, _, wr .i64 (1 + c), ()) = _
      rw [wrap_id (x := 1 + c) (by omega) (by omega), show (((1 + c).toNat : Nat) : Int) = 1 + c by omega]
    rintro x ⟨src, L, m, rfl, hsrc, hL, hn1, hn2⟩
    by_cases h0 : 0 < m
    · right
      obtain ⟨a, a1, hA, a0, al, hs3⟩ := e111 hsrc (by omega) (m := 50) (by omega) (by omega)
      refine ⟨(a1, L ++ [a], ((m - 1 : Nat) : Int), ()), ⟨a1, L ++ [a], m - 1, rfl, hs3.mono (by omega), fun v hv => ?_, by simp; omega, by simp; omega⟩, ?_, fun y => ?_⟩
      · rcases List.mem_append.1 hv with hv | hv
        · exact hL v hv
        · simp at hv; omega
      · show ((m - 1 : Nat) : Int).toNat < (m : Int).toNat
        omega
      · refine Round.yes (decide_eq_true (show (m : Int) > 0 by omega)) (Round.bind hA (Round.chk (decide_eq_true (by simp only [List.length_cons, List.length_nil]; omega)) (Round.again _ ?_)))
        rw [wrap_id (x := (m : Int) - 1) (by omega) (by omega), show (m : Int) - 1 = ((m - 1 : Nat) : Int) by omega]
    · left
      have hm0 : m = 0 := by omega
      subst hm0
      exact ⟨((L, ()), ()), ⟨⟨by show 1 ≤ L.length; omega, by show L.length ≤ 6; omega⟩, hL⟩, Round.no (by simp) (Round.done (Evt.some _))⟩
  obtain ⟨⟨⟨L, _⟩, _⟩, ⟨h1, h2⟩, hE⟩ := key
  exact ⟨L, hE, h1, h2⟩
/- impl.isLift -/
theorem e114 (a : Int) : Evt (fun n => call T C n 114 (a, ())) ((inR a 0 10000, ()), ()) := Evt.next (Evt.bind (e91 a 0 10000) (Evt.some _)) (fun n => r114 n a)
/- impl.PlanSteps$1 -/
theorem e113 (v : Int) : Evt (fun n => call T C n 113 (v, ())) ((!inR v 0 10000, ()), ()) := Evt.next (Evt.bind (e114 v) (Evt.some _)) (fun n => r113 n v)
/- slices.IndexFunc[[]int64,int64]{impl.PlanSteps$1} -/
theorem e181 (l : List Int)  (hl' : (l.length : Int) ≤ 1000000) : Evt (fun n => call T C n 181 (l, ((), ()), ())) ((fi (fun v => !inR v 0 10000) l 0, ()), ()) := by
  have hl : (l.length : Int) ≤ 140737488351232 := by omega
  refine Evt.next ?_ (fun n => r181 n l ((), ()))
  refine for_evt' 0 (l.length : Int) (fun i (_ : Unit) => (l, ((), ()), (l.length : Int), i, ())) (fun i _ => fi (fun v => !inR v 0 10000) l 0 = fi (fun v => !inR v 0 10000) (l.drop i.toNat) i) (b0 := ()) rfl (by omega) (by simp) ?_ ?_
  · intro i _ h2 h3 hp
    obtain ⟨v, hv⟩ := at_of h2 h3
    rw [hv.drop] at hp
    simp only [fi] at hp
    refine Round.yes (decide_eq_true h3) (Round.at hv.idx (Round.bind (e113 v) ?_))
    cases hb : !inR v 0 10000 with
    | true =>
      simp only [hb, if_true] at hp
      rw [hp]
      exact Round.yes rfl (Round.done (Evt.some _))
    | false =>
      simp only [hb, Bool.false_eq_true, if_false] at hp
      exact Round.no (by simp) (Round.again _ ⟨(), by rw [wr_succ h2 h3 (by omega)], hp⟩)
  · intro _ hp
    rw [drop_all] at hp
    rw [hp]
    exact Round.no (by simp) (Round.done (Evt.some _))
/- slices.ContainsFunc[[]int64,int64]{impl.PlanSteps$1} -/
theorem e112 (l : List Int)  (hl' : (l.length : Int) ≤ 1000000) : Evt (fun n => call T C n 112 (l, ((), ()), ())) ((l.any (fun v => !inR v 0 10000), ()), ()) := by
  refine Evt.next (Evt.bind (e181 l  hl') ((Evt.some _).of_eq fun n => ?_)) (fun n => r112 n l ((), ()))
  simp only [fi_any _ l 0 (Int.le_refl _)]
  rfl
/- impl.isSteps -/
theorem e115 (a : Int) : Evt (fun n => call T C n 115 (a, ())) ((inR a 8 360, ()), ()) := Evt.next (Evt.bind (e91 a 8 360) (Evt.some _)) (fun n => r115 n a)
/- impl.PlanSteps -/
theorem e34 {l : List Int} {law s : Int} {m : Nat} (hl : l.length = m) (m0 : 0 < m) (m1 : m ≤ 24) (he : ∀ v ∈ l, 0 ≤ v ∧ v ≤ 10000) (l0 : 0 ≤ law) (l1 : law ≤ 3) (s0 : 8 ≤ s) (s1 : s ≤ 360) (sm : (m : Int) ≤ s) : Evt (fun n => call T C n 34 (l, law, s, ())) ((((g l 0, mosP law (toL l) (plan (zL l) m (s - m).toNat) m, ()), 0, ()), ()) : (Prg × Int × Unit) × Unit) := by
  have h1 := e101 law
  rw [show inR law 0 3 = true from inR_iff.2 ⟨l0, l1⟩] at h1
  have h2 := e91 (l.length : Int) 1 24
  rw [show inR (l.length : Int) 1 24 = true from inR_iff.2 ⟨by omega, by omega⟩] at h2
  have h3 := e112 l (by omega)
  rw [show (l.any fun v => !inR v 0 10000) = false from List.any_eq_false.2 fun v hv => by simp [inR_iff.2 (he v hv)]] at h3
  have h4 := e115 s
  rw [show inR s 8 360 = true from inR_iff.2 ⟨s0, s1⟩] at h4
  obtain ⟨to, eto⟩ : ∃ to, to = toL l := ⟨_, rfl⟩
  obtain ⟨z, ez⟩ : ∃ z, z = zL l := ⟨_, rfl⟩
  rw [← eto, ← ez]
  have hto : ∀ i, i < m → 0 ≤ to i ∧ to i ≤ 10000 := fun i hi => by rw [eto]; exact toL_in (by omega) he i
  have hg : ∀ i, i < m → 0 ≤ g l i ∧ g l i ≤ 10000 := fun i hi => he _ (g_mem (by omega))
  have hz : ∀ i, i < m → 0 ≤ z i ∧ z i ≤ 10000 := fun i hi => by rw [ez]; exact zL_in (by omega) he (by omega)
  have hg0 := hg 0 m0
  obtain ⟨d, ed⟩ : ∃ d : Nat, (s - m).toNat = d := ⟨_, rfl⟩
  have hd : wr .i64 (s - (l.length : Int)) = (d : Int) := by rw [wrap_id (by omega) (by omega)]; omega
  rw [ed]
  have e16 : wr .i16 (g l 0) = g l 0 := wrap16 (by omega) (by omega)
  have el8 : wr .i8 law = law := wr_i8 (by omega) (by omega)
  have stp : ∀ i : Nat, i < m → At l (Int.tmod ((i : Int) + 1) (l.length : Int)) (to i) := fun i hi => by rw [eto]; exact toL_at (by omega) (by omega)
  have stg : ∀ i : Nat, i < m → At l (i : Int) (g l i) := fun i hi => by have := g_idx (l := l) (i := (i : Int)) (by omega) (by omega); rwa [Int.toNat_natCast] at this
  have hsz : ∀ i, i < m → siz (to i - g l i) = z i := fun i hi => by rw [ez, eto]; rfl
  refine Evt.next (Evt.bind h1 (Evt.no (by decide) (Evt.bind h2 (Evt.no (by decide) (Evt.bind h3 (Evt.no (by decide) (Evt.bind h4 (Evt.no (by decide) (Evt.no (by simp; omega) (Evt.at (stg 0 m0).idx ?_)))))))))) (fun n => r34 n l law s)
  refine for_evt' 0 (m : Int) (fun i (_ : Unit) => (l, law, s, (0, [], ()), (l.length : Int), (g l 0, mosP law to (fun _ => 1) i.toNat, ()), tb i.toNat z, l, (l.length : Int), i, ())) (fun _ _ => True) (b0 := ()) (by rw [e16]; rfl) (by omega) trivial ?_ ?_
  · intro i' _ h6 h7 _
    obtain ⟨i, rfl⟩ : ∃ i : Nat, i' = i := ⟨i'.toNat, by omega⟩
    have hi : i < m := by omega
    have a := hto i hi
    have b := hg i hi
    have hA := e116 (a := to i - g l i) (by omega) (by omega)
    rw [hsz i hi] at hA
    have lM : (mosP law to (fun _ => 1) i).length = i := tb_len _ _
    have lZ : (tb i z).length = i := tb_len _ _
    refine Round.yes (decide_eq_true (show (i : Int) < (l.length : Int) by omega)) (Round.at (stg i hi).idx (Round.chk (bne_pos (show 0 < (l.length : Int) by omega)) ?_))
    simp only [wrap_id (x := (i : Int) + 1) (by omega) (by omega), Int.toNat_natCast]
    refine Round.at (stp i hi).idx (Round.chk (decide_eq_true (by simp only [List.length_cons, List.length_nil, lM]; omega)) ?_)
    simp only [wrap_id (x := to i - g l i) (by omega) (by omega)]
    refine Round.bind hA (Round.chk (decide_eq_true (by simp only [List.length_cons, List.length_nil, lZ]; omega)) (Round.again _ ⟨(), ?_, trivial⟩))
    have e1 : mosP law to (fun _ => 1) i ++ [(wr .i8 law, 1, wr .i16 (to i), ())] = mosP law to (fun _ => 1) (i + 1) := by
      rw [el8, wrap16 (by omega) (by omega)]
      exact tb_snoc i fun i => ((law, 1, to i, ()) : Ct)
    have e2 : tb i z ++ [z i] = tb (i + 1) z := tb_snoc i z
    rw [show ((i : Int) + 1).toNat = i + 1 by omega, ← e1, ← e2]
  · intro _ _
    rw [Int.toNat_natCast]
    refine Round.no (by simp; omega) (Round.done ?_)
    rw [hd]
    refine for_evt' 0 (d : Int) (fun k (_ : Unit) => ((0, [], ()), (g l 0, mosP law to (plan z m k.toNat) m, ()), tb m z, (d : Int), k, ())) (fun _ _ => True) (b0 := ()) rfl (by omega) trivial ?_ ?_
    · intro k' _ h4 h5 _
      obtain ⟨k, rfl⟩ : ∃ k : Nat, k' = k := ⟨k'.toNat, by omega⟩
      rw [Int.toNat_natCast]
      refine Round.yes (decide_eq_true h5) ?_
      have GP := plan_good z m0 k
      obtain ⟨S, eS⟩ : ∃ S, S = plan z m k := ⟨_, rfl⟩
      have eS1 : plan z m (k + 1) = more z S m := by rw [eS]; rfl
      rw [← eS] at GP ⊢
      have hM : ∀ p : Nat, p < m → (mosP law to S m)[((p : Nat) : Int).toNat]? = some (law, S p, to p, ()) := fun p hp => by rw [Int.toNat_natCast]; exact tb_get hp
      have hZ : ∀ p : Nat, p < m → (tb m z)[((p : Nat) : Int).toNat]? = some (z p) := fun p hp => by rw [Int.toNat_natCast]; exact tb_get hp
      have lM : (mosP law to S m).length = m := tb_len _ _
      have lZ : (tb m z).length = m := tb_len _ _
      have hSb : ∀ p, p < m → 1 ≤ S p ∧ S p ≤ 360 := fun p hp => by have := GP.le hp; omega
      have hmul : ∀ p q, p < m → q < m → wr .i64 (z p * wr .i64 (S q)) = z p * S q := fun p q hp hq => by
        have a := hSb q hq
        have b := hz p hp
        have := mulB (a := z p) (b := S q) (A := 10000) (B := 360) b.1 b.2 (by omega) a.2
        rw [wrap_id (x := S q) (by omega) (by omega), wrap_id (by omega) (by omega)]
      have hpk : ∀ i, i ≤ m → pick z S i < m := pick_lt z S m0
      refine for_round' 0 (m : Int) (fun i (_ : Unit) => ((0, [], ()), (g l 0, mosP law to S m, ()), tb m z, ((pick z S i.toNat : Nat) : Int), (d : Int), (k : Int), ((tb m z).length : Int), i, ())) (fun _ _ => True) (b0 := ()) rfl (by omega) trivial ?_ ?_
      · intro i' _ h6 h7 _
        obtain ⟨i, rfl⟩ : ∃ i : Nat, i' = i := ⟨i'.toNat, by omega⟩
        have hi : i < m := by omega
        have hp := hpk i (by omega)
        rw [Int.toNat_natCast]
        refine Round.yes (decide_eq_true (by rw [lZ]; exact h7)) (Round.chk (decide_eq_true (by show 0 ≤ (i : Int) ∧ (i : Int) < ((tb m z).length : Int); omega)) (Round.at (hZ i hi) (Round.chk (decide_eq_true (by show 0 ≤ ((pick z S i : Nat) : Int) ∧ ((pick z S i : Nat) : Int) < ((mosP law to S m).length : Int); omega)) (Round.at (hM _ hp) (Round.chk (decide_eq_true (by show 0 ≤ ((pick z S i : Nat) : Int) ∧ ((pick z S i : Nat) : Int) < ((tb m z).length : Int); omega)) (Round.at (hZ _ hp) (Round.chk (decide_eq_true (by show 0 ≤ (i : Int) ∧ (i : Int) < ((mosP law to S m).length : Int); omega)) (Round.at (hM i hi) (Round.ite (fun hc => ?_) (fun hc => ?_))))))))))
        · have hc : z i * S (pick z S i) > z (pick z S i) * S i := by have := of_decide_eq_true hc; simp only [hmul _ _ hi hp, hmul _ _ hp hi] at this; exact this
          refine Round.inr _ ⟨(), ?_, trivial⟩
          rw [wrap_id (x := (i : Int) + 1) (by omega) (by omega), show ((i : Int) + 1).toNat = i + 1 by omega]
          have : pick z S (i + 1) = i := by rw [pick, if_pos hc]
          rw [this]
        · have hc : ¬ z i * S (pick z S i) > z (pick z S i) * S i := fun h => by
            have h2 : decide (wr .i64 (z i * wr .i64 (S (pick z S i))) > wr .i64 (z (pick z S i) * wr .i64 (S i))) = true := decide_eq_true (by rw [hmul _ _ hi hp, hmul _ _ hp hi]; exact h)
            exact hc h2
          refine Round.inr _ ⟨(), ?_, trivial⟩
          rw [wrap_id (x := (i : Int) + 1) (by omega) (by omega), show ((i : Int) + 1).toNat = i + 1 by omega]
          have : pick z S (i + 1) = pick z S i := by rw [pick, if_neg hc]
          rw [this]
      · intro _ _
        have hp := hpk m (Nat.le_refl _)
        have hb := hSb _ hp
        rw [Int.toNat_natCast]
        refine Round.no (by simp; omega) (Round.chk (decide_eq_true (by show 0 ≤ ((pick z S m : Nat) : Int) ∧ ((pick z S m : Nat) : Int) < ((mosP law to S m).length : Int); omega)) (Round.at (hM _ hp) (Round.chk (decide_eq_true (by show 0 ≤ ((pick z S m : Nat) : Int) ∧ ((pick z S m : Nat) : Int) < ((mosP law to S m).length : Int); omega)) (Round.at (hM _ hp) (Round.inl _ ⟨(), ?_, trivial⟩)))))
        have hset : (mosP law to S m).set ((pick z S m : Nat) : Int).toNat (law, wr .i16 (S (pick z S m) + 1), to (pick z S m), ()) = mosP law to (plan z m (k + 1)) m := by
          rw [wrap16 (by omega) (by omega), Int.toNat_natCast, mosP_set, eS1]
          rfl
        rw [wrap_id (x := (k : Int) + 1) (by omega) (by omega), show ((k : Int) + 1).toNat = k + 1 by omega, ← hset]
    · intro _ _
      exact Round.no (by simp) (Round.done (Evt.some _))
/- spec.l01Steps -/
theorem e117 (a : Int) : Evt (fun n => call T C n 117 (a, ())) ((inR a 8 360, ()), ()) := Evt.next (Evt.bind (e85 a 8 360) (Evt.some _)) (fun n => r117 n a)
/- spec.PlanSteps -/
theorem e35 {l : List Int} {law s : Int} {m : Nat} (hl : l.length = m) (m0 : 0 < m) (m1 : m ≤ 24) (he : ∀ v ∈ l, 0 ≤ v ∧ v ≤ 10000) (l0 : 0 ≤ law) (l1 : law ≤ 3) (s0 : 8 ≤ s) (s1 : s ≤ 360) (sm : (m : Int) ≤ s) : Evt (fun n => call T C n 35 (l, law, s, ())) ((((g l 0, mosP law (toL l) (plan (zL l) m (s - m).toNat) m, ()), 0, ()), ()) : (Prg × Int × Unit) × Unit) := by
  have h1 := e104 law
  rw [show inR law 0 3 = true from inR_iff.2 ⟨l0, l1⟩] at h1
  have h2 := e85 (l.length : Int) 1 24
  rw [show inR (l.length : Int) 1 24 = true from inR_iff.2 ⟨by omega, by omega⟩] at h2
  have h4 := e117 s
  rw [show inR s 8 360 = true from inR_iff.2 ⟨s0, s1⟩] at h4
  obtain ⟨to, eto⟩ : ∃ to, to = toL l := ⟨_, rfl⟩
  obtain ⟨z, ez⟩ : ∃ z, z = zL l := ⟨_, rfl⟩
  rw [← eto, ← ez]
  have hto : ∀ i, i < m → 0 ≤ to i ∧ to i ≤ 10000 := fun i hi => by rw [eto]; exact toL_in (by omega) he i
  have hg : ∀ i, i < m → 0 ≤ g l i ∧ g l i ≤ 10000 := fun i hi => he _ (g_mem (by omega))
  have hz : ∀ i, i < m → 0 ≤ z i ∧ z i ≤ 10000 := fun i hi => by rw [ez]; exact zL_in (by omega) he (by omega)
  have hg0 := hg 0 m0
  obtain ⟨d, ed⟩ : ∃ d : Nat, (s - m).toNat = d := ⟨_, rfl⟩
  have hd : wr .i64 (s - (l.length : Int)) = (d : Int) := by rw [wrap_id (by omega) (by omega)]; omega
  rw [ed]
  have e16 : wr .i16 (g l 0) = g l 0 := wrap16 (by omega) (by omega)
  have el8 : wr .i8 law = law := wr_i8 (by omega) (by omega)
  have stp : ∀ i : Nat, i < m → At l (Int.tmod ((i : Int) + 1) (l.length : Int)) (to i) := fun i hi => by rw [eto]; exact toL_at (by omega) (by omega)
  have stg : ∀ i : Nat, i < m → At l (i : Int) (g l i) := fun i hi => by have := g_idx (l := l) (i := (i : Int)) (by omega) (by omega); rwa [Int.toNat_natCast] at this
  have hsz : ∀ i, i < m → siz (to i - g l i) = z i := fun i hi => by rw [ez, eto]; rfl
  refine Evt.next (Evt.bind h1 (Evt.yes (by decide) (Evt.bind h2 (Evt.yes (by decide) (Evt.bind h4 (Evt.yes (by decide) ?_)))))) (fun n => r35 n l law s)
  refine for_evt' 0 (m : Int) (fun i (_ : Unit) => (l, law, s, (0, [], ()), (l.length : Int), true, i, ())) (fun _ _ => True) (b0 := ()) (by rw [show decide (s ≥ (l.length : Int)) = true from decide_eq_true (by omega)]; rfl) (by omega) trivial ?_ ?_
  · intro i' _ h6 h7 _
    obtain ⟨i, rfl⟩ : ∃ i : Nat, i' = i := ⟨i'.toNat, by omega⟩
    have hi : i < m := by omega
    have hA := e108 (g l i)
    rw [inR_iff.2 (hg i hi)] at hA
    exact Round.yes (decide_eq_true (show (i : Int) < (l.length : Int) by omega)) (Round.yes rfl (Round.at (stg i hi).idx (Round.bind hA (Round.again _ ⟨(), by rw [wrap_id (x := (i : Int) + 1) (by omega) (by omega)], trivial⟩))))
  intro _ _
  refine Round.no (by simp; omega) (Round.no (by simp) (Round.at (stg 0 m0).idx (Round.done ?_)))
  refine for_evt' 0 (m : Int) (fun i (_ : Unit) => (l, law, s, (0, [], ()), (l.length : Int), (g l 0, mosP law to (fun _ => 1) i.toNat, ()), tb i.toNat z, i, ())) (fun _ _ => True) (b0 := ()) (by rw [e16]; rfl) (by omega) trivial ?_ ?_
  · intro i' _ h6 h7 _
    obtain ⟨i, rfl⟩ : ∃ i : Nat, i' = i := ⟨i'.toNat, by omega⟩
    have hi : i < m := by omega
    have a := hto i hi
    have b := hg i hi
    have hA := e106 (a := to i - g l i) (by omega) (by omega)
    rw [hsz i hi] at hA
    have lM : (mosP law to (fun _ => 1) i).length = i := tb_len _ _
    have lZ : (tb i z).length = i := tb_len _ _
    refine Round.yes (decide_eq_true (show (i : Int) < (l.length : Int) by omega)) (Round.chk (bne_pos (show 0 < (l.length : Int) by omega)) ?_)
    simp only [wrap_id (x := (i : Int) + 1) (by omega) (by omega), Int.toNat_natCast]
    refine Round.at (stp i hi).idx (Round.chk (decide_eq_true (by simp only [List.length_cons, List.length_nil, lM]; omega)) (Round.at (stg i hi).idx ?_))
    simp only [wrap_id (x := to i - g l i) (by omega) (by omega)]
    refine Round.bind hA (Round.chk (decide_eq_true (by simp only [List.length_cons, List.length_nil, lZ]; omega)) (Round.again _ ⟨(), ?_, trivial⟩))
    have e1 : mosP law to (fun _ => 1) i ++ [(wr .i8 law, 1, wr .i16 (to i), ())] = mosP law to (fun _ => 1) (i + 1) := by
      rw [el8, wrap16 (by omega) (by omega)]
      exact tb_snoc i fun i => ((law, 1, to i, ()) : Ct)
    have e2 : tb i z ++ [z i] = tb (i + 1) z := tb_snoc i z
    rw [show ((i : Int) + 1).toNat = i + 1 by omega, ← e1, ← e2]
  · intro _ _
    rw [Int.toNat_natCast]
    refine Round.no (by simp; omega) (Round.done ?_)
    rw [hd]
    refine for_evt' 0 (d : Int) (fun k (_ : Unit) => ((0, [], ()), (l.length : Int), (g l 0, mosP law to (plan z m k.toNat) m, ()), tb m z, (d : Int) - k, ())) (fun _ _ => True) (b0 := ()) (by rw [Int.sub_zero]; rfl) (by omega) trivial ?_ ?_
    · intro k' _ h4 h5 _
      obtain ⟨k, rfl⟩ : ∃ k : Nat, k' = k := ⟨k'.toNat, by omega⟩
      rw [Int.toNat_natCast]
      refine Round.yes (decide_eq_true (show (d : Int) - (k : Int) > 0 by omega)) ?_
      have GP := plan_good z m0 k
      obtain ⟨S, eS⟩ : ∃ S, S = plan z m k := ⟨_, rfl⟩
      have eS1 : plan z m (k + 1) = more z S m := by rw [eS]; rfl
      rw [← eS] at GP ⊢
      have hM : ∀ p : Nat, p < m → (mosP law to S m)[((p : Nat) : Int).toNat]? = some (law, S p, to p, ()) := fun p hp => by rw [Int.toNat_natCast]; exact tb_get hp
      have hZ : ∀ p : Nat, p < m → (tb m z)[((p : Nat) : Int).toNat]? = some (z p) := fun p hp => by rw [Int.toNat_natCast]; exact tb_get hp
      have lM : (mosP law to S m).length = m := tb_len _ _
      have lZ : (tb m z).length = m := tb_len _ _
      have hSb : ∀ p, p < m → 1 ≤ S p ∧ S p ≤ 360 := fun p hp => by have := GP.le hp; omega
      have hmul : ∀ p q, p < m → q < m → wr .i64 (z p * wr .i64 (S q)) = z p * S q := fun p q hp hq => by
        have a := hSb q hq
        have b := hz p hp
        have := mulB (a := z p) (b := S q) (A := 10000) (B := 360) b.1 b.2 (by omega) a.2
        rw [wrap_id (x := S q) (by omega) (by omega), wrap_id (by omega) (by omega)]
      have hpk : ∀ i, i ≤ m → pick z S i < m := pick_lt z S m0
      refine for_round' 1 (m : Int) (fun i (_ : Unit) => ((0, [], ()), (l.length : Int), (g l 0, mosP law to S m, ()), tb m z, (d : Int) - (k : Int), ((pick z S i.toNat : Nat) : Int), i, ())) (fun _ _ => True) (b0 := ()) (by rw [show (1 : Int).toNat = 1 from rfl, pick_one]; rfl) (by omega) trivial ?_ ?_
      · intro i' _ h6 h7 _
        obtain ⟨i, rfl⟩ : ∃ i : Nat, i' = i := ⟨i'.toNat, by omega⟩
        have hi : i < m := by omega
        have hp := hpk i (by omega)
        rw [Int.toNat_natCast]
        refine Round.yes (decide_eq_true (show (i : Int) < (l.length : Int) by omega)) (Round.chk (decide_eq_true (by show 0 ≤ (i : Int) ∧ (i : Int) < ((tb m z).length : Int); omega)) (Round.at (hZ i hi) (Round.chk (decide_eq_true (by show 0 ≤ ((pick z S i : Nat) : Int) ∧ ((pick z S i : Nat) : Int) < ((mosP law to S m).length : Int); omega)) (Round.at (hM _ hp) (Round.chk (decide_eq_true (by show 0 ≤ ((pick z S i : Nat) : Int) ∧ ((pick z S i : Nat) : Int) < ((tb m z).length : Int); omega)) (Round.at (hZ _ hp) (Round.chk (decide_eq_true (by show 0 ≤ (i : Int) ∧ (i : Int) < ((mosP law to S m).length : Int); omega)) (Round.at (hM i hi) (Round.ite (fun hc => ?_) (fun hc => ?_))))))))))
        · have hc : z i * S (pick z S i) > z (pick z S i) * S i := by have := of_decide_eq_true hc; simp only [hmul _ _ hi hp, hmul _ _ hp hi] at this; exact this
          refine Round.inr _ ⟨(), ?_, trivial⟩
          rw [wrap_id (x := (i : Int) + 1) (by omega) (by omega), show ((i : Int) + 1).toNat = i + 1 by omega]
          have : pick z S (i + 1) = i := by rw [pick, if_pos hc]
          rw [this]
        · have hc : ¬ z i * S (pick z S i) > z (pick z S i) * S i := fun h => by
            have h2 : decide (wr .i64 (z i * wr .i64 (S (pick z S i))) > wr .i64 (z (pick z S i) * wr .i64 (S i))) = true := decide_eq_true (by rw [hmul _ _ hi hp, hmul _ _ hp hi]; exact h)
            exact hc h2
          refine Round.inr _ ⟨(), ?_, trivial⟩
          rw [wrap_id (x := (i : Int) + 1) (by omega) (by omega), show ((i : Int) + 1).toNat = i + 1 by omega]
          have : pick z S (i + 1) = pick z S i := by rw [pick, if_neg hc]
          rw [this]
      · intro _ _
        have hp := hpk m (Nat.le_refl _)
        have hb := hSb _ hp
        rw [Int.toNat_natCast]
        refine Round.no (by simp; omega) (Round.chk (decide_eq_true (by show 0 ≤ ((pick z S m : Nat) : Int) ∧ ((pick z S m : Nat) : Int) < ((mosP law to S m).length : Int); omega)) (Round.at (hM _ hp) (Round.chk (decide_eq_true (by show 0 ≤ ((pick z S m : Nat) : Int) ∧ ((pick z S m : Nat) : Int) < ((mosP law to S m).length : Int); omega)) (Round.at (hM _ hp) (Round.inl _ ⟨(), ?_, trivial⟩)))))
        have hset : (mosP law to S m).set ((pick z S m : Nat) : Int).toNat (law, wr .i16 (S (pick z S m) + 1), to (pick z S m), ()) = mosP law to (plan z m (k + 1)) m := by
          rw [wrap16 (by omega) (by omega), Int.toNat_natCast, mosP_set, eS1]
          rfl
        rw [wrap_id (x := (d : Int) - (k : Int) - 1) (by omega) (by omega), show ((k : Int) + 1).toNat = k + 1 by omega, ← hset, show (d : Int) - ((k : Int) + 1) = (d : Int) - (k : Int) - 1 by omega]
    · intro _ _
      rw [Int.toNat_natCast]
      exact Round.no (by simp) (Round.done (Evt.some _))
/- spec.l02Same -/
theorem e118 (p : Prg) (hl : (p.2.1.length : Int) ≤ 1000000) : Evt (fun n => call T C n 118 (p, p, ())) ((true, ()), ()) := by
  refine Evt.next (Evt.no (by simp) (Evt.no (by simp) ?_)) (fun n => r118 n p p)
  refine for_evt' 0 (p.2.1.length : Int) (fun i (_ : Unit) => (p, p, i, ())) (fun _ _ => True) (b0 := ()) rfl (by omega) trivial ?_ ?_
  · intro i _ h2 h3 _
    obtain ⟨v, hv⟩ := at_of h2 h3
    exact Round.yes (decide_eq_true h3) (Round.at hv.idx (Round.at hv.idx (Round.no (by simp) (Round.again _ ⟨(), by rw [wr_succ h2 h3 (by omega)], trivial⟩))))
  · intro _ _
    exact Round.no (by simp) (Round.done (Evt.some _))
/- spec.SameProgram -/
theorem e36 (p : Prg) (hl : (p.2.1.length : Int) ≤ 1000000) : Evt (fun n => call T C n 36 (p, p, ())) ((true, ()), ()) := Evt.next (Evt.bind (e118 p hl) (Evt.some _)) (fun n => r36 n p p)
/- impl.ValidProgram$1 -/
theorem e120 (v : Ct) : Evt (fun n => call T C n 120 (v, ())) ((!moOk v, ()), ()) := by
  refine Evt.next (Evt.bind (e101 _) ?_) (fun n => r120 n v)
  unfold moOk
  cases inR (wr .i64 v.1) 0 3 with
  | false => exact Evt.yes rfl (Evt.some _)
  | true =>
    refine Evt.no (by simp) ?_
    cases decide (v.2.1 < 1) with
    | true => exact Evt.yes rfl (Evt.some _)
    | false => exact Evt.no (by simp) (Evt.bind (e114 _) (Evt.some _))
/- slices.IndexFunc[[]impl.Motion,impl.Motion]{impl.ValidProgram$1} -/
theorem e182 (l : List Ct) (hr : RngMo l) : Evt (fun n => call T C n 182 (l, ((), ()), ())) ((fi (fun v => !moOk v) l 0, ()), ()) := by
  have hl : (l.length : Int) ≤ 140737488351232 := by have := hr.len'; omega
  refine Evt.next ?_ (fun n => r182 n l ((), ()))
  refine for_evt' 0 (l.length : Int) (fun i (_ : Unit) => (l, ((), ()), (l.length : Int), i, ())) (fun i _ => fi (fun v => !moOk v) l 0 = fi (fun v => !moOk v) (l.drop i.toNat) i) (b0 := ()) rfl (by omega) (by simp) ?_ ?_
  · intro i _ h2 h3 hp
    obtain ⟨v, hv⟩ := at_of h2 h3
    rw [hv.drop] at hp
    simp only [fi] at hp
    refine Round.yes (decide_eq_true h3) (Round.at hv.idx (Round.bind (e120 v) ?_))
    cases hb : !moOk v with
    | true =>
      simp only [hb, if_true] at hp
      rw [hp]
      exact Round.yes rfl (Round.done (Evt.some _))
    | false =>
      simp only [hb, Bool.false_eq_true, if_false] at hp
      exact Round.no (by simp) (Round.again _ ⟨(), by rw [wr_succ h2 h3 (by omega)], hp⟩)
  · intro _ hp
    rw [drop_all] at hp
    rw [hp]
    exact Round.no (by simp) (Round.done (Evt.some _))
/- slices.ContainsFunc[[]impl.Motion,impl.Motion]{impl.ValidProgram$1} -/
theorem e119 (l : List Ct) (hr : RngMo l) : Evt (fun n => call T C n 119 (l, ((), ()), ())) ((l.any (fun v => !moOk v), ()), ()) := by
  refine Evt.next (Evt.bind (e182 l hr) ((Evt.some _).of_eq fun n => ?_)) (fun n => r119 n l ((), ()))
  simp only [fi_any _ l 0 (Int.le_refl _)]
  rfl
/- (impl.Program).steps -/
theorem e121 (p : Prg) (hr : RngPg p) (hn : (p.2.1.length : Int) ≤ 24) : Evt (fun n => call T C n 121 (p, ())) ((sumM p.2.1, ()), ()) := by
  have hb := sumM_take hr.m hn
  refine Evt.next ?_ (fun n => r121 n p)
  refine for_evt' 0 (p.2.1.length : Int) (fun i (_ : Unit) => (sumM (p.2.1.take i.toNat), p.2.1, (p.2.1.length : Int), i, ())) (fun _ _ => True) (b0 := ()) (by simp [sumM]) (by omega) trivial ?_ ?_
  · intro i _ h3 h4 _
    obtain ⟨v, hv⟩ := at_of h3 h4
    have hrv := hr.m.el v hv.mem
    have hbi := hb i.toNat
    refine Round.yes (decide_eq_true h4) (Round.at hv.idx (Round.again _ ⟨(), ?_, trivial⟩))
    rw [hr.m.i2 hv.mem, wrap_id (x := sumM (p.2.1.take i.toNat) + v.2.1) (by omega) (by omega), hv.take, sumM_snoc, wr_succ h3 h4 (by omega)]
  · intro _ _
    simp only [take_all]
    exact Round.no (by simp) (Round.done (Evt.some _))
/- impl.ValidProgram -/
theorem e37 (p : Prg) (hr : RngPg p) : Evt (fun n => call T C n 37 (p, ())) ((okPg p, ()), ()) := by
  refine Evt.next (Evt.bind (e91 _ _ _) ?_) (fun n => r37 n p)
  unfold okPg
  cases h1 : inR (p.2.1.length : Int) 1 24 with
  | false => exact Evt.yes rfl (Evt.some _)
  | true =>
    have hn := inR_iff.1 h1
    refine Evt.no (by simp) (Evt.bind (e114 _) ?_)
    cases h2 : inR (wr .i64 p.1) 0 10000 with
    | false => exact Evt.yes rfl (Evt.some _)
    | true =>
      refine Evt.no (by simp) (Evt.bind (e119 p.2.1 hr.m) ?_)
      have ha : p.2.1.all moOk = !p.2.1.any (fun v => !moOk v) := by simp [List.any_eq_not_all_not]
      rw [ha]
      cases p.2.1.any (fun v => !moOk v) with
      | true => exact Evt.no (by simp) (Evt.some _)
      | false =>
        refine Evt.yes rfl (Evt.bind (e121 p hr hn.2) (Evt.bind (e115 _) ?_))
        cases k4 : inR (sumM p.2.1) 8 360 with
        | false => exact Evt.no (by simp) (Evt.some _)
        | true =>
          obtain ⟨v, hv⟩ := at_of (l := p.2.1) (i := (p.2.1.length : Int) - 1) (by omega) (by omega)
          have hl : lastT p.2.1 = v.2.2.1 := by unfold lastT; rw [hv.idx]; rfl
          refine Evt.yes rfl ?_
          simp only [wrap_id (x := (p.2.1.length : Int) - 1) (by omega) (by omega)]
          refine Evt.at hv.idx ?_
          rw [hl]
          exact Evt.some _
/- impl.isShape -/
theorem e122 {w k n0 : Int} (w0 : 0 ≤ w) (w1 : w ≤ 3) (k0 : 0 ≤ k) (k1 : k ≤ n0) (n1 : 1 ≤ n0) (n2 : n0 ≤ 360) : Evt (fun n => call T C n 122 (w, k, n0, ())) ((true, ()), ()) := by
  have h1 := e101 w
  rw [show inR w 0 3 = true from inR_iff.2 ⟨w0, w1⟩] at h1
  have h2 := e91 n0 1 360
  rw [show inR n0 1 360 = true from inR_iff.2 ⟨n1, n2⟩] at h2
  have h3 := e91 k 0 n0
  rw [show inR k 0 n0 = true from inR_iff.2 ⟨k0, k1⟩] at h3
  refine Evt.next (Evt.bind h1 ?_) (fun n => r122 n w k n0)
  refine Evt.yes rfl (Evt.bind h2 ?_)
  exact Evt.yes rfl (Evt.bind h3 (Evt.some _))
/- impl.EasiestLaw -/
theorem e38 {f t : Int} {m : Nat} (f0 : 0 ≤ f) (f1 : f ≤ 10000) (t0 : 0 ≤ t) (t1 : t ≤ 10000) (m0 : 1 ≤ m) (m1 : m ≤ 360) : Evt (fun n => call T C n 38 (f, t, (m : Int), ())) (esR f t m, ()) := by
  have h1 := e122 (w := 0) (k := 0) (n0 := (m : Int)) (by omega) (by omega) (by omega) (by omega) (by omega) (by omega)
  have h2 := e114 f
  rw [show inR f 0 10000 = true from inR_iff.2 ⟨f0, f1⟩] at h2
  have h3 := e114 t
  rw [show inR t 0 10000 = true from inR_iff.2 ⟨t0, t1⟩] at h3
  have hnn : ∀ k, 0 ≤ (esF (esS f t m) k).2 := fun k => (esF_in (s := esS f t m) (fun k => mxS_nn _) k).2.2
  refine Evt.next (Evt.bind h1 (Evt.no (by decide) (Evt.bind h2 (Evt.no (by decide) (Evt.bind h3 (Evt.no (by decide) ?_)))))) (fun n => r38 n f t m)
  refine for_evt' 0 4 (fun i (b : Int × Int) => (f, t, (m : Int), b.1, b.2, i, ())) (fun i b => b = if i.toNat = 0 then (0, -1) else esF (esS f t m) (i.toNat - 1)) (b0 := (0, -1)) rfl (by omega) rfl ?_ ?_
  · intro i' b h4 h5 hb
    obtain ⟨i, rfl⟩ : ∃ i : Nat, i' = i := ⟨i'.toNat, by omega⟩
    rw [Int.toNat_natCast] at hb
    have hl := e101 (i : Int)
    rw [show inR (i : Int) 0 3 = true from inR_iff.2 ⟨by omega, by omega⟩] at hl
    have hC := e103 (f := f) (t := t) (w := (i : Int)) (n0 := m) f0 f1 t0 t1 (by omega) (by omega) m0 m1
    refine Round.bind hl (Round.yes rfl (Round.bind hC ?_))
    have eC : chgs f t (i : Int) m ++ [(0 : Int)] = tb (m + 1) fun k => chg f t (i : Int) m k := chgs_more f t (i : Int) m
    have lC : (chgs f t (i : Int) m).length = m := tb_len _ _
    refine Round.chk (decide_eq_true (by show ((chgs f t (i : Int) m).length + 1) * 8 ≤ 140737488355328; omega)) ?_
    show Round (fun n ag => loopK _ n (f, t, (m : Int), b.1, b.2, (i : Int), chgs f t (i : Int) m ++ [(0 : Int)], [], ((chgs f t (i : Int) m ++ [(0 : Int)]).length : Int), 0, ())) _ _
    rw [eC]
    obtain ⟨D, eD⟩ : ∃ D, D = tb (m + 1) fun k => chg f t (i : Int) m k := ⟨_, rfl⟩
    rw [← eD]
    have lD : D.length = m + 1 := by rw [eD]; exact tb_len _ _
    have hD : ∀ j : Nat, j ≤ m → D[((j : Nat) : Int).toNat]? = some (chg f t (i : Int) m j) := fun j hj => by rw [Int.toNat_natCast, eD]; exact tb_get (by omega)
    refine for_round' 0 ((m : Int) + 1) (fun k (_ : Unit) => (f, t, (m : Int), b.1, b.2, (i : Int), D, tb k.toNat (fun k => bnd f t (i : Int) m k), (D.length : Int), k, ())) (fun _ _ => True) (b0 := ()) rfl (by omega) trivial ?_ ?_
    · intro k' _ h6 h7 _
      obtain ⟨k, rfl⟩ : ∃ k : Nat, k' = k := ⟨k'.toNat, by omega⟩
      rw [Int.toNat_natCast, show ((k : Int) + 1).toNat = k + 1 by omega]
      have hbn := bnd_in (f := f) (t := t) (w := (i : Int)) (n := m) (i := k) f0 f1 t0 t1 (by omega) (by omega) m1
      have lB : (tb k fun k => bnd f t (i : Int) m k).length = k := tb_len _ _
      refine Round.yes (decide_eq_true (show (k : Int) < (D.length : Int) by omega)) (Round.chk (decide_eq_true (show 0 ≤ (k : Int) ∧ (k : Int) < (D.length : Int) by omega)) (Round.at (hD k (by omega)) ?_))
      by_cases hk : k = 0
      · refine Round.no (by simp; omega) (Round.chk (decide_eq_true (by simp only [List.length_cons, List.length_nil, lB]; omega)) (Round.inr _ ⟨(), ?_, trivial⟩))
        have e : chg f t (i : Int) m k = bnd f t (i : Int) m k := by unfold bnd; rw [if_pos hk, Int.sub_zero]
        rw [wrap_id (x := (k : Int) + 1) (by omega) (by omega), e, bnds_snoc]
      · refine Round.yes (decide_eq_true (show (k : Int) > 0 by omega)) ?_
        simp only [show wr .i64 ((k : Int) - 1) = ((k - 1 : Nat) : Int) by rw [wrap_id (by omega) (by omega)]; omega]
        have e : wr .i64 (chg f t (i : Int) m k - chg f t (i : Int) m (k - 1)) = bnd f t (i : Int) m k := by
          have : bnd f t (i : Int) m k = chg f t (i : Int) m k - chg f t (i : Int) m (k - 1) := by unfold bnd; rw [if_neg hk]
          rw [wrap_id (by omega) (by omega), this]
        refine Round.chk (decide_eq_true (show 0 ≤ ((k - 1 : Nat) : Int) ∧ ((k - 1 : Nat) : Int) < (D.length : Int) by omega)) (Round.at (hD (k - 1) (by omega)) (Round.chk (decide_eq_true (by simp only [List.length_cons, List.length_nil, lB]; omega)) (Round.inr _ ⟨(), ?_, trivial⟩)))
        rw [wrap_id (x := (k : Int) + 1) (by omega) (by omega), e, bnds_snoc]
    · intro _ _
      have hbd : ∀ v ∈ bnds f t (i : Int) m, -1000000000000 ≤ v ∧ v ≤ 1000000000000 := fun v hv => by
        obtain ⟨j, hj, rfl⟩ := tb_mem hv
        have := bnd_in (f := f) (t := t) (w := (i : Int)) (n := m) (i := j) f0 f1 t0 t1 (by omega) (by omega) m1
        omega
      have hG := e102 (l := bnds f t (i : Int) m) (by unfold bnds; rw [tb_len]; omega) hbd
      rw [gr_mxS (bnds_ne f t (i : Int) m)] at hG
      have es : mxS (bnds f t (i : Int) m) = esS f t m i := rfl
      rw [show ((m : Int) + 1).toNat = m + 1 by omega]
      refine Round.no (by simp [lD]) (Round.bind hG ?_)
      rw [es]
      by_cases hi : i = 0
      · subst hi
        rw [if_pos rfl] at hb
        subst hb
        exact Round.yes (by simp) (Round.inl _ ⟨(0, esS f t m 0), by rfl, by rfl⟩)
      · rw [if_neg hi] at hb
        have hn := hnn (i - 1)
        rw [← hb] at hn
        obtain ⟨j, rfl⟩ : ∃ j, i = j + 1 := ⟨i - 1, by omega⟩
        rw [show j + 1 - 1 = j by omega] at hb
        have e1 : (((j + 1 : Nat) : Int) + 1).toNat = j + 2 := by omega
        refine Round.no (by simp; omega) (Round.ite (fun hk => ?_) (fun hk => ?_))
        · have hk : esS f t m (j + 1) < b.2 := of_decide_eq_true hk
          rw [hb] at hk
          refine Round.inl _ ⟨(((j : Nat) : Int) + 1, esS f t m (j + 1)), ?_, ?_⟩
          · rw [wrap_id (x := ((j + 1 : Nat) : Int) + 1) (by omega) (by omega)]
            rfl
          · rw [e1, if_neg (by omega), show j + 2 - 1 = j + 1 by omega, esF, if_pos hk]
        · have hk : ¬ esS f t m (j + 1) < b.2 := fun h => hk (decide_eq_true h)
          rw [hb] at hk
          refine Round.inl _ ⟨b, ?_, ?_⟩
          · rw [wrap_id (x := ((j + 1 : Nat) : Int) + 1) (by omega) (by omega)]
          · rw [e1, if_neg (by omega), show j + 2 - 1 = j + 1 by omega, esF, if_neg hk, hb]
  · intro b hb
    have hl := e101 4
    have hb : b = esF (esS f t m) 3 := hb
    subst hb
    exact Round.bind hl (Round.no (by decide) (Round.done (Evt.some _)))
/- spec.l00Max -/
theorem e98 (a b : Int) : Evt (fun n => call T C n 98 (a, b, ())) ((max a b, ()), ()) := by
  refine Evt.next (Evt.ite (fun h => ?_) (fun h => ?_)) (fun n => r98 n a b)
  · have h : a > b := of_decide_eq_true h
    rw [show max a b = a by omega]; exact Evt.some _
  · have h : ¬ a > b := by simpa using h
    rw [show max a b = b by omega]; exact Evt.some _
/- spec.l02Bend -/
theorem e123 {f t w : Int} {m : Nat} (f0 : 0 ≤ f) (f1 : f ≤ 10000) (t0 : 0 ≤ t) (t1 : t ≤ 10000) (w0 : 0 ≤ w) (w1 : w ≤ 3) (m0 : 1 ≤ m) (m1 : m ≤ 360) : Evt (fun n => call T C n 123 (f, t, w, (m : Int), ())) ((mxS (bnds f t w m), ()), ()) := by
  have hL := e105 (f := f) (t := t) (w := w) (n0 := m) f0 f1 t0 t1 w0 w1 m0 m1
  obtain ⟨L, eL⟩ : ∃ L, L = tb (m + 1) (fun k => liftP f t w (k : Nat) m) := ⟨_, rfl⟩
  rw [← eL] at hL
  have hat : ∀ j : Nat, j ≤ m → At L (j : Int) (liftP f t w (j : Nat) m) := fun j hj => by
    rw [eL]; exact tb_at (n := m + 1) (G := fun k : Nat => liftP f t w (k : Nat) m) (i := (j : Int)) (by omega) (by omega)
  refine Evt.next (Evt.bind hL ?_) (fun n => r123 n f t w m)
  refine for_evt' 0 ((m : Int) + 1) (fun k (_ : Unit) => ((m : Int), L, (if k.toNat = 0 then 0 else chg f t w m (k.toNat - 1)), mxS (tb k.toNat fun k => bnd f t w m k), k, ())) (fun _ _ => True) (b0 := ()) rfl (by omega) trivial ?_ ?_
  · intro k' _ h4 h5 _
    obtain ⟨k, rfl⟩ : ∃ k : Nat, k' = k := ⟨k'.toNat, by omega⟩
    rw [Int.toNat_natCast, show ((k : Int) + 1).toNat = k + 1 by omega]
    have hb := bnd_in (f := f) (t := t) (w := w) (n := m) (i := k) f0 f1 t0 t1 w0 w1 m1
    have hc := chg_in (f := f) (t := t) (w := w) (n := m) (i := k) f0 f1 t0 t1 w0 w1 m1
    have eb : bnd f t w m k = chg f t w m k - (if k = 0 then 0 else chg f t w m (k - 1)) := rfl
    obtain ⟨bf, ebf⟩ : ∃ bf, bf = (if k = 0 then 0 else chg f t w m (k - 1)) := ⟨_, rfl⟩
    rw [← ebf] at eb ⊢
    have hs := e106 (a := bnd f t w m k) (by omega) (by omega)
    have hmx : max (mxS (tb k fun k => bnd f t w m k)) (siz (bnd f t w m k)) = mxS (tb (k + 1) fun k => bnd f t w m k) := by rw [← bnds_snoc, mxS_snoc]
    refine Round.yes (decide_eq_true (show (k : Int) ≤ (m : Int) by omega)) ?_
    simp only [wrap_id (x := (k : Int) + 1) (by omega) (by omega)]
    by_cases hk : k < m
    · have ec : chg f t w m k = liftP f t w ((k : Nat) + 1) m - liftP f t w (k : Nat) m := if_pos hk
      have e1 : wr .i64 (liftP f t w (((k + 1 : Nat)) : Int) m - liftP f t w (k : Nat) m) = chg f t w m k := by rw [wrap_id (by rw [show ((k + 1 : Nat) : Int) = (k : Int) + 1 by omega]; omega) (by rw [show ((k + 1 : Nat) : Int) = (k : Int) + 1 by omega]; omega), ec]; rfl
      refine Round.yes (decide_eq_true (show (k : Int) < (m : Int) by omega)) (Round.at (by have := (hat (k + 1) (by omega)).idx; exact this) (Round.at (hat k (by omega)).idx ?_))
      simp only [e1]
      rw [show wr .i64 (chg f t w m k - bf) = bnd f t w m k by rw [wrap_id (by omega) (by omega), eb]]
      refine Round.bind hs (Round.bind (e98 _ _) (Round.again _ ⟨(), ?_, trivial⟩))
      rw [hmx, if_neg (by omega), show k + 1 - 1 = k by omega]
    · have hk : k = m := by omega
      subst hk
      have ec : chg f t w k k = 0 := if_neg (by omega)
      refine Round.no (by simp) ?_
      rw [show wr .i64 (0 - bf) = bnd f t w k k by rw [wrap_id (by omega) (by omega), eb, ec]]
      refine Round.bind hs (Round.bind (e98 _ _) (Round.again _ ⟨(), ?_, trivial⟩))
      rw [hmx, if_neg (by omega), show k + 1 - 1 = k by omega, ec]
  · intro _ _
    rw [show ((m : Int) + 1).toNat = m + 1 by omega]
    exact Round.no (by simp; omega) (Round.done (Evt.some _))
/- spec.EasiestLaw -/
theorem e39 {f t : Int} {m : Nat} (f0 : 0 ≤ f) (f1 : f ≤ 10000) (t0 : 0 ≤ t) (t1 : t ≤ 10000) (m0 : 1 ≤ m) (m1 : m ≤ 360) : Evt (fun n => call T C n 39 (f, t, (m : Int), ())) (esR f t m, ()) := by
  have h1 := e107 (w := 0) (k := 0) (n0 := (m : Int)) (by omega) (by omega) (by omega) (by omega) (by omega) (by omega)
  have h2 := e108 f
  rw [show inR f 0 10000 = true from inR_iff.2 ⟨f0, f1⟩] at h2
  have h3 := e108 t
  rw [show inR t 0 10000 = true from inR_iff.2 ⟨t0, t1⟩] at h3
  have hB := e123 (f := f) (t := t) (w := 0) (m := m) f0 f1 t0 t1 (by omega) (by omega) m0 m1
  refine Evt.next (Evt.bind h1 (Evt.no (by decide) (Evt.bind h2 (Evt.no (by decide) (Evt.bind h3 (Evt.no (by decide) (Evt.bind hB ?_))))))) (fun n => r39 n f t m)
  refine for_evt' 1 4 (fun i (_ : Unit) => (f, t, (m : Int), (esF (esS f t m) (i.toNat - 1)).1, (esF (esS f t m) (i.toNat - 1)).2, i, ())) (fun _ _ => True) (b0 := ()) rfl (by omega) trivial ?_ ?_
  · intro i' _ h4 h5 _
    obtain ⟨i, rfl⟩ : ∃ i : Nat, i' = ((i + 1 : Nat) : Int) := ⟨i'.toNat - 1, by omega⟩
    rw [Int.toNat_natCast, show i + 1 - 1 = i by omega, show (((i + 1 : Nat) : Int) + 1).toNat - 1 = i + 1 by omega]
    have hB := e123 (f := f) (t := t) (w := ((i + 1 : Nat) : Int)) (m := m) f0 f1 t0 t1 (by omega) (by omega) m0 m1
    refine Round.yes (decide_eq_true (show ((i + 1 : Nat) : Int) ≤ 3 by omega)) (Round.bind hB (Round.ite (fun hk => ?_) (fun hk => ?_)))
    · have hk : esS f t m (i + 1) < (esF (esS f t m) i).2 := of_decide_eq_true hk
      refine Round.again _ ⟨(), ?_, trivial⟩
      rw [wrap_id (x := ((i + 1 : Nat) : Int) + 1) (by omega) (by omega), esF, if_pos hk]
      rfl
    · have hk : ¬ esS f t m (i + 1) < (esF (esS f t m) i).2 := fun h => hk (decide_eq_true h)
      refine Round.again _ ⟨(), ?_, trivial⟩
      rw [wrap_id (x := ((i + 1 : Nat) : Int) + 1) (by omega) (by omega), esF, if_neg hk]
  · intro _ _
    exact Round.no (by simp) (Round.done (Evt.some _))
/- laws.FnPlanned -/
theorem e6 (x y : List Int) (hd : DomA (C 6).params (x, y, ())) : Evt (fun n => call T C n 6 (x, y, ())) ((true, ()), ()) := by
  have hx : ∀ v ∈ x, 0 ≤ v ∧ v ≤ 255 := byte_of hd.1
  have hy : ∀ v ∈ y, 0 ≤ v ∧ v ≤ 255 := byte_of hd.2.1
  refine Evt.next (Evt.bind (e28 x y) ?_) (fun n => r6 n x y)
  cases hlong : (decide ((x.length : Int) > 3000) || decide ((y.length : Int) > 3000)) with
  | true => exact Evt.yes rfl (Evt.some _)
  | false =>
    simp only [Bool.or_eq_false_iff, decide_eq_false_iff_not] at hlong
    obtain ⟨v1, h1, a0, a1⟩ := e29 hx (i := 0) (m := 4) (by omega) (by omega)
    obtain ⟨v2, h2, b0, b1⟩ := e29 hx (i := 1) (m := 100) (by omega) (by omega)
    obtain ⟨v3, h3, c0, c1⟩ := e29 hy (i := 0) (m := 20) (by omega) (by omega)
    refine Evt.no (by simp) (Evt.bind h1 (Evt.bind h2 (Evt.bind h3 ?_)))
    simp only [wrap_id (x := 1 + v2) (by omega) (by omega), wrap_id (x := 1 + v3) (by omega) (by omega)]
    have hi := e30 (w := v1) (r := 1 + v2) (m := 1 + v3) a0 (by omega) (by omega) (by omega) (by omega) (by omega)
    have hs := e31 (w := v1) (r := 1 + v2) (m := 1 + v3) a0 (by omega) (by omega) (by omega) (by omega) (by omega)
    refine Evt.bind hi (Evt.bind hs (Evt.no (by simp) (Evt.no (by simp) ?_)))
    rcases lsR_spec v1 (1 + v2) (1 + v3) with e | ⟨k, e, k1, k2, k3, k4⟩
    · rw [e]
      exact Evt.yes (by decide) (Evt.some _)
    rw [e]
    refine Evt.no (by simp) ?_
    obtain ⟨L, hA2, ⟨hL1, hL6⟩, hLe⟩ := e33 hy (by omega)
    obtain ⟨s, hS, s0, s1⟩ := e29 hy (i := 1) (m := 60) (by omega) (by omega)
    obtain ⟨m, hm⟩ : ∃ m, m = L.length := ⟨_, rfl⟩
    have hLl : L.length = m := hm.symm
    have hm0 : 0 < m := by omega
    have hLe' : ∀ v ∈ L, 0 ≤ v ∧ v ≤ 10000 := fun v hv => by have := hLe v hv; omega
    have es8 : wr .i64 (8 + s) = 8 + s := wrap_id (by omega) (by omega)
    have hPi := e34 (l := L) (law := v1) (s := 8 + s) (m := m) hLl hm0 (by omega) hLe' a0 (by omega) (by omega) (by omega) (by omega)
    have hPs := e35 (l := L) (law := v1) (s := 8 + s) (m := m) hLl hm0 (by omega) hLe' a0 (by omega) (by omega) (by omega) (by omega)
    have GP := plan_good (zL L) hm0 (8 + s - m).toNat
    obtain ⟨S, eS⟩ : ∃ S, S = plan (zL L) m (8 + s - m).toNat := ⟨_, rfl⟩
    obtain ⟨to, eto⟩ : ∃ to, to = toL L := ⟨_, rfl⟩
    rw [← eS, ← eto, ← es8] at hPi hPs
    rw [es8] at hPi hPs
    rw [← eS] at GP
    have hto : ∀ i, i < m → 0 ≤ to i ∧ to i ≤ 10000 := fun i hi => by rw [eto]; exact toL_in (by omega) hLe' i
    have hSb : ∀ i, i < m → 1 ≤ S i ∧ S i ≤ 360 := fun i hi => by have := GP.le hi; omega
    have hg0 := hLe' _ (g_mem (l := L) (i := 0) (by omega))
    have hsm : sumN S m = 8 + s := by rw [GP.sum]; omega
    have hlast : to (m - 1) = g L 0 := by rw [eto]; unfold toL; rw [hLl, show m - 1 + 1 = m by omega, Nat.mod_self]
    have hR : RngMo (mosP v1 to S m) := mosP_rng a0 (by omega) (by omega) hto hSb
    have hRp : RngPg (g L 0, mosP v1 to S m, ()) := ⟨by show -32768 ≤ g L 0 ∧ g L 0 ≤ 32767; omega, hR⟩
    have hok : okPg (g L 0, mosP v1 to S m, ()) = true := mosP_ok a0 (by omega) hm0 (by omega) hto hSb (by omega) (by omega) hlast hg0.1 hg0.2
    obtain ⟨M, eM⟩ : ∃ M, M = mosP v1 to S m := ⟨_, rfl⟩
    rw [← eM] at hPi hPs hRp hok
    have lM : M.length = m := by rw [eM]; exact tb_len _ _
    have hM : ∀ i : Nat, i < m → At M (i : Int) (v1, S ((i : Int)).toNat, to ((i : Int)).toNat, ()) := fun i hi => by rw [eM]; exact tb_at (n := m) (G := fun i => ((v1, S i, to i, ()) : Ct)) (i := (i : Int)) (by omega) (by omega)
    have stp : ∀ i : Nat, i < m → At L (Int.tmod ((i : Int) + 1) (L.length : Int)) (to i) := fun i hi => by rw [eto]; exact toL_at (by omega) (by omega)
    have stg : ∀ i : Nat, i < m → L[(i : Int).toNat]? = some (g L i) := fun i hi => by have := (g_idx (l := L) (i := (i : Int)) (by omega) (by omega)).get; rwa [Int.toNat_natCast] at this
    have hSame := e36 (g L 0, M, ()) (by show (M.length : Int) ≤ 1000000; omega)
    have hVal := e37 (g L 0, M, ()) hRp
    rw [hok] at hVal
    have e64 : wr .i64 (g L 0) = g L 0 := wrap_id (by omega) (by omega)
    have hsum : ∀ i, i ≤ m → 0 ≤ sumN S i ∧ sumN S i ≤ 360 * (i : Int) := fun i => by
      induction i with
      | zero => intro _; exact ⟨Int.le_refl _, by show (0 : Int) ≤ _; omega⟩
      | succ i ih => intro hi; have := ih (by omega); have := hSb i (by omega); unfold sumN; omega
    have hEi := e38 (f := 0) (t := 1 + v2) (m := k) (by omega) (by omega) (by omega) (by omega) k1 k2
    have hEs := e39 (f := 0) (t := 1 + v2) (m := k) (by omega) (by omega) (by omega) (by omega) k1 k2
    have hes : (esR 0 (1 + v2) k).1 ≥ 0 ∧ (esR 0 (1 + v2) k).1 ≤ 3 ∧ (esR 0 (1 + v2) k).2.1 ≥ 0 := esF_in (s := esS 0 (1 + v2) k) (fun _ => mxS_nn _) 3
    rw [← es8] at hPi hPs
    refine for_evt' 0 (if k = 1 then 1 else 2) (fun i (_ : Unit) => (y, v1, 1 + v2, 1 + v3, (k : Int), i, ())) (fun _ _ => True) (b0 := ()) rfl (by split <;> omega) trivial ?_ ?_
    · intro i' _ h4 h5 _
      obtain ⟨i, rfl⟩ : ∃ i : Nat, i' = i := ⟨i'.toNat, by omega⟩
      have hik : i < k ∧ i < 2 := by split at h5 <;> omega
      obtain ⟨q, hq⟩ : ∃ q, q = k - i := ⟨_, rfl⟩
      have eq1 : wr .i64 ((k : Int) - (i : Int)) = (q : Int) := by rw [wrap_id (by omega) (by omega)]; omega
      refine Round.yes (decide_eq_true (show (i : Int) < 2 by omega)) (Round.yes (decide_eq_true (show (k : Int) > (i : Int) by omega)) ?_)
      simp only [eq1]
      refine for_round' 0 (q : Int) (fun j (b : Bool) => (y, v1, 1 + v2, 1 + v3, (k : Int), (i : Int), b, j, ())) (fun j b => b = !allTo (fun j => decide (liftP 0 (1 + v2) v1 ((j : Nat) + 1) q - liftP 0 (1 + v2) v1 (j : Nat) q ≤ 1 + v3)) j.toNat) (b0 := false) rfl (by omega) rfl ?_ ?_
      · intro j' b h6 h7 hb
        obtain ⟨j, rfl⟩ : ∃ j : Nat, j' = j := ⟨j'.toNat, by omega⟩
        rw [Int.toNat_natCast] at hb
        have hcb := chg_bd (f := 0) (t := 1 + v2) (w := v1) (n := q) (i := j) (Int.le_refl 0) (by omega) (by omega) (by omega) a0 (by omega) (by omega) (by omega)
        have hA := e32 (f := 0) (t := 1 + v2) (w := v1) (k := (j : Int)) (n0 := (q : Int)) (by omega) (by omega) (by omega) (by omega) a0 (by omega) (by omega) (by omega) (by omega) (by omega)
        have hB := e32 (f := 0) (t := 1 + v2) (w := v1) (k := (j : Int) + 1) (n0 := (q : Int)) (by omega) (by omega) (by omega) (by omega) a0 (by omega) (by omega) (by omega) (by omega) (by omega)
        have e1 : ((j : Int) + 1).toNat = j + 1 := by omega
        refine Round.yes ?_ ?_
        · simp only [eq1]; exact decide_eq_true h7
        simp only [eq1, wrap_id (x := (j : Int) + 1) (by omega) (by omega)]
        refine Round.bind hA (Round.bind hB (Round.no (by simp) (Round.no (by simp) ?_)))
        cases b with
        | true =>
          refine Round.yes rfl (Round.inr _ ⟨true, rfl, ?_⟩)
          rw [e1, allTo_succ, Bool.not_and, ← hb]
          rfl
        | false =>
          refine Round.no (by simp) (Round.inr _ ⟨_, rfl, ?_⟩)
          rw [e1, allTo_succ, Bool.not_and, ← hb, wrap_id (x := liftP 0 (1 + v2) v1 ((j : Int) + 1) q - liftP 0 (1 + v2) v1 (j : Int) q) (by omega) (by omega)]
          show decide (liftP 0 (1 + v2) v1 ((j : Int) + 1) q - liftP 0 (1 + v2) v1 (j : Int) q > 1 + v3) = (false || !decide (liftP 0 (1 + v2) v1 ((j : Nat) + 1) q - liftP 0 (1 + v2) v1 (j : Nat) q ≤ 1 + v3))
          rw [Bool.false_or, ← decide_not]
          exact decide_eq_decide.2 ⟨fun h => by omega, fun h => by omega⟩
      · intro b hb
        rw [Int.toNat_natCast, ← okN_wide a0 (by omega) (by omega) (by omega) (by omega)] at hb
        have hbi : b = decide ((i : Int) = 1) := by
          rw [hb]
          rcases (show i = 0 ∨ i = 1 by omega) with rfl | rfl
          · rw [show q = k by omega, k3]; rfl
          · rcases k4 with k4 | k4
            · omega
            · rw [show q = k - 1 by omega, k4]; rfl
        refine Round.no ?_ (Round.no ?_ (Round.inl _ ⟨(), ?_, trivial⟩))
        · simp only [eq1]; simp
        · subst hbi
          rcases (show i = 0 ∨ i = 1 by omega) with rfl | rfl <;> simp
        · rw [wrap_id (x := (i : Int) + 1) (by omega) (by omega)]
    · intro _ _
      by_cases hk1 : k = 1
      · simp only [if_pos hk1]
        refine Round.yes (by simp) (Round.no (by simp [hk1]) (Round.done ?_))
        refine Evt.bind hA2 (Evt.bind hS (Evt.bind hPi (Evt.bind hPs ?_)))
        refine Evt.no (by simp) (Evt.no (by simp) (Evt.bind hSame (Evt.no (by simp) (Evt.bind hVal (Evt.no (by simp) (Evt.no (by simp [lM, hLl]) (Evt.chk (decide_eq_true (show 0 ≤ (0 : Int) ∧ (0 : Int) < (L.length : Int) by omega)) (Evt.at (stg 0 hm0) ?_))))))))
        refine Evt.no (by simp only [e64]; simp) ?_
        refine for_evt' 0 (m : Int) (fun i (_ : Unit) => (1 + v2, (k : Int), L, 8 + s, (g L 0, M, ()), sumN S i.toNat, i, ())) (fun _ _ => True) (b0 := ()) (by simp only [es8]; rfl) (by omega) trivial ?_ ?_
        · intro i' _ h6 h7 _
          obtain ⟨i, rfl⟩ : ∃ i : Nat, i' = i := ⟨i'.toNat, by omega⟩
          have hi : i < m := by omega
          have a := GP.le hi
          have b := hto i hi
          have c := hsum i (by omega)
          have hMi : idx M (i : Int) = some (v1, S i, to i, ()) := by have := (hM i hi).idx; rwa [Int.toNat_natCast] at this
          refine Round.yes (decide_eq_true (show (i : Int) < (L.length : Int) by omega)) (Round.at hMi (Round.chk (bne_pos (show 0 < (L.length : Int) by omega)) ?_))
          simp only [wrap_id (x := (i : Int) + 1) (by omega) (by omega), Int.toNat_natCast]
          refine Round.at (stp i hi).idx (Round.no (by simp only [wrap_id (x := to i) (by omega) (by omega)]; simp) (Round.at hMi (Round.no (by simp; omega) (Round.at hMi (Round.again _ ⟨(), ?_, trivial⟩)))))
          rw [wrap_id (x := S i) (by omega) (by omega), wrap_id (x := sumN S i + S i) (by omega) (by omega), show ((i : Int) + 1).toNat = i + 1 by omega]
          rfl
        · intro _ _
          rw [Int.toNat_natCast]
          refine Round.no (by simp; omega) (Round.bind hEi (Round.bind hEs ?_))
          refine Round.yes (by simp only [hsm]; simp) (Round.yes (by simp) (Round.yes (by simp [esR]) (Round.yes (by simp) (Round.yes (by simp) (Round.yes (decide_eq_true hes.1) (Round.yes (decide_eq_true hes.2.1) (Round.done ((Evt.some _).of_eq fun n => ?_))))))))
          rw [show decide ((esR 0 (1 + v2) k).2.1 ≥ 0) = true from decide_eq_true hes.2.2]
          rfl
      · simp only [if_neg hk1]
        refine Round.no (by simp) (Round.done ?_)
        refine Evt.bind hA2 (Evt.bind hS (Evt.bind hPi (Evt.bind hPs ?_)))
        refine Evt.no (by simp) (Evt.no (by simp) (Evt.bind hSame (Evt.no (by simp) (Evt.bind hVal (Evt.no (by simp) (Evt.no (by simp [lM, hLl]) (Evt.chk (decide_eq_true (show 0 ≤ (0 : Int) ∧ (0 : Int) < (L.length : Int) by omega)) (Evt.at (stg 0 hm0) ?_))))))))
        refine Evt.no (by simp only [e64]; simp) ?_
        refine for_evt' 0 (m : Int) (fun i (_ : Unit) => (1 + v2, (k : Int), L, 8 + s, (g L 0, M, ()), sumN S i.toNat, i, ())) (fun _ _ => True) (b0 := ()) (by simp only [es8]; rfl) (by omega) trivial ?_ ?_
        · intro i' _ h6 h7 _
          obtain ⟨i, rfl⟩ : ∃ i : Nat, i' = i := ⟨i'.toNat, by omega⟩
          have hi : i < m := by omega
          have a := GP.le hi
          have b := hto i hi
          have c := hsum i (by omega)
          have hMi : idx M (i : Int) = some (v1, S i, to i, ()) := by have := (hM i hi).idx; rwa [Int.toNat_natCast] at this
          refine Round.yes (decide_eq_true (show (i : Int) < (L.length : Int) by omega)) (Round.at hMi (Round.chk (bne_pos (show 0 < (L.length : Int) by omega)) ?_))
          simp only [wrap_id (x := (i : Int) + 1) (by omega) (by omega), Int.toNat_natCast]
          refine Round.at (stp i hi).idx (Round.no (by simp only [wrap_id (x := to i) (by omega) (by omega)]; simp) (Round.at hMi (Round.no (by simp; omega) (Round.at hMi (Round.again _ ⟨(), ?_, trivial⟩)))))
          rw [wrap_id (x := S i) (by omega) (by omega), wrap_id (x := sumN S i + S i) (by omega) (by omega), show ((i : Int) + 1).toNat = i + 1 by omega]
          rfl
        · intro _ _
          rw [Int.toNat_natCast]
          refine Round.no (by simp; omega) (Round.bind hEi (Round.bind hEs ?_))
          refine Round.yes (by simp only [hsm]; simp) (Round.yes (by simp) (Round.yes (by simp [esR]) (Round.yes (by simp) (Round.yes (by simp) (Round.yes (decide_eq_true hes.1) (Round.yes (decide_eq_true hes.2.1) (Round.done ((Evt.some _).of_eq fun n => ?_))))))))
          rw [show decide ((esR 0 (1 + v2) k).2.1 ≥ 0) = true from decide_eq_true hes.2.2]
          rfl

end Go.Cams.YtdhgdfofgeccgaaLPl
