/- What the functions that the law reaches come to. -/
import Derived.Test.YtipjblnjaicbfaaGreatDoorRRv
import Derived.Test.YtipjblnjaicbfaaGreatDoorPuAll
namespace Go.Cams.YtipjblnjaicbfaaGreatDoorLRv
open Go Go.Fw Go.Proofs Go.Proofs.YtipjblnjaicbfaaGreatDoor.LRv
/- impl.inRange -/
theorem e103 (a b c : Int) : Evt (fun n => call T C n 103 (a, b, c, ())) ((inR a b c, ()), ()) := by
  refine Evt.next ?_ (fun n => r103 n a b c)
  refine Evt.ite (fun h => ?_) (fun h => ?_)
  · refine (Evt.some _).of_eq fun n => ?_
    have h : b ≤ a := of_decide_eq_true h
    simp [inR, h]
    rfl
  · refine (Evt.some _).of_eq fun n => ?_
    have h : ¬ b ≤ a := by simpa using h
    simp [inR, h]
    rfl
/- impl.isLift -/
theorem e102 (a : Int) : Evt (fun n => call T C n 102 (a, ())) ((inR a 0 10000, ()), ()) := Evt.next (Evt.bind (e103 a 0 10000) (Evt.some _)) (fun n => r102 n a)
/- impl.isLaw -/
theorem e111 (w : Int) : Evt (fun n => call T C n 111 (w, ())) ((inR w 0 3, ()), ()) := Evt.next (Evt.bind (e103 _ _ _) (Evt.some _)) (fun n => r111 n w)
/- impl.ValidProgram$1 -/
theorem e110 (v : Ct) : Evt (fun n => call T C n 110 (v, ())) ((!moOk v, ()), ()) := by
  refine Evt.next (Evt.bind (e111 _) ?_) (fun n => r110 n v)
  unfold moOk
  cases inR (wr .i64 v.1) 0 3 with
  | false => exact Evt.yes rfl (Evt.some _)
  | true =>
    refine Evt.no (by simp) ?_
    cases decide (v.2.1 < 1) with
    | true => exact Evt.yes rfl (Evt.some _)
    | false => exact Evt.no (by simp) (Evt.bind (e102 _) (Evt.some _))
/- slices.IndexFunc[[]impl.Motion,impl.Motion]{impl.ValidProgram$1} -/
theorem e180 (l : List Ct) (hr : RngMo l) : Evt (fun n => call T C n 180 (l, ((), ()), ())) ((fi (fun v => !moOk v) l 0, ()), ()) := by
  have hl : (l.length : Int) ≤ 140737488351232 := by have := hr.len'; omega
  refine Evt.next ?_ (fun n => r180 n l ((), ()))
  refine for_evt' 0 (l.length : Int) (fun i (_ : Unit) => (l, ((), ()), (l.length : Int), i, ())) (fun i _ => fi (fun v => !moOk v) l 0 = fi (fun v => !moOk v) (l.drop i.toNat) i) (b0 := ()) rfl (by omega) (by simp) ?_ ?_
  · intro i _ h2 h3 hp
    obtain ⟨v, hv⟩ := at_of h2 h3
    rw [hv.drop] at hp
    simp only [fi] at hp
    refine Round.yes (decide_eq_true h3) (Round.at hv.idx (Round.bind (e110 v) ?_))
    cases hb : !moOk v with
    | true =>
      simp only [hb, if_true] at hp
      rw [hp]
      exact Round.yes rfl (Round.done (Evt.some _))
    | false =>
      simp only [hb, Bool.false_eq_true, if_false] at hp
      exact Round.no (by simp) (Round.again _ ⟨(), by rw [wr_succ h2 h3 (by omega)], hp⟩)
  · intro _ hp
    rw [drop_all] at hp
    rw [hp]
    exact Round.no (by simp) (Round.done (Evt.some _))
/- slices.ContainsFunc[[]impl.Motion,impl.Motion]{impl.ValidProgram$1} -/
theorem e109 (l : List Ct) (hr : RngMo l) : Evt (fun n => call T C n 109 (l, ((), ()), ())) ((l.any (fun v => !moOk v), ()), ()) := by
  refine Evt.next (Evt.bind (e180 l hr) ((Evt.some _).of_eq fun n => ?_)) (fun n => r109 n l ((), ()))
  simp only [fi_any _ l 0 (Int.le_refl _)]
  rfl
/- (impl.Program).steps -/
theorem e100 (p : Prg) (hr : RngPg p) (hn : (p.2.1.length : Int) ≤ 24) : Evt (fun n => call T C n 100 (p, ())) ((sumM p.2.1, ()), ()) := by
  have hb := sumM_take hr.m hn
  refine Evt.next ?_ (fun n => r100 n p)
  refine for_evt' 0 (p.2.1.length : Int) (fun i (_ : Unit) => (sumM (p.2.1.take i.toNat), p.2.1, (p.2.1.length : Int), i, ())) (fun _ _ => True) (b0 := ()) (by simp [sumM]) (by omega) trivial ?_ ?_
  · intro i _ h3 h4 _
    obtain ⟨v, hv⟩ := at_of h3 h4
    have hrv := hr.m.el v hv.mem
    have hbi := hb i.toNat
    refine Round.yes (decide_eq_true h4) (Round.at hv.idx (Round.again _ ⟨(), ?_, trivial⟩))
    rw [hr.m.i2 hv.mem, wrap_id (x := sumM (p.2.1.take i.toNat) + v.2.1) (by omega) (by omega), hv.take, sumM_snoc, wr_succ h3 h4 (by omega)]
  · intro _ _
    simp only [take_all]
    exact Round.no (by simp) (Round.done (Evt.some _))
/- impl.isSteps -/
theorem e112 (a : Int) : Evt (fun n => call T C n 112 (a, ())) ((inR a 8 360, ()), ()) := Evt.next (Evt.bind (e103 a 8 360) (Evt.some _)) (fun n => r112 n a)
/- impl.ValidProgram -/
theorem e38 (p : Prg) (hr : RngPg p) : Evt (fun n => call T C n 38 (p, ())) ((okPg p, ()), ()) := by
  refine Evt.next (Evt.bind (e103 _ _ _) ?_) (fun n => r38 n p)
  unfold okPg
  cases h1 : inR (p.2.1.length : Int) 1 24 with
  | false => exact Evt.yes rfl (Evt.some _)
  | true =>
    have hn := inR_iff.1 h1
    refine Evt.no (by simp) (Evt.bind (e102 _) ?_)
    cases h2 : inR (wr .i64 p.1) 0 10000 with
    | false => exact Evt.yes rfl (Evt.some _)
    | true =>
      refine Evt.no (by simp) (Evt.bind (e109 p.2.1 hr.m) ?_)
      have ha : p.2.1.all moOk = !p.2.1.any (fun v => !moOk v) := by simp [List.any_eq_not_all_not]
      rw [ha]
      cases p.2.1.any (fun v => !moOk v) with
      | true => exact Evt.no (by simp) (Evt.some _)
      | false =>
        refine Evt.yes rfl (Evt.bind (e100 p hr hn.2) (Evt.bind (e112 _) ?_))
        cases k4 : inR (sumM p.2.1) 8 360 with
        | false => exact Evt.no (by simp) (Evt.some _)
        | true =>
          obtain ⟨v, hv⟩ := at_of (l := p.2.1) (i := (p.2.1.length : Int) - 1) (by omega) (by omega)
          have hl : lastT p.2.1 = v.2.2.1 := by unfold lastT; rw [hv.idx]; rfl
          refine Evt.yes rfl ?_
          simp only [wrap_id (x := (p.2.1.length : Int) - 1) (by omega) (by omega)]
          refine Evt.at hv.idx ?_
          rw [hl]
          exact Evt.some _

end Go.Cams.YtipjblnjaicbfaaGreatDoorLRv
