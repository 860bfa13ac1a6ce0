/- A reading of Go code as plain functions, part FwB. -/
import Derived.Test.YtgmkcekfpmdhoaaFwA
import Derived.Deep.AppendSrc
import Derived.Laws.BytesString
/- Stores, and new objects. -/
namespace Go.Fw
variable {P : Program} {T : Nat → Option TI} {E : Env} {S S' S1 : St} {G G1 : Gh} {w w1 : World} {a : Act}

theorem own_put {w : World} : ∀ (p : List PS) {t u : Ty} {x : t.I} {y : u.I} {z : V} {cs d : List Value} {F Fy : List Nat} {s s' : St}, Own w t x cs F → subTy t p = some u → Own w u y d Fy → (setV (.val t x) p (.val u y)).run s = some (z, s') →
    s' = s ∧ ∃ z0, z = .val t z0 ∧ ∃ off c₁ c c₂ F1 F0 F2, offT t p = some off ∧ cs = c₁ ++ (c ++ c₂) ∧ c₁.length = off ∧ c.length = u.size ∧ F = F1 ++ (F0 ++ F2) ∧ Own w t z0 (c₁ ++ (d ++ c₂)) (F1 ++ (Fy ++ F2))
  | [], t, u, x, y, z, cs, d, F, Fy, s, s', hx, hu, hy, hr => by
    simp only [subTy, Option.some.injEq] at hu
    subst hu
    obtain ⟨rfl, rfl⟩ := AM.of_pure hr
    exact ⟨rfl, y, rfl, 0, [], cs, [], [], F, [], by simp [offT], by simp, rfl, Own.len t hx, by simp, by simpa using hy⟩
  | .fst :: p, t, u, x, y, z, cs, d, F, Fy, s, s', hx, hu, hy, hr => by
    cases t <;> simp [subTy] at hu
    case pair a b =>
    obtain ⟨c, c', F1, F2, ec, eF, h1, h2⟩ := hx
    simp only [setV, V.fst, V.snd] at hr
    obtain ⟨q, s1, hq, hr⟩ := AM.of_bind hr
    obtain ⟨rfl, rfl⟩ := AM.of_pure hr
    obtain ⟨e, z0, rfl, off, c₁, c0, c₂, G1, G0, G2, ho, e', l1, l2, eG, hz⟩ := own_put p h1 hu hy hq
    exact ⟨e, (z0, x.2), rfl, off, c₁, c0, c₂ ++ c', G1, G0, G2 ++ F2, ho, by rw [ec, e']; simp, l1, l2, by rw [eF, eG]; simp, _, c', _, F2, by simp, by simp, hz, h2⟩
  | .snd :: p, t, u, x, y, z, cs, d, F, Fy, s, s', hx, hu, hy, hr => by
    cases t <;> simp [subTy] at hu
    case pair a b =>
    obtain ⟨c, c', F1, F2, ec, eF, h1, h2⟩ := hx
    simp only [setV, V.fst, V.snd] at hr
    obtain ⟨q, s1, hq, hr⟩ := AM.of_bind hr
    obtain ⟨rfl, rfl⟩ := AM.of_pure hr
    obtain ⟨e, z0, rfl, off, c₁, c0, c₂, G1, G0, G2, ho, e', l1, l2, eG, hz⟩ := own_put p h2 hu hy hq
    exact ⟨e, (x.1, z0), rfl, a.size + off, c ++ c₁, c0, c₂, F1 ++ G1, G0, G2, by simp [offT, ho], by rw [ec, e']; simp, by rw [List.length_append, l1, Own.len a h1], l2, by rw [eF, eG]; simp, c, _, F1, _, by simp, by simp, h1, hz⟩
  | .elem k :: p, t, u, x, y, z, cs, d, F, Fy, s, s', hx, hu, hy, hr => by
    cases t <;> simp [subTy] at hu
    case arr n t =>
    simp only [setV] at hr
    obtain ⟨x0, hx0, hr⟩ := AM.of_ask hr
    obtain ⟨q, s1, hq, hr⟩ := AM.of_bind hr
    obtain ⟨q', s2, hq', hr⟩ := AM.of_bind hr
    obtain ⟨rfl, rfl⟩ := AM.of_pure hr
    obtain ⟨rfl, rfl⟩ := AM.of_castV hq'
    obtain ⟨hn, hl⟩ := hx
    obtain ⟨c₁, c, c₂, F1, F0, F2, e, eF, l1, l2, hxr, hset⟩ := OwnL.at (fun _ _ _ h => Own.len t h) hl hx0
    obtain ⟨e2, z0, ez, off, d₁, d0, d₂, G1, G0, G2, ho, e', l3, l4, eG, hz⟩ := own_put p hxr hu hy hq
    injection ez with _ ez
    subst ez
    refine ⟨e2, _, rfl, k * t.size + off, c₁ ++ d₁, d0, d₂ ++ c₂, F1 ++ G1, G0, G2 ++ F2, by simp [offT, ho], by rw [e, e']; simp, by rw [List.length_append, l1, l3], l4, by rw [eF, eG]; simp, by rw [List.length_set]; exact hn, ?_⟩
    simpa using hset _ _ _ hz

/-- Memory turns in blocks that nobody has or reads. -/
theorem Mem.world (M : Mem E S G w) {Ch : Nat → Prop} (hk : KeptBut Ch w w1) (hch : ∀ b, b < w.heap.size → Ch b → E.w0.heap.size ≤ b ∨ b ∈ E.md) (hlive : ∀ j, live S j → ∀ b ∈ G.fp j, ¬ Ch b) (hok : ∀ b, G.ok b → ¬ Ch b) :
    Mem E S G w1 ∧ Keeps (used S) (used S) G G w w1 := by
  have K : Keeps (used S) (used S) G G w w1 := ⟨fun _ h => h, fun _ _ => rfl, fun _ _ => rfl, fun _ _ => rfl, fun b hb hl => ⟨hb, hk.heap b hl (hok b hb)⟩, hk.size⟩
  refine ⟨⟨fun i o hi => ?_, M.dj, M.nd, fun i hi b hb => ⟨Nat.lt_of_lt_of_le (M.own i hi b hb).1 hk.size, (M.own i hi b hb).2⟩, fun b hb => ⟨Nat.lt_of_lt_of_le (M.okl b hb).1 hk.size, (M.okl b hb).2⟩, ?_, M.hds⟩, K⟩
  · cases o with
    | gone => trivial
    | _ => exact ObjR.keep K (by unfold used; rw [hi]; simp) rfl (fun b hb => hk.heap b (M.own i ⟨_, hi, by simp⟩ b hb).1 (hlive i ⟨_, hi, by simp⟩ b hb)) (M.obj i _ hi)
  · refine M.fr.trans hk (fun _ h => h) fun b hb hc => ?_
    rcases hch b (Nat.lt_of_lt_of_le hb M.fr.size) hc with h | h
    · omega
    · exact h

/-- A live object's own block turns. -/
theorem Mem.turn (M : Mem E S G w) {i g : Nat} {o : Obj} {fp : List Nat} (hl : live S i) (hg : g ∈ G.fp i) (hk : KeptBut (· = g) w w1) (hn : fp.Nodup) (hown : ∀ b ∈ fp, b < w1.heap.size ∧ (E.w0.heap.size ≤ b ∨ b ∈ E.md)) (hlive : ∀ j, j ≠ i → live S j → ∀ b ∈ G.fp j, b ∉ fp) (hok : ∀ b, G.ok b → b ∉ fp)
    (ho : Keeps (used S) (used (S.putO i o)) G (G.set i (G.hd i) (G.bx i) (G.ty i) fp) w w1 → ObjR (used (S.putO i o)) (G.set i (G.hd i) (G.bx i) (G.ty i) fp) w1 i o) :
    Mem E (S.putO i o) (G.set i (G.hd i) (G.bx i) (G.ty i) fp) w1 ∧ Keeps (used S) (used (S.putO i o)) G (G.set i (G.hd i) (G.bx i) (G.ty i) fp) w w1 := by
  refine Mem.put M (.inr ⟨rfl, rfl, rfl⟩) (M.hds i hl.used) hk (fun b _ e => ?_) (fun j hj hlj b hb => ⟨fun e => ?_, fun _ => hlive j hj hlj b hb⟩) (fun b hb => ⟨fun e => ?_, fun _ => hok b hb⟩) (fun _ => hn) (fun _ => hown) ho
  · subst e; exact (M.own i hl _ hg).2
  · subst e; exact M.dj j i hj hlj hl _ hb hg
  · subst e; exact (M.okl _ hb).2.2 i hl hg


theorem Mem.one (M : Mem E S G w) {v : V} {cs : List Value} (h : VR (used S) G w v cs) : ∀ x ∈ cs, x.oneCell' = true := VR.one M.hds h

theorem SR.cells (M : Mem E S G w) {t : Ty} {v : V} {x : Value} (hf : fits t v = true) (h : SR (used S) G w v x) : ∃ d, VR (used S) G w v d ∧ x = ofCells t.isAgg d ∧ x.cells = d.toArray ∧ d.length = t.size ∧ ∀ y ∈ d, y.oneCell' = true := by
  obtain ⟨d, hd, e⟩ := h.vr (by rintro rfl; cases t <;> simp [fits] at hf) (by rintro rfl; cases t <;> simp [fits] at hf) (by rintro t' rfl; cases t <;> simp [fits] at hf)
  obtain ⟨hl, hag⟩ := VR.len hf hd
  have h1 := M.one hd
  rw [hag] at e
  exact ⟨d, hd, e, by rw [e]; exact ofCells_cells (fun h => by rw [hl]; exact Ty.size_of_agg t h) h1, hl, h1⟩

theorem storeAt_run (hT : TsOk P T) {s : TypeId} {i : TI} (hi : T s = some i) {x : Value} {d : List Value} {g off : Nat} {cur : Array Value} {e : TypeId} (hx : x.cells = d.toArray) (hl : d.length = i.ty.size) (h1 : ∀ y ∈ d, y.oneCell' = true) (hg : w.heap[g]? = some (.cells cur e (0, 0))) (hfit : off + d.length ≤ cur.size) :
    (Instr.storeAt s (.pointer (some ⟨g, off, none⟩)) x).run P w = .ok () (w.setRow g (cur.toList.take off ++ d ++ cur.toList.drop (off + d.length)).toArray) := by
  have hsz := (hT s i hi).size w
  have hst := run_store_block (P := P) hg hfit h1
  simp [Instr.storeAt, Instr.sureAddr, storeVar, hsz, hx, hl, hst]

theorem splice {α : Type} {c₁ c c₂ d l : List α} (h : l = c₁ ++ (c ++ c₂)) (hl : c.length = d.length) : l.take c₁.length ++ d ++ l.drop (c₁.length + d.length) = c₁ ++ (d ++ c₂) := by
  subst h
  rw [List.take_left, ← hl, ← List.append_assoc c₁ c c₂, ← List.length_append, List.drop_left, List.append_assoc]

theorem setV_val {s s' : St} : ∀ (q : List PS) {t u : Ty} {x : t.I} {y : u.I} {z : V}, subTy t q = some u → (setV (.val t x) q (.val u y)).run s = some (z, s') → ∃ z0, z = .val t z0
  | [], t, u, x, y, z, hu, hr => by
    simp only [subTy, Option.some.injEq] at hu
    subst hu
    obtain ⟨rfl, _⟩ := AM.of_pure hr
    exact ⟨y, rfl⟩
  | .fst :: q, t, u, x, y, z, hu, hr => by
    cases t <;> simp [subTy] at hu
    simp only [setV, V.fst, V.snd] at hr
    obtain ⟨q', s1, hq, hr⟩ := AM.of_bind hr
    obtain ⟨rfl, _⟩ := AM.of_pure hr
    obtain ⟨z0, rfl⟩ := setV_val q hu hq
    exact ⟨_, rfl⟩
  | .snd :: q, t, u, x, y, z, hu, hr => by
    cases t <;> simp [subTy] at hu
    simp only [setV, V.fst, V.snd] at hr
    obtain ⟨q', s1, hq, hr⟩ := AM.of_bind hr
    obtain ⟨rfl, _⟩ := AM.of_pure hr
    obtain ⟨z0, rfl⟩ := setV_val q hu hq
    exact ⟨_, rfl⟩
  | .elem k :: q, t, u, x, y, z, hu, hr => by
    cases t <;> simp [subTy] at hu
    simp only [setV] at hr
    obtain ⟨x0, _, hr⟩ := AM.of_ask hr
    obtain ⟨q', s1, hq, hr⟩ := AM.of_bind hr
    obtain ⟨q'', s2, hq', hr⟩ := AM.of_bind hr
    obtain ⟨rfl, _⟩ := AM.of_pure hr
    exact ⟨_, rfl⟩

/-- A part of a row's cells is written. -/
theorem row_write {hd : Value} {sz n : Nat} {F : List Nat} {a0 : Addr} {m c : Nat} {A c0 B d : List Value} (h : RowOk w hd sz n (A ++ (c0 ++ B)) F) (ha : hd = .slice (some a0) m c) (hl : c0.length = d.length) (h0 : 0 < n) :
    ∃ g cur e, a0 = ⟨g, 0, none⟩ ∧ F = [g] ∧ w.heap[g]? = some (.cells cur e (0, 0)) ∧ A.length + d.length ≤ cur.size ∧
      RowOk (w.setRow g (cur.toList.take A.length ++ d ++ cur.toList.drop (A.length + d.length)).toArray) hd sz n (A ++ (d ++ B)) F := by
  obtain ⟨A', cap, e, hn, hlen, h⟩ := h
  rw [ha] at e
  injection e with e1 e2 e3
  rcases h with ⟨h, _⟩ | ⟨g, cur, ty, hA, hF, hb, hs, he⟩
  · omega
  rw [hA] at e1
  injection e1 with e1
  subst e1
  have hcur : cur.toList = A ++ (c0 ++ (B ++ cur.toList.drop (n * sz))) := by
    have := List.take_append_drop (n * sz) cur.toList
    rw [← he] at this
    simpa using this.symm
  have hfit : A.length + d.length ≤ cur.size := by
    have h1 : cur.toList.length = cur.size := Array.length_toList
    rw [← h1, hcur]; simp [hl]
  have hnew := splice hcur hl
  refine ⟨g, cur, ty, rfl, hF, hb, hfit, some ⟨g, 0, none⟩, cap, by rw [ha]; simp [e2, e3], hn, by simpa [hl] using hlen, .inr ⟨g, _, ty, rfl, hF, setRow_heap w g cur _ ty (0, 0) hb, ?_, ?_⟩⟩
  · rw [hnew]
    have h1 : cur.toList.length = cur.size := Array.length_toList
    rw [hcur] at h1
    simp [hl] at h1 ⊢
    omega
  · rw [hnew]
    have h2 : (A ++ (d ++ B)).length = n * sz := by simpa [hl] using hlen
    rw [← h2]
    simp only [List.toList_toArray]
    rw [show A ++ (d ++ (B ++ List.drop (A ++ (d ++ B)).length cur.toList)) = (A ++ (d ++ B)) ++ List.drop (A ++ (d ++ B)).length cur.toList by simp]
    rw [List.take_left]

theorem nodup_swap {A B F0 F : List Nat} (h : (A ++ (F0 ++ B)).Nodup) (hF : F.Nodup) (hd : ∀ b ∈ F, b ∉ A ++ (F0 ++ B)) : (A ++ (F ++ B)).Nodup := by
  rw [List.nodup_append] at h ⊢
  obtain ⟨h1, h2, h3⟩ := h
  rw [List.nodup_append] at h2 ⊢
  refine ⟨h1, ⟨hF, h2.2.1, fun b hb c hc e => ?_⟩, fun b hb c hc e => ?_⟩
  · subst e; exact hd b hb (by simp [hc])
  · subst e
    rcases List.mem_append.1 hc with hc | hc
    · exact hd b hc (by simp [hb])
    · exact h3 b hb b (by simp [hc]) rfl

theorem store_sound (hT : TsOk P T) (M : Mem E S G w) {s : TypeId} {i : TI} (hi : T s = some i) {v y : V} {p x : Value} {un : Unit} (hv : SR (used S) G w v p) (hy : SR (used S) G w y x) (hr : (storeV i.ty v y).run S = some (un, S')) :
    ∃ w1 G1, (Instr.storeAt s p x).run P w = .ok () w1 ∧ Mem E S' G1 w1 ∧ Keeps (used S) (used S') G G1 w w1 ∧ S'.tm = S.tm := by
  unfold storeV at hr
  obtain ⟨un, s1, h1, h2⟩ := AM.of_bind hr
  obtain ⟨es1, h⟩ := ptrTo_sound h1
  subst es1
  clear hr h1
  rcases h with ⟨i0, q, rfl, ht⟩ | ⟨z, rfl⟩
  · simp only [AM.run] at h2
    obtain ⟨hus, b, hb, ex⟩ := hv.adr
    subst ex
    split at h2
    · rename_i o t0 c ho
      rw [ho] at ht
      obtain ⟨hf, h2⟩ := AM.of_must_bind h2
      obtain ⟨z, s2, h3, h4⟩ := AM.of_bind h2
      simp only [AM.run, Option.some.injEq, Prod.mk.injEq, true_and] at h4
      subst h4
      obtain ⟨d, hd, _, hxc, hdl, h1⟩ := SR.cells M hf hy
      obtain ⟨hbx, hty, hfc, g, cs, e, hhd, hfp, hg, hvc⟩ := M.obj _ _ ho
      obtain ⟨es2, hfz, off, c₁, c0, c₂, hoff, hcs, l1, l2, hz⟩ := put_sound q hfc hvc ht hf hd h3
      subst es2
      simp only [adrOf, hbx, hhd, hty, hoff, Option.map_some, Option.some.injEq, add_lit, Nat.zero_add] at hb
      subst hb
      have hfit : off + d.length ≤ cs.size := by
        have : cs.toList.length = cs.size := Array.length_toList
        rw [← this, hcs]; simp [l1, l2, hdl]
      have hrun := storeAt_run (P := P) hT hi hxc hdl h1 hg hfit
      have hnew : cs.toList.take off ++ d ++ cs.toList.drop (off + d.length) = c₁ ++ (d ++ c₂) := by
        rw [← l1]; exact splice hcs (by rw [l2, hdl])
      rw [hnew] at hrun
      obtain ⟨hk, hg', hsz⟩ := setRow_kept (cs := (c₁ ++ (d ++ c₂)).toArray) hg
      have hl : live s2 i0 := ⟨_, ho, by simp⟩
      obtain ⟨M', K⟩ := M.turn (o := .box t0 z) (fp := G.fp i0) hl (by simp [hfp] : g ∈ G.fp i0) hk (M.nd i0 hl) (fun b hb => by rw [hsz]; exact M.own i0 hl b hb) (fun j hj hlj b hb => M.dj j i0 hj hlj hl b hb) (fun b hb => (M.okl b hb).2.2 i0 hl) (fun K => by
        obtain ⟨e1, e2, e3, e4⟩ := set_hd G i0 (G.hd i0) (G.bx i0) (G.ty i0) (G.fp i0)
        exact ⟨by rw [e2, hbx], by rw [e3, hty], hfz, g, _, e, by rw [e1, hhd], by rw [e4, hfp], hg', by simpa using hz.keep K⟩)
      exact ⟨_, _, hrun, M', K, rfl⟩
    · rename_i o d0 u0 l0 ho
      rw [ho] at ht
      split at h2
      · rename_i k q'
        obtain ⟨y', s2, h3, h4⟩ := AM.of_bind h2
        simp only [AM.run] at h4
        split at h4
        · rename_i o' d1 u l ho'
          obtain ⟨x0, hx0, h4⟩ := AM.of_ask h4
          obtain ⟨z, s3, h5, h6⟩ := AM.of_bind h4
          obtain ⟨z', s4, h7, h8⟩ := AM.of_bind h6
          simp only [AM.run, Option.some.injEq, Prod.mk.injEq, true_and] at h8
          subst h8
          obtain ⟨rfl, es4⟩ := AM.of_castV h7
          subst es4
          have hf := take_fits h3
          obtain ⟨d, hd, _, hxc, hdl, h1⟩ := SR.cells M hf hy
          obtain ⟨F, T1, hR⟩ := take_sound M hd h3
          have hl : live s2 i0 := ⟨_, ho', by simp⟩
          obtain ⟨hbx, hty, es, F1, F2, hrow, hfp, hrep⟩ := T1.mem.obj _ _ ho'
          have hsame := T1.same i0 hl
          rw [ho', ho] at hsame
          injection hsame with hsame
          injection hsame with e1 e2 e3
          subst e1; subst e2; cases e3
          obtain ⟨A, cap, ehd, _⟩ := id hrow
          simp only [adrOf, hbx, hty] at hb
          rw [ehd] at hb
          cases A with
          | none => cases hb
          | some a0 =>
          obtain ⟨off, hoff, hb⟩ := Option.map_eq_some_iff.1 hb
          have hnd := T1.mem.nd i0 hl
          have hown := T1.mem.own i0 hl
          rw [hfp] at hnd
          cases d1 with
          | false =>
            obtain ⟨M1, K1⟩ := T1.mem.thaw T1.free.own T1.free.nl
            obtain ⟨hF2, hrep⟩ := hrep
            subst hF2
            have hrep1 : RepL (Rep w (G.more F).ok u) l es := RepL.mono (fun _ _ h => h.mono fun b hb => .inl hb) hrep
            obtain ⟨c₁, c, c₂, e, l1, l2, hxr, hset⟩ := RepL.at (fun _ _ h => Rep.len u h) hrep1 hx0
            obtain ⟨es5, _, off', d₁, c0, d₂, hoff', e', l3, l4, hz⟩ := put_sound (U := used s2) (G := G.more F) (w := w) q' (fits_self u x0) (cs := c) (by simpa [VR] using hxr) ht (fits_self _ y') (d := d) (by simp only [VR]; exact hR) h5
            subst es5
            rw [hoff] at hoff'
            injection hoff' with hoff'
            subst hoff'
            have hcs : es = (c₁ ++ d₁) ++ (c0 ++ (d₂ ++ c₂)) := by rw [e, e']; simp
            have hlen : (c₁ ++ d₁).length = k * u.size + off := by rw [List.length_append, l1, l3]
            rw [hcs] at hrow
            obtain ⟨g, cur, ty, ea, eF, hg, hfit, hrow'⟩ := row_write (d := d) hrow ehd (by rw [l4, hdl]) (by have := (List.getElem?_eq_some_iff.1 hx0).1; omega)
            subst ea
            rw [add_lit, Nat.zero_add, ← hlen] at hb
            subst hb
            have hrun := storeAt_run (P := P) hT hi hxc hdl h1 hg hfit
            obtain ⟨hk, hg', hsz⟩ := setRow_kept (cs := (cur.toList.take (c₁ ++ d₁).length ++ d ++ cur.toList.drop ((c₁ ++ d₁).length + d.length)).toArray) hg
            have hgin : g ∈ (G.more F).fp i0 := by show g ∈ G.fp i0; rw [hfp, eF]; simp
            obtain ⟨M', K⟩ := M1.turn (o := .row false u (l.set k z')) (fp := G.fp i0) hl hgin hk (by rw [hfp]; exact hnd) (fun b hb => by rw [hsz]; exact hown b hb) (fun j hj hlj b hb => T1.mem.dj j i0 hj hlj hl b hb) (fun b hb => (M1.okl b hb).2.2 i0 hl) (fun K => by
              obtain ⟨e1, e2, e3, e4⟩ := set_hd (G.more F) i0 ((G.more F).hd i0) ((G.more F).bx i0) ((G.more F).ty i0) (G.fp i0)
              refine ⟨by rw [e2]; exact hbx, by rw [e3]; exact hty, (c₁ ++ d₁) ++ (d ++ (d₂ ++ c₂)), F1, [], ?_, by rw [e4, hfp], rfl, ?_⟩
              · rw [e1, List.length_set]; exact hrow'
              · simp only [VR] at hz
                have := hset _ _ hz
                rw [show c₁ ++ (d₁ ++ (d ++ d₂) ++ c₂) = c₁ ++ d₁ ++ (d ++ (d₂ ++ c₂)) by simp] at this
                exact RepL.mono (fun _ _ h => h.keep K.ok K.size) this)
            exact ⟨_, _, hrun, M', (T1.keeps.trans K1).trans K, T1.tm⟩
          | true =>
            obtain ⟨c₁, c, c₂, Fa, F0, Fb, e, eF2, l1, l2, hxr, hset⟩ := OwnL.at (fun _ _ _ h => Own.len u h) hrep hx0
            obtain ⟨es5, z0, ez, off', d₁, c0, d₂, G1', G0, G2', hoff', e', l3, l4, eG, hz⟩ := own_put q' hxr ht hR h5
            subst es5
            injection ez with _ ez
            subst ez
            rw [hoff] at hoff'
            injection hoff' with hoff'
            subst hoff'
            have hcs : es = (c₁ ++ d₁) ++ (c0 ++ (d₂ ++ c₂)) := by rw [e, e']; simp
            have hlen : (c₁ ++ d₁).length = k * u.size + off := by rw [List.length_append, l1, l3]
            rw [hcs] at hrow
            obtain ⟨g, cur, ty, ea, eF, hg, hfit, hrow'⟩ := row_write (d := d) hrow ehd (by rw [l4, hdl]) (by have := (List.getElem?_eq_some_iff.1 hx0).1; omega)
            subst ea
            rw [add_lit, Nat.zero_add, ← hlen] at hb
            subst hb
            have hrun := storeAt_run (P := P) hT hi hxc hdl h1 hg hfit
            obtain ⟨hk, hg', hsz⟩ := setRow_kept (cs := (cur.toList.take (c₁ ++ d₁).length ++ d ++ cur.toList.drop ((c₁ ++ d₁).length + d.length)).toArray) hg
            have hgin : g ∈ G.fp i0 := by rw [hfp, eF]; simp
            have hold : F1 ++ F2 = (F1 ++ (Fa ++ G1')) ++ (G0 ++ (G2' ++ Fb)) := by rw [eF2, eG]; simp
            have hFd : ∀ b ∈ F, b ∉ F1 ++ F2 := fun b hb hm => T1.free.nl i0 hl b (by rw [hfp]; exact hm) hb
            have hnd' : ((F1 ++ (Fa ++ G1')) ++ (F ++ (G2' ++ Fb))).Nodup := nodup_swap (by rw [← hold]; exact hnd) T1.free.nd (fun b hb => by rw [← hold]; exact hFd b hb)
            have hmem : ∀ b, b ∈ (F1 ++ (Fa ++ G1')) ++ (F ++ (G2' ++ Fb)) → b ∈ F ∨ b ∈ F1 ++ F2 := by
              intro b hb
              rw [hold]
              simp only [List.mem_append] at hb ⊢
              rcases hb with (h | h | h) | h | h | h <;> simp [h]
            have hgF : g ∉ F := fun h => hFd g h (by simp [eF])
            have hg2 : g ∉ F2 := fun h => (List.nodup_append.1 hnd).2.2 g (by simp [eF]) g h rfl
            obtain ⟨M', K⟩ := T1.mem.turn (o := .row true u (l.set k z')) (fp := (F1 ++ (Fa ++ G1')) ++ (F ++ (G2' ++ Fb))) hl hgin hk hnd'
              (fun b hb => by
                rw [hsz]
                rcases hmem b hb with h | h
                · exact T1.free.own b h
                · exact hown b (by rw [hfp]; exact h))
              (fun j hj hlj b hb hm => by
                rcases hmem b hm with h | h
                · exact T1.free.nl j hlj b hb h
                · exact T1.mem.dj j i0 hj hlj hl b hb (by rw [hfp]; exact h))
              (fun b hb hm => by
                rcases hmem b hm with h | h
                · exact T1.free.nok b h hb
                · exact (T1.mem.okl b hb).2.2 i0 hl (by rw [hfp]; exact h))
              (fun K => by
                obtain ⟨e1, e2, e3, e4⟩ := set_hd G i0 (G.hd i0) (G.bx i0) (G.ty i0) ((F1 ++ (Fa ++ G1')) ++ (F ++ (G2' ++ Fb)))
                refine ⟨by rw [e2, hbx], by rw [e3, hty], (c₁ ++ d₁) ++ (d ++ (d₂ ++ c₂)), F1, Fa ++ ((G1' ++ (F ++ G2')) ++ Fb), ?_, by rw [e4]; simp, ?_⟩
                · rw [e1, List.length_set]; exact hrow'
                · have := hset _ _ _ hz
                  rw [show c₁ ++ (d₁ ++ (d ++ d₂) ++ c₂) = c₁ ++ d₁ ++ (d ++ (d₂ ++ c₂)) by simp] at this
                  refine OwnL.mono_mem (fun x c Fx hG h => Own.keep u (fun b' hb' => ?_) h) this
                  have hm := hG b' hb'
                  refine hk.heap b' ?_ ?_
                  · rcases hmem b' (by simp only [List.mem_append] at hm ⊢; rcases hm with h | (h | h | h) | h <;> simp [h]) with h | h
                    · exact (T1.free.own b' h).1
                    · exact (hown b' (by rw [hfp]; exact h)).1
                  · intro eb
                    subst eb
                    simp only [List.mem_append] at hm
                    rcases hm with h | (h | h | h) | h
                    · exact hg2 (by rw [eF2]; simp [h])
                    · exact hg2 (by rw [eF2, eG]; simp [h])
                    · exact hgF h
                    · exact hg2 (by rw [eF2, eG]; simp [h])
                    · exact hg2 (by rw [eF2]; simp [h]))
            exact ⟨_, _, hrun, M', T1.keeps.trans K, T1.tm⟩
        · cases h4
      · cases h2
    · rename_i o tq lq kq qq u0 cq ho
      rw [ho] at ht
      split at h2
      · rename_i m q'
        obtain ⟨hts, h2⟩ := AM.of_must_bind h2
        have hts := of_decide_eq_true hts
        obtain ⟨y', s2, h3, h4⟩ := AM.of_bind h2
        simp only [AM.run] at h4
        split at h4
        · rename_i o' u l k q u1 c1 ho'
          obtain ⟨hq, h4⟩ := AM.of_must_bind h4
          have hq := of_decide_eq_true hq
          obtain ⟨hm, h4⟩ := AM.of_guard_bind h4
          have hm := of_decide_eq_true hm
          subst hq
          subst hm
          obtain ⟨x0, hx0, h4⟩ := AM.of_ask h4
          obtain ⟨z, s3, h5, h6⟩ := AM.of_bind h4
          obtain ⟨z', s4, h7, h8⟩ := AM.of_bind h6
          simp only [AM.run, Option.some.injEq, Prod.mk.injEq, true_and] at h8
          subst h8
          obtain ⟨rfl, es4⟩ := AM.of_castV h7
          subst es4
          have hf := take_fits h3
          obtain ⟨d, hd, _, hxc, hdl, h1⟩ := SR.cells M hf hy
          obtain ⟨F, T1, hR⟩ := take_sound M hd h3
          have hl : live s2 i0 := ⟨_, ho', by simp⟩
          have hsame := T1.same i0 hl
          rw [ho', ho] at hsame
          injection hsame with hsame
          injection hsame with e1 e2 e3 e4 e5 e6
          subst e1; subst e5; cases e2
          obtain ⟨hbx, hty, _, _, ea, eb, off, F1, F2, hoff, hlen, hrow, hfp, hole⟩ := T1.mem.obj _ _ ho'
          obtain ⟨A, cap, ehd, _⟩ := id hrow
          simp only [adrOf, hbx, hty] at hb
          rw [ehd] at hb
          cases A with
          | none => cases hb
          | some a0 =>
          obtain ⟨off', hoff', hb⟩ := Option.map_eq_some_iff.1 hb
          rw [hoff] at hoff'
          injection hoff' with hoff'
          subst hoff'
          have hnd := T1.mem.nd i0 hl
          have hown := T1.mem.own i0 hl
          rw [hfp] at hnd
          have hR : Own w (.slc _) y' d F := hR
          have hdl1 : d.length = 1 := hdl
          obtain ⟨hv0, rfl⟩ := List.length_eq_one_iff.1 hdl1
          obtain ⟨g, cur, ty, ea', eF, hg, hfit, hrow'⟩ := row_write (d := [hv0]) hrow ehd rfl (by have := (List.getElem?_eq_some_iff.1 hx0).1; omega)
          subst ea'
          rw [add_lit, Nat.zero_add, ← hlen] at hb
          subst hb
          have hrun := storeAt_run (P := P) hT hi hxc (by rw [hts]; rfl) h1 hg hfit
          obtain ⟨hk, hg', hsz⟩ := setRow_kept (cs := (cur.toList.take ea.length ++ [hv0] ++ cur.toList.drop (ea.length + [hv0].length)).toArray) hg
          have hgin : g ∈ G.fp i0 := by rw [hfp, eF]; simp
          have hFd : ∀ b ∈ F, b ∉ F1 ++ F2 := fun b hb hm => T1.free.nl i0 hl b (by rw [hfp]; exact hm) hb
          have hgF : g ∉ F := fun h => hFd g h (by simp [eF])
          have hg2 : g ∉ F2 := fun h => (List.nodup_append.1 hnd).2.2 g (by simp [eF]) g h rfl
          have hkF : ∀ b ∈ F, (w.setRow g (cur.toList.take ea.length ++ [hv0] ++ cur.toList.drop (ea.length + [hv0].length)).toArray).heap[b]? = w.heap[b]? := fun b hb => hk.heap b (T1.free.own b hb).1 (fun e => hgF (e ▸ hb))
          have hkF2 : ∀ b ∈ F2, (w.setRow g (cur.toList.take ea.length ++ [hv0] ++ cur.toList.drop (ea.length + [hv0].length)).toArray).heap[b]? = w.heap[b]? := fun b hb => hk.heap b (hown b (by rw [hfp]; simp [hb])).1 (fun e => hg2 (e ▸ hb))
          obtain ⟨es5, z0, F', ez, hol, hp⟩ := hole _ y' hv0 F hkF2 (Own.keep _ hkF hR) x0 _ _ _ hx0 h5
          subst es5
          injection ez with _ ez
          subst ez
          have hmem : ∀ b, b ∈ F1 ++ F' → b ∈ F ∨ b ∈ F1 ++ F2 := by
            intro b hb
            rcases List.mem_append.1 hb with h | h
            · exact .inr (by simp [h])
            · rcases List.mem_append.1 (hp.mem_iff.1 h) with h | h
              · exact .inr (by simp [h])
              · exact .inl h
          have hnd' : (F1 ++ F').Nodup := by
            have p : (F1 ++ F').Perm ((F1 ++ F2) ++ F) := by rw [List.append_assoc]; exact hp.append_left F1
            rw [p.nodup_iff, List.nodup_append]
            exact ⟨hnd, T1.free.nd, fun b hb c hc e => hFd c hc (e ▸ hb)⟩
          obtain ⟨M', K⟩ := T1.mem.turn (o := .row true u (l.set m z')) (fp := F1 ++ F') hl hgin hk hnd'
            (fun b hb => by
              rw [hsz]
              rcases hmem b hb with h | h
              · exact T1.free.own b h
              · exact hown b (by rw [hfp]; exact h))
            (fun j hj hlj b hb hm => by
              rcases hmem b hm with h | h
              · exact T1.free.nl j hlj b hb h
              · exact T1.mem.dj j i0 hj hlj hl b hb (by rw [hfp]; exact h))
            (fun b hb hm => by
              rcases hmem b hm with h | h
              · exact T1.free.nok b h hb
              · exact (T1.mem.okl b hb).2.2 i0 hl (by rw [hfp]; exact h))
            (fun K => by
              obtain ⟨e1, e2, e3, e4⟩ := set_hd G i0 (G.hd i0) (G.bx i0) (G.ty i0) (F1 ++ F')
              refine ⟨by rw [e2, hbx], by rw [e3, hty], ea ++ ([hv0] ++ eb), F1, F', ?_, by rw [e4], hol⟩
              rw [e1, List.length_set]; exact hrow')
          exact ⟨_, _, hrun, M', T1.keeps.trans K, T1.tm⟩
        · cases h4
      · cases h2
    · cases h2
  · cases h2
end Go.Fw

/- New objects: variables, values built of parts, rows. -/
namespace Go.Fw
variable {P : Program} {T : Nat → Option TI} {E : Env} {S S' S1 : St} {G G1 : Gh} {w w1 : World} {a : Act}

theorem Mem.fresh (M : Mem E S G w) : (∀ j, live S j → ∀ b ∈ G.fp j, b ≠ w.heap.size) ∧ (∀ b, G.ok b → b ≠ w.heap.size) ∧ E.w0.heap.size ≤ w.heap.size :=
  ⟨fun j hj b hb e => by have := (M.own j hj b hb).1; omega, fun b hb e => by have := (M.okl b hb).1; omega, M.fr.size⟩

/-- A variable in memory is made. -/
theorem new_box (M : Mem E S G w) {i : Nat} {t : Ty} {v : V} {d : List Value} {e : TypeId} (hi : S.ob i = none) (hf : fits t v = true) (hv : VR (used S) G w v d) :
    Mem E (S.putO i (.box t v)) (G.set i (.pointer (some ⟨w.heap.size, 0, none⟩)) true t [w.heap.size]) (w.alloc (.cells d.toArray e)) ∧
    Keeps (used S) (used (S.putO i (.box t v))) G (G.set i (.pointer (some ⟨w.heap.size, 0, none⟩)) true t [w.heap.size]) w (w.alloc (.cells d.toArray e)) ∧
    SR (used (S.putO i (.box t v))) (G.set i (.pointer (some ⟨w.heap.size, 0, none⟩)) true t [w.heap.size]) (w.alloc (.cells d.toArray e)) (.adr i []) (.pointer (some ⟨w.heap.size, 0, none⟩)) := by
  obtain ⟨h1, h2, h3⟩ := M.fresh
  obtain ⟨hk, hb, hs⟩ := alloc_kept (w := w) (.cells d.toArray e)
  obtain ⟨M', K⟩ := Mem.put (o := .box t v) (hd := .pointer (some ⟨w.heap.size, 0, none⟩)) (bx := true) (ty := t) (fp := [w.heap.size]) M (.inl hi) (fun h => by cases h) hk (fun _ _ h => h.elim)
    (fun j _ hj b hb => ⟨id, fun _ => by simpa using h1 j hj b hb⟩) (fun b hb => ⟨id, fun _ => by simpa using h2 b hb⟩) (fun _ => by simp) (fun _ b hb => by simp at hb; subst hb; exact ⟨by rw [hs]; omega, .inl h3⟩)
    (fun K => by
      obtain ⟨e1, e2, e3, e4⟩ := set_hd G i (.pointer (some ⟨w.heap.size, 0, none⟩)) true t [w.heap.size]
      exact ⟨e2, e3, hf, w.heap.size, _, e, e1, e4, hb, by simpa using hv.keep K⟩)
  exact ⟨M', K, (adr_root S G i t v w.heap.size _).sr⟩

/-- A strings.Builder is made. -/
theorem new_bld (M : Mem E S G w) {i : Nat} {t e : TypeId} (hi : S.ob i = none) :
    Mem E (S.putO i (.bld t e ⟨#[]⟩)) (G.set i (.pointer (some ⟨w.heap.size, 0, none⟩)) true .unit [w.heap.size]) (w.alloc (.cells #[.pointer none, .slice none 0 0] t)) ∧
    Keeps (used S) (used (S.putO i (.bld t e ⟨#[]⟩))) G (G.set i (.pointer (some ⟨w.heap.size, 0, none⟩)) true .unit [w.heap.size]) w (w.alloc (.cells #[.pointer none, .slice none 0 0] t)) ∧
    SR (used (S.putO i (.bld t e ⟨#[]⟩))) (G.set i (.pointer (some ⟨w.heap.size, 0, none⟩)) true .unit [w.heap.size]) (w.alloc (.cells #[.pointer none, .slice none 0 0] t)) (.adr i []) (.pointer (some ⟨w.heap.size, 0, none⟩)) := by
  obtain ⟨h1, h2, h3⟩ := M.fresh
  obtain ⟨hk, hb, hs⟩ := alloc_kept (w := w) (.cells #[.pointer none, .slice none 0 0] t)
  obtain ⟨e1, e2, e3, e4⟩ := set_hd G i (.pointer (some ⟨w.heap.size, 0, none⟩)) true .unit [w.heap.size]
  obtain ⟨M', K⟩ := Mem.put (o := .bld t e ⟨#[]⟩) (hd := .pointer (some ⟨w.heap.size, 0, none⟩)) (bx := true) (ty := .unit) (fp := [w.heap.size]) M (.inl hi) (fun h => by cases h) hk (fun _ _ h => h.elim)
    (fun j _ hj b hb => ⟨id, fun _ => by simpa using h1 j hj b hb⟩) (fun b hb => ⟨id, fun _ => by simpa using h2 b hb⟩) (fun _ => by simp) (fun _ b hb => by simp at hb; subst hb; exact ⟨by rw [hs]; omega, .inl h3⟩)
    (fun K => ⟨e2, w.heap.size, [], e1, e4, _, _, hb, .inl rfl, .inl ⟨rfl, rfl, rfl⟩⟩)
  refine ⟨M', K, [.pointer (some ⟨w.heap.size, 0, none⟩)], ?_, rfl⟩
  simp only [VR]
  exact ⟨used_put _ _ _, ⟨w.heap.size, 0, none⟩, by simp [adrOf, e1, e2, offT, add_zero], rfl⟩

/-- A variable that holds a row's header is made and never written again. -/
theorem pin_box {i j : Nat} {t : Ty} {v : V} {d : List Value} {e : TypeId} (hi : S.ob j = none) (M : Mem E (S.putO j (.box t v)) (G.set j (.pointer (some ⟨w.heap.size, 0, none⟩)) true t [w.heap.size]) (w.alloc (.cells d.toArray e)))
    (K : Keeps (used S) (used (S.putO j (.box t v))) G (G.set j (.pointer (some ⟨w.heap.size, 0, none⟩)) true t [w.heap.size]) w (w.alloc (.cells d.toArray e))) (hv : VR (used S) G w (.hdr i) d) :
    Mem E ((S.putO j (.box t v)).putO j .gone) ((G.set j (.pointer (some ⟨w.heap.size, 0, none⟩)) true t [w.heap.size]).more [w.heap.size]) (w.alloc (.cells d.toArray e)) ∧
    Keeps (used (S.putO j (.box t v))) (used ((S.putO j (.box t v)).putO j .gone)) (G.set j (.pointer (some ⟨w.heap.size, 0, none⟩)) true t [w.heap.size]) ((G.set j (.pointer (some ⟨w.heap.size, 0, none⟩)) true t [w.heap.size]).more [w.heap.size]) (w.alloc (.cells d.toArray e)) (w.alloc (.cells d.toArray e)) ∧
    SR (used ((S.putO j (.box t v)).putO j .gone)) ((G.set j (.pointer (some ⟨w.heap.size, 0, none⟩)) true t [w.heap.size]).more [w.heap.size]) (w.alloc (.cells d.toArray e)) (.pin i) (.pointer (some ⟨w.heap.size, 0, none⟩)) := by
  have T := Took.one M (i := j) ⟨_, by rw [St.ob_putO, if_pos rfl], by simp⟩
  obtain ⟨_, hb, hs⟩ := alloc_kept (w := w) (.cells d.toArray e)
  obtain ⟨_, _, _, h4⟩ := set_hd G j (.pointer (some ⟨w.heap.size, 0, none⟩)) true t [w.heap.size]
  have fr := T.free
  rw [h4] at fr
  obtain ⟨M2, K2⟩ := T.mem.thaw (F := [w.heap.size]) fr.own fr.nl
  have KK := K.trans (T.keeps.trans K2)
  have hv2 := hv.keep KK
  refine ⟨M2, T.keeps.trans K2, [.pointer (some ⟨w.heap.size, 0, none⟩)], ?_, rfl⟩
  simp only [VR] at hv2 ⊢
  refine ⟨hv2.1, hv2.2.1, _, rfl, .inr (by simp), by rw [hs]; simp, ?_⟩
  rw [← hv2.2.2]
  simpa using cellsAt_whole hb

theorem SR.fits_cells (M : Mem E S G w) {t : Ty} {v : V} {x : Value} (hf : fits t v = true) (h : SR (used S) G w v x) : ∃ d, VR (used S) G w v d ∧ x.cells = d.toArray ∧ d.length = t.size := by
  obtain ⟨d, hd, _, hc, hl, _⟩ := SR.cells M hf h
  exact ⟨d, hd, hc, hl⟩

theorem repL_rep_replicate {ok : Nat → Prop} {t : Ty} {x : t.I} {c : List Value} (h : Rep w ok t x c) (n : Nat) : Rep w ok (.arr n t) (List.replicate n x) (List.replicate n c).flatten := ⟨by simp, RepL.replicate h n⟩

theorem ownL_replicate {α : Type} {Q : α → List Value → List Nat → Prop} {x : α} {c : List Value} (h : Q x c []) : ∀ n, OwnL Q (List.replicate n x) (List.replicate n c).flatten []
  | 0 => ⟨rfl, rfl⟩
  | n + 1 => ⟨c, _, [], [], by simp [List.replicate_succ], rfl, h, ownL_replicate h n⟩
theorem zero_rep {ok : Nat → Prop} : ∀ (t : Ty), t.plain = true → Rep w ok t t.zero (zeroCells_ t)
  | .int _, _ => rfl
  | .bool, _ => rfl
  | .str, _ => rfl
  | .err, _ => .inl ⟨rfl, rfl⟩
  | .unit, _ => rfl
  | .slc _, _ => ⟨none, 0, rfl, Nat.le_refl _, .inl rfl⟩
  | .pair a b, h => by
    simp only [Ty.plain, Bool.and_eq_true] at h
    exact ⟨_, _, rfl, zero_rep a h.1, zero_rep b h.2⟩
  | .arr n t, h => repL_rep_replicate (zero_rep t h) n

theorem own_zero {w : World} : ∀ (t : Ty), t.plain = true → Own w t t.zero (zeroCells_ t) []
  | .int _, _ => ⟨rfl, rfl⟩
  | .bool, _ => ⟨rfl, rfl⟩
  | .str, _ => ⟨rfl, rfl⟩
  | .err, _ => ⟨.inl ⟨rfl, rfl⟩, rfl⟩
  | .unit, _ => ⟨rfl, rfl⟩
  | .slc _, _ => ⟨_, [], [], [], rfl, rfl, ⟨none, 0, rfl, Nat.le_refl _, (Nat.zero_mul _).symm, .inl ⟨rfl, rfl⟩⟩, rfl, rfl⟩
  | .pair a b, h => by
    simp only [Ty.plain, Bool.and_eq_true] at h
    exact ⟨_, _, [], [], rfl, rfl, own_zero a h.1, own_zero b h.2⟩
  | .arr n t, h => ⟨by simp [Ty.zero], ownL_replicate (own_zero t h) n⟩

theorem zeroV_sound : ∀ (t : Ty) {S S' : St} {v : V}, (zeroV t).run S = some (v, S') → S' = S ∧ fits t v = true ∧ ∀ {U : Nat → Prop} {G : Gh}, VR U G w v (zeroCells_ t)
  | .int _, _, _, _, h => by obtain ⟨rfl, rfl⟩ := AM.of_pure h; exact ⟨rfl, fits_self _ _, by simp [VR, Rep, zeroCells_]⟩
  | .bool, _, _, _, h => by obtain ⟨rfl, rfl⟩ := AM.of_pure h; exact ⟨rfl, fits_self _ _, by simp [VR, Rep, zeroCells_]⟩
  | .str, _, _, _, h => by obtain ⟨rfl, rfl⟩ := AM.of_pure h; exact ⟨rfl, fits_self _ _, by simp [VR, Rep, zeroCells_]⟩
  | .err, _, _, _, h => by obtain ⟨rfl, rfl⟩ := AM.of_pure h; exact ⟨rfl, fits_self _ _, by simp [VR, Rep, zeroCells_]⟩
  | .unit, _, _, _, h => by obtain ⟨rfl, rfl⟩ := AM.of_pure h; exact ⟨rfl, fits_self _ _, by simp [VR, Rep, zeroCells_]⟩
  | .slc _, _, _, _, h => by obtain ⟨rfl, rfl⟩ := AM.of_pure h; exact ⟨rfl, rfl, by simp [VR, zeroCells_]⟩
  | .pair a b, S, S', v, h => by
    unfold zeroV at h
    obtain ⟨x, s1, h1, h2⟩ := AM.of_bind h
    obtain ⟨y, s2, h3, h4⟩ := AM.of_bind h2
    obtain ⟨rfl, rfl⟩ := AM.of_pure h4
    obtain ⟨e1, f1, r1⟩ := zeroV_sound a h1
    obtain ⟨e2, f2, r2⟩ := zeroV_sound b h3
    exact ⟨e2.trans e1, fits_mkpr f1 f2, VR_mkpr r1 r2⟩
  | .arr n t, S, S', v, h => by
    unfold zeroV at h
    split at h
    · rename_i hf
      obtain ⟨rfl, rfl⟩ := AM.of_pure h
      exact ⟨rfl, fits_self _ _, by simp only [VR]; exact repL_rep_replicate (zero_rep t hf) n⟩
    · cases h
  | .fn, _, _, _, h => by cases h
  | .ptr _, _, _, _, h => by cases h

/-! ### Values built of parts -/
theorem fill_fold (off : Nat) : ∀ (vs : List Value) (k : Nat) (cs : Array Value), off + k + vs.length ≤ cs.size →
    ((vs.zipIdx k).foldl (fun cs (x : Value × Nat) => cs.setIfInBounds (off + x.2) x.1) cs).toList = cs.toList.take (off + k) ++ vs ++ cs.toList.drop (off + k + vs.length)
  | [], k, cs, _ => by simp
  | v :: vs, k, cs, h => by
    simp only [List.zipIdx_cons, List.foldl_cons]
    rw [fill_fold off vs (k + 1) _ (by simp at h ⊢; omega)]
    have := list_seg_step cs.toList (off + k) v vs (by simp at h ⊢; omega)
    simpa [Array.toList_setIfInBounds, Nat.add_assoc] using this

theorem fill_one {place : Nat → Option (Nat × Nat)} {cells : Array Value} {i off : Nat} {v : Value} {d : List Value} {rest : List (Nat × Value)} (hp : place i = some (off, d.length)) (hv : v.cells = d.toArray) (hfit : off + d.length ≤ cells.size) :
    Instr.fill place cells ((i, v) :: rest) = Instr.fill place (cells.toList.take off ++ d ++ cells.toList.drop (off + d.length)).toArray rest := by
  simp only [Instr.fill, hp, hv]
  rw [if_neg]
  · congr 1
    apply Array.ext'
    have := fill_fold off d 0 cells (by simpa using hfit)
    simp only [Nat.add_zero] at this
    rw [List.toList_toArray, ← this]
    rw [← Array.foldl_toList]
    simp [Array.toList_zipIdx]
  · simp; omega

theorem places_of : ∀ {fs : List Field} {t : Ty} {off : Nat}, FieldsOk P fs t off → ∃ places : List (Nat × Nat), fs.mapM (fun f => (P.info? f.type).map fun i => (f.offset, i.size)) = some places ∧ ∀ (f : Nat) (u : Ty) (o : Nat), subTy t (fieldPath f) = some u → offT t (fieldPath f) = some o → places[f]? = some (off + o, u.size)
  | [], t, off, h => by
    cases t <;> simp [FieldsOk] at h
    refine ⟨[], rfl, fun f u o hu => ?_⟩
    cases f <;> simp [fieldPath, subTy] at hu
  | fd :: r, t, off, h => by
    cases t <;> simp only [FieldsOk] at h
    obtain ⟨h1, ⟨i, h2, h3⟩, _, h4⟩ := h
    obtain ⟨places, hp, hr⟩ := places_of h4
    refine ⟨(fd.offset, i.size) :: places, by simp [List.mapM_cons, h2, hp], fun f u o hu ho => ?_⟩
    cases f with
    | zero =>
      simp only [fieldPath, subTy, Option.some.injEq] at hu
      simp only [fieldPath, offT, Option.some.injEq] at ho
      subst hu; subst ho
      simp [h1, h3]
    | succ f =>
      simp only [fieldPath, subTy] at hu
      simp only [fieldPath, offT] at ho
      obtain ⟨o1, e1, e2⟩ := Option.map_eq_some_iff.1 ho
      have := hr f u o1 hu e1
      simp only [List.getElem?_cons_succ, this]
      congr 2
      omega

theorem built_sound (M : Mem E S G w) {t : Ty} {place : Nat → Option (Nat × Nat)} (hp : ∀ i u o, subTy t (partPath t i) = some u → offT t (partPath t i) = some o → place i = some (o, u.size)) {ps : List (Nat × V)} : ∀ {xs : List Value} {v z : V} {cells : Array Value} {S' : St}, fits t v = true → VR (used S) G w v cells.toList → SRs S G w (ps.map (·.2)) xs → (built t v ps).run S = some (z, S') →
    S' = S ∧ fits t z = true ∧ ∃ cells' : Array Value, Instr.fill place cells ((ps.map (·.1)).zip xs) = some cells' ∧ VR (used S) G w z cells'.toList := by
  induction ps with
  | nil =>
    intro xs v z cells S' hf hv hs hr
    obtain ⟨rfl, rfl⟩ := AM.of_pure hr
    cases xs with
    | nil => exact ⟨rfl, hf, cells, rfl, hv⟩
    | cons _ _ => exact hs.elim
  | cons q ps ih =>
    obtain ⟨i, y⟩ := q
    intro xs v z cells S' hf hv hs hr
    cases xs with
    | nil => exact hs.elim
    | cons x xs =>
    obtain ⟨hy, hs⟩ := hs
    unfold built at hr
    obtain ⟨hm, hr⟩ := AM.of_must_bind hr
    obtain ⟨z1, s1, h1, h2⟩ := AM.of_bind hr
    split at hm
    · rename_i u hu
      obtain ⟨d, hd, hc, hl⟩ := SR.fits_cells M hm hy
      obtain ⟨es1, fz, off, c₁, c0, c₂, hoff, hcs, l1, l2, hz⟩ := put_sound _ hf hv hu hm hd h1
      subst es1
      have hfit : off + d.length ≤ cells.size := by
        have : cells.toList.length = cells.size := Array.length_toList
        rw [← this, hcs]; simp [l1, l2, hl]
      have hfill := fill_one (place := place) (cells := cells) (i := i) (rest := (ps.map (·.1)).zip xs) (by rw [hp i u off hu hoff, hl]) hc hfit
      have hnew : cells.toList.take off ++ d ++ cells.toList.drop (off + d.length) = c₁ ++ (d ++ c₂) := by rw [← l1]; exact splice hcs (by rw [l2, hl])
      rw [hnew] at hfill
      obtain ⟨e2, f2, cells', h3, h4⟩ := ih (cells := (c₁ ++ (d ++ c₂)).toArray) fz (by simpa using hz) hs h2
      exact ⟨e2, f2, cells', by simp only [List.map_cons, List.zip_cons_cons]; rw [hfill]; exact h3, h4⟩
    · cases hm

theorem build_sound (hT : TsOk P T) (M : Mem E S G w) {s : TypeId} {i : TI} (hi : T s = some i) {v z : V} {ps : List (Nat × V)} {xs : List Value} {S0 : St} (h0 : (zeroV i.ty).run S = some (v, S0)) (hs : SRs S G w (ps.map (·.2)) xs) (hr : (built i.ty v ps).run S = some (z, S')) (hag : i.ty.isAgg = true) :
    S' = S ∧ ∃ r, (Instr.build s ((ps.map (·.1)).zip xs).toArray).run P w = .ok r w ∧ SR (used S) G w z r := by
  obtain ⟨_, hf, hz⟩ := zeroV_sound i.ty h0
  obtain ⟨fo, hfo, hsz, hby, z0, hz0, hzc⟩ := (hT s i hi).info
  obtain ⟨d, hd, hk⟩ := (hT s i hi).desc
  have key : ∀ place : Nat → Option (Nat × Nat), (∀ j u o, subTy i.ty (partPath i.ty j) = some u → offT i.ty (partPath i.ty j) = some o → place j = some (o, u.size)) → (∀ cells', Instr.fill place z0.cells ((ps.map (·.1)).zip xs) = some cells' → P.built s ((ps.map (·.1)).zip xs).toArray.toList = some cells') → S' = S ∧ ∃ r, (Instr.build s ((ps.map (·.1)).zip xs).toArray).run P w = .ok r w ∧ SR (used S) G w z r := by
    intro place hp hb
    obtain ⟨e, fz, cells', h1, h2⟩ := built_sound M hp (cells := z0.cells) hf (by rw [hzc]; exact hz) hs hr
    refine ⟨e, _, run_build w s _ cells' (hb _ h1), ?_⟩
    have := h2.sr
    rw [(VR.len fz h2).2, hag] at this
    simpa [ofCells] using this
  cases hty : i.ty with
  | pair a b =>
    rw [hty] at hk
    obtain ⟨fs, e, hfs⟩ := hk
    obtain ⟨places, hp, hpl⟩ := places_of hfs
    refine key (places.toArray[·]?) (fun j u o hu ho => ?_) (fun cells' h => ?_)
    · rw [hty] at hu ho
      have := hpl j u o hu ho
      simpa using this
    · simp only [Program.built, hfo, hd, e, hz0, hp]
      exact h
  | unit =>
    rw [hty] at hk
    obtain ⟨fs, e, hfs⟩ := hk
    obtain ⟨places, hp, hpl⟩ := places_of hfs
    refine key (places.toArray[·]?) (fun j u o hu ho => ?_) (fun cells' h => ?_)
    · rw [hty] at hu ho
      have := hpl j u o hu ho
      simpa using this
    · simp only [Program.built, hfo, hd, e, hz0, hp]
      exact h
  | arr n t =>
    rw [hty] at hk
    obtain ⟨e, j, hj, hjt⟩ := hk
    obtain ⟨fe, hfe, hse, _⟩ := (hT _ _ hj).info
    refine key (fun k => some (k * fe.size, fe.size)) (fun k u o hu ho => ?_) (fun cells' h => ?_)
    · rw [hty] at hu ho
      simp only [partPath, subTy, Option.some.injEq] at hu
      simp only [partPath, offT, Option.map_some, Option.some.injEq, Nat.add_zero] at ho
      subst hu; subst ho
      rw [hse, hjt]
    · simp only [Program.built, hfo, hd, e, hz0, hfe]
      exact h
  | _ => rw [hty] at hag; cases hag
end Go.Fw

/- New rows, and what makes rows longer. -/
namespace Go.Fw
variable {P : Program} {T : Nat → Option TI} {E : Env} {S S' S1 : St} {G G1 : Gh} {w w1 : World} {a : Act}

theorem Free.grow (M : Mem E S G w) {F : List Nat} (f : Free E S G w F) (hk : KeptBut (fun _ => False) w w1) (hs : w1.heap.size = w.heap.size + 1) : Mem E S G w1 ∧ Keeps (used S) (used S) G G w w1 ∧ Free E S G w1 (w.heap.size :: F) := by
  obtain ⟨M1, K1⟩ := M.world hk (fun _ _ h => h.elim) (fun _ _ _ _ => id) (fun _ _ => id)
  obtain ⟨h1, h2, h3⟩ := M.fresh
  refine ⟨M1, K1, ⟨?_, ?_, ?_, ?_⟩⟩
  · rw [List.nodup_cons]; exact ⟨fun hm => by have := (f.own _ hm).1; omega, f.nd⟩
  · intro b hb
    rcases List.mem_cons.1 hb with rfl | hb
    · exact ⟨by rw [hs]; omega, .inl h3⟩
    · have := f.own b hb; exact ⟨by rw [hs]; omega, this.2⟩
  · intro b hb hok
    rcases List.mem_cons.1 hb with rfl | hb
    · exact h2 _ hok rfl
    · exact f.nok b hb hok
  · intro i hi b hb hm
    rcases List.mem_cons.1 hm with rfl | hm
    · exact h1 i hi _ hb rfl
    · exact f.nl i hi b hb hm

/-- What a step leaves: a value, and memory told as the state tells it. -/
def Step (P : Program) (E : Env) (S : St) (G : Gh) (w : World) (S1 : St) (v : V) (m : Sem Value) : Prop :=
  ∃ x w1 G1, m.run P w = .ok x w1 ∧ Mem E S1 G1 w1 ∧ Keeps (used S) (used S1) G G1 w w1 ∧ S1.tm = S.tm ∧ SR (used S1) G1 w1 v x

theorem Step.same {v : V} {m : Sem Value} {x : Value} (M : Mem E S G w) (hr : m.run P w = .ok x w) (hv : SR (used S) G w v x) : Step P E S G w S v m := ⟨x, w, G, hr, M, Keeps.refl _ _ _, rfl, hv⟩

def RowD (w : World) (ok : Nat → Prop) (d : Bool) (t : Ty) (l : List t.I) (es : List Value) (F : List Nat) : Prop := match d with
  | true => OwnL (Own w t) l es F
  | false => F = [] ∧ RepL (Rep w ok t) l es

theorem RowD.keep {ok : Nat → Prop} {d : Bool} {t : Ty} {l : List t.I} {es : List Value} {F : List Nat} (hF : ∀ b ∈ F, w1.heap[b]? = w.heap[b]?) (hok : ∀ b, ok b → b < w.heap.size → w1.heap[b]? = w.heap[b]?) (hs : w.heap.size ≤ w1.heap.size) (h : RowD w ok d t l es F) : RowD w1 ok d t l es F := by
  cases d with
  | true => exact OwnL.mono_mem (fun _ _ _ hG h => Own.keep t (fun b hb => hF b (hG b hb)) h) h
  | false => exact ⟨h.1, RepL.mono (fun _ _ h => Rep.keep (fun b hb hl => ⟨hb, hok b hb hl⟩) hs t h) h.2⟩

theorem RowD.len {ok : Nat → Prop} {d : Bool} {t : Ty} {l : List t.I} {es : List Value} {F : List Nat} (h : RowD w ok d t l es F) : es.length = l.length * t.size := by
  cases d with
  | true => exact OwnL.len (fun _ _ _ h => Own.len t h) h
  | false => exact RepL.len (fun _ _ h => Rep.len t h) h.2
theorem RowD.one {ok : Nat → Prop} {d : Bool} {t : Ty} {l : List t.I} {es : List Value} {F : List Nat} (h : RowD w ok d t l es F) : ∀ v ∈ es, v.oneCell' = true := by
  cases d with
  | true => exact OwnL.all (fun _ _ _ h => Own.one t h) h
  | false => exact RepL.all (fun _ _ h => Rep.one t h) h.2
theorem RowD.append {ok : Nat → Prop} {d : Bool} {t : Ty} {l m : List t.I} {es ds : List Value} {F F' : List Nat} (h : RowD w ok d t l es F) (k : RowD w ok d t m ds F') : RowD w ok d t (l ++ m) (es ++ ds) (F ++ F') := by
  cases d with
  | true => exact OwnL.append h k
  | false => exact ⟨by rw [h.1, k.1]; rfl, RepL.append h.2 k.2⟩
theorem RowD.flat {ok : Nat → Prop} {d : Bool} {t : Ty} (ht : t.flat = true) {l : List t.I} {es : List Value} (h : RepL (Rep w ok t) l es) : RowD w ok d t l es [] := by
  cases d with
  | true => exact OwnL.of_flat (fun _ _ h => Own.of_flat t ht h) h
  | false => exact ⟨rfl, h⟩

theorem SR.of_hdr {i : Nat} {hd : Value} (h1 : used S i) (h2 : G.bx i = false) (h3 : G.hd i = hd) : SR (used S) G w (.hdr i) hd := ⟨[hd], by simp only [VR]; exact ⟨h1, h2, by rw [h3]⟩, rfl⟩

/-- A row is there where none was. -/
theorem row_new (M : Mem E S G w) {i : Nat} {d : Bool} {t : Ty} {l : List t.I} {hd : Value} {es : List Value} {F1 F2 : List Nat} (hi : S.ob i = none) (f : Free E S G w (F1 ++ F2)) (hr : RowOk w hd t.size l.length es F1) (hd' : RowD w G.ok d t l es F2) :
    ∃ G1, Mem E (S.putO i (.row d t l)) G1 w ∧ Keeps (used S) (used (S.putO i (.row d t l))) G G1 w w ∧ SR (used (S.putO i (.row d t l))) G1 w (.hdr i) hd := by
  have g := Gave.row M (.inl hi) f hr hd'
  obtain ⟨e1, e2, e3, e4⟩ := set_hd G i hd false t (F1 ++ F2)
  exact ⟨_, g.mem, g.keeps, SR.of_hdr (used_put _ _ _) e2 e1⟩

/-- A row in a block that has just been made. -/
theorem row_fresh (M : Mem E S G w) {i : Nat} {d : Bool} {t : Ty} {l : List t.I} {es : List Value} {F2 : List Nat} {cur : Array Value} {e : TypeId} {cap : Nat} (hi : S.ob i = none) (f : Free E S G w F2) (hd' : RowD w G.ok d t l es F2)
    (hk : KeptBut (fun _ => False) w w1) (hs : w1.heap.size = w.heap.size + 1) (hb : w1.heap[w.heap.size]? = some (.cells cur e (0, 0))) (hc : cur.size = cap * t.size) (hn : l.length ≤ cap) (he : es = cur.toList.take (l.length * t.size)) :
    ∃ G1, Mem E (S.putO i (.row d t l)) G1 w1 ∧ Keeps (used S) (used (S.putO i (.row d t l))) G G1 w w1 ∧ SR (used (S.putO i (.row d t l))) G1 w1 (.hdr i) (.slice (some ⟨w.heap.size, 0, none⟩) l.length cap) := by
  obtain ⟨M1, K1, f1⟩ := f.grow M hk hs
  have hd1 : RowD w1 G.ok d t l es F2 := hd'.keep (fun b hb => hk.heap b (f.own b hb).1 id) (fun b _ hl => hk.heap b hl id) hk.size
  obtain ⟨G1, M2, K2, h⟩ := row_new M1 (F1 := [w.heap.size]) hi f1 (hd := .slice (some ⟨w.heap.size, 0, none⟩) l.length cap) ⟨_, cap, rfl, hn, hd'.len, .inr ⟨_, cur, e, rfl, rfl, hb, hc, he⟩⟩ hd1
  exact ⟨G1, M2, K1.trans K2, h⟩

/-! ### Many taken -/
theorem SRs.keep (h : Keeps (used S) (used S1) G G1 w w1) : ∀ {vs : List V} {xs : List Value}, SRs S G w vs xs → SRs S1 G1 w1 vs xs
  | [], [], _ => trivial
  | _ :: _, _ :: _, ⟨h1, h2⟩ => ⟨h1.keep h, SRs.keep h h2⟩
  | [], _ :: _, h => h.elim
  | _ :: _, [], h => h.elim
theorem SRs.len : ∀ {vs : List V} {xs : List Value}, SRs S G w vs xs → vs.length = xs.length
  | [], [], _ => rfl
  | _ :: _, _ :: _, ⟨_, h2⟩ => by simp [SRs.len h2]
  | [], _ :: _, h => h.elim
  | _ :: _, [], h => h.elim

def cellsOf (xs : List Value) : List Value := xs.flatMap fun x => x.cells.toList

def TakesR (w : World) (ok : Nat → Prop) (d : Bool) (t : Ty) (l : List t.I) (cs : List Value) (F : List Nat) : Prop := match d with
  | true => OwnL (Own w t) l cs F
  | false => RepL (Rep w (fun b => ok b ∨ b ∈ F) t) l cs

theorem takes_sound {d : Bool} {t : Ty} : ∀ {vs : List V} {xs : List Value} {S S' : St} {l : List t.I}, Mem E S G w → SRs S G w vs xs → (takes d t vs).run S = some (l, S') →
    ∃ F, Took E S G w S' F ∧ TakesR w G.ok d t l (cellsOf xs) F ∧ l.length = xs.length ∧ ∀ x ∈ xs, x.cells.size = t.size
  | [], xs, S, S', l, M, hs, hr => by
    obtain ⟨rfl, rfl⟩ := AM.of_pure hr
    cases xs with
    | cons _ _ => exact hs.elim
    | nil => exact ⟨[], Took.refl M, by cases d <;> simp [TakesR, OwnL, RepL, cellsOf], rfl, by simp⟩
  | v :: vs, xs, S, S', l, M, hs, hr => by
    cases xs with
    | nil => exact hs.elim
    | cons x xs =>
    unfold takes at hr
    obtain ⟨y, s1, h1, h2⟩ := AM.of_bind hr
    obtain ⟨r, s2, h3, h4⟩ := AM.of_bind h2
    obtain ⟨rfl, rfl⟩ := AM.of_pure h4
    obtain ⟨c, hc, _, hcc, hl, _⟩ := SR.cells M (take_fits h1) hs.1
    obtain ⟨F1, T1, R1⟩ := take_sound M hc h1
    obtain ⟨F2, T2, R2, hn, hz⟩ := takes_sound T1.mem (hs.2.keep T1.keeps) h3
    refine ⟨F1 ++ F2, T1.trans T2, ?_, by simp [hn], ?_⟩
    · have e : cellsOf (x :: xs) = c ++ cellsOf xs := by simp [cellsOf, hcc]
      rw [e]
      cases d with
      | true => exact ⟨c, _, F1, F2, rfl, rfl, R1, R2⟩
      | false => exact ⟨c, _, rfl, Rep.mono (fun b hb => hb.imp id fun h => by simp [h]) R1, RepL.mono (fun _ _ h => h.mono fun b hb => hb.imp id fun h => by simp [h]) R2⟩
    · intro z hz'
      rcases List.mem_cons.1 hz' with rfl | hz'
      · rw [hcc]; simpa using hl
      · exact hz z hz'

/-- What has been taken, told as a row's elements: what is owned stays free, what is read only is thawed. -/
theorem TakesR.thaw {F : List Nat} (h : Took E S G w S1 F) {d : Bool} {t : Ty} {l : List t.I} {cs : List Value} (hr : TakesR w G.ok d t l cs F) :
    ∃ G1 F2, Mem E S1 G1 w ∧ Keeps (used S) (used S1) G G1 w w ∧ Free E S1 G1 w F2 ∧ RowD w G1.ok d t l cs F2 ∧ (∀ b ∈ F2, b ∈ F) ∧ (∀ b, G1.ok b → G.ok b ∨ b ∈ F) ∧ G1.fp = G.fp ∧ G1.hd = G.hd ∧ G1.bx = G.bx ∧ G1.ty = G.ty := by
  cases d with
  | true => exact ⟨G, F, h.mem, h.keeps, h.free, hr, fun _ h => h, fun _ h => .inl h, rfl, rfl, rfl, rfl⟩
  | false =>
    obtain ⟨M1, K1⟩ := h.mem.thaw h.free.own h.free.nl
    exact ⟨G.more F, [], M1, h.keeps.trans K1, Free.nil, ⟨rfl, hr⟩, by simp, fun _ h => h, rfl, rfl, rfl, rfl⟩

theorem fill_all (sz : Nat) : ∀ (xs : List Value) (k : Nat) (cells : Array Value), (∀ x ∈ xs, x.cells.size = sz) → cells.size = (k + xs.length) * sz →
    Instr.fill (fun i => some (i * sz, sz)) cells ((List.range' k xs.length).zip xs) = some (cells.toList.take (k * sz) ++ cellsOf xs).toArray
  | [], k, cells, _, hs => by
    simp only [Instr.fill, List.length_nil, List.range'_zero, List.zip_nil_left, Option.some.injEq, cellsOf, List.flatMap_nil, List.append_nil]
    apply Array.ext'
    rw [List.toList_toArray, List.take_of_length_le]
    simp at hs ⊢
    omega
  | x :: xs, k, cells, hx, hs => by
    have h1 : x.cells.toList.length = sz := by simpa using hx x (by simp)
    have hsz : cells.size = k * sz + (sz + xs.length * sz) := by rw [hs]; simp [Nat.add_mul]; omega
    rw [show (x :: xs).length = xs.length + 1 from rfl, List.range'_succ, List.zip_cons_cons]
    rw [fill_one (d := x.cells.toList) (off := k * sz) (by rw [h1]) (by simp) (by rw [h1]; omega)]
    rw [fill_all sz xs (k + 1) _ (fun y hy => hx y (by simp [hy]))]
    · congr 1
      apply congrArg
      have e : cellsOf (x :: xs) = x.cells.toList ++ cellsOf xs := by simp [cellsOf]
      rw [e, ← List.append_assoc]
      congr 1
      rw [List.toList_toArray, List.take_append_of_le_length]
      · rw [List.take_of_length_le]
        simp [h1, Nat.add_mul]
        exact Nat.min_le_left _ _
      · simp only [List.length_append, List.length_take, h1, Nat.add_mul]
        have : cells.toList.length = cells.size := Array.length_toList
        omega
    · have : cells.toList.length = cells.size := Array.length_toList
      simp only [List.size_toArray, List.length_append, List.length_take, List.length_drop, h1, this, hsz]
      simp [Nat.add_mul]
      omega

theorem elemTy_sound (hT : TsOk P T) {t : TypeId} {e : Ty × Nat} (h : (elemTy T t).run S = some (e, S')) : S' = S ∧ ∃ i j f, T t = some i ∧ T i.elem = some j ∧ i.ty = .slc j.ty ∧ e = (j.ty, j.bytes) ∧ j.bytes ≠ 0 ∧
    P.underlying t = some (.slice i.elem) ∧ P.info? i.elem = some f ∧ f.size = j.ty.size ∧ f.bytes = j.bytes ∧ ∃ z, f.zero = some z ∧ z.cells.toList = zeroCells_ j.ty := by
  unfold elemTy at h
  split at h
  · rename_i i hi
    split at h
    · rename_i e0 j hty hj
      obtain ⟨hm, h⟩ := AM.of_must_bind h
      obtain ⟨rfl, rfl⟩ := AM.of_pure h
      simp only [Bool.and_eq_true, decide_eq_true_eq, bne_iff_ne] at hm
      obtain ⟨f, hf, hs, hb, hz⟩ := (hT _ _ hj).info
      refine ⟨rfl, i, j, f, hi, hj, by rw [hty, hm.1], by rw [hm.1], hm.2, (slice_of hT hi hty).1, hf, hs, hb, hz⟩
    · cases h
  · cases h

theorem zeroCells_len : ∀ (t : Ty), (zeroCells_ t).length = t.size
  | .int _ => rfl
  | .bool => rfl
  | .str => rfl
  | .err => rfl
  | .unit => rfl
  | .fn => rfl
  | .slc _ => rfl
  | .ptr _ => rfl
  | .pair a b => by simp [zeroCells_, Ty.size, zeroCells_len a, zeroCells_len b]
  | .arr n t => by simp [zeroCells_, Ty.size, zeroCells_len t]

/-! ### buildSlice -/
theorem run_buildSlice' {t e : TypeId} {n : Nat} {parts : Array (Nat × Value)} {cells : Array Value} {ie : TypeInfo} {z : Value} (hu : P.underlying t = some (.slice e)) (hie : P.info? e = some ie) (hz : ie.zero = some z) (hsmall : n * ie.size ≤ 16777216)
    (h : ∀ c0 : Array Value, c0.size = n * ie.size → Instr.fill (fun i => some (i * ie.size, ie.size)) c0 parts.toList = some cells) :
    (Instr.buildSlice t n parts).run P w = .ok (.slice (some ⟨w.heap.size, 0, none⟩) n n) (w.alloc (.cells cells e)) := by
  have hs : ¬ (16777216 < n * ie.size) := by omega
  by_cases hp : n * ie.size = 0
  · have := h ((Array.range (n * ie.size)).map ((#[] : Array Value)[· % (#[] : Array Value).size]!)) (by simp)
    rw [hp] at this
    simp [Instr.buildSlice, run_underlying hu, sizeOf, typeInfo, zeroValue, hie, hz, hp, newRow]
    simp at this
    simp [this]
  · have := h ((Array.range (n * ie.size)).map (z.cells[· % z.cells.size]!)) (by simp)
    simp [Instr.buildSlice, run_underlying hu, sizeOf, typeInfo, zeroValue, hie, hz, hs, hp, this, newRow]

theorem buildSlice_sound (hT : TsOk P T) (M : Mem E S G w) {t : TypeId} {n i0 : Nat} {e : Ty × Nat} {ps : List Nat} {vs : List V} {xs : List Value} {d : Bool} {l : List e.1.I} {S0 S1 S2 : St} {un : Unit}
    (he : (elemTy T t).run S = some (e, S0)) (hm : (decide (ps = List.range n) && decide (n * e.1.size ≤ 16777216)) = true) (hps : ps.length = xs.length) (hs : SRs S G w vs xs) (hr : (takes d e.1 vs).run S = some (l, S1)) (hn : (newO i0 (.row d e.1 l)).run S1 = some (un, S2)) :
    Step P E S G w S2 (.hdr i0) (Instr.buildSlice t n (ps.zip xs).toArray) := by
  obtain ⟨_, i, j, f, h1, h2, h3, rfl, h5, hu, hf, hsz, hby, z, hz, hzc⟩ := elemTy_sound hT he
  simp only [Bool.and_eq_true, decide_eq_true_eq] at hm
  obtain ⟨F, hT1, hR, hl, hx⟩ := takes_sound M hs hr
  obtain ⟨G1, F2, M1, K1, f1, hD, _⟩ := TakesR.thaw hT1 hR
  obtain ⟨hi0, rfl⟩ := AM.of_newO hn
  have hnx : xs.length = n := by rw [← hps, hm.1]; simp
  have hrun : (Instr.buildSlice t n (ps.zip xs).toArray).run P w = .ok (.slice (some ⟨w.heap.size, 0, none⟩) n n) (w.alloc (.cells (cellsOf xs).toArray i.elem)) := by
    refine run_buildSlice' hu hf hz (by rw [hsz]; exact hm.2) fun c0 hc0 => ?_
    have := fill_all f.size xs 0 c0 (fun x hx' => by rw [hsz]; exact hx x hx') (by rw [hc0, hnx]; simp)
    rw [hnx] at this
    rw [hm.1, List.range_eq_range', this]
    simp
  obtain ⟨hk, hb, hss⟩ := alloc_kept (w := w) (.cells (cellsOf xs).toArray i.elem)
  have hlen : (cellsOf xs).length = l.length * j.ty.size := hD.len
  have hln : l.length = n := by rw [hl, hnx]
  obtain ⟨G2, M2, K2, h⟩ := row_fresh (cap := n) M1 hi0 f1 hD hk hss hb (by rw [← hln]; simpa using hlen) (by omega) (by rw [← hlen, List.toList_toArray, List.take_length])
  rw [hln] at h
  exact ⟨_, _, G2, hrun, M2, K1.trans K2, hT1.tm, h⟩
end Go.Fw

/- append, copy, makeSlice, len. -/
namespace Go.Fw
variable {P : Program} {T : Nat → Option TI} {E : Env} {S S' S1 : St} {G G1 : Gh} {w w1 : World} {a : Act}

theorem run_append_room_own (t tx ty e : TypeId) (i : TypeInfo) (ht : P.underlying t = some (.slice e)) (hi : P.info? e = some i) (g sLen sCap : Nat) (x : Value) (n : Nat) (news : List Value) (hs : Src P i.size tx x n news w)
    (hroom : sLen + n ≤ sCap) {cur : Array Value} {te : TypeId} (hg : w.heap[g]? = some (.cells cur te (0, 0))) (hl : sLen * i.size + news.length ≤ cur.size) :
    (Builtin.append_ #[t, tx] ty #[.slice (some ⟨g, 0, none⟩) sLen sCap, x]).run P w = .ok (.slice (some ⟨g, 0, none⟩) (sLen + n) sCap) (w.setRow g (cur.toList.take (sLen * i.size) ++ news ++ cur.toList.drop (sLen * i.size + news.length)).toArray) := by
  have hst := run_store_block (P := P) (off := sLen * i.size) hg hl hs.one
  rcases hs.kind with ⟨e', hk⟩ | hk <;> simp [Builtin.append_, run_underlying ht, run_underlying hk, sizeOf, typeInfo, hi, hs.len, hroom, hs.cells, add_lit, hst]
theorem run_append_none (t tx ty e : TypeId) (i : TypeInfo) (ht : P.underlying t = some (.slice e)) (hi : P.info? e = some i) (x : Value) (news : List Value) (hs : Src P i.size tx x 0 news w) (A : Option Addr) :
    (Builtin.append_ #[t, tx] ty #[.slice A 0 0, x]).run P w = .ok (.slice A 0 0) w := by
  have hn : news = [] := List.length_eq_zero_iff.1 (by simpa using hs.newsLen)
  subst hn
  cases A <;> rcases hs.kind with ⟨e', hk⟩ | hk <;> simp [Builtin.append_, run_underlying ht, run_underlying hk, sizeOf, typeInfo, hi, hs.len, hs.cells, storeCells]

/-- append, onto a row that is owned. -/
theorem append_run {t tx ty e : TypeId} {i : TypeInfo} {z : Value} (ht : P.underlying t = some (.slice e)) (hi : P.info? e = some i) (hz : i.zero = some z) (hzs : z.cells.size = i.size) {hd x : Value} {n m : Nat} {es news : List Value} {F : List Nat}
    (hr : RowOk w hd i.size n es F) (hF : ∀ b ∈ F, b < w.heap.size) (hs : Src P i.size tx x m news w) (hb : (n + m) * i.bytes ≤ 140737488355328) (hb0 : i.bytes ≠ 0) :
    ∃ hd' w1 F', (Builtin.append_ #[t, tx] ty #[hd, x]).run P w = .ok hd' w1 ∧ RowOk w1 hd' i.size (n + m) (es ++ news) F' ∧
      ((F' = F ∧ KeptBut (· ∈ F) w w1 ∧ w1.heap.size = w.heap.size) ∨ (F' = [w.heap.size] ∧ KeptBut (fun _ => False) w w1 ∧ w1.heap.size = w.heap.size + 1)) := by
  obtain ⟨A, cap, rfl, hn, hlen, h⟩ := hr
  have hlen' : (es ++ news).length = (n + m) * i.size := by rw [List.length_append, hlen, hs.newsLen, Nat.add_mul]
  have hnm : n + m ≤ 140737488355328 := Nat.le_trans (by have : 1 ≤ i.bytes := by omega
                                                         simpa using Nat.mul_le_mul_left (n + m) this) hb
  have hgrow : cap < n + m → ∀ (hold : (Builtin.firstCells i.size n (.slice A n cap)).run P w.drew = .ok es.toArray w.drew), ∃ hd' w1 F', (Builtin.append_ #[t, tx] ty #[.slice A n cap, x]).run P w = .ok hd' w1 ∧ RowOk w1 hd' i.size (n + m) (es ++ news) F' ∧
      ((F' = F ∧ KeptBut (· ∈ F) w w1 ∧ w1.heap.size = w.heap.size) ∨ (F' = [w.heap.size] ∧ KeptBut (fun _ => False) w w1 ∧ w1.heap.size = w.heap.size + 1)) := by
    intro hc hold
    have hrun := run_append_grow_src w t tx ty e i z ht hi hz A n cap es hold x m news hs hc (by omega) (growslice_fits hc hb)
    have hge := grownCap_ge w (n + m) cap e
    obtain ⟨hk, hbb, hss⟩ := alloc_kept (w := w.drew) (.cells ((es ++ news).toArray ++ Builtin.zeroCells z.cells (grownCap w (n + m) cap e - (n + m))) e)
    refine ⟨_, _, _, hrun, ⟨_, _, rfl, hge, hlen', .inr ⟨w.heap.size, _, e, rfl, rfl, hbb, ?_, ?_⟩⟩, .inr ⟨rfl, (drew_kept).trans hk (fun _ h => h) (fun _ _ h => h), hss⟩⟩
    · rw [Array.size_append, size_zeroCells, hzs, List.size_toArray, hlen', ← Nat.add_mul]
      congr 1
      omega
    · rw [Array.toList_append, List.toList_toArray, ← hlen', List.take_left]
  rcases h with ⟨rfl, rfl⟩ | ⟨g, cur, te, rfl, rfl, hg, hcs, hes⟩
  · have hn0 : n = 0 := by omega
    subst hn0
    have hes0 : es = [] := List.length_eq_zero_iff.1 (by simpa using hlen)
    subst hes0
    by_cases hm : m = 0
    · subst hm
      have hnews : news = [] := List.length_eq_zero_iff.1 (by simpa using hs.newsLen)
      subst hnews
      exact ⟨_, w, [], run_append_none t tx ty e i ht hi x [] hs A, ⟨A, 0, rfl, Nat.le_refl _, by simp, .inl ⟨rfl, rfl⟩⟩, .inl ⟨rfl, KeptBut.refl _ _, rfl⟩⟩
    · refine hgrow (by omega) ?_
      cases A with
      | none => simpa using run_firstCells_none (P := P) w.drew i.size 0 0 0
      | some b => simpa using run_firstCells_some (P := P) w.drew i.size 0 b 0 0 [] (by simp) (by simp)
  · by_cases hc : n + m ≤ cap
    · have hfit : n * i.size + news.length ≤ cur.size := by
        rw [hcs, hs.newsLen, ← Nat.add_mul]
        exact Nat.mul_le_mul_right _ hc
      have hrun := run_append_room_own (w := w) t tx ty e i ht hi g n cap x m news hs hc hg hfit
      obtain ⟨hk, hbb, hss⟩ := setRow_kept (cs := (cur.toList.take (n * i.size) ++ news ++ cur.toList.drop (n * i.size + news.length)).toArray) hg
      refine ⟨_, _, [g], hrun, ⟨_, cap, rfl, hc, hlen', .inr ⟨g, _, te, rfl, rfl, hbb, ?_, ?_⟩⟩, .inl ⟨rfl, hk.mono (fun b _ hb => by simp [hb]), hss⟩⟩
      · have : cur.toList.length = cur.size := Array.length_toList
        simp only [List.size_toArray, List.length_append, List.length_take, List.length_drop, this]
        omega
      · rw [hes, List.toList_toArray, ← hlen', hes, List.take_left]
    · refine hgrow (by omega) ?_
      refine run_firstCells_some (P := P) w.drew i.size n _ n cap es hlen ?_
      have := cellsAt_block (w := w) hg (n * i.size)
      rw [← hes] at this
      intro j v hv
      exact this j v hv

/-- What is appended, told. -/
theorem src_of_rep {ok : Nat → Prop} {tx e' : TypeId} {sz : Nat} {t : Ty} (hsz : sz = t.size) (hk : P.underlying tx = some (.slice e')) {l : List t.I} {x : Value} (h : Rep w ok (.slc t) l [x]) :
    ∃ es, Src P sz tx x l.length es w ∧ RepL (Rep w ok t) l es := by
  subst hsz
  obtain ⟨A, cap, e, hn, h⟩ := h
  injection e with e _
  subst e
  rcases h with rfl | ⟨a0, es, rfl, _, _, hc, hr⟩
  · cases A with
    | none => exact ⟨[], Src.ofNil w hk cap, rfl⟩
    | some b => exact ⟨[], Src.ofSlice w hk b 0 cap [] (by simp) (by simp) (by simp), rfl⟩
  · exact ⟨es, Src.ofSlice w hk a0 _ cap es (RepL.len (fun _ _ h => Rep.len t h) hr) hc (RepL.all (fun _ _ h => Rep.one t h) hr), hr⟩

theorem src_of_own {tx e' : TypeId} {sz : Nat} {t : Ty} (hsz : sz = t.size) (hk : P.underlying tx = some (.slice e')) {l : List t.I} {hd : Value} {es : List Value} {F1 F2 : List Nat} (h : RowOk w hd t.size l.length es F1) (ho : OwnL (Own w t) l es F2) :
    Src P sz tx hd l.length es w := by
  subst hsz
  have h1 : ∀ v ∈ es, v.oneCell' = true := OwnL.all (fun _ _ _ h => Own.one t h) ho
  obtain ⟨A, cap, rfl, hn, hlen, h⟩ := h
  rcases h with ⟨rfl, rfl⟩ | ⟨g, cur, te, rfl, rfl, hg, hcs, hes⟩
  · have h0 : l.length = 0 := by omega
    have : es = [] := List.length_eq_zero_iff.1 (by simp [hlen, h0])
    subst this
    rw [h0]
    cases A with
    | none => exact Src.ofNil w hk 0
    | some b => exact Src.ofSlice w hk b 0 0 [] (by simp) (by simp) (by simp)
  · refine Src.ofSlice w hk _ _ cap es hlen ?_ h1
    rw [hes]
    exact cellsAt_block hg _

theorem byteCells_rep {ok : Nat → Prop} (s : ByteArray) : RepL (Rep w ok (.int .u8)) (numsOf s) (byteCells s) := by
  unfold numsOf byteCells
  generalize s.data.toList = bs
  induction bs with
  | nil => rfl
  | cons b bs ih => exact ⟨[.int .u8 b.toNat], _, by simp, rfl, ih⟩

def SrcTy (u : Ty) (x : V) : Bool := match u, x with | .slc _, .nil => true | .slc _, .hdr _ => true | .slc _, .val (.slc _) _ => true | .str, .val .str _ => true | _, _ => false

theorem tail_sound (hT : TsOk P T) (M : Mem E S G w) {tx : TypeId} {k : TI} (hk : T tx = some k) {x : V} {d : Bool} {t : Ty} {l : List t.I} {xv : Value} {sz : Nat} (hsz : sz = t.size) (hm : SrcTy k.ty x = true) (hv : SR (used S) G w x xv) (hr : (tailOf d t x).run S = some (l, S1)) :
    ∃ F0 F2 news, Took E S G w S1 (F0 ++ F2) ∧ Src P sz tx xv l.length news w ∧ TakesR w G.ok d t l news F2 := by
  have slice : ∀ {e0}, k.ty = .slc e0 → ∃ e', P.underlying tx = some (.slice e') := fun {e0} h => ⟨_, (slice_of hT hk h).1⟩
  have flat : ∀ {ok : Nat → Prop} {es : List Value}, t.flat = true → RepL (Rep w ok t) l es → TakesR w G.ok d t l es [] := by
    intro ok es hf h
    cases d with
    | true => exact OwnL.of_flat (fun _ _ h => Own.of_flat t hf h) h
    | false => exact RepL.mono (fun _ _ h => Rep.flat t hf h) h
  have step : (match t.flat with | true => peek false t x | false => take d (.slc t) x).run S = some (l, S1) → (∃ e', P.underlying tx = some (.slice e')) → (∃ c, VR (used S) G w x [c] ∧ xv = c) → ∃ F0 F2 news, Took E S G w S1 (F0 ++ F2) ∧ Src P sz tx xv l.length news w ∧ TakesR w G.ok d t l news F2 := by
    rintro hr ⟨e', he'⟩ ⟨c, hc, rfl⟩
    split at hr
    · rename_i hf
      obtain ⟨rfl, h⟩ := peek_sound M hc hr
      obtain ⟨es, hs, h⟩ := src_of_rep hsz he' h
      exact ⟨[], [], es, Took.refl M, hs, flat hf h⟩
    · rename_i hf
      obtain ⟨F, h, hR⟩ := take_sound M hc hr
      cases d with
      | false =>
        have hR : Rep w (fun b => G.ok b ∨ b ∈ F) (.slc t) l [xv] := hR
        obtain ⟨es, hs, hr⟩ := src_of_rep hsz he' hR
        exact ⟨[], F, es, h, hs, hr⟩
      | true =>
        have hR : Own w (.slc t) l [xv] F := hR
        obtain ⟨hd, es, F1, F2, e, eF, hrow, ho⟩ := hR
        injection e with e _
        subst e
        subst eF
        exact ⟨F1, F2, es, h, src_of_own hsz he' hrow ho, ho⟩
  unfold SrcTy at hm
  split at hm
  · rename_i e0 hty
    obtain ⟨c, hc, e⟩ := hv
    have hc' := hc
    simp only [VR] at hc
    refine step hr (slice hty) ⟨.slice none 0 0, ?_, by rw [e, hc]; rfl⟩
    rw [hc] at hc'; exact hc'
  · rename_i e0 j hty
    obtain ⟨c, hc, e⟩ := hv
    have hc' := hc
    simp only [VR] at hc
    refine step hr (slice hty) ⟨G.hd j, ?_, by rw [e, hc.2.2]; rfl⟩
    rw [hc.2.2] at hc'; exact hc'
  · rename_i e0 e1 y hty
    obtain ⟨c, hc, e⟩ := hv
    have hc' := hc
    simp only [VR, Rep] at hc
    obtain ⟨A, cap, ec, _⟩ := hc
    refine step hr (slice hty) ⟨_, ?_, by rw [e, ec]⟩
    rw [ec] at hc'; exact hc'
  · rename_i s hty
    simp only [tailOf] at hr
    split at hr
    · obtain ⟨rfl, rfl⟩ := AM.of_pure hr
      rw [hv.str]
      obtain ⟨d0, hd, hd'⟩ := (hT tx k hk).desc
      rw [hty] at hd'
      have hu : P.underlying tx = some .string := by rw [hd, show d0 = .string from hd']
      have := Src.ofString w hu s
      have hl : (numsOf s).length = s.size := by unfold numsOf; rw [List.length_map, Array.length_toList]; rfl
      subst hsz
      exact ⟨[], [], byteCells s, Took.refl M, by rw [show ((numsOf s : List Int).length) = s.size from hl]; exact this, flat (ok := fun _ => True) rfl (byteCells_rep s)⟩
    · cases hr
  · cases hm

/-- What is taken in two steps stays told in the second. -/
theorem TakesR.thaw' {F0 F2 : List Nat} (h : Took E S G w S1 (F0 ++ F2)) {d : Bool} {t : Ty} {l : List t.I} {cs : List Value} (hr : TakesR w G.ok d t l cs F2) :
    ∃ G1 F3, Mem E S1 G1 w ∧ Keeps (used S) (used S1) G G1 w w ∧ Free E S1 G1 w F3 ∧ RowD w G1.ok d t l cs F3 ∧ G1.fp = G.fp ∧ G1.hd = G.hd ∧ G1.bx = G.bx ∧ G1.ty = G.ty := by
  cases d with
  | true => exact ⟨G, F2, h.mem, h.keeps, h.free.sub.2, hr, rfl, rfl, rfl, rfl⟩
  | false =>
    obtain ⟨M1, K1⟩ := h.mem.thaw h.free.sub.2.own h.free.sub.2.nl
    exact ⟨G.more F2, [], M1, h.keeps.trans K1, Free.nil, ⟨rfl, hr⟩, rfl, rfl, rfl, rfl⟩

theorem Free.keep_took {F F' : List Nat} (f : Free E S G w F) (h : Took E S G w S1 F') : Free E S1 G w (F ++ F') ∨ True := .inr trivial

/-- append onto nothing, or onto a row. -/
theorem append_new (hT : TsOk P T) (M : Mem E S G w) {t tx ty : TypeId} {i j : TI} {f : TypeInfo} (h1 : T t = some i) (h2 : T i.elem = some j) (hu : P.underlying t = some (.slice i.elem)) (hf : P.info? i.elem = some f) (hsz : f.size = j.ty.size) (hby : f.bytes = j.bytes) {z : Value} (hz : f.zero = some z) (hzc : z.cells.toList = zeroCells_ j.ty) (hb0 : j.bytes ≠ 0)
    {d : Bool} {l y : List j.ty.I} {hd xv : Value} {es news : List Value} {F1 F2 F3 : List Nat} {i0 : Nat} (hr : RowOk w hd j.ty.size l.length es F1) (hD : RowD w G.ok d j.ty l es F2) (hs : Src P f.size tx xv y.length news w) (hN : RowD w G.ok d j.ty y news F3) (fr : Free E S G w (F1 ++ (F2 ++ F3)))
    (hg : (l.length + y.length) * j.bytes ≤ 140737488355328) (hi0 : S.ob i0 = none) :
    Step P E S G w (S.putO i0 (.row d j.ty (l ++ y))) (.hdr i0) (Builtin.append_ #[t, tx] ty #[hd, xv]) := by
  have hzs : z.cells.size = f.size := by rw [hsz, ← zeroCells_len, ← hzc, Array.length_toList]
  rw [← hsz] at hr
  obtain ⟨hd', w1, F', hrun, hrow, hc⟩ := append_run (ty := ty) hu hf hz hzs hr (fun b hb => (fr.own b (by simp [hb])).1) hs (by rw [hby]; exact hg) (by rw [hby]; exact hb0)
  rw [hsz] at hrow
  have hlen : (l ++ y).length = l.length + y.length := by simp
  have hall : RowD w G.ok d j.ty (l ++ y) (es ++ news) (F2 ++ F3) := hD.append hN
  rcases hc with ⟨rfl, hk, hss⟩ | ⟨rfl, hk, hss⟩
  · obtain ⟨M1, K1⟩ := M.world hk (fun b _ hb => (fr.own b (by simp [hb])).2) (fun i hi b hb hm => fr.nl i hi b hb (by simp [hm])) (fun b hb hm => fr.nok b (by simp [hm]) hb)
    have fr1 : Free E S G w1 (F' ++ (F2 ++ F3)) := ⟨fr.nd, fun b hb => ⟨by rw [hss]; exact (fr.own b hb).1, (fr.own b hb).2⟩, fr.nok, fr.nl⟩
    have hdis : ∀ b ∈ F2 ++ F3, b ∉ F' := fun b hb hm => (List.nodup_append.1 fr.nd).2.2 b hm b hb rfl
    have hall1 : RowD w1 G.ok d j.ty (l ++ y) (es ++ news) (F2 ++ F3) := hall.keep (fun b hb => hk.heap b (fr.own b (List.mem_append_right _ hb)).1 (hdis b hb)) (fun b hb hl => hk.heap b hl fun hm => fr.nok b (by simp [hm]) hb) hk.size
    obtain ⟨G2, M2, K2, h⟩ := row_new M1 hi0 fr1 (by rw [hlen]; exact hrow) hall1
    exact ⟨_, w1, G2, hrun, M2, K1.trans K2, rfl, h⟩
  · obtain ⟨M1, K1, fr1⟩ := (fr.sub.2).grow M hk hss
    have hall1 : RowD w1 G.ok d j.ty (l ++ y) (es ++ news) (F2 ++ F3) := hall.keep (fun b hb => hk.heap b (fr.own b (List.mem_append_right _ hb)).1 id) (fun b hb hl => hk.heap b hl id) hk.size
    obtain ⟨G2, M2, K2, h⟩ := row_new M1 (F1 := [w.heap.size]) hi0 fr1 (by rw [hlen]; exact hrow) hall1
    exact ⟨_, w1, G2, hrun, M2, K1.trans K2, rfl, h⟩
end Go.Fw

/- The builtins. -/
namespace Go.Fw
variable {P : Program} {T : Nat → Option TI} {E : Env} {S S' S1 S2 : St} {G G1 : Gh} {w w1 : World} {a : Act}

theorem Step.of {v : V} {m : Sem Value} (K : Keeps (used S) (used S1) G G1 w w) (ht : S1.tm = S.tm) (h : Step P E S1 G1 w S2 v m) : Step P E S G w S2 v m := by
  obtain ⟨x, w1, G2, hr, M, K2, ht2, hv⟩ := h
  exact ⟨x, w1, G2, hr, M, K.trans K2, ht2.trans ht, hv⟩

theorem Free.join (M : Mem E S G w) {i : Nat} (hl : live S i) {F : List Nat} (f : Free E S G w F) : Free E (S.putO i .gone) G w (G.fp i ++ F) := by
  have f0 := (Took.one M hl).free
  have hne : ∀ j, live (S.putO i .gone) j → j ≠ i := fun j hj e => by subst e; exact live_putO_same.1 hj rfl
  refine ⟨?_, ?_, ?_, ?_⟩
  · rw [List.nodup_append]
    exact ⟨f0.nd, f.nd, fun b hb c hc e => by subst e; exact f.nl i hl b hb hc⟩
  · intro b hb
    rcases List.mem_append.1 hb with hb | hb
    · exact f0.own b hb
    · exact f.own b hb
  · intro b hb
    rcases List.mem_append.1 hb with hb | hb
    · exact f0.nok b hb
    · exact f.nok b hb
  · intro j hj b hb hm
    rcases List.mem_append.1 hm with hm | hm
    · exact f0.nl j hj b hb hm
    · exact f.nl j ((live_putO (hne j hj)).1 hj) b hb hm

theorem ObjR.rowD {U : Nat → Prop} {i : Nat} {d : Bool} {t : Ty} {l : List t.I} (h : ObjR U G w i (.row d t l)) : ∃ es F1 F2, RowOk w (G.hd i) t.size l.length es F1 ∧ G.fp i = F1 ++ F2 ∧ RowD w G.ok d t l es F2 := by
  obtain ⟨_, _, es, F1, F2, h1, h2, h3⟩ := h
  exact ⟨es, F1, F2, h1, h2, h3⟩

theorem Took.ob {F : List Nat} (h : Took E S G w S1 F) {i : Nat} {o : Obj} (ho : S1.ob i = some o) (hg : o ≠ .gone) : S.ob i = some o := by
  rw [← h.same i ⟨o, ho, hg⟩, ho]

theorem madeCells_list (z : Array Value) : ∀ k : Nat, (madeCells z (k * z.size)).toList = (List.replicate k z.toList).flatten
  | 0 => by simp [madeCells]
  | k + 1 => by
    rw [List.replicate_succ', List.flatten_append, ← madeCells_list z k]
    unfold madeCells
    rw [Nat.add_mul, Nat.one_mul]
    simp only [Array.toList_map, Array.toList_range, List.range_add, List.map_append, List.map_map, List.flatten_cons, List.flatten_nil, List.append_nil]
    congr 1
    apply List.ext_getElem?
    intro i
    simp only [List.getElem?_map, List.getElem?_range']
    by_cases h : i < z.size
    · rw [List.getElem?_range h]
      simp [Nat.mul_add_mod_self_right, Nat.mod_eq_of_lt h, h]
    · rw [List.getElem?_eq_none (by simpa using h)]
      simp; omega

theorem zeroCells_made (z : Array Value) (n : Nat) : Builtin.zeroCells z n = madeCells z (n * z.size) := rfl
theorem run_append_zeros (t tx ty e : TypeId) (i : TypeInfo) (z : Value) (kk k : IntKind) (ht : P.underlying t = some (.slice e)) (hk : P.underlying tx = some (.int kk)) (hi : P.info? e = some i) (hz : i.zero = some z) (n : Int) (h0 : 0 < n) (h1 : n ≤ 140737488355328) (h2 : n * i.bytes ≤ 140737488355328) :
    (Builtin.append_ #[t, tx] ty #[.slice none 0 0, .int k n]).run P w = .ok (.slice (some ⟨w.heap.size, 0, none⟩) n.toNat (grownCap w n.toNat 0 e)) (w.drew.alloc (.cells ((if n.toNat * i.size = 0 then #[] else Builtin.zeroCells z.cells n.toNat) ++ Builtin.zeroCells z.cells (grownCap w n.toNat 0 e - n.toNat)) e)) := by
  have wn : IntKind.i64.wrap n = n := by rw [IntKind.wrap_i64]; omega
  have n1 : ¬ n < 0 := by omega
  have n2 : ¬ (281474976710656 < n * (i.bytes : Int)) := by omega
  have n3 : n.toNat ≠ 0 := by omega
  have n4 : ¬ (9223372036854775807 < ((n.toNat : Nat) : Int)) := by omega
  have hb : n.toNat * i.bytes ≤ 140737488355328 := by
    have : ((n.toNat * i.bytes : Nat) : Int) = n * i.bytes := by rw [Int.natCast_mul]; congr 1; omega
    omega
  have n5 : ¬ (281474976710656 < Builtin.nextslicecap n.toNat 0 * i.bytes) := by
    have := growslice_fits (need := n.toNat) (old := 0) (bytes := i.bytes) (by omega) hb
    omega
  have n6 : ¬ n.toNat ≤ 0 := by omega
  have n8 : ¬ (9223372036854775807 < max n 0) := by omega
  have n7 : ¬ n ≤ 0 := by omega
  by_cases hs : n.toNat * i.size = 0
  · simp [Builtin.append_, run_underlying ht, run_underlying hk, sizeOf, typeInfo, zeroValue, hi, hz, asInt, asIntOf, wn, n1, n2, n3, n4, n5, n6, n7, n8, Builtin.firstCells, Question.forced, newRow, grownCap]
    rw [if_pos hs, if_pos hs]
    simp
  · simp [Builtin.append_, run_underlying ht, run_underlying hk, sizeOf, typeInfo, zeroValue, hi, hz, asInt, asIntOf, wn, n1, n2, n3, n4, n5, n6, n7, n8, Builtin.firstCells, Question.forced, newRow, grownCap]
    rw [if_neg hs, if_neg hs]
theorem append_zeros_sound (hT : TsOk P T) (M : Mem E S G w) {t tx ty : TypeId} {e : Ty × Nat} {S0 : St} {i0 : Nat} {k : IntKind} {n : Int} {d : Bool} {kk : IntKind} (he : (elemTy T t).run S = some (e, S0)) (hk : P.underlying tx = some (.int kk)) (hfl : e.1.plain = true) (h0 : 0 ≤ n) (hb : n * e.2 ≤ 140737488355328) (hi0 : S.ob i0 = none) :
    Step P E S G w (S.putO i0 (.row d e.1 (List.replicate n.toNat e.1.zero))) (.hdr i0) (Builtin.append_ #[t, tx] ty #[.slice none 0 0, .int k n]) := by
  obtain ⟨es0, i, j, f, h1, h2, h3, ee, h5, hu, hf, hsz, hby, zv, hz, hzc⟩ := elemTy_sound hT he
  subst es0; subst ee
  have hzs : zv.cells.size = f.size := by rw [hsz, ← zeroCells_len, ← hzc, Array.length_toList]
  have hD : RowD w G.ok d j.ty (List.replicate n.toNat j.ty.zero) (List.replicate n.toNat (zeroCells_ j.ty)).flatten [] := by
    cases d with
    | false => exact ⟨rfl, RepL.replicate (zero_rep j.ty hfl) _⟩
    | true => exact ownL_replicate (own_zero j.ty hfl) _
  by_cases hn : n = 0
  · subst hn
    obtain ⟨G1, M1, K1, h⟩ := row_new (i := i0) (hd := .slice none 0 0) (F1 := []) (F2 := []) M hi0 Free.nil ⟨none, 0, by simp, by simp, hD.len, .inl ⟨rfl, rfl⟩⟩ hD
    refine ⟨_, w, G1, ?_, M1, K1, rfl, h⟩
    have wn : IntKind.i64.wrap 0 = 0 := by rw [IntKind.wrap_i64]; omega
    simp [Builtin.append_, run_underlying hu, run_underlying hk, sizeOf, typeInfo, hf, asInt, asIntOf, wn]
  · have hnb : n ≤ 140737488355328 := by
      have h1 : (1 : Int) ≤ (j.bytes : Int) := by omega
      have : n * 1 ≤ n * (j.bytes : Int) := Int.mul_le_mul_of_nonneg_left h1 h0
      have hb' : n * (j.bytes : Int) ≤ 140737488355328 := hb
      omega
    have hrun := run_append_zeros (P := P) (w := w) t tx ty i.elem f zv kk k hu hk hf hz n (by omega) hnb (by rw [hby]; exact hb)
    have hge := grownCap_ge w n.toNat 0 i.elem
    have hif : (if n.toNat * f.size = 0 then #[] else Builtin.zeroCells zv.cells n.toNat) = madeCells zv.cells (n.toNat * f.size) := by
      split
      · rename_i h; rw [h]; simp [madeCells]
      · rw [zeroCells_made, hzs]
    rw [hif] at hrun
    obtain ⟨hk', hbb, hss⟩ := alloc_kept (w := w.drew) (.cells (madeCells zv.cells (n.toNat * f.size) ++ Builtin.zeroCells zv.cells (grownCap w n.toNat 0 i.elem - n.toNat)) i.elem)
    have hlist : (madeCells zv.cells (n.toNat * f.size)).toList = (List.replicate n.toNat (zeroCells_ j.ty)).flatten := by rw [← hzs, madeCells_list, hzc]
    obtain ⟨G1, M1, K1, h⟩ := row_fresh (cap := grownCap w n.toNat 0 i.elem) M hi0 Free.nil hD ((drew_kept).trans hk' (fun _ h => h) (fun _ _ h => h)) hss hbb (by
      rw [Array.size_append, size_madeCells, size_zeroCells, hzs, ← Nat.add_mul, hsz]
      congr 1
      omega) (by rw [List.length_replicate]; exact hge) (by
      rw [Array.toList_append, hlist, List.length_replicate]
      have := hD.len
      rw [List.length_replicate] at this
      rw [← this, List.take_left])
    rw [List.length_replicate] at h
    exact ⟨_, _, G1, hrun, M1, K1, rfl, h⟩

theorem append_sound (hT : TsOk P T) (M : Mem E S G w) {rid ix : Nat} {dp : Bool} {t tx ty : TypeId} {v x z : V} {vv xv : Value} (hv : SR (used S) G w v vv) (hx : SR (used S) G w x xv) (hr : (builtinV T rid ix dp .append [t, tx] [v, x]).run S = some (z, S')) :
    Step P E S G w S' z (Builtin.append_ #[t, tx] ty #[vv, xv]) := by
  simp only [builtinV] at hr
  split at hr
  · rename_i n hmk
    have hvx : ∃ k, v = .nil ∧ x = .val (.int k) n := by
      unfold isMake at hmk
      split at hmk
      · rename_i k m
        injection hmk with hmk
        exact ⟨k, rfl, by rw [hmk]⟩
      · cases hmk
    obtain ⟨k, rfl, rfl⟩ := hvx
    obtain ⟨e, s0, he, hr1⟩ := AM.of_bind hr
    obtain ⟨es0, _⟩ := elemTy_sound hT he
    subst es0
    obtain ⟨u, s1, hut, hr2⟩ := AM.of_bind hr1
    obtain ⟨es1, q, hq, eu⟩ := tyOf_sound hut
    subst es1; subst eu
    obtain ⟨hm, hr3⟩ := AM.of_must_bind hr2
    rw [Bool.and_eq_true] at hm
    obtain ⟨hg, hr4⟩ := AM.of_guard_bind hr3
    have hg := of_decide_eq_true hg
    obtain ⟨_, s3, hn, hr5⟩ := AM.of_bind hr4
    obtain ⟨hi0, rfl⟩ := AM.of_newO hn
    obtain ⟨rfl, rfl⟩ := AM.of_pure hr5
    have hvv : vv = .slice none 0 0 := by obtain ⟨c, hc, e⟩ := hv; simp only [VR] at hc; rw [e, hc]; rfl
    subst hvv
    have hxv : xv = .int k n := hx.int
    subst hxv
    obtain ⟨dd, hd, hkk⟩ := (hT tx q hq).desc
    cases hty : q.ty <;> rw [hty] at hm hkk <;> simp [isInt] at hm
    have hkk' : dd = .int _ := hkk
    subst hkk'
    exact append_zeros_sound hT M he hd hm hg.1 hg.2 hi0
  rename_i hno
  clear hno
  obtain ⟨e, s0, he, hr1⟩ := AM.of_bind hr
  obtain ⟨es0, i, j, f, h1, h2, h3, ee, h5, hu, hf, hsz, hby, zv, hz, hzc⟩ := elemTy_sound hT he
  subst es0; subst ee
  obtain ⟨u, s1, hut, hr2⟩ := AM.of_bind hr1
  obtain ⟨es1, k, hk, eu⟩ := tyOf_sound hut
  subst es1; subst eu
  obtain ⟨hm, hr3⟩ := AM.of_must_bind hr2
  have hm : SrcTy k.ty x = true := hm
  clear hr hr1 hr2
  split at hr3
  · obtain ⟨y, s2, hy, hr4⟩ := AM.of_bind hr3
    obtain ⟨hg, hr5⟩ := AM.of_guard_bind hr4
    obtain ⟨un, s3, hn, hr6⟩ := AM.of_bind hr5
    obtain ⟨rfl, rfl⟩ := AM.of_pure hr6
    obtain ⟨hi0, rfl⟩ := AM.of_newO hn
    obtain ⟨F0, F2, news, hTk, hsrc, hR⟩ := tail_sound hT M hk (sz := f.size) hsz hm hx hy
    obtain ⟨G1, F3, M1, K1, f1, hD, _⟩ := TakesR.thaw' hTk hR
    have hvv : vv = .slice none 0 0 := by obtain ⟨c, hc, e⟩ := hv; simp only [VR] at hc; rw [e, hc]; rfl
    subst hvv
    have h0 : RowD w G1.ok (dp && !j.ty.flat) j.ty ([] : List j.ty.I) [] [] := by cases (dp && !j.ty.flat) <;> simp [RowD, OwnL, RepL]
    have := append_new (ty := ty) hT M1 h1 h2 hu hf hsz hby hz hzc h5 (F1 := []) (l := []) (hd := .slice none 0 0) (es := []) ⟨none, 0, rfl, Nat.le_refl _, by simp, .inl ⟨rfl, rfl⟩⟩ h0 hsrc hD (by simpa using f1) (by simpa using of_decide_eq_true hg) hi0
    exact Step.of K1 hTk.tm (by simpa using this)
  · rename_i i1
    simp only [AM.run] at hr3
    obtain ⟨d, l0, ho, hr4⟩ := AM.of_withRow hr3
    obtain ⟨y, s2, hy, hr5⟩ := AM.of_bind hr4
    simp only [AM.run] at hr5
    obtain ⟨d1, l, ho1, hr6⟩ := AM.of_withRow hr5
    obtain ⟨hg, hr7⟩ := AM.of_guard_bind hr6
    simp only [AM.run] at hr7
    obtain ⟨un, s3, hn, hr8⟩ := AM.of_bind hr7
    obtain ⟨rfl, rfl⟩ := AM.of_pure hr8
    obtain ⟨hi0, rfl⟩ := AM.of_newO hn
    obtain ⟨F0, F2, news, hTk, hsrc, hR⟩ := tail_sound hT M hk (sz := f.size) hsz hm hx hy
    obtain ⟨G1, F3, M1, K1, f1, hD, _⟩ := TakesR.thaw' hTk hR
    have hsame := hTk.ob ho1 (by simp)
    rw [ho] at hsame
    injection hsame with hsame
    injection hsame with hd _ hl
    subst hd
    obtain ⟨es, Fa, Fb, hrow, hfp, hRD⟩ := (M1.obj _ _ ho1).rowD
    have hlive : live s2 i1 := ⟨_, ho1, by simp⟩
    obtain ⟨M2, K2⟩ := M1.gone hlive.used
    have f2 := Free.join M1 hlive f1
    rw [hfp, List.append_assoc] at f2
    have hvv : vv = G.hd i1 := by obtain ⟨c, hc, e⟩ := hv; simp only [VR] at hc; rw [e, hc.2.2]; rfl
    have hus : used s1 i1 := by unfold used; rw [ho]; simp
    have hvv1 : vv = G1.hd i1 := by rw [hvv, K1.hd _ hus]
    rw [← hvv1] at hrow
    have := append_new (ty := ty) hT M2 h1 h2 hu hf hsz hby hz hzc h5 hrow hRD hsrc hD f2 (of_decide_eq_true hg) hi0
    exact Step.of (K1.trans K2) hTk.tm this
  · cases hr3

theorem copy_run {t ty e : TypeId} {ts : Array TypeId} {i : TypeInfo} (hts : ts[0]? = some t) (ht : P.underlying t = some (.slice e)) (hi : P.info? e = some i) {hd x : Value} {n m cap : Nat} {A : Option Addr} {es news : List Value} {F : List Nat}
    (hr : RowOk w hd i.size n es F) (hx : x = .slice A m cap) (hc : (m = 0 ∧ news = []) ∨ ∃ b, A = some b ∧ cellsAt w b news) (hl : news.length = m * i.size) (h1 : ∀ v ∈ news, v.oneCell' = true) :
    ∃ w1, (Builtin.copy_ ts ty #[hd, x]).run P w = .ok (.int .i64 ((Nat.min m n : Nat) : Int)) w1 ∧ RowOk w1 hd i.size n (news.take (Nat.min m n * i.size) ++ es.drop (Nat.min m n * i.size)) F ∧ KeptBut (· ∈ F) w w1 ∧ w1.heap.size = w.heap.size := by
  subst hx
  obtain ⟨A', cap', rfl, hn, hlen, h⟩ := id hr
  have hk : Nat.min m n ≤ m := Nat.min_le_left _ _
  have hk' : Nat.min m n ≤ n := Nat.min_le_right _ _
  generalize hkk : Nat.min m n = k at hk hk'
  have hlt : (news.take (k * i.size)).length = k * i.size := by rw [List.length_take, hl]; exact Nat.min_eq_left (Nat.mul_le_mul_right _ hk)
  have hfirst : (Builtin.firstCells i.size k (.slice A m cap)).run P w = .ok (news.take (k * i.size)).toArray w := by
    rcases hc with ⟨h0, hn0⟩ | ⟨b, rfl, hc⟩
    · have : k = 0 := by omega
      subst this
      subst hn0
      cases A with
      | none => simpa using run_firstCells_none (P := P) w i.size 0 m cap
      | some b => simpa using run_firstCells_some (P := P) w i.size 0 b m cap [] (by simp) (by simp)
    · refine run_firstCells_some (P := P) w i.size k b m cap _ hlt fun j v hv => hc j v ?_
      rw [List.getElem?_take] at hv
      split at hv
      · exact hv
      · cases hv
  have hfirst' : (Builtin.firstCells i.size (Nat.min m n) (.slice A m cap)).run P w = .ok (news.take (k * i.size)).toArray w := by rw [hkk]; exact hfirst
  by_cases hnz : n = 0
  · have hk0 : k = 0 := by omega
    subst hk0
    refine ⟨w, ?_, by simpa using hr, KeptBut.refl _ _, rfl⟩
    cases A' <;> simp [Builtin.copy_, hts, run_underlying ht, sizeOf, typeInfo, hi, Builtin.lenOf, goInt, hkk, hfirst, storeCells]
  cases A' with
  | none =>
    rcases h with ⟨hc0, rfl⟩ | ⟨g, _, _, h, _⟩
    · omega
    · cases h
  | some a0 =>
    obtain ⟨g, cur, te, rfl, rfl, hg, hfit, hrow⟩ := row_write (A := []) (c0 := es.take (k * i.size)) (B := es.drop (k * i.size)) (d := news.take (k * i.size)) (by simpa using hr) rfl (by rw [hlt, List.length_take, hlen]; exact Nat.min_eq_left (Nat.mul_le_mul_right _ hk')) (by omega)
    simp only [List.length_nil, List.take_zero, List.nil_append, Nat.zero_add] at hrow hfit
    obtain ⟨hkp, hbb, hss⟩ := setRow_kept (cs := (news.take (k * i.size) ++ cur.toList.drop (news.take (k * i.size)).length).toArray) hg
    have hst := run_store_block (P := P) (off := 0) (cs := news.take (k * i.size)) hg (by simpa using hfit) (fun v hv => h1 v (List.mem_of_mem_take hv))
    refine ⟨_, ?_, hrow, hkp.mono (fun b _ hb => by simp [hb]), hss⟩
    simp only [Nat.zero_add, List.take_zero, List.nil_append] at hst
    simp [Builtin.copy_, hts, run_underlying ht, sizeOf, typeInfo, hi, Builtin.lenOf, goInt, hkk, hfirst, hst]

theorem rep_data {ok : Nat → Prop} {t : Ty} {l : List t.I} {x : Value} (h : Rep w ok (.slc t) l [x]) : ∃ A cap es, x = .slice A l.length cap ∧ ((l.length = 0 ∧ es = []) ∨ ∃ b, A = some b ∧ cellsAt w b es) ∧ RepL (Rep w ok t) l es := by
  obtain ⟨A, cap, e, hn, h⟩ := h
  injection e with e _
  rcases h with rfl | ⟨b, es, rfl, _, _, hc, hr⟩
  · exact ⟨A, cap, [], e, .inl ⟨rfl, rfl⟩, rfl⟩
  · exact ⟨_, cap, es, e, .inr ⟨b, rfl, hc⟩, hr⟩

theorem copy_sound (hT : TsOk P T) (M : Mem E S G w) {rid ix : Nat} {dp : Bool} {ts : Array TypeId} {ty : TypeId} {v x z : V} {vv xv : Value} (hv : SR (used S) G w v vv) (hx : SR (used S) G w x xv) (hr : (builtinV T rid ix dp .copy ts.toList [v, x]).run S = some (z, S')) :
    Step P E S G w S' z (Builtin.copy_ ts ty #[vv, xv]) := by
  simp only [builtinV] at hr
  split at hr
  · rename_i t0 tr hts
    have hts0 : ts[0]? = some t0 := by rw [← Array.getElem?_toList, hts]; rfl
    obtain ⟨e, s0, he, hr1⟩ := AM.of_bind hr
    obtain ⟨es0, i, j, f, h1, h2, h3, ee, h5, hu, hf, hsz, hby, zv, hz, hzc⟩ := elemTy_sound hT he
    subst es0; subst ee
    clear hr
    split at hr1
    · rename_i i1
      obtain ⟨hfl, hr2⟩ := AM.of_must_bind hr1
      obtain ⟨y, s1, hy, hr3⟩ := AM.of_bind hr2
      have hxs : ∃ c, VR (used s0) G w x [c] ∧ xv = c := by
        have hy' := hy
        unfold peek at hy'
        split at hy'
        · obtain ⟨c, hc, e⟩ := hx
          have hc' := hc
          simp only [VR] at hc
          refine ⟨.slice none 0 0, by rw [hc] at hc'; exact hc', by rw [e, hc]; rfl⟩
        · split at hy'
          · rename_i hut
            subst hut
            obtain ⟨c, hc, e⟩ := hx
            have hc' := hc
            simp only [VR, Rep] at hc
            obtain ⟨A, cap, ec, _⟩ := hc
            exact ⟨_, by rw [ec] at hc'; exact hc', by rw [e, ec]; rfl⟩
          · cases hy'
        · rename_i i2
          obtain ⟨c, hc, e⟩ := hx
          have hc' := hc
          simp only [VR] at hc
          exact ⟨G.hd i2, by rw [hc.2.2] at hc'; exact hc', by rw [e, hc.2.2]; rfl⟩
        · cases hy'
      obtain ⟨c, hc, rfl⟩ := hxs
      obtain ⟨es1, hrep⟩ := peek_sound M hc hy
      subst es1
      obtain ⟨A, cap, news, ex, hcs, hnews⟩ := rep_data hrep
      simp only [AM.run] at hr3
      obtain ⟨d, l, ho, hr4⟩ := AM.of_withRow hr3
      simp only [AM.run, Option.some.injEq, Prod.mk.injEq] at hr4
      obtain ⟨rfl, rfl⟩ := hr4
      have hlive : live s1 i1 := ⟨_, ho, by simp⟩
      obtain ⟨es, Fa, Fb, hrow, hfp, hRD⟩ := (M.obj _ _ ho).rowD
      obtain ⟨hbx, hty, _⟩ := M.obj _ _ ho
      have hvv : vv = G.hd i1 := by obtain ⟨c, hc, e⟩ := hv; simp only [VR] at hc; rw [e, hc.2.2]; rfl
      rw [← hsz] at hrow
      obtain ⟨w1, hrun, hrow1, hk, hss⟩ := copy_run (ty := ty) hts0 hu hf hrow ex hcs (by rw [hsz]; exact RepL.len (fun _ _ h => Rep.len _ h) hnews) (RepL.all (fun _ _ h => Rep.one _ h) hnews)
      rw [hsz] at hrow1
      have hflat : Fb = [] ∧ RepL (Rep w (fun _ => True) j.ty) l es := by
        cases d with
        | true => exact OwnL.flat (fun _ _ _ h => Own.flat (ok := fun _ => True) _ hfl h) hRD
        | false => exact ⟨hRD.1, RepL.mono (fun _ _ h => Rep.flat _ hfl h) hRD.2⟩
      obtain ⟨rfl, hl⟩ := hflat
      rw [List.append_nil] at hfp
      have hkl : Nat.min y.length l.length ≤ y.length := Nat.min_le_left _ _
      have hkr : Nat.min y.length l.length ≤ l.length := Nat.min_le_right _ _
      obtain ⟨c1, d1, e1, l1, r1, _⟩ := RepL.take_drop (fun _ _ h => Rep.len _ h) hnews _ hkl
      obtain ⟨c2, d2, e2, l2, _, r2⟩ := RepL.take_drop (fun _ _ h => Rep.len _ h) hl _ hkr
      have hnew : RowD w1 G.ok d j.ty (y.take l.length ++ l.drop y.length) (news.take (Nat.min y.length l.length * j.ty.size) ++ es.drop (Nat.min y.length l.length * j.ty.size)) [] := by
        have t1 : y.take l.length = y.take (Nat.min y.length l.length) := by
          by_cases h : y.length ≤ l.length
          · rw [show Nat.min y.length l.length = y.length from Nat.min_eq_left h, List.take_length, List.take_of_length_le h]
          · rw [show Nat.min y.length l.length = l.length from Nat.min_eq_right (by omega)]
        have t2 : l.drop y.length = l.drop (Nat.min y.length l.length) := by
          by_cases h : y.length ≤ l.length
          · rw [show Nat.min y.length l.length = y.length from Nat.min_eq_left h]
          · rw [show Nat.min y.length l.length = l.length from Nat.min_eq_right (by omega), List.drop_length, List.drop_of_length_le (by omega)]
        rw [t1, t2, ← l1, e1, List.take_left, l1, ← l2, e2, List.drop_left]
        exact RowD.flat hfl (RepL.append (R := Rep w1 G.ok j.ty) (RepL.mono (fun _ _ h => Rep.flat _ hfl h) r1) (RepL.mono (fun _ _ h => Rep.flat _ hfl h) r2))
      have hlen2 : (y.take l.length ++ l.drop y.length).length = l.length := by simp; omega
      obtain ⟨M1, K1⟩ := Mem.put (o := .row d j.ty (y.take l.length ++ l.drop y.length)) (Ch := (· ∈ Fa)) M (.inr ⟨rfl, rfl, rfl⟩) (M.hds i1 hlive.used) hk (fun b _ hb => (M.own i1 hlive b (by rw [hfp]; exact hb)).2)
        (fun k hk' hkl b hb => ⟨fun hm => M.dj k i1 hk' hkl hlive b hb (by rw [hfp]; exact hm), fun _ hm => M.dj k i1 hk' hkl hlive b hb hm⟩) (fun b hb => ⟨fun hm => (M.okl b hb).2.2 i1 hlive (by rw [hfp]; exact hm), fun _ => (M.okl b hb).2.2 i1 hlive⟩) (fun _ => M.nd i1 hlive)
        (fun _ b hb => ⟨by rw [hss]; exact (M.own i1 hlive b hb).1, (M.own i1 hlive b hb).2⟩)
        (fun _ => by
          obtain ⟨e1, e2, e3, e4⟩ := set_hd G i1 (G.hd i1) (G.bx i1) (G.ty i1) (G.fp i1)
          refine ⟨by rw [e2]; exact hbx, by rw [e3]; exact hty, _, Fa, [], by rw [e1, hlen2, ← hvv]; exact hvv ▸ hrow1, by rw [e4, hfp, List.append_nil], hnew⟩)
      rw [← hvv] at hrun
      exact ⟨_, w1, _, hrun, M1, K1, rfl, SR.of_int _ _⟩
    · cases hr1
  · cases hr
end Go.Fw

/- makeSlice, len, max, min, slice, field, index, convert, tuples, function values. -/
namespace Go.Fw
variable {P : Program} {T : Nat → Option TI} {E : Env} {S S' S1 S2 : St} {G G1 : Gh} {w w1 : World} {a : Act}

theorem make_sound (hT : TsOk P T) (M : Mem E S G w) {t : TypeId} {e : Ty × Nat} {S0 S2 : St} {un : Unit} {i0 : Nat} {k1 k2 : IntKind} {n c : Int} {d : Bool} (he : (elemTy T t).run S = some (e, S0)) (hfl : e.1.plain = true)
    (hg : n = c ∧ 0 ≤ n ∧ n * e.2 ≤ 140737488355328) (hn : (newO i0 (.row d e.1 (List.replicate n.toNat e.1.zero))).run S = some (un, S2)) :
    Step P E S G w S2 (.hdr i0) (Instr.makeSlice t (.int k1 n) (.int k2 c)) := by
  obtain ⟨es0, i, j, f, h1, h2, h3, ee, h5, hu, hf, hsz, hby, zv, hz, hzc⟩ := elemTy_sound hT he
  subst es0; subst ee
  obtain ⟨rfl, h0, hb⟩ := hg
  obtain ⟨hi0, rfl⟩ := AM.of_newO hn
  have hzs : zv.cells.size = f.size := by rw [hsz, ← zeroCells_len, ← hzc, Array.length_toList]
  have hnb : n ≤ 140737488355328 := by
    have h1 : (1 : Int) ≤ (j.bytes : Int) := by omega
    have : n * 1 ≤ n * (j.bytes : Int) := Int.mul_le_mul_of_nonneg_left h1 h0
    have hb' : n * (j.bytes : Int) ≤ 140737488355328 := hb
    omega
  have hrun := run_make (P := P) (w := w) t i.elem f zv hu hf hz k1 k2 n n h0 (Int.le_refl _) (by rw [hby, Int.mul_comm]; have hb' : n * (j.bytes : Int) ≤ 140737488355328 := hb; omega) (by omega)
  obtain ⟨hk, hbb, hss⟩ := alloc_kept (w := w) (.cells (madeCells zv.cells (n.toNat * f.size)) i.elem)
  have hlist : (madeCells zv.cells (n.toNat * f.size)).toList = (List.replicate n.toNat (zeroCells_ j.ty)).flatten := by rw [← hzs, madeCells_list, hzc]
  have hD : RowD w G.ok d j.ty (List.replicate n.toNat j.ty.zero) (List.replicate n.toNat (zeroCells_ j.ty)).flatten [] := by
    cases d with
    | false => exact ⟨rfl, RepL.replicate (zero_rep j.ty hfl) _⟩
    | true => exact ownL_replicate (own_zero j.ty hfl) _
  obtain ⟨G1, M1, K1, h⟩ := row_fresh (cap := n.toNat) M hi0 Free.nil hD hk hss hbb (by rw [size_madeCells, hsz]) (by simp) (by rw [hlist, List.take_of_length_le]; have := hD.len; omega)
  rw [List.length_replicate] at h
  exact ⟨_, _, G1, hrun, M1, K1, rfl, h⟩

/-! ### len, max, min -/
theorem len_sound (hT : TsOk P T) {ts : Array TypeId} {ty t : TypeId} {i : TI} (hts : ts[0]? = some t) (hi : T t = some i) {v : V} {x : Value} {n : Int} (hf : fits i.ty v = true) (hv : SR (used S) G w v x) (M : Mem E S G w) (hr : (lenV v).run S = some (n, S1)) :
    S1 = S ∧ (Builtin.len_ ts ty #[x]).run P w = .ok (.int .i64 n) w := by
  obtain ⟨d, hd, hk⟩ := (hT t i hi).desc
  unfold lenV at hr
  split at hr
  · obtain ⟨rfl, rfl⟩ := AM.of_pure hr
    obtain ⟨c, hc, e⟩ := hv
    simp only [VR] at hc
    cases hty : i.ty <;> rw [hty] at hf hk <;> simp [fits] at hf
    rw [e, hc]
    refine ⟨rfl, ?_⟩
    simp [Builtin.len_, hts, run_underlying hd, hk.1, ofCells, V.agg, goInt]
  · obtain ⟨rfl, rfl⟩ := AM.of_pure hr
    obtain ⟨A, c, e, _⟩ := hv.slc
    have hty := fits_val hf
    rw [hty] at hk
    rw [e]
    refine ⟨rfl, ?_⟩
    simp [Builtin.len_, hts, run_underlying hd, hk.1, goInt]
  · obtain ⟨rfl, rfl⟩ := AM.of_pure hr
    have hty := fits_val hf
    rw [hty] at hk
    rw [hv.str]
    refine ⟨rfl, ?_⟩
    have hk : d = .string := hk
    subst hk
    simp [Builtin.len_, hts, run_underlying hd, goInt]
  · rename_i m t0 l
    obtain ⟨rfl, rfl⟩ := AM.of_pure hr
    have hty := fits_val hf
    rw [hty] at hk
    obtain ⟨c, hc, e⟩ := hv
    rw [e]
    refine ⟨rfl, ?_⟩
    simp [Builtin.len_, hts, run_underlying hd, hk.1, goInt, ofCells, V.agg, Ty.isAgg]
  · rename_i i1
    simp only [AM.run] at hr
    split at hr
    · rename_i d1 t1 l ho
      obtain ⟨rfl, rfl⟩ := AM.of_pure hr
      obtain ⟨es, Fa, Fb, ⟨A, cap, ehd, _⟩, _⟩ := (M.obj _ _ ho).rowD
      obtain ⟨c, hc, e⟩ := hv
      simp only [VR] at hc
      cases hty : i.ty <;> rw [hty] at hf hk <;> simp [fits] at hf
      rw [e, hc.2.2, ehd]
      refine ⟨rfl, ?_⟩
      simp [Builtin.len_, hts, run_underlying hd, hk.1, ofCells, V.agg, goInt]
    · rename_i t1 l k q u c ho
      obtain ⟨rfl, rfl⟩ := AM.of_pure hr
      obtain ⟨_, _, _, _, ea, eb, off, F1, F2, _, _, ⟨A, cap, ehd, _⟩, _⟩ := M.obj _ _ ho
      obtain ⟨c, hc, e⟩ := hv
      simp only [VR] at hc
      cases hty : i.ty <;> rw [hty] at hf hk <;> simp [fits] at hf
      rw [e, hc.2.2, ehd]
      refine ⟨rfl, ?_⟩
      simp [Builtin.len_, hts, run_underlying hd, hk.1, ofCells, V.agg, goInt]
    · cases hr
  · cases hr

theorem fold_sound {g : V → V → AM V} {m : Value → Value → Sem Value} (hg : ∀ {S S1 : St} {v1 v2 v : V} {p q : Value}, SR (used S) G w v1 p → SR (used S) G w v2 q → (g v1 v2).run S = some (v, S1) → S1 = S ∧ ∃ r, (m p q).run P w = .ok r w ∧ SR (used S) G w v r) :
    ∀ (vs : List V) {xs : List Value} {v z : V} {x : Value}, SR (used S) G w v x → SRs S G w vs xs → (foldV g v vs).run S = some (z, S1) → S1 = S ∧ ∃ r, (xs.foldlM m x).run P w = .ok r w ∧ SR (used S) G w z r := by
  intro vs
  induction vs with
  | nil =>
    intro xs v z x hv hs hr
    obtain ⟨rfl, rfl⟩ := AM.of_pure hr
    cases xs with
    | cons _ _ => exact hs.elim
    | nil => exact ⟨rfl, x, by simp, hv⟩
  | cons v1 vs ih =>
    intro xs v z x hv hs hr
    cases xs with
    | nil => exact hs.elim
    | cons x1 xs =>
    unfold foldV at hr
    obtain ⟨y, s1, h1, h2⟩ := AM.of_bind hr
    obtain ⟨e1, r, hr1, hy⟩ := hg hv hs.1 h1
    subst e1
    obtain ⟨e2, r2, hr2, hz⟩ := ih hy hs.2 h2
    exact ⟨e2, r2, by simp [List.foldlM_cons, hr1, hr2], hz⟩
theorem max_sound {v1 v2 v : V} {p q : Value} (h1 : SR (used S) G w v1 p) (h2 : SR (used S) G w v2 q) (h : (maxV v1 v2).run S = some (v, S1)) : S1 = S ∧ ∃ r, (Builtin.max2 p q).run P w = .ok r w ∧ SR (used S) G w v r := by
  unfold maxV at h
  split at h
  · obtain ⟨hc, h⟩ := AM.of_must_bind h
    obtain ⟨rfl, rfl⟩ := AM.of_pure h
    have hk := of_decide_eq_true hc
    subst hk
    rw [h1.int, h2.int]
    exact ⟨rfl, _, rfl, SR.of_int _ _⟩
  · cases h
theorem min_sound {v1 v2 v : V} {p q : Value} (h1 : SR (used S) G w v1 p) (h2 : SR (used S) G w v2 q) (h : (minV v1 v2).run S = some (v, S1)) : S1 = S ∧ ∃ r, (Builtin.min2 p q).run P w = .ok r w ∧ SR (used S) G w v r := by
  unfold minV at h
  split at h
  · obtain ⟨hc, h⟩ := AM.of_must_bind h
    obtain ⟨rfl, rfl⟩ := AM.of_pure h
    have hk := of_decide_eq_true hc
    subst hk
    rw [h1.int, h2.int]
    exact ⟨rfl, _, rfl, SR.of_int _ _⟩
  · cases h

theorem builtin_sound (hT : TsOk P T) (M : Mem E S G w) {rid ix : Nat} {dp : Bool} {b : Builtin} {ts : Array TypeId} {ty : TypeId} {cs : Array Bool} {vs : List V} {xs : Array Value} {z : V} (hs : SRs S G w vs xs.toList) (hr : (builtinV T rid ix dp b ts.toList vs).run S = some (z, S')) :
    ∃ m : Sem Value, builtin b ts ty cs xs = (do pure (.value (← m))) ∧ Step P E S G w S' z m := by
  have one : ∀ {v : V}, vs = [v] → ∃ x, xs = #[x] ∧ SR (used S) G w v x := by
    rintro v rfl
    match hx : xs.toList, hs with
    | [x], hs => exact ⟨x, by apply Array.ext'; simpa using hx, hs.1⟩
    | [], hs => exact hs.elim
    | _ :: _ :: _, hs => exact hs.2.elim
  have two : ∀ {v v' : V}, vs = [v, v'] → ∃ x x', xs = #[x, x'] ∧ SR (used S) G w v x ∧ SR (used S) G w v' x' := by
    rintro v v' rfl
    match hx : xs.toList, hs with
    | [x, x'], hs => exact ⟨x, x', by apply Array.ext'; simpa using hx, hs.1, hs.2.1⟩
    | [], hs => exact hs.elim
    | [_], hs => exact hs.2.elim
    | _ :: _ :: _ :: _, hs => exact hs.2.2.elim
  cases b <;> try (simp only [builtinV] at hr; cases hr)
  case append =>
    match vs, hr with
    | [v, v'], hr =>
      obtain ⟨x, x', rfl, h1, h2⟩ := two rfl
      refine ⟨_, rfl, ?_⟩
      match hts : ts.toList, hr with
      | [t, tx], hr =>
        have : ts = #[t, tx] := by apply Array.ext'; simpa using hts
        subst this
        exact append_sound hT M h1 h2 hr
      | [], hr => simp only [builtinV] at hr; cases hr
      | [_], hr => simp only [builtinV] at hr; cases hr
      | _ :: _ :: _ :: _, hr => simp only [builtinV] at hr; cases hr
    | [], hr => simp only [builtinV] at hr; cases hr
    | [_], hr => simp only [builtinV] at hr; cases hr
    | _ :: _ :: _ :: _, hr => simp only [builtinV] at hr; cases hr
  case copy =>
    match vs, hr with
    | [v, v'], hr =>
      obtain ⟨x, x', rfl, h1, h2⟩ := two rfl
      exact ⟨_, rfl, copy_sound hT M h1 h2 hr⟩
    | [], hr => simp only [builtinV] at hr; cases hr
    | [_], hr => simp only [builtinV] at hr; cases hr
    | _ :: _ :: _ :: _, hr => simp only [builtinV] at hr; cases hr
  case len =>
    match vs, hr with
    | [v], hr =>
      obtain ⟨x, rfl, h1⟩ := one rfl
      simp only [builtinV] at hr
      split at hr
      · rename_i t tr hts
        obtain ⟨u, s0, hu, hr1⟩ := AM.of_bind hr
        obtain ⟨e0, i, hi, eu⟩ := tyOf_sound hu
        subst e0; subst eu
        obtain ⟨hf, hr2⟩ := AM.of_must_bind hr1
        obtain ⟨n, s1, hn, hr3⟩ := AM.of_bind hr2
        obtain ⟨rfl, rfl⟩ := AM.of_pure hr3
        obtain ⟨rfl, hrun⟩ := len_sound (ty := ty) hT (by rw [← Array.getElem?_toList, hts]; rfl) hi hf h1 M hn
        exact ⟨_, rfl, Step.same M hrun (SR.of_int _ _)⟩
      · cases hr
    | [], hr => simp only [builtinV] at hr; cases hr
    | _ :: _ :: _, hr => simp only [builtinV] at hr; cases hr
  case cap =>
    match vs, hr with
    | [.nil], hr =>
      obtain ⟨x, rfl, h1⟩ := one rfl
      simp only [builtinV] at hr
      split at hr
      · rename_i t tr hts
        obtain ⟨u, s0, hu, hr1⟩ := AM.of_bind hr
        obtain ⟨e0, i, hi, eu⟩ := tyOf_sound hu
        subst e0; subst eu
        obtain ⟨hm, hr2⟩ := AM.of_must_bind hr1
        obtain ⟨rfl, rfl⟩ := AM.of_pure hr2
        have hx : x = .slice none 0 0 := by
          obtain ⟨c, hc, e⟩ := h1
          simp only [VR] at hc
          rw [e, hc]; rfl
        cases hty : i.ty <;> rw [hty] at hm <;> simp at hm
        obtain ⟨hd, _⟩ := slice_of hT hi hty
        have ht0 : ts[0]? = some t := by rw [← Array.getElem?_toList, hts]; rfl
        refine ⟨_, rfl, Step.same (x := .int .i64 0) M ?_ (SR.of_int _ _)⟩
        simp [Builtin.cap_, ht0, run_underlying hd, hx, goInt]
      · cases hr
    | [], hr => simp only [builtinV] at hr; cases hr
    | _ :: _ :: _, hr => simp only [builtinV] at hr; cases hr
    | [.undef], hr => simp only [builtinV] at hr; cases hr
    | [.skip], hr => simp only [builtinV] at hr; cases hr
    | [.val _ _], hr => simp only [builtinV] at hr; cases hr
    | [.hdr _], hr => simp only [builtinV] at hr; cases hr
    | [.adr _ _], hr => simp only [builtinV] at hr; cases hr
    | [.pr _ _], hr => simp only [builtinV] at hr; cases hr
    | [.clo _ _ _], hr => simp only [builtinV] at hr; cases hr
    | [.tup _], hr => simp only [builtinV] at hr; cases hr
  case max =>
    match vs, hr with
    | v :: vs, hr =>
      simp only [builtinV] at hr
      match hx : xs.toList, hs with
      | x :: xl, hs =>
        obtain ⟨rfl, r, hrun, hz⟩ := fold_sound (P := P) max_sound _ hs.1 hs.2 hr
        exact ⟨_, rfl, Step.same M (by simpa [Builtin.max_, hx] using hrun) hz⟩
      | [], hs => exact hs.elim
    | [], hr => simp only [builtinV] at hr; cases hr
  case min =>
    match vs, hr with
    | v :: vs, hr =>
      simp only [builtinV] at hr
      match hx : xs.toList, hs with
      | x :: xl, hs =>
        obtain ⟨rfl, r, hrun, hz⟩ := fold_sound (P := P) min_sound _ hs.1 hs.2 hr
        exact ⟨_, rfl, Step.same M (by simpa [Builtin.min_, hx] using hrun) hz⟩
      | [], hs => exact hs.elim
    | [], hr => simp only [builtinV] at hr; cases hr
end Go.Fw

/- slice, field, index, convert, tuples, function values. -/
namespace Go.Fw
variable {P : Program} {T : Nat → Option TI} {E : Env} {S S' S1 S2 : St} {G G1 : Gh} {w w1 : World} {a : Act}

def OR (S : St) (G : Gh) (w : World) : Option V → Option Value → Prop
  | none, none => True
  | some v, some x => SR (used S) G w v x
  | _, _ => False

def Bd (o : Option Value) (n d : Int) : Prop := (o = none ∧ n = d) ∨ ∃ k, o = some (.int k n)

theorem numV_sound {o : Option V} {ov : Option Value} {d n : Int} (ho : OR S G w o ov) (hr : (numV o d).run S = some (n, S1)) : S1 = S ∧ Bd ov n d := by
  unfold numV at hr
  split at hr
  · obtain ⟨rfl, rfl⟩ := AM.of_pure hr
    cases ov with
    | none => exact ⟨rfl, .inl ⟨rfl, rfl⟩⟩
    | some _ => exact ho.elim
  · obtain ⟨rfl, rfl⟩ := AM.of_pure hr
    cases ov with
    | none => exact ho.elim
    | some x => exact ⟨rfl, .inr ⟨_, by rw [SR.int ho]⟩⟩
  · cases hr

theorem bounds_run {lo hi : Option Value} {a b : Int} {len cap : Nat} {sl : Bool} (h1 : Bd lo a 0) (h2 : Bd hi b len) (ha : 0 ≤ a) (hab : a ≤ b) (hb : b ≤ len) (hc : len ≤ cap) : (Instr.sliceBounds sl len cap lo hi none).run P w = .ok (a.toNat, b.toNat, cap) w := by
  have hbc : b ≤ cap := by omega
  have hb0 : 0 ≤ b := by omega
  have e : ((b.toNat : Nat) : Int) = b := by omega
  rcases h1 with ⟨rfl, rfl⟩ | ⟨k1, rfl⟩ <;> rcases h2 with ⟨rfl, rfl⟩ | ⟨k2, rfl⟩ <;>
    simp [Instr.sliceBounds, Instr.sliceBound, asIntOf, ha, hab, hb0, hbc, e]

theorem sub_rep (hT : TsOk P T) {ok : Nat → Prop} {s : TypeId} {i : TI} (hi : T s = some i) {t : Ty} (hty : i.ty = .slc t) {l : List t.I} {x : Value} (h : Rep w ok (.slc t) l [x]) {lo hi' : Option Value} {a b : Int} (h1 : Bd lo a 0) (h2 : Bd hi' b l.length) (ha : 0 ≤ a) (hab : a ≤ b) (hb : b ≤ l.length) :
    ∃ r, (Instr.sliceAt s x lo hi' none).run P w = .ok r w ∧ Rep w ok (.slc t) ((l.take b.toNat).drop a.toNat) [r] := by
  obtain ⟨hd, j, hj, hjt⟩ := slice_of hT hi hty
  obtain ⟨A, cap, e, hn, h⟩ := h
  injection e with e _
  subst e
  have hsz := (hT _ _ hj).size w
  rw [hjt] at hsz
  have hbr := bounds_run (P := P) (w := w) (sl := true) h1 h2 ha hab hb hn
  have hlen : ((l.take b.toNat).drop a.toNat).length = b.toNat - a.toNat := by simp; omega
  refine ⟨.slice (if cap = a.toNat then A else A.map (·.add (a.toNat * t.size))) (b.toNat - a.toNat) (cap - a.toNat), ?_, ?_⟩
  · simp [Instr.sliceAt, Instr.slice, run_underlying hd, hbr, hsz]
  · refine ⟨_, _, by rw [hlen], by rw [hlen]; omega, ?_⟩
    rcases h with rfl | ⟨b0, es, rfl, hok, hlt, hcs, hr⟩
    · exact .inl (by simp)
    · by_cases hca : cap = a.toNat
      · refine .inl (List.length_eq_zero_iff.1 (by rw [hlen]; omega))
      · refine .inr ⟨b0.add (a.toNat * t.size), ?_⟩
        obtain ⟨c1, d1, e1, l1, r1, r2⟩ := RepL.take_drop (fun _ _ h => Rep.len t h) hr b.toNat (by omega)
        obtain ⟨c2, d2, e2, l2, r3, r4⟩ := RepL.take_drop (fun _ _ h => Rep.len t h) r1 a.toNat (by rw [List.length_take]; omega)
        refine ⟨d2, by simp [hca], by rw [block_add]; exact hok, by rw [block_add]; exact hlt, ?_, r4⟩
        rw [e1, e2] at hcs
        have := (cellsAt_append (cellsAt_append hcs).1).2
        rwa [l2] at this

/-- The front of a row, which stays owned. -/
theorem slice_keep (hT : TsOk P T) (M : Mem E S G w) {s : TypeId} {i : TI} (hi : T s = some i) {t : Ty} (hty : i.ty = .slc t) {i1 c : Nat} {l : List t.I} {hiv : Value} {b : Int} (ho : S.ob i1 = some (.row false t l)) {x : Value} (hx : x = G.hd i1) (hb : Bd (some hiv) b l.length) (h0 : 0 ≤ b) (h1 : b ≤ l.length) (hc : (S.putO i1 .gone).ob c = none) :
    Step P E S G w ((S.putO i1 .gone).putO c (.row false t (l.take b.toNat))) (.hdr c) (Instr.sliceAt s x none (some hiv) none) := by
  obtain ⟨hd, j, hj, hjt⟩ := slice_of hT hi hty
  obtain ⟨_, _, es, F1, F2, hrow, hfp, hF2, hr⟩ := M.obj _ _ ho
  have Tk := Took.one M (i := i1) ⟨_, ho, by simp⟩
  obtain ⟨A, cap, e, hn, hlen, h⟩ := hrow
  have hsz := (hT _ _ hj).size w
  rw [hjt] at hsz
  have hbr := bounds_run (P := P) (w := w) (sl := true) (lo := none) (hi := some hiv) (a := 0) (b := b) (len := l.length) (cap := cap) (.inl ⟨rfl, rfl⟩) hb (Int.le_refl _) h0 h1 hn
  have hl : (l.take b.toNat).length = b.toNat := by rw [List.length_take]; omega
  obtain ⟨c1, d1, e1, l1, r1, _⟩ := RepL.take_drop (fun _ _ h => Rep.len t h) hr b.toNat (by omega)
  have hrun : (Instr.sliceAt s x none (some hiv) none).run P w = .ok (.slice A b.toNat cap) w := by
    rw [hx, e]
    cases A <;> simp [Instr.sliceAt, Instr.slice, run_underlying hd, hbr, hsz, add_zero]
  have hrow' : RowOk w (.slice A b.toNat cap) t.size (l.take b.toNat).length c1 F1 := by
    refine ⟨A, cap, by rw [hl], by rw [hl]; omega, by rw [l1, hl], h.imp id ?_⟩
    rintro ⟨g, cur, te, hA, hF, hg, hs, he⟩
    refine ⟨g, cur, te, hA, hF, hg, hs, ?_⟩
    have : c1 = es.take (b.toNat * t.size) := by rw [e1, ← l1, List.take_left]
    rw [this, he, List.take_take, hl]
    congr 1
    exact Nat.min_eq_left (Nat.mul_le_mul_right _ (by omega))
  obtain ⟨G1, M1, K1, hv⟩ := row_new (d := false) (F1 := F1) (F2 := []) Tk.mem hc (by have := Tk.free; rw [hfp, hF2] at this; exact this) hrow' ⟨rfl, r1⟩
  exact ⟨_, w, G1, hrun, M1, Tk.keeps.trans K1, rfl, hv⟩
/-- An empty slice without room. -/
theorem slice_empty (hT : TsOk P T) (M : Mem E S G w) {s : TypeId} {i : TI} (hi : T s = some i) {t : Ty} (hty : i.ty = .slc t) {c : Nat} {l : List t.I} {k1 k2 : IntKind} {x : Value} (hx : SR (used S) G w (.val (.slc t) l) x) (hc : S.ob c = none) :
    Step P E S G w (S.putO c (.row false t [])) (.hdr c) (Instr.sliceAt s x none (some (.int k1 0)) (some (.int k2 0))) := by
  obtain ⟨hd, j, hj, hjt⟩ := slice_of hT hi hty
  have hsz := (hT _ _ hj).size w
  rw [hjt] at hsz
  obtain ⟨A, cap, e, _⟩ := hx.slc
  have hrun : (Instr.sliceAt s x none (some (.int k1 0)) (some (.int k2 0))).run P w = .ok (.slice A 0 0) w := by
    rw [e]
    simp [Instr.sliceAt, Instr.slice, run_underlying hd, Instr.sliceBounds, Instr.sliceBound, asIntOf, hsz]
  obtain ⟨G1, M1, K1, hv⟩ := row_new (d := false) (l := ([] : List t.I)) (es := []) (F1 := []) (F2 := []) M hc Free.nil (hd := .slice A 0 0) ⟨A, 0, rfl, Nat.le_refl _, by simp, .inl ⟨rfl, rfl⟩⟩ ⟨rfl, rfl⟩
  exact ⟨_, w, G1, hrun, M1, K1, rfl, hv⟩

theorem slice_sound (hT : TsOk P T) (M : Mem E S G w) {s : TypeId} {i : TI} (hi : T s = some i) {v y : V} {x : Value} {lo hi' : Option V} {lov hiv : Option Value} {kp : Option Nat} (hv : SR (used S) G w v x) (hlo : OR S G w lo lov) (hhi : OR S G w hi' hiv) (hr : (sliceV kp i.ty v lo hi').run S = some (y, S1)) :
    Step P E S G w S1 y (Instr.sliceAt s x lov hiv none) := by
  unfold sliceV at hr
  split at hr
  · rename_i hty
    split at hr
    · rename_i str
      obtain ⟨a, s1, h1, hr1⟩ := AM.of_bind hr
      obtain ⟨e1, b1⟩ := numV_sound hlo h1
      subst e1
      obtain ⟨b, s2, h2, hr2⟩ := AM.of_bind hr1
      obtain ⟨e2, b2⟩ := numV_sound hhi h2
      subst e2
      obtain ⟨hg, hr3⟩ := AM.of_guard_bind hr2
      obtain ⟨rfl, rfl⟩ := AM.of_pure hr3
      have hg := of_decide_eq_true hg
      obtain ⟨d, hd, hk⟩ := (hT s i hi).desc
      rw [hty] at hk
      have hk : d = .string := hk
      subst hk
      rw [hv.str]
      have hbr := bounds_run (P := P) (w := w) (sl := false) b1 b2 hg.1 hg.2.1 hg.2.2 (Nat.le_refl _)
      refine Step.same M (x := .string ((show ByteArray from str).extract a.toNat b.toNat)) ?_ (SR.of_str _)
      simp [Instr.sliceAt, Instr.slice, run_underlying hd]
      rw [hbr]
      rfl
    · cases hr
  · rename_i t hty
    split at hr
    · obtain ⟨a, s1, h1, hr1⟩ := AM.of_bind hr
      obtain ⟨e1, b1⟩ := numV_sound hlo h1
      subst e1
      obtain ⟨b, s2, h2, hr2⟩ := AM.of_bind hr1
      obtain ⟨e2, b2⟩ := numV_sound hhi h2
      subst e2
      obtain ⟨hg, hr3⟩ := AM.of_guard_bind hr2
      obtain ⟨rfl, rfl⟩ := AM.of_pure hr3
      obtain ⟨rfl, rfl⟩ := of_decide_eq_true hg
      obtain ⟨c, hc, e⟩ := hv
      simp only [VR] at hc
      obtain ⟨hd, j, hj, hjt⟩ := slice_of hT hi hty
      have hsz := (hT _ _ hj).size w
      have hbr := bounds_run (P := P) (w := w) (sl := true) (len := 0) (cap := 0) b1 b2 (by simp) (by simp) (by simp) (Nat.le_refl _)
      refine Step.same M (x := .slice none 0 0) ?_ SR.of_nil
      rw [e, hc]
      simp [Instr.sliceAt, Instr.slice, run_underlying hd, ofCells, V.agg, hbr, hsz]
    · split at hr
      · rename_i u l h
        subst h
        obtain ⟨a, s1, h1, hr1⟩ := AM.of_bind hr
        obtain ⟨e1, b1⟩ := numV_sound hlo h1
        subst e1
        obtain ⟨b, s2, h2, hr2⟩ := AM.of_bind hr1
        obtain ⟨e2, b2⟩ := numV_sound hhi h2
        subst e2
        obtain ⟨hg, hr3⟩ := AM.of_guard_bind hr2
        obtain ⟨rfl, rfl⟩ := AM.of_pure hr3
        have hg := of_decide_eq_true hg
        obtain ⟨c, hc, e⟩ := hv
        have hrep := hc
        simp only [VR, Rep] at hc
        obtain ⟨A, cap, ec, _⟩ := hc
        rw [ec] at hrep
        have hx : x = .slice A (show List t.I from l).length cap := by rw [e, ec]; rfl
        rw [hx]
        obtain ⟨r, hrun, hrr⟩ := sub_rep (a := a) (b := b) hT hi hty (show Rep w G.ok (.slc t) l [_] by simpa [VR] using hrep) b1 b2 hg.1 hg.2.1 hg.2.2
        exact Step.same M hrun ⟨[r], by simp only [VR]; exact hrr, rfl⟩
      · cases hr
    · rename_i i1
      split at hr
      rotate_left
      · rename_i c0
        split at hr
        · rename_i hh
          simp only [AM.run] at hr
          obtain ⟨d, l, ho, hr0⟩ := AM.of_withRow hr
          obtain ⟨hd0, hr1⟩ := AM.of_must_bind hr0
          have hd0 : d = false := by simpa using hd0
          subst hd0
          obtain ⟨b, s2, h2, hr2⟩ := AM.of_bind hr1
          obtain ⟨e2, b2⟩ := numV_sound hhi h2
          subst e2
          obtain ⟨hg, hr3⟩ := AM.of_guard_bind hr2
          have hg := of_decide_eq_true hg
          simp only [AM.run] at hr3
          obtain ⟨_, s3, h3, hr4⟩ := AM.of_bind hr3
          obtain ⟨hc, rfl⟩ := AM.of_newO h3
          obtain ⟨rfl, rfl⟩ := AM.of_pure hr4
          obtain ⟨c, hc1, e⟩ := hv
          simp only [VR] at hc1
          have hlv : lov = none := by
            cases lov with
            | none => rfl
            | some _ => exact hlo.elim
          subst hlv
          rcases b2 with ⟨e0, _⟩ | ⟨k, e0⟩
          · subst e0; exact hhi.elim
          · subst e0
            exact slice_keep hT M hi hty ho (by rw [e, hc1.2.2]; rfl) (.inr ⟨k, rfl⟩) hg.1 hg.2 hc
        · cases hr
      simp only [AM.run] at hr
      obtain ⟨d, l, ho, hr0⟩ := AM.of_withRow hr
      obtain ⟨a, s1, h1, hr1⟩ := AM.of_bind hr0
      obtain ⟨e1, b1⟩ := numV_sound hlo h1
      subst e1
      obtain ⟨b, s2, h2, hr2⟩ := AM.of_bind hr1
      obtain ⟨e2, b2⟩ := numV_sound hhi h2
      subst e2
      obtain ⟨hg, hr3⟩ := AM.of_guard_bind hr2
      simp only [AM.run, Option.some.injEq, Prod.mk.injEq] at hr3
      obtain ⟨rfl, rfl⟩ := hr3
      have hg := of_decide_eq_true hg
      obtain ⟨hTk, hrep, _⟩ := Took.row M ho
      obtain ⟨c, hc, e⟩ := hv
      simp only [VR] at hc
      have hx : x = G.hd i1 := by rw [e, hc.2.2]; rfl
      rw [hx]
      obtain ⟨r, hrun, hrr⟩ := sub_rep (a := a) (b := b) hT hi hty hrep b1 b2 hg.1 hg.2.1 hg.2.2
      obtain ⟨M1, K1⟩ := hTk.mem.thaw hTk.free.own hTk.free.nl
      exact ⟨r, w, _, hrun, M1, hTk.keeps.trans K1, rfl, ⟨[r], by simp only [VR]; exact hrr, rfl⟩⟩
    · cases hr
  · cases hr

/-- A slice within what is owned is taken out. -/
theorem openV_sound (hT : TsOk P T) (M : Mem E S G w) {c : Nat} {s : TypeId} {i : TI} (hi : T s = some i) {v y : V} {x : Value} (hv : SR (used S) G w v x) (hr : (openV c i.ty v).run S = some (y, S1)) :
    Step P E S G w S1 y (Instr.loadAt s x) := by
  unfold openV at hr
  obtain ⟨un, s1, h1, h2⟩ := AM.of_bind hr
  obtain ⟨es1, h⟩ := ptrTo_sound h1
  subst es1
  split at h2
  · rename_i i0 k q
    split at h2
    · rename_i u hty
      simp only [AM.run] at h2
      split at h2
      · rename_i o t' l ho
        obtain ⟨hne, h3⟩ := AM.of_must_bind h2
        obtain ⟨x0, hx0, h4⟩ := AM.of_ask h3
        obtain ⟨y0, s2, hy0, h5⟩ := AM.of_bind h4
        obtain ⟨y', s3, hy', h6⟩ := AM.of_bind h5
        obtain ⟨rfl, e3⟩ := AM.of_castV hy'
        subst e3
        obtain ⟨hbx, hty', es, F1, F2, hrow, hfp, hown⟩ := M.obj _ _ ho
        obtain ⟨c₁, cc, c₂, G1, G0, G2, l1, e1, e2, hx1, hset⟩ := ownL_hole hown hx0
        have hlcc : cc.length = t'.size := Own.len t' hx1
        obtain ⟨es2, d₁, dd, d₂, H1, H0, H2, hoff, l2, e4, e5, hin, hput⟩ := own_hole q hne hx1 hy0
        subst es2
        simp only [AM.run] at h6
        obtain ⟨_, s4, h7, h8⟩ := AM.of_bind h6
        obtain ⟨hc, rfl⟩ := AM.of_newO h7
        simp only [AM.run, Option.some.injEq, Prod.mk.injEq] at h8
        obtain ⟨rfl, rfl⟩ := h8
        -- the place
        obtain ⟨hus, b, hb, ex⟩ := hv.adr
        obtain ⟨A, cap, ehd, _⟩ := id hrow
        simp only [adrOf, hbx, hty'] at hb
        rw [ehd] at hb
        cases A with
        | none => cases hb
        | some a0 =>
        obtain ⟨off, hoff', hb⟩ := Option.map_eq_some_iff.1 hb
        rw [hoff] at hoff'
        injection hoff' with hoff'
        subst hoff'
        obtain ⟨g, ea, eF, hg, hcells⟩ := hrow.cells ehd (by have := (List.getElem?_eq_some_iff.1 hx0).1; omega)
        have hcs : cellsAt w b dd := by
          rw [e1, e4] at hcells
          have := (cellsAt_append hcells).2
          rw [l1, List.append_assoc] at this
          have := (cellsAt_append this).2
          rw [add_add, List.append_assoc] at this
          rw [← hb]
          exact (cellsAt_append this).1
        obtain ⟨hdv, es', K1, K2, edd, eH0, hrow', hown'⟩ := hin
        have hrun : (Instr.loadAt s x).run P w = .ok hdv w := by
          rw [ex, (hT s i hi).load hcs (by rw [l2, hty]), edd, hty]; rfl
        -- the objects
        have Tk := Took.one M (i := i0) ⟨_, ho, by simp⟩
        have hfree := Tk.free
        have p : (G.fp i0).Perm ((K1 ++ K2) ++ (F1 ++ ((G1 ++ H1) ++ (H2 ++ G2)))) := by
          rw [hfp, e2, e5, eH0]
          have q1 : (F1 ++ (G1 ++ ((H1 ++ ((K1 ++ K2) ++ H2)) ++ G2))) = (F1 ++ (G1 ++ H1)) ++ ((K1 ++ K2) ++ (H2 ++ G2)) := by simp
          have q2 : ((K1 ++ K2) ++ (F1 ++ ((G1 ++ H1) ++ (H2 ++ G2)))) = ((K1 ++ K2) ++ (F1 ++ (G1 ++ H1))) ++ (H2 ++ G2) := by simp
          rw [q1, q2, ← List.append_assoc]
          exact List.perm_append_comm.append_right _
        have f := hfree.perm p
        have hD : RowD w G.ok (!u.flat) u y' es' K2 := by
          cases hfl : u.flat with
          | false => exact hown'
          | true =>
            obtain ⟨hK2, hR⟩ := OwnL.flat (R := Rep w G.ok u) (fun _ _ _ h => Own.flat u hfl h) hown'
            exact ⟨hK2, hR⟩
        have g1 := Gave.row (i := c) (d := !u.flat) Tk.mem (.inl hc) f.sub.1 hrow' hD
        obtain ⟨a1, a2, a3, a4⟩ := set_hd G c hdv false u (K1 ++ K2)
        have hci : c ≠ i0 := by
          rintro rfl
          rw [St.ob_putO, if_pos rfl] at hc
          cases hc
        have hgone : ((s3.putO i0 .gone).putO c (.row (!u.flat) u y')).ob i0 = some .gone := by
          rw [St.ob_putO, if_neg (Ne.symm hci), St.ob_putO, if_pos rfl]
        have hsi : ∀ {α : Type} (f : Nat → α) (z : α), upd f c z i0 = f i0 := fun f z => upd_ne f z (Ne.symm hci)
        have g2 := Gave.one (i := i0) (o := .opened t' l k q u c) (hd := G.hd i0) (bx := false) (ty := t') (F := F1 ++ ((G1 ++ H1) ++ (H2 ++ G2))) g1.mem (.inr ⟨hgone, by simp [Gh.set, hsi], by simp [Gh.set, hsi, hbx], by simp [Gh.set, hsi, hty']⟩) (fun _ => ⟨_, _, _, ehd⟩) (g1.free f) (fun K => by
          obtain ⟨b1, b2, b3, b4⟩ := set_hd (G.set c hdv false u (K1 ++ K2)) i0 (G.hd i0) false t' (F1 ++ ((G1 ++ H1) ++ (H2 ++ G2)))
          have hbc : ((G.set c hdv false u (K1 ++ K2)).set i0 (G.hd i0) false t' (F1 ++ ((G1 ++ H1) ++ (H2 ++ G2)))).bx c = false := by
            simp [Gh.set, upd, hci]
          have hhc : ((G.set c hdv false u (K1 ++ K2)).set i0 (G.hd i0) false t' (F1 ++ ((G1 ++ H1) ++ (H2 ++ G2)))).hd c = hdv := by
            simp [Gh.set, upd, hci]
          have hes : es = (c₁ ++ d₁) ++ ([hdv] ++ (d₂ ++ c₂)) := by rw [e1, e4, edd]; simp
          refine ⟨b2, b3, hbc, K.used _ (used_put _ _ _), c₁ ++ d₁, d₂ ++ c₂, d₁.length, F1, (G1 ++ H1) ++ (H2 ++ G2), hoff, by rw [List.length_append, l1], by rw [b1, hhc, ← hes]; exact hrow, b4, fun w' y2 h2 F0 hk hy2 x1 z r r' hx1' hz => ?_⟩
          rw [hx0] at hx1'
          injection hx1' with hx1'
          subst hx1'
          obtain ⟨e6, z0, rfl, hz0⟩ := hput w' y2 [h2] F0 (fun b hb => hk b (by simp only [List.mem_append] at hb ⊢; rcases hb with hb | hb <;> simp [hb])) hy2 z r r' hz
          have hz1 := hset w' z0 _ _ (fun b hb => hk b (by simp only [List.mem_append] at hb ⊢; rcases hb with hb | hb <;> simp [hb])) hz0
          rw [show c₁ ++ (d₁ ++ ([h2] ++ d₂) ++ c₂) = (c₁ ++ d₁) ++ ([h2] ++ (d₂ ++ c₂)) by simp] at hz1
          refine ⟨e6, z0, _, rfl, hz1, ?_⟩
          have q1 : G1 ++ ((H1 ++ (F0 ++ H2)) ++ G2) = (G1 ++ H1) ++ (F0 ++ (H2 ++ G2)) := by simp
          rw [q1, List.append_assoc (G1 ++ H1)]
          exact List.perm_append_comm.append_left _)
        have ht := g1.trans g2
        refine ⟨hdv, w, _, hrun, g2.mem, Tk.keeps.trans ht.keeps, rfl, ?_⟩
        refine SR.of_hdr (g2.keeps.used _ (used_put _ _ _)) ?_ ?_ <;> simp [Gh.set, upd, hci]
      · cases h2
    · cases h2
  · cases h2

/-! ### Parts of values -/
theorem field_sound (hT : TsOk P T) (M : Mem E S G w) {s : TypeId} {i : TI} (hi : T s = some i) {f : Nat} {v y : V} {x : Value} (hf : fits i.ty v = true) (hu : (subTy i.ty (fieldPath f)).isSome = true) (hv : SR (used S) G w v x) (hr : (getV v (fieldPath f)).run S = some (y, S1)) :
    Step P E S G w S1 y (Instr.field s x f) := by
  obtain ⟨u, hu⟩ := Option.isSome_iff_exists.1 hu
  obtain ⟨d, hd, e, _, _, _⟩ := SR.cells M hf hv
  obtain ⟨rfl, fy, off, c₁, c, c₂, ho, hc, l1, l2, hy⟩ := part_sound _ hf hd hu hr
  obtain ⟨fs, hs, hfo⟩ := struct_of hT hi hu rfl
  obtain ⟨fd, e1, e2, ⟨j, hj, hjs⟩, hag⟩ := fields_at f hfo hu ho
  have e1' : fs[f]? = some fd := by simpa using e1
  have hagg : i.ty.isAgg = true := by
    cases hty : i.ty <;> rw [hty] at hu <;> cases f <;> simp [fieldPath, subTy] at hu <;> rfl
  rw [hagg] at e
  obtain ⟨hl, hya⟩ := VR.len fy hy
  refine Step.same M (x := ofCells u.isAgg c) ?_ (hya ▸ hy.sr)
  have := part_run (P := P) (w := w) (t := fd.type) (off := fd.offset) (cs := d.toArray) (c := c) (isAgg_any hag w) (by simp [sizeOf, typeInfo, hj, hjs, l2]) (by simpa using hc) (by omega) (fun h => by rw [l2]; exact Ty.size_of_agg _ h)
  simp [Instr.field, run_underlying hs, e1', e, ofCells, asAgg, this]

theorem index_arr_sound (hT : TsOk P T) (M : Mem E S G w) {s : TypeId} {i : TI} (hi : T s = some i) {m : Nat} {t : Ty} (hty : i.ty = .arr m t) {l : List t.I} {n : Int} {k : IntKind} {x : Value} {y : t.I} (hv : SR (used S) G w (.val (.arr m t) l) x) (hy : idx l n = some y) :
    Step P E S G w S (.val t y) (Instr.index s x (.int k n)) := by
  obtain ⟨h0, hget, hlt⟩ := idx_some hy
  obtain ⟨hd, j, hj, hjt⟩ := array_of hT hi hty
  obtain ⟨c, hc, e⟩ := hv
  simp only [VR, Rep] at hc
  obtain ⟨hn, hrep⟩ := hc
  obtain ⟨c₁, d, c₂, e1, l1, l2, hx, _⟩ := RepL.at (fun _ _ h => Rep.len t h) hrep hget
  have hsz := (hT _ _ hj).size w
  have hag := (hT _ _ hj).agg w
  rw [hjt] at hsz hag
  have := part_run (P := P) (w := w) (t := i.elem) (off := n.toNat * t.size) (cs := c.toArray) (c := d) hag (by rw [l2]; exact hsz) (by simpa using e1) l1.symm (fun h => by rw [l2]; exact Ty.size_of_agg _ h)
  refine Step.same M (x := ofCells t.isAgg d) ?_ ?_
  · have hm : n < m := by rw [← hn]; exact hlt
    simp [Instr.index, asIntOf, run_underlying hd, e, ofCells, V.agg, Ty.isAgg, h0, hm, hsz, this]
  · exact (show VR (used S) G w (.val t y) d by simpa [VR] using hx).sr

theorem index_str_sound (hT : TsOk P T) (M : Mem E S G w) {s : TypeId} {i : TI} (hi : T s = some i) (hty : i.ty = .str) {b : ByteArray} {n : Int} {k : IntKind} {x : Value} {y : Int} (hv : SR (used S) G w (.val .str b) x) (hy : idx (numsOf b) n = some y) :
    Step P E S G w S (.val (.int .u8) y) (Instr.index s x (.int k n)) := by
  obtain ⟨h0, hget, hlt⟩ := idx_some hy
  obtain ⟨d, hd, hk⟩ := (hT s i hi).desc
  rw [hty] at hk
  have hk : d = .string := hk
  subst hk
  unfold numsOf at hget
  rw [List.getElem?_map] at hget
  obtain ⟨c, hc, rfl⟩ := Option.map_eq_some_iff.1 hget
  have hb : b[n.toNat]? = some c := by
    have hc' : b.data[n.toNat]? = some c := by rw [← Array.getElem?_toList]; exact hc
    obtain ⟨hl, hg⟩ := Array.getElem?_eq_some_iff.1 hc'
    rw [getElem?_pos b n.toNat hl]
    exact congrArg some hg
  rw [hv.str]
  refine Step.same M (x := .int .u8 c.toNat) ?_ (SR.of_int _ _)
  simp [Instr.index, asIntOf, run_underlying hd, h0, hb]

theorem convert_int_sound (hT : TsOk P T) (M : Mem E S G w) {s t : TypeId} {i j : TI} (hs : T s = some i) (ht : T t = some j) {k k' : IntKind} (hty : j.ty = .int k) {n : Int} {x : Value} (hv : SR (used S) G w (.val (.int k') n) x) :
    Step P E S G w S (.val (.int k) (k.wrap n)) (convert s t x) := by
  obtain ⟨d, hd, _⟩ := (hT s i hs).desc
  obtain ⟨d', hd', hk⟩ := (hT t j ht).desc
  rw [hty] at hk
  have hk : d' = .int k := hk
  subst hk
  rw [hv.int]
  refine Step.same M (x := .int k (k.wrap n)) ?_ (SR.of_int _ _)
  cases d <;> simp [convert, run_underlying hd, run_underlying hd', Conv.intToInt]
theorem convert_str_sound (hT : TsOk P T) (M : Mem E S G w) {s t : TypeId} {i j : TI} (hs : T s = some i) (ht : T t = some j) (hty : j.ty = .str) {b : ByteArray} {x : Value} (hv : SR (used S) G w (.val .str b) x) :
    Step P E S G w S (.val .str b) (convert s t x) := by
  obtain ⟨d, hd, _⟩ := (hT s i hs).desc
  obtain ⟨d', hd', hk⟩ := (hT t j ht).desc
  rw [hty] at hk
  have hk : d' = .string := hk
  subst hk
  rw [hv.str]
  refine Step.same M (x := .string b) ?_ (SR.of_str _)
  cases d <;> simp [convert, run_underlying hd, run_underlying hd']

theorem repL_u8 {ok : Nat → Prop} : ∀ {l : List Int} {es : List Value}, RepL (Rep w ok (.int .u8)) l es → es = l.map (Value.int .u8)
  | [], _, h => h
  | n :: l, es, h => by
    obtain ⟨c, d, e, h1, h2⟩ := h
    have h1 : c = [.int .u8 n] := h1
    rw [e, h1, repL_u8 h2]; rfl
theorem convert_bytes_sound (hT : TsOk P T) (M : Mem E S G w) {s t : TypeId} {j : TI} (ht : T t = some j) (hty : j.ty = .str) {e : Ty × Nat} (he : (elemTy T s).run S = some (e, S')) (hu : e.1 = .int .u8) {l : List Int} {x : Value} (hv : SR (used S) G w (.val (.slc (.int .u8)) l) x) :
    S' = S ∧ Step P E S G w S (.val .str (strOf l)) (convert s t x) := by
  obtain ⟨es1, i, k, f, hi, hk, hik, rfl, _, hsl, _⟩ := elemTy_sound hT he
  obtain ⟨d', hd', hk'⟩ := (hT t j ht).desc
  rw [hty] at hk'
  have hk' : d' = .string := hk'
  subst hk'
  obtain ⟨d2, hd2, hk2⟩ := (hT _ _ hk).desc
  have hu : k.ty = .int .u8 := hu
  rw [hu] at hk2
  have hk2 : d2 = .int .u8 := hk2
  subst hk2
  obtain ⟨A, c, ex, hle, hc⟩ := hv.slc
  refine ⟨es1, ?_⟩
  rw [ex]
  refine Step.same M (x := .string (strOf l)) ?_ (SR.of_str _)
  rw [run_convert_bytes_string w s t i.elem A l.length c hsl hd2 hd']
  cases A with
  | none =>
    have : l = [] := by
      rcases hc with h | ⟨b, es, h, _⟩
      · exact h
      · cases h
    rw [this]
    simp [Conv.bytesToString, Sem.run_pure, strOf]
  | some a =>
    refine run_bytesToString w a l.length c l ?_
    rcases hc with h | ⟨b, es, h, hok, hlt, hcl, hr⟩
    · rw [h]
      exact run_loadCells_list w a [] (by simp)
    · cases h
      have := repL_u8 hr
      have h2 := run_loadCells_list (P := P) w a es hcl
      rw [this, List.length_map] at h2
      exact h2

/-! ### Tuples and function values -/
theorem chain_sound : ∀ {t : V} {vs : List Value} {j : Nat} {y : V}, CR (used S) G w t vs → (chain t)[j]? = some y → ∃ x, vs[j]? = some x ∧ SR (used S) G w y x
  | .pr a b, vs, j, y, h, hj => by
    simp only [CR] at h
    obtain ⟨c, r, e, h1, h2⟩ := h
    simp only [chain] at hj
    cases j with
    | zero =>
      simp only [List.getElem?_cons_zero, Option.some.injEq] at hj
      subst hj
      exact ⟨_, by rw [e]; rfl, h1.sr⟩
    | succ j =>
      simp only [List.getElem?_cons_succ] at hj
      obtain ⟨x, hx, hs⟩ := chain_sound h2 hj
      exact ⟨x, by rw [e]; simpa using hx, hs⟩
  | .nil, _, _, _, _, hj => by simp [chain] at hj
  | .undef, _, _, _, _, hj => by simp [chain] at hj
  | .val _ _, _, _, _, _, hj => by simp [chain] at hj
  | .hdr _, _, _, _, _, hj => by simp [chain] at hj
  | .adr _ _, _, _, _, _, hj => by simp [chain] at hj
  | .pin _, _, _, _, _, hj => by simp [chain] at hj
  | .clo _ _ _, _, _, _, _, hj => by simp [chain] at hj
  | .tup _, _, _, _, _, hj => by simp [chain] at hj

theorem extract_sound (M : Mem E S G w) {v y : V} {x : Value} {j : Nat} (hv : SR (used S) G w v x) (hy : partV v j = some y) : Step P E S G w S y (Instr.extract x j) := by
  unfold partV at hy
  split at hy
  · obtain ⟨vs, e, hc⟩ := TR.to hv (fun u l e => by subst e; simp [chain] at hy)
    obtain ⟨z, hz, hs⟩ := chain_sound hc hy
    have : vs[j]? = some z := by rw [← Array.getElem?_toList]; exact hz
    exact Step.same M (by rw [e]; simp [Instr.extract, this]) hs
  · cases hy

theorem mkchain_sound : ∀ {vs : List V} {xs : List Value}, vs.all V.solid = true → SRs S G w vs xs → CR (used S) G w (mkchain vs) xs
  | [], [], _, _ => by simp [mkchain, CR]
  | v :: vs, x :: xs, hs, ⟨h1, h2⟩ => by
    simp only [List.all_cons, Bool.and_eq_true] at hs
    obtain ⟨c, hc, e⟩ := h1.vr (by rintro rfl; cases hs.1) (by rintro rfl; cases hs.1) (by rintro t rfl; cases hs.1)
    simp only [mkchain, CR]
    exact ⟨c, xs, by rw [e], hc, mkchain_sound hs.2 h2⟩
  | [], _ :: _, _, h => h.elim
  | _ :: _, [], _, h => h.elim

theorem func_sound (M : Mem E S G w) {g : FuncId} {fs cs : List V} {xs ys : Array Value} (hs : (fs.all V.solid && cs.all V.solid) = true) (h1 : SRs S G w fs xs.toList) (h2 : SRs S G w cs ys.toList) :
    Step P E S G w S (.clo g (mkchain fs) (mkchain cs)) (Instr.makeFunc (.func g) xs ys) := by
  simp only [Bool.and_eq_true] at hs
  exact Step.same M (x := .func (.func g) xs ys) rfl ⟨[_], by simp only [VR]; exact ⟨xs, ys, rfl, mkchain_sound hs.1 h1, mkchain_sound hs.2 h2⟩, rfl⟩
end Go.Fw

/- Arguments and results. -/
namespace Go.Fw
variable {P : Program} {T : Nat → Option TI} {E : Env} {S S' S1 S2 : St} {G G1 : Gh} {w w1 : World} {a : Act}

def ArgsR (w : World) (ok : Nat → Prop) : (ps : List (Sh × Bool)) → (argTy ps).I → List Value → List Nat → Prop
  | [], _, vs, F => vs = [] ∧ F = []
  | (s, _) :: r, x, vs, F => ∃ c vs' F1 F2, vs = ofCells s.agg c :: vs' ∧ F = F1 ++ F2 ∧ ShR w ok s x.1 c F1 ∧ ArgsR w ok r x.2 vs' F2
def ResR (w : World) (ok : Nat → Prop) : (rs : List Sh) → (resTy rs).I → List Value → List Nat → Prop
  | [], _, vs, F => vs = [] ∧ F = []
  | s :: r, x, vs, F => ∃ c vs' F1 F2, vs = ofCells s.agg c :: vs' ∧ F = F1 ++ F2 ∧ ShR w ok s x.1 c F1 ∧ ResR w ok r x.2 vs' F2
def OutR (w : World) (ok : Nat → Prop) : (ps : List (Sh × Bool)) → (outTy ps).I → List Value → List Nat → Prop
  | [], _, _, F => F = []
  | (s, true) :: r, x, vs, F => ∃ c vs' F1 F2, vs = ofCells s.agg c :: vs' ∧ F = F1 ++ F2 ∧ ShR w ok s x.1 c F1 ∧ OutR w ok r x.2 vs' F2
  | (_, false) :: r, x, vs, F => ∃ v vs', vs = v :: vs' ∧ OutR w ok r x vs' F

theorem ResR.mono {ok ok' : Nat → Prop} (hk : ∀ b, ok b → ok' b) : ∀ {rs : List Sh} {x : (resTy rs).I} {vs : List Value} {F : List Nat}, ResR w ok rs x vs F → ResR w ok' rs x vs F
  | [], _, _, _, h => h
  | s :: r, _, _, _, ⟨c, vs', F1, F2, e1, e2, h1, h2⟩ => ⟨c, vs', F1, F2, e1, e2, h1.mono hk, ResR.mono hk h2⟩
theorem OutR.mono {ok ok' : Nat → Prop} (hk : ∀ b, ok b → ok' b) : ∀ {ps : List (Sh × Bool)} {x : (outTy ps).I} {vs : List Value} {F : List Nat}, OutR w ok ps x vs F → OutR w ok' ps x vs F
  | [], _, _, _, h => h
  | (s, true) :: r, _, _, _, ⟨c, vs', F1, F2, e1, e2, h1, h2⟩ => ⟨c, vs', F1, F2, e1, e2, h1.mono hk, OutR.mono hk h2⟩
  | (s, false) :: r, _, _, _, ⟨v, vs', e1, h2⟩ => ⟨v, vs', e1, OutR.mono hk h2⟩

theorem ShR.closed {ok ok' : Nat → Prop} : ∀ (s : Sh) {x : s.ty.I} {c : List Value} {F : List Nat}, s.closed = true → ShR w ok s x c F → ShR w ok' s x c F
  | .ro t, _, _, _, hc, h => by
    simp only [ShR] at h ⊢
    exact ⟨h.1, Rep.flat t hc h.2⟩
  | .nl, _, _, _, _, h => by simpa only [ShR] using h
  | .row d t, _, _, _, hc, h => by
    simp only [ShR] at h ⊢
    obtain ⟨hd, es, F1, F2, e, eF, hr, h⟩ := h
    refine ⟨hd, es, F1, F2, e, eF, hr, ?_⟩
    cases d with
    | true => exact h
    | false => exact ⟨h.1, RepL.mono (fun _ _ h => Rep.flat t (by simpa [Sh.closed] using hc) h) h.2⟩
  | .pin _ _, _, _, _, hc, _ => by cases hc
  | .box s, _, _, _, hc, h => by
    simp only [ShR] at h ⊢
    obtain ⟨g, es, e, F', ec, eF, hb, h⟩ := h
    exact ⟨g, es, e, F', ec, eF, hb, ShR.closed s hc h⟩
  | .pr a b, _, _, _, hc, h => by
    simp only [ShR] at h ⊢
    simp only [Sh.closed, Bool.and_eq_true] at hc
    obtain ⟨c, d, F1, F2, ec, eF, h1, h2⟩ := h
    exact ⟨c, d, F1, F2, ec, eF, ShR.closed a hc.1 h1, ShR.closed b hc.2 h2⟩
  | .clo _ _ _, _, _, _, hc, _ => by cases hc
  | .bld _ _, _, _, _, _, h => by simpa only [ShR] using h

theorem ResR.closed {ok ok' : Nat → Prop} : ∀ {rs : List Sh} {x : (resTy rs).I} {vs : List Value} {F : List Nat}, rs.all Sh.closed = true → ResR w ok rs x vs F → ResR w ok' rs x vs F
  | [], _, _, _, _, h => h
  | s :: r, _, _, _, hc, ⟨c, vs', F1, F2, e1, e2, h1, h2⟩ => by
    simp only [List.all_cons, Bool.and_eq_true] at hc
    exact ⟨c, vs', F1, F2, e1, e2, h1.closed s hc.1, ResR.closed hc.2 h2⟩
theorem OutR.closed {ok ok' : Nat → Prop} : ∀ {ps : List (Sh × Bool)} {x : (outTy ps).I} {vs : List Value} {F : List Nat}, (ps.all fun x => !x.2 || x.1.closed) = true → OutR w ok ps x vs F → OutR w ok' ps x vs F
  | [], _, _, _, _, h => h
  | (s, true) :: r, _, _, _, hc, ⟨c, vs', F1, F2, e1, e2, h1, h2⟩ => by
    simp only [List.all_cons, Bool.and_eq_true] at hc
    exact ⟨c, vs', F1, F2, e1, e2, h1.closed s (by simpa using hc.1), OutR.closed hc.2 h2⟩
  | (s, false) :: r, _, _, _, hc, ⟨v, vs', e1, h2⟩ => by
    simp only [List.all_cons, Bool.and_eq_true] at hc
    exact ⟨v, vs', e1, OutR.closed hc.2 h2⟩

/-! ### Handing over -/
def PackR (w : World) (ok : Nat → Prop) : (ps : List (Sh × Bool)) → (argTy ps).I → List Value → List Nat → Prop
  | [], _, vs, F => vs = [] ∧ F = []
  | (s, _) :: r, x, vs, F => ∃ v vs' F1 F2, vs = v :: vs' ∧ F = F1 ++ F2 ∧ (s.isRo = true → F1 = []) ∧ (s.isRo = false → ∃ c, v = ofCells s.agg c ∧ ShR w ok s x.1 c F1) ∧ PackR w ok r x.2 vs' F2
def LentRs (G : Gh) : List (Sh × Bool) → List V → Prop
  | [], _ => True
  | (s, _) :: r, v :: vs => (s.isRo = false → LentR G s v) ∧ LentRs G r vs
  | _ :: _, [] => False

theorem pack_solid {s : Sh} {v : V} {x : s.ty.I} (h : (pack s v).run S = some (x, S1)) : v.solid = true := by
  cases v <;> try rfl
  · cases s <;> unfold pack at h <;> try (cases h; done)
    have := take_fits h
    rename_i t
    cases t <;> cases this
  · cases s <;> unfold pack at h <;> try (cases h; done)
    have := take_fits h
    rename_i t
    cases t <;> cases this
  · cases s <;> unfold pack at h <;> try (cases h; done)
    have := take_fits h
    rename_i t
    cases t <;> cases this
theorem SR.solid {v : V} {x : Value} (h : SR (used S) G w v x) (hs : v.solid = true) : ∃ c, VR (used S) G w v c ∧ x = ofCells v.agg c :=
  h.vr (by rintro rfl; cases hs) (by rintro rfl; cases hs) (by rintro t rfl; cases hs)

theorem PackR.mono {ok ok' : Nat → Prop} (hk : ∀ b, ok b → ok' b) : ∀ {ps : List (Sh × Bool)} {x : (argTy ps).I} {vs : List Value} {F : List Nat}, PackR w ok ps x vs F → PackR w ok' ps x vs F
  | [], _, _, _, h => h
  | (s, _) :: r, _, _, _, ⟨v, vs', F1, F2, e1, e2, h0, h1, h2⟩ => ⟨v, vs', F1, F2, e1, e2, h0, fun hs => let ⟨c, e, h⟩ := h1 hs; ⟨c, e, h.mono hk⟩, PackR.mono hk h2⟩

theorem packs_sound : ∀ (ps : List (Sh × Bool)) {vs : List V} {xs : List Value} {S S' : St} {x : (argTy ps).I}, Mem E S G w → SRs S G w vs xs → (packs ps vs).run S = some (x, S') →
    ∃ F K, Took E S G w S' (F ++ K) ∧ PackR w (inK G K) ps x xs F ∧ LentRs G ps vs
  | [], [], xs, S, S', x, M, hs, hr => by
    obtain ⟨_, rfl⟩ := AM.of_pure hr
    cases xs with
    | cons _ _ => exact hs.elim
    | nil => exact ⟨[], [], Took.refl M, ⟨rfl, rfl⟩, trivial⟩
  | [], _ :: _, _, _, _, _, _, _, hr => by cases hr
  | (s, b) :: r, [], _, _, _, _, _, _, hr => by cases hr
  | (s, b) :: r, v :: vs, xs, S, S', x, M, hs, hr => by
    cases xs with
    | nil => exact hs.elim
    | cons xv xs =>
    unfold packs at hr
    obtain ⟨y, s1, h1, h2⟩ := AM.of_bind hr
    obtain ⟨z, s2, h3, h4⟩ := AM.of_bind h2
    obtain ⟨rfl, rfl⟩ := AM.of_pure h4
    cases hro : s.isRo with
    | true =>
      rw [hro] at h1
      obtain ⟨_, rfl⟩ := AM.of_pure h1
      obtain ⟨F, K, hT, hP, hL⟩ := packs_sound r M hs.2 h3
      exact ⟨F, K, hT, ⟨xv, xs, [], F, rfl, rfl, fun _ => rfl, fun h => absurd h (by simp [hro]), hP⟩, fun h => absurd h (by simp [hro]), hL⟩
    | false =>
      rw [hro] at h1
      obtain ⟨c, hc, ec⟩ := hs.1.solid (pack_solid h1)
      obtain ⟨F1, K1, hT1, hS, hag, hL1⟩ := pack_sound s M hc h1
      obtain ⟨F2, K2, hT2, hP, hL⟩ := packs_sound r hT1.mem (hs.2.keep hT1.keeps) h3
      refine ⟨F1 ++ F2, K1 ++ K2, hT1.trans2 hT2, ⟨xv, xs, F1, F2, rfl, rfl, fun h => absurd h (by simp [hro]), fun _ => ⟨c, by rw [ec, hag], hS.mono fun b hb => hb.imp id fun h => by simp [h]⟩, hP.mono fun b hb => hb.imp id fun h => by simp [h]⟩, fun _ => hL1, hL⟩

theorem LentR.solid {s : Sh} {v : V} (hro : s.isRo = false) (h : LentR G s v) : v.solid = true := by
  cases v <;> try rfl
  all_goals (cases s <;> simp [LentR, Sh.isRo, V.fst] at h hro)
theorem LentRs.solid : ∀ {ps : List (Sh × Bool)} {vs : List V}, LentRs G ps vs → ∀ (i : Nat) (p : Sh × Bool), ps[i]? = some p → p.1.isRo = false → ∀ v, vs[i]? = some v → v.solid = true
  | [], _, _, i, p, hp, _, _, _ => by simp at hp
  | (s, b) :: r, v :: vs, hl, i, p, hp, hro, v', hv' => by
    cases i with
    | zero =>
      simp at hp hv'
      subst hp; subst hv'
      exact LentR.solid hro (hl.1 hro)
    | succ i => exact LentRs.solid hl.2 i p (by simpa using hp) hro v' (by simpa using hv')
  | _ :: _, [], hl, _, _, _, _, _, _ => hl.elim

theorem LentRs.keep (h : Keeps (used S) (used S1) G G1 w w1) : ∀ {ps : List (Sh × Bool)} {vs : List V} {xs : List Value}, SRs S G w vs xs → LentRs G ps vs → LentRs G1 ps vs
  | [], _, _, _, _ => trivial
  | (s, b) :: r, v :: vs, xs, hs, hl => by
    cases xs with
    | nil => exact hs.elim
    | cons xv xs =>
    refine ⟨fun hro => ?_, LentRs.keep (xs := xs) h hs.2 hl.2⟩
    obtain ⟨c, hc, _⟩ := hs.1.solid (LentR.solid hro (hl.1 hro))
    exact LentR.keep h s hc (hl.1 hro)
  | _ :: _, [], _, _, hl => hl.elim

theorem castV_fits {t : Ty} {v : V} {x : t.I} (h : (castV t v).run S = some (x, S1)) : fits t v = true := by
  obtain ⟨rfl, _⟩ := AM.of_castV h
  exact fits_self _ _
theorem peekV_fits {st : Bool} : ∀ {t : Ty} {S S1 : St} {v : V} {x : t.I}, (peekV st t v).run S = some (x, S1) → fits t v = true
  | .int _, _, _, _, _, h => castV_fits h
  | .bool, _, _, _, _, h => castV_fits h
  | .str, _, _, _, _, h => castV_fits h
  | .err, _, _, _, _, h => castV_fits h
  | .unit, _, _, _, _, h => castV_fits h
  | .fn, _, _, _, _, h => castV_fits h
  | .arr _ _, _, _, _, _, h => castV_fits h
  | .slc t, S, S1, v, x, h => by
    simp only [peekV, peek] at h
    split at h
    · rfl
    · split at h
      · rename_i hu
        subst hu
        exact fits_self _ _
      · cases h
    · rfl
    · cases h
  | .pair a b, S, S1, v, x, h => by
    unfold peekV at h
    split at h
    · split at h
      · rename_i hu
        subst hu
        exact fits_self _ _
      · cases h
    · obtain ⟨x1, s1, h1, h2⟩ := AM.of_bind h
      obtain ⟨x2, s2, h3, h4⟩ := AM.of_bind h2
      simp [fits, peekV_fits h1, peekV_fits h3]
    · cases h
  | .ptr t, S, S1, v, x, h => by
    unfold peekV at h
    split at h
    · split at h
      · rename_i hu
        subst hu
        exact fits_self _ _
      · cases h
    · rfl
    · cases h

theorem peeks_sound {st : Bool} : ∀ (ps : List (Sh × Bool)) {S S' : St} {vs : List V} {xs : List Value} {x y : (argTy ps).I} {F : List Nat}, Mem E S G w → SRs S G w vs xs → PackR w G.ok ps x xs F → (peeks st ps vs x).run S = some (y, S') → S' = S ∧ ArgsR w (okL S G st) ps y xs F
  | [], S, S', vs, xs, x, y, F, M, hs, hp, hr => by
    obtain ⟨_, rfl⟩ := AM.of_pure hr
    exact ⟨rfl, hp⟩
  | (s, b) :: r, _, _, [], _, _, _, _, _, _, _, hr => by cases hr
  | (s, b) :: r, S, S', v :: vs, xs, x, y, F, M, hs, hp, hr => by
    cases xs with
    | nil => exact hs.elim
    | cons xv xs =>
    obtain ⟨v0, vs', F1, F2, e1, e2, h0, h1, h2⟩ := hp
    injection e1 with e1 e1'
    subst e1; subst e1'
    unfold peeks at hr
    obtain ⟨z, s1, h3, h4⟩ := AM.of_bind hr
    obtain ⟨z', s2, h5, h6⟩ := AM.of_bind h4
    obtain ⟨rfl, rfl⟩ := AM.of_pure h6
    cases hro : s.isRo with
    | true =>
      rw [hro] at h3
      have hfit := peekV_fits h3
      obtain ⟨c, hc, ec⟩ := hs.1.solid (by cases v <;> first | rfl | (cases hty : s.ty <;> rw [hty] at hfit <;> cases hfit))
      obtain ⟨rfl, hrep⟩ := peekV_sound M hc h3
      obtain ⟨rfl, hA⟩ := peeks_sound r M hs.2 h2 h5
      have hF := h0 hro
      refine ⟨rfl, c, xs, F1, F2, ?_, e2, ?_, hA⟩
      · rw [ec, (VR.len hfit hc).2]
        cases s <;> simp [Sh.isRo] at hro
        rfl
      · cases s <;> simp [Sh.isRo] at hro
        simp only [ShR]
        exact ⟨hF, hrep⟩
    | false =>
      rw [hro] at h3
      obtain ⟨rfl, rfl⟩ := AM.of_pure h3
      obtain ⟨rfl, hA⟩ := peeks_sound r M hs.2 h2 h5
      obtain ⟨c, ec, hS⟩ := h1 hro
      exact ⟨rfl, c, xs, F1, F2, by rw [ec], e2, hS.mono fun b hb => .inl hb, hA⟩

theorem backs_sound : ∀ (ps : List (Sh × Bool)) {vs : List V} {xs : List Value} {S S' : St} {G : Gh} {o : (outTy ps).I} {F : List Nat} {c c' : Nat}, Mem E S G w → Free E S G w F → SRs S G w vs xs → LentRs G ps vs → OutR w G.ok ps o xs F → (backs ps vs o c).run S = some (c', S') → ∃ G', Gave E S G w S' G' F
  | [], vs, xs, S, S', G, o, F, c, c', M, f, hs, hl, ho, hr => by
    obtain ⟨_, rfl⟩ := AM.of_pure hr
    have : F = [] := ho
    subst this
    exact ⟨G, Gave.refl M⟩
  | (s, true) :: r, [], _, _, _, _, _, _, _, _, _, _, _, _, _, hr => by cases hr
  | (s, false) :: r, [], _, _, _, _, _, _, _, _, _, _, _, _, _, hr => by cases hr
  | (s, false) :: r, v :: vs, xs, S, S', G, o, F, c, c', M, f, hs, hl, ho, hr => by
    obtain ⟨x0, xs', rfl, ho⟩ := ho
    exact backs_sound r M f hs.2 hl.2 ho hr
  | (s, true) :: r, v :: vs, xs, S, S', G, o, F, c, c', M, f, hs, hl, ho, hr => by
    obtain ⟨cs, xs', F1, F2, rfl, rfl, hS, ho⟩ := ho
    unfold backs at hr
    obtain ⟨c1, s1, h1, h2⟩ := AM.of_bind hr
    have step : ∃ G1, Gave E S G w s1 G1 F1 := by
      cases hro : s.isRo with
      | true =>
        cases s <;> simp [Sh.isRo] at hro
        simp only [back] at h1
        obtain ⟨_, rfl⟩ := AM.of_pure h1
        simp only [ShR] at hS
        rw [hS.1]
        exact ⟨G, Gave.refl M⟩
      | false =>
        obtain ⟨c0, hc0, ec⟩ := hs.1.solid (LentR.solid hro (hl.1 hro))
        obtain ⟨l1, l2⟩ := LentR.len s hc0 (hl.1 hro)
        rw [l2] at ec
        have e := ofCells_inj ec.symm (fun h => by rw [l1]; exact Sh.size_of_agg s h) (fun h => by rw [ShR.len s hS]; exact Sh.size_of_agg s h)
        subst e
        exact back_sound s M f.sub.1 hc0 (hl.1 hro) hS h1
    obtain ⟨G1, g1⟩ := step
    have hs1 := hs.2.keep g1.keeps
    have hl1 := LentRs.keep g1.keeps hs.2 hl.2
    obtain ⟨G2, g2⟩ := backs_sound r g1.mem (g1.free f) hs1 hl1 (ho.mono fun b hb => by rw [g1.ok]; exact hb) h2
    exact ⟨G2, g1.trans g2⟩

theorem unpacks_sound : ∀ (rs : List Sh) {S S' : St} {G : Gh} {r : (resTy rs).I} {xs : List Value} {F : List Nat} {c c' : Nat} {ys : List V}, Mem E S G w → Free E S G w F → ResR w G.ok rs r xs F → (unpacks rs r c).run S = some ((ys, c'), S') → ∃ G', Gave E S G w S' G' F ∧ SRs S' G' w ys xs ∧ ys.all V.solid = true
  | [], S, S', G, r, xs, F, c, c', ys, M, f, h, hr => by
    obtain ⟨e, rfl⟩ := AM.of_pure hr
    injection e with e1 e2
    subst e1; subst e2
    obtain ⟨rfl, rfl⟩ := h
    exact ⟨G, Gave.refl M, trivial, rfl⟩
  | s :: rs, S, S', G, r, xs, F, c, c', ys, M, f, h, hr => by
    obtain ⟨cs, xs', F1, F2, rfl, rfl, hS, h⟩ := h
    unfold unpacks at hr
    obtain ⟨v, s1, h1, h2⟩ := AM.of_bind hr
    obtain ⟨v2, s2, h3, h4⟩ := AM.of_bind h2
    obtain ⟨e, rfl⟩ := AM.of_pure h4
    injection e with e1 e2
    subst e1; subst e2
    obtain ⟨v, c1⟩ := v
    obtain ⟨v2, c2⟩ := v2
    obtain ⟨G1, g1, hv, _, hag⟩ := unpack_sound s M f.sub.1 hS h1
    obtain ⟨G2, g2, hs, hsol⟩ := unpacks_sound rs g1.mem (g1.free f) (h.mono fun b hb => by rw [g1.ok]; exact hb) h3
    have hv2 := hv.keep g2.keeps
    refine ⟨G2, g1.trans g2, ⟨by have := hv2.sr; rwa [hag] at this, hs⟩, ?_⟩
    simp only [List.all_cons, hsol, Bool.and_true]
    cases v <;> first | rfl | exact absurd hv (by simp [VR])

theorem freeze_sound (M : Mem E S G w) {v y : V} {x : Value} (hv : SR (used S) G w v x) (hs : v.solid = true) (hr : (freeze v).run S = some (y, S1)) : ∃ G1, Mem E S1 G1 w ∧ Keeps (used S) (used S1) G G1 w w ∧ S1.tm = S.tm ∧ SR (used S1) G1 w y x ∧ y.solid = true := by
  unfold freeze at hr
  split at hr
  · rename_i i
    simp only [AM.run] at hr
    split at hr
    · rename_i d t l ho
      simp only [AM.run, Option.some.injEq, Prod.mk.injEq] at hr
      obtain ⟨rfl, rfl⟩ := hr
      obtain ⟨hTk, hrep, _⟩ := Took.row M ho
      obtain ⟨M1, K1⟩ := hTk.mem.thaw hTk.free.own hTk.free.nl
      obtain ⟨c, hc, e⟩ := hv
      simp only [VR] at hc
      refine ⟨_, M1, hTk.keeps.trans K1, rfl, ⟨[G.hd i], by simp only [VR]; exact hrep, by rw [e, hc.2.2]; rfl⟩, rfl⟩
    · cases hr
  · obtain ⟨rfl, rfl⟩ := AM.of_pure hr
    exact ⟨G, M, Keeps.refl _ _ _, rfl, hv, hs⟩
theorem freezes_sound : ∀ {vs ys : List V} {xs : List Value} {S S1 : St} {G : Gh}, Mem E S G w → SRs S G w vs xs → vs.all V.solid = true → (freezes vs).run S = some (ys, S1) → ∃ G1, Mem E S1 G1 w ∧ Keeps (used S) (used S1) G G1 w w ∧ S1.tm = S.tm ∧ SRs S1 G1 w ys xs ∧ ys.all V.solid = true
  | [], ys, xs, S, S1, G, M, hs, _, hr => by
    obtain ⟨rfl, rfl⟩ := AM.of_pure hr
    exact ⟨G, M, Keeps.refl _ _ _, rfl, hs, rfl⟩
  | v :: vs, ys, xs, S, S1, G, M, hs, hsol, hr => by
    cases xs with
    | nil => exact hs.elim
    | cons x xs =>
    simp only [List.all_cons, Bool.and_eq_true] at hsol
    unfold freezes at hr
    obtain ⟨y, s1, h1, h2⟩ := AM.of_bind hr
    obtain ⟨r, s2, h3, h4⟩ := AM.of_bind h2
    obtain ⟨rfl, rfl⟩ := AM.of_pure h4
    obtain ⟨G1, M1, K1, t1, hy, sy⟩ := freeze_sound M hs.1 hsol.1 h1
    obtain ⟨G2, M2, K2, t2, hr2, sr⟩ := freezes_sound M1 (hs.2.keep K1) hsol.2 h3
    exact ⟨G2, M2, K1.trans K2, t2.trans t1, ⟨hy.keep K2, hr2⟩, by simp [sy, sr]⟩
end Go.Fw

/- Calls of functions. -/
namespace Go.Fw
variable {P : Program} {T : Nat → Option TI} {C : Nat → Inst} {E : Env} {S S' S1 S2 : St} {G G1 : Gh} {w w1 : World} {a : Act}

def resV : List Value → Value
  | [x] => x
  | xs => .tuple xs.toArray

def Enters (P : Program) (f : FuncId) (args : Array Value) (w : World) (R : Value → World → Prop) : Prop :=
  match (callFunc f args).run P w with
  | .ok (.enter g args') w' => Calls P g args' w' (fun e w'' => match e with | .returned v => R v w'' | _ => False)
  | .ok (.value v) w' => R v w'
  | .ok (.row row args') w' => Rows P row args' w' R
  | _ => False

theorem Enters.mono {f : FuncId} {args : Array Value} {R R' : Value → World → Prop} (h : Enters P f args w R) (hr : ∀ v w', R v w' → R' v w') : Enters P f args w R' := by
  unfold Enters at h ⊢
  split at h
  · exact Calls.mono h fun e w'' he => by cases e <;> first | exact hr _ _ he | exact he
  · exact hr _ _ h
  · exact Rows.mono h hr
  · exact h.elim

def Post (w : World) (okc : Nat → Prop) (Fs : List Nat) (ps : List (Sh × Bool)) (rs : List Sh) (r : (resTy rs).I) (o : (outTy ps).I) (vals : List Value) (rv : Value) (w' : World) : Prop :=
  ∃ (xs : List Value) (Fr Fo : List Nat) (ok' : Nat → Prop), rv = resV xs ∧ ResR w' ok' rs r xs Fr ∧ OutR w' ok' ps o vals Fo ∧ (Fr ++ Fo).Nodup ∧
    (∀ b ∈ Fr ++ Fo, b < w'.heap.size ∧ (w.heap.size ≤ b ∨ b ∈ Fs)) ∧ (∀ b, ok' b → b < w'.heap.size ∧ (okc b ∨ w.heap.size ≤ b ∨ b ∈ Fs) ∧ b ∉ Fr ++ Fo) ∧ KeptBut (· ∈ Fs) w w'

/-- What a reading of the functions must keep to. -/
def Contract (P : Program) (C : Nat → Inst) (L : Laid) (F : CallF C) : Prop :=
  ∀ (j : Nat) (x : (argTy (C j).params).I) (r : (resTy (C j).res).I) (o : (outTy (C j).params).I) (w : World) (vals : List Value) (okc : Nat → Prop) (Fs : List Nat), F j x = some (r, o) → ArgsR w okc (C j).params x vals Fs → Fs.Nodup → (∀ b ∈ Fs, b < w.heap.size ∧ ¬ okc b) → (∀ b, okc b → b < w.heap.size) → L.on w → (∀ b ∈ Fs, ¬ L.bl b) →
    Enters P (C j).f vals.toArray w (Post w okc Fs (C j).params (C j).res r o vals)

def Gh.moreP (G : Gh) (p : Nat → Prop) : Gh := { G with ok := fun b => G.ok b ∨ p b }
theorem Mem.thawP (M : Mem E S G w) {p : Nat → Prop} (h1 : ∀ b, p b → b < w.heap.size ∧ (E.w0.heap.size ≤ b ∨ b ∈ E.md)) (h2 : ∀ i, live S i → ∀ b ∈ G.fp i, ¬ p b) :
    Mem E S (G.moreP p) w ∧ Keeps (used S) (used S) G (G.moreP p) w w := by
  have K : Keeps (used S) (used S) G (G.moreP p) w w := ⟨fun _ h => h, fun _ _ => rfl, fun _ _ => rfl, fun _ _ => rfl, fun b hb _ => ⟨.inl hb, rfl⟩, Nat.le_refl _⟩
  refine ⟨⟨fun i o hi => ObjR.keep K (by unfold used; rw [hi]; simp) rfl (fun _ _ => rfl) (M.obj i o hi), M.dj, M.nd, M.own, ?_, M.fr, M.hds⟩, K⟩
  rintro b (hb | hb)
  · exact M.okl b hb
  · exact ⟨(h1 b hb).1, .inr (h1 b hb).2, fun i hi hb' => h2 i hi b hb' hb⟩

theorem SRs.one {v : V} {xs : List Value} (h : SRs S G w [v] xs) : ∃ x, xs = [x] ∧ SR (used S) G w v x := by
  match xs, h with
  | [x], h => exact ⟨x, rfl, h.1⟩
  | [], h => exact h.elim
  | _ :: _ :: _, h => exact h.2.elim

theorem callV_sound {F : CallF C} (hC : Contract P C E.L F) {I : Inst} {rid ix : Nat} {f : FuncId} {vs : List V} {xs : List Value} {v : V} (M : Mem E S G w) (hs : SRs S G w vs xs) (hr : (callV C F I rid ix f vs).run S = some (v, S')) :
    Enters P f xs.toArray w (fun x w1 => ∃ G1, Mem E S' G1 w1 ∧ Keeps (used S) (used S') G G1 w w1 ∧ S'.tm = S.tm ∧ SR (used S') G1 w1 v x) := by
  unfold callV at hr
  obtain ⟨hm, hr1⟩ := AM.of_must_bind hr
  clear hr
  generalize hj : I.callee rid ix = j at hm hr1
  simp only [Bool.and_eq_true, decide_eq_true_eq] at hm
  obtain ⟨hfj, hcl⟩ := hm
  obtain ⟨x0, s1, h1, hr2⟩ := AM.of_bind hr1
  obtain ⟨x1, s2, h2, hr3⟩ := AM.of_bind hr2
  obtain ⟨⟨r, o⟩, h3, hr4⟩ := AM.of_ask hr3
  obtain ⟨c, s3, h4, hr5⟩ := AM.of_bind hr4
  obtain ⟨ys, s4, h5, hr6⟩ := AM.of_bind hr5
  obtain ⟨zs, s5, h6, hr7⟩ := AM.of_bind hr6
  obtain ⟨ys, c2⟩ := ys
  clear hr1 hr2 hr3 hr4 hr5 hr6
  obtain ⟨Fs, K, hTk, hP, hL⟩ := packs_sound (C j).params M hs h1
  obtain ⟨M1, K1⟩ := hTk.mem.thaw hTk.free.sub.2.own hTk.free.sub.2.nl
  have KA := hTk.keeps.trans K1
  have hs1 := hs.keep KA
  have f1 : Free E s1 (G.more K) w Fs := by
    refine ⟨hTk.free.sub.1.nd, hTk.free.sub.1.own, fun b hb hok => ?_, hTk.free.sub.1.nl⟩
    rcases hok with hok | hok
    · exact hTk.free.sub.1.nok b hb hok
    · exact (List.nodup_append.1 hTk.free.nd).2.2 b hb b hok rfl
  obtain ⟨e2, hA⟩ := peeks_sound (C j).params M1 hs1 hP h2
  subst e2
  have hent := hC j x1 r o w xs (okL s2 (G.more K) (C j).strict) Fs h3 hA f1.nd (fun b hb => ⟨(f1.own b hb).1, fun hok => by
    rcases hok with hok | ⟨_, i, hi, hb'⟩
    · exact f1.nok b hb hok
    · exact f1.nl i hi b hb' hb⟩) (fun b hok => by
    rcases hok with hok | ⟨_, i, hi, hb'⟩
    · exact (M1.okl b hok).1
    · exact (M1.own i hi b hb').1) (Laid.on_kept E.on M1.fr E.md_bl) (fun b hb hbl => by
    rcases (f1.own b hb).2 with h | h
    · exact absurd (Laid.lt E.on hbl) (Nat.not_lt.2 h)
    · exact E.md_bl b h hbl)
  rw [hfj] at hent
  refine hent.mono ?_
  rintro rv w' ⟨rs, Fr, Fo, ok', rfl, hR, hO, hnd, hown, hok, hk⟩
  obtain ⟨M2, K2⟩ := M1.world hk (fun b _ hb => (f1.own b hb).2) (fun i hi b hb hm => f1.nl i hi b hb hm) (fun b hb hm => f1.nok b hm hb)
  have hw0 : E.w0.heap.size ≤ w.heap.size := M1.fr.size
  have hfree : ∀ G2 : Gh, G2.fp = (G.more K).fp → (∀ b ∈ Fr ++ Fo, ¬ G2.ok b) → Free E s2 G2 w' (Fr ++ Fo) := by
    intro G2 hfp hno
    refine ⟨hnd, fun b hb => ⟨(hown b hb).1, ?_⟩, hno, fun i hi b hb hm => ?_⟩
    · rcases (hown b hb).2 with h | h
      · exact .inl (Nat.le_trans hw0 h)
      · exact (f1.own b h).2
    · rw [hfp] at hb
      rcases (hown b hm).2 with h | h
      · have := (M1.own i hi b hb).1; omega
      · exact f1.nl i hi b hb h
  have hnok : ∀ b ∈ Fr ++ Fo, ¬ (G.more K).ok b := by
    intro b hb hok'
    rcases (hown b hb).2 with h | h
    · have := (M1.okl b hok').1; omega
    · exact f1.nok b h hok'
  have hG2 : ∃ G2, Mem E s2 G2 w' ∧ Keeps (used s2) (used s2) (G.more K) G2 w' w' ∧ ResR w' G2.ok (C j).res r rs Fr ∧ OutR w' G2.ok (C j).params o xs Fo ∧ Free E s2 G2 w' (Fr ++ Fo) := by
    cases hst : (C j).strict with
    | false =>
      simp only [hst, Bool.false_or, Bool.and_eq_true] at hcl
      exact ⟨_, M2, Keeps.refl _ _ _, hR.closed hcl.1, hO.closed hcl.2, hfree _ rfl hnok⟩
    | true =>
      have hp1 : ∀ b, (ok' b ∧ ¬ (G.more K).ok b) → w.heap.size ≤ b ∨ b ∈ Fs := by
        rintro b ⟨h1, h2⟩
        rcases (hok b h1).2.1 with h | h
        · rw [hst] at h
          rcases h with h | ⟨h, _⟩
          · exact absurd h h2
          · cases h
        · exact h
      obtain ⟨M3, K3⟩ := M2.thawP (p := fun b => ok' b ∧ ¬ (G.more K).ok b) (fun b hb => ⟨(hok b hb.1).1, by
        rcases hp1 b hb with h | h
        · exact .inl (Nat.le_trans hw0 h)
        · exact (f1.own b h).2⟩) (fun i hi b hb hp => by
        rcases hp1 b hp with h | h
        · have := (M1.own i hi b hb).1; omega
        · exact f1.nl i hi b hb h)
      have hsub : ∀ b, ok' b → ((G.more K).moreP fun b => ok' b ∧ ¬ (G.more K).ok b).ok b := fun b hb => by
        by_cases h : (G.more K).ok b
        · exact .inl h
        · exact .inr ⟨hb, h⟩
      refine ⟨_, M3, K3, hR.mono hsub, hO.mono hsub, hfree _ rfl fun b hb h => ?_⟩
      rcases h with h | h
      · exact hnok b hb h
      · exact (hok b h.1).2.2 hb
  obtain ⟨G2, M3, K3, hR, hO, f2⟩ := hG2
  have KB := KA.trans (K2.trans K3)
  obtain ⟨G3, g3⟩ := backs_sound (C j).params M3 f2.sub.2 (hs.keep KB) (LentRs.keep KB hs hL) hO h4
  have f3 : Free E s3 G3 w' Fr := g3.free (f2.perm (List.perm_append_comm))
  obtain ⟨G4, g4, hys, hsol⟩ := unpacks_sound (C j).res g3.mem f3 (hR.mono fun b hb => by rw [g3.ok]; exact hb) h5
  have KC := KB.trans (g3.keeps.trans g4.keeps)
  have hfin : ∃ G5, Mem E s5 G5 w' ∧ Keeps (used s4) (used s5) G4 G5 w' w' ∧ s5.tm = s4.tm ∧ SRs s5 G5 w' zs rs ∧ zs.all V.solid = true := by
    split at h6
    · exact freezes_sound g4.mem hys hsol h6
    · obtain ⟨rfl, rfl⟩ := AM.of_pure h6
      exact ⟨G4, g4.mem, Keeps.refl _ _ _, rfl, hys, hsol⟩
  obtain ⟨G5, M5, K5, t5, hzs, hsol5⟩ := hfin
  have tt : s5.tm = S.tm := by rw [t5, g4.tm, g3.tm, hTk.tm]
  split at hr7
  · obtain ⟨rfl, rfl⟩ := AM.of_pure hr7
    obtain ⟨x, rfl, hx⟩ := hzs.one
    exact ⟨G5, M5, KC.trans K5, tt, hx⟩
  · rename_i hne
    obtain ⟨rfl, rfl⟩ := AM.of_pure hr7
    have hres : resV rs = .tuple rs.toArray := by
     match rs, zs, hzs, hne with
      | [], _, _, _ => rfl
      | [_], [z], _, hne => exact absurd rfl (hne z)
      | [_], [], h, _ => exact h.elim
      | [_], _ :: _ :: _, h, _ => exact h.2.elim
      | _ :: _ :: _, _, _, _ => rfl
    refine ⟨G5, M5, KC.trans K5, tt, ?_⟩
    rw [hres]
    exact TR.of (mkchain_sound hsol5 (by simpa using hzs))

theorem chainRs : ∀ {t : V} {vs : List Value}, CR (used S) G w t vs → SRs S G w (chain t) vs
  | .pr a b, vs, h => by
    simp only [CR] at h
    obtain ⟨c, r, rfl, h1, h2⟩ := h
    exact ⟨h1.sr, chainRs h2⟩
  | .nil, vs, h => by
    simp only [CR] at h
    subst h
    trivial
  | .undef, _, h => by simp [CR] at h
  | .val _ _, _, h => by simp [CR] at h
  | .hdr _, _, h => by simp [CR] at h
  | .adr _ _, _, h => by simp [CR] at h
  | .pin _, _, h => by simp [CR] at h
  | .clo _ _ _, _, h => by simp [CR] at h
  | .tup _, _, h => by simp [CR] at h
theorem SRs.append : ∀ {vs us : List V} {xs ys : List Value}, SRs S G w vs xs → SRs S G w us ys → SRs S G w (vs ++ us) (xs ++ ys)
  | [], _, [], _, _, h => h
  | _ :: _, _, _ :: _, _, ⟨h1, h2⟩, h => ⟨h1, SRs.append h2 h⟩
  | [], _, _ :: _, _, h, _ => h.elim
  | _ :: _, _, [], _, h, _ => h.elim

/-! ### One operation -/
theorem wp_value {o : Oper} {m : Sem Value} {v : V} {u : Unit} (Iv : Inv E S G a w) (he : (execOp a.eval o).run P w = (m.run P w).andThen fun x w' => .ok (.value x) w') (hs : Step P E S G w S1 v m) (hret : (ret E.nt (E.pins.map (·.1)) o.dst v).run S1 = some (u, S')) {K : Act → World → Prop} {Q : Exit → Act → World → Prop} (hK : ∀ a1 w1 G1, Inv E S' G1 a1 w1 → K a1 w1) : o.wp P a w K Q := by
  obtain ⟨x, w1, G1, hrun, M1, K1, ht, hv⟩ := hs
  unfold Oper.wp
  rw [he, hrun]
  exact hK _ _ G1 (ret_sound Iv M1 K1 ht hv hret)

theorem wp_enters {o : Oper} {f : FuncId} {args : Array Value} {R : Value → World → Prop} (he : (execOp a.eval o).run P w = (callFunc f args).run P w) (h : Enters P f args w R) {K : Act → World → Prop} {Q : Exit → Act → World → Prop} (hK : ∀ x w1, R x w1 → K (a.put o.dst x) w1) : o.wp P a w K Q := by
  unfold Oper.wp
  rw [he]
  unfold Enters at h
  split at h
  · rename_i hc
    rw [hc, Oper.upon_enter]
    refine Calls.mono h fun e w'' he => ?_
    cases e with
    | returned v => exact hK _ _ he
    | panicked _ => exact he.elim
    | outgrown => exact he.elim
  · rename_i hc
    rw [hc]
    exact hK _ _ h
  · rename_i hc
    rw [hc]
    exact Rows.mono h fun _ _ he => hK _ _ he
  · exact h.elim
end Go.Fw
