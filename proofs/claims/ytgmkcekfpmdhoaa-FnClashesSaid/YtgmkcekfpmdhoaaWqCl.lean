/- PhasesFor of the program walked by hand: its memo of clashes is a map. -/
import Derived.Test.YtgmkcekfpmdhoaaEPh
import Derived.ProofKit
import Derived.Maps.Own
import Derived.DeepKeys4
import Derived.WalkKit
import Derived.OwnWalk
import Derived.Deep.RegionHeld3
import Derived.IntWalk
import Derived.Deep.QuietTactic
import Derived.BigQuiet
import Derived.Test.YtgmkcekfpmdhoaaLCl
namespace Go.Proofs.Ytgmkcekfpmdhoaa
section
open Go Go.Fw Go.Proofs Go.RowKit Go.Maps
def key3 (k p b : Int) : Value := .agg #[.int .i64 k, .int .i64 p, .int .i64 b]
theorem laidOk : laidOutB Try.prog = true := by kernel_rfl
theorem key_law : Keyed Try.prog 102 := Keyed.of_law (deep_law_laid laidOk (m := Try.prog.types.size + 1) (of_decide_eq_true (by kernel_rfl)) (of_decide_eq_true (by kernel_rfl)) (by kernel_rfl) (by kernel_rfl))
theorem wf64 {x : Int} (h : 0 ≤ x ∧ x ≤ 1000) : (Lit.int .i64 x).wf = true := WalkArith.wf_i64 (by omega)
theorem cells102 : Try.prog.cellsOf 102 = 3 := by kernel_rfl
theorem cellsI : Try.prog.cellsOf 2 = 1 := by kernel_rfl
theorem types_size : ∃ n, Try.prog.types.size + 1 = n + 2 := ⟨Try.prog.types.size - 1, by kernel_rfl⟩
theorem key_lit {k p b : Int} (hk : 0 ≤ k ∧ k ≤ 1000) (hp : 0 ≤ p ∧ p ≤ 1000) (hb : 0 ≤ b ∧ b ≤ 1000) : ∃ l, keyOf Try.prog 102 (key3 k p b) = some l := by
  obtain ⟨n, hn⟩ := types_size
  have h1 := wf64 hk
  have h2 := wf64 hp
  have h3 := wf64 hb
  have hkt : Try.prog.keyType 102 = true := by kernel_rfl
  unfold keyOf key3
  rw [Try.underlying102]
  simp only [hkt, Bool.true_and]
  have hf : Value.formed Try.prog 102 (.agg #[.int .i64 k, .int .i64 p, .int .i64 b]) = true := by
    unfold Value.formed
    simp only [Try.underlying102, cells102]
    rfl
  rw [hf, if_pos rfl, hn]
  simp [Program.keyLits, Try.underlying102, cells102, cellsI, h1, h2, h3, Value.cells, List.range, List.range.loop]
/-- A map whose entries are true of R. -/
def MapR (W : World) (b : Nat) (R : Value → Bool → Prop) : Prop := ∃ es clock, W.heap[b]? = some (.map es clock) ∧ ∀ e ∈ es.toList, (∃ l, keyOf Try.prog 102 e.key = some l) ∧ ∃ v, e.val = .bool v ∧ R e.key v
theorem map_look {W : World} {b : Nat} {R : Value → Bool → Prop} (h : MapR W b R) {key : Value} {kl : Lit} (hkey : keyOf Try.prog 102 key = some kl) :
    ∃ v ok, (Instr.lookup 65 (.map (some b)) key true).run Try.prog W = .ok (.tuple #[.bool v, .bool ok]) W ∧ (ok = true → R key v) ∧ (ok = false → v = false) := by
  obtain ⟨es, clock, hb, he⟩ := h
  rcases key_law.find W hkey es.toList (fun e hm => (he e hm).1) with ⟨h1, _⟩ | ⟨j, e0, h1, h2, h3⟩
  · exact ⟨false, false, by simp [Instr.lookup, run_underlying Try.underlying65, MapKept.run_getObj_map hb, key_law.check W _ hkey, h1, Try.zeroValue4, Result.andThen], by simp, fun _ => rfl⟩
  · obtain ⟨_, v, hv, hR⟩ := he e0 (List.mem_of_getElem? h2)
    exact ⟨v, true, by simp [Instr.lookup, run_underlying Try.underlying65, MapKept.run_getObj_map hb, key_law.check W _ hkey, h1, Result.andThen, hv], fun _ => h3 ▸ hR, by simp⟩
theorem map_store {W : World} {b : Nat} {R : Value → Bool → Prop} (h : MapR W b R) {key : Value} {kl : Lit} (hkey : keyOf Try.prog 102 key = some kl) {v : Bool} (hR : R key v) :
    ∃ W', (Instr.mapUpdate 65 (.map (some b)) key (.bool v)).run Try.prog W = .ok () W' ∧ MapR W' b R ∧ W'.os = W.os ∧ W'.tape = W.tape ∧ W'.output = W.output ∧ W'.heap.size = W.heap.size ∧ ∀ i, i ≠ b → W'.heap[i]? = W.heap[i]? := by
  obtain ⟨es, clock, hb, he⟩ := h
  have key : ∀ es' clock', (∀ e ∈ es'.toList, (∃ l, keyOf Try.prog 102 e.key = some l) ∧ ∃ v, e.val = .bool v ∧ R e.key v) → MapR (ChangeMaps.setBlock W b (.map es' clock')) b R ∧ (ChangeMaps.setBlock W b (.map es' clock')).heap.size = W.heap.size ∧ ∀ i, i ≠ b → (ChangeMaps.setBlock W b (.map es' clock')).heap[i]? = W.heap[i]? := fun es' clock' h' =>
    ⟨⟨es', clock', ChangeMaps.heap_setBlock_same hb _, h'⟩, by simp [ChangeMaps.setBlock], fun i hi => ChangeMaps.heap_setBlock_other hb _ hi⟩
  rcases key_law.find W hkey es.toList (fun e hm => (he e hm).1) with ⟨h1, _⟩ | ⟨j, e0, h1, h2, h3⟩
  · obtain ⟨k1, k2, k3⟩ := key (es.push ⟨_, .bool v, clock⟩) (clock + 1) (fun e hm => by
      simp only [Array.toList_push, List.mem_append, List.mem_singleton] at hm
      rcases hm with hm | rfl
      · exact he e hm
      · exact ⟨⟨_, hkey⟩, v, rfl, hR⟩)
    exact ⟨_, by simp [Instr.mapUpdate, run_underlying Try.underlying65, MapKept.run_getObj_map hb, key_law.check W false hkey, h1, MapKept.run_setObj_map _ hb, Result.andThen, ChangeMaps.setBlock], k1, rfl, rfl, rfl, k2, k3⟩
  · have hj : es[j]? = some e0 := by rw [← Array.getElem?_toList]; exact h2
    subst h3
    have hst := key_law.stays W hkey
    obtain ⟨k1, k2, k3⟩ := key (es.modify j fun e => { e with key := e0.key, val := .bool v }) clock (fun e hm => by
      obtain ⟨i, hi⟩ := List.mem_iff_getElem?.1 hm
      rw [Array.getElem?_toList, Array.getElem?_modify] at hi
      split at hi
      · cases hi' : es[i]? with
        | none => rw [hi'] at hi; cases hi
        | some e1 =>
          rw [hi'] at hi
          injection hi with hi
          subst hi
          exact ⟨⟨_, hkey⟩, v, rfl, hR⟩
      · exact he e (List.mem_iff_getElem?.2 ⟨i, by rw [Array.getElem?_toList]; exact hi⟩))
    exact ⟨_, by simp [Instr.mapUpdate, run_underlying Try.underlying65, MapKept.run_getObj_map hb, key_law.check W false hkey, h1, hj, hst, MapKept.run_setObj_map _ hb, Result.andThen, ChangeMaps.setBlock], k1, rfl, rfl, rfl, k2, k3⟩
end
end Go.Proofs.Ytgmkcekfpmdhoaa

namespace Go.Proofs.Ytgmkcekfpmdhoaa
section
open Go Go.Fw Go.Proofs Go.RowKit Go.Maps
open Go.Cams (Sft SftTy withP lift codeR inR gSf ck2 ckB skL skP psI pfI)
theorem fw_calls {P : Program} {T : Nat → Option TI} {C : Nat → Inst} {L : Laid} (hT : TsOk P T) (hI : ∀ j, InstOk P (C j)) (hX : ∀ j, ExtOk P L (C j)) (hm : P.follows .mixedOrders = true) {j : Nat} (hroot : (C j).ext = none) {x : (argTy (C j).params).I} {r : (resTy (C j).res).I} {o : (outTy (C j).params).I} (hE : Evt (fun n => call T C n j x) (r, o)) {w : World} {vals : List Value} {okc : Nat → Prop} {Fs : List Nat} (hA : ArgsR w okc (C j).params x vals Fs) (hnd : Fs.Nodup) (hF : ∀ b ∈ Fs, b < w.heap.size ∧ ¬ okc b) (hok : ∀ b, okc b → b < w.heap.size) (hon : L.on w) (hbl : ∀ b ∈ Fs, ¬ L.bl b) : Calls P (C j).f vals.toArray w fun e w' => ∃ v, e = .returned v ∧ Post w okc Fs (C j).params (C j).res r o vals v w' := by
  obtain ⟨N, hN⟩ := hE
  have hent := call_sound hT hI hX hm N j x r o w vals okc Fs (hN N (Nat.le_refl _)) hA hnd hF hok hon hbl
  have hcalls := enters_calls (hI j) hroot hent
  refine Calls.mono hcalls fun e W1 he => ?_
  cases e with
  | panicked _ => exact he.elim
  | outgrown => exact he.elim
  | returned v => exact ⟨v, rfl, he⟩
theorem on_self (w : World) : (Laid.mk w fun _ => False).on w := ⟨KeptBut.refl _ _, fun _ h => h.elim⟩
abbrev KB := KeptBut (fun _ => False)
theorem KB.trans {a b c : World} (h : KB a b) (k : KB b c) : KB a c := KeptBut.trans h k (fun _ h => h) (fun _ _ h => h)
theorem kb_drew (w : World) : KB w w.drew := ⟨rfl, rfl, rfl, Nat.le_refl _, fun _ _ _ => rfl⟩
theorem kb_alloc (w : World) (o : Obj) : KB w (w.alloc o) := ⟨rfl, rfl, rfl, by simp, fun b hb _ => Below.heap_alloc w o b hb⟩
theorem KB.cell {w w' : World} (h : KB w w') {a : Addr} {v : Value} (hc : w.cell? a = some v) : w'.cell? a = some v := by
  have hb := World.block_lt_of_cell? w a hc
  rw [← hc]
  exact World.cell?_of_block (h.heap _ hb (fun h => h))
theorem KB.at {w w' : World} (h : KB w w') {b : Nat} {o : Obj} (hc : w.heap[b]? = some o) : w'.heap[b]? = some o :=
  (h.heap b (Array.getElem?_eq_some_iff.1 hc).1 (fun h => h)).trans hc
theorem Below.kb {n : Nat} {w0 w w' : World} (hn : n ≤ w.heap.size) (h : Below n w0 w) (k : KB w w') : Below n w0 w' :=
  h.trans ⟨k.os, k.tape, k.output, k.size, fun b hb => k.heap b (by omega) (fun h => h)⟩
theorem rep_kb {w w' : World} {t : Ty} {x : t.I} {cs : List Value} {ok : Nat → Prop} (k : KB w w') (h : Rep w ok t x cs) : Rep w' ok t x cs :=
  Rep.keep (fun b hb hlt => ⟨hb, k.heap b hlt (fun h => h)⟩) k.size _ h
/-! ### What the called functions do -/
theorem room_calls (w : World) (a : Int) : Calls Try.prog 33 #[.int .i64 a] w fun e w' => e = .returned (.bool (inR a 0 20000)) ∧ KB w w' := by
  have hA : ArgsR w (fun _ => False) (LPh.C 33).params (a, ()) [.int .i64 a] [] := ⟨[.int .i64 a], [], [], [], rfl, rfl, ⟨rfl, rfl⟩, rfl, rfl⟩
  refine (fw_calls LPh.tsOk LPh.insts (fun j => extOk_none (LPh.noExt j)) (by kernel_rfl) (j := 33) (LPh.noExt 33) (Go.Cams.YtgmkcekfpmdhoaaLPh.e33 a) hA (by simp) (by simp) (fun _ h => h.elim) (on_self w) (by simp)).mono fun e w' ⟨v, he, hp⟩ => ?_
  obtain ⟨xs, Fr, Fo, ok', rfl, hR, hO, hnd, hFr, hok', hk⟩ := hp
  obtain ⟨c1, v1, F1, F2, e1, e2, h1, e5, e6⟩ := hR
  have h1 : F1 = [] ∧ c1 = [.bool (inR a 0 20000)] := h1
  obtain ⟨rfl, rfl⟩ := h1
  exact ⟨by rw [he, e1, e5]; rfl, hk.mono fun b _ h => by simp at h⟩
theorem rng_calls (w : World) (a b c : Int) : Calls Try.prog 34 #[.int .i64 a, .int .i64 b, .int .i64 c] w fun e w' => e = .returned (.bool (inR a b c)) ∧ KB w w' := by
  have hA : ArgsR w (fun _ => False) (LPh.C 34).params (a, b, c, ()) [.int .i64 a, .int .i64 b, .int .i64 c] [] := ⟨[.int .i64 a], _, [], [], rfl, rfl, ⟨rfl, rfl⟩, [.int .i64 b], _, [], [], rfl, rfl, ⟨rfl, rfl⟩, [.int .i64 c], [], [], [], rfl, rfl, ⟨rfl, rfl⟩, rfl, rfl⟩
  refine (fw_calls LPh.tsOk LPh.insts (fun j => extOk_none (LPh.noExt j)) (by kernel_rfl) (j := 34) (LPh.noExt 34) (Go.Cams.YtgmkcekfpmdhoaaLPh.e34 a b c) hA (by simp) (by simp) (fun _ h => h.elim) (on_self w) (by simp)).mono fun e w' ⟨v, he, hp⟩ => ?_
  obtain ⟨xs, Fr, Fo, ok', rfl, hR, hO, hnd, hFr, hok', hk⟩ := hp
  obtain ⟨c1, v1, F1, F2, e1, e2, h1, e5, e6⟩ := hR
  have h1 : F1 = [] ∧ c1 = [.bool (inR a b c)] := h1
  obtain ⟨rfl, rfl⟩ := h1
  exact ⟨by rw [he, e1, e5]; rfl, hk.mono fun b _ h => by simp at h⟩
theorem code_calls (w : World) {okc : Nat → Prop} (hok : ∀ b, okc b → b < w.heap.size) {S : List Sft} (hS : Go.Cams.Small S) {sv : Value} (hrep : Rep w okc (.slc SftTy) S [sv]) (r : Bool) :
    Calls Try.prog 32 #[sv, .bool r] w fun e w' => e = .returned (.tuple #[.int .i64 (codeR S r).1, .int .i64 (codeR S r).2.1]) ∧ KB w w' := by
  have hA : ArgsR w okc (LPh.C 32).params (S, r, ()) [sv, .bool r] [] := ⟨[sv], _, [], [], rfl, rfl, ⟨rfl, hrep⟩, [.bool r], [], [], [], rfl, rfl, ⟨rfl, rfl⟩, rfl, rfl⟩
  refine (fw_calls LPh.tsOk LPh.insts (fun j => extOk_none (LPh.noExt j)) (by kernel_rfl) (j := 32) (LPh.noExt 32) (Go.Cams.YtgmkcekfpmdhoaaLPh.e32 S hS r) hA (by simp) (by simp) hok (on_self w) (by simp)).mono fun e w' ⟨v, he, hp⟩ => ?_
  obtain ⟨xs, Fr, Fo, ok', rfl, hR, hO, hnd, hFr, hok', hk⟩ := hp
  obtain ⟨c1, v1, F1, F2, e1, e2, h1, c2, v2, F3, F4, e3, e4, h2, e5, e6⟩ := hR
  have h1 : F1 = [] ∧ c1 = [.int .i64 (codeR S r).1] := h1
  have h2 : F3 = [] ∧ c2 = [.int .i64 (codeR S r).2.1] := h2
  obtain ⟨rfl, rfl⟩ := h1
  obtain ⟨rfl, rfl⟩ := h2
  exact ⟨by rw [he, e1, e3, e5]; rfl, hk.mono fun b _ h => by simp at h⟩
theorem steps_calls (w : World) {okc : Nat → Prop} (hok : ∀ b, okc b → b < w.heap.size) {c : List Int} {cv : Value} (hrep : Rep w okc (.slc (.int .i16)) c [cv]) :
    Calls Try.prog 48 #[cv] w fun e w' => e = .returned (.int .i64 (c.length : Int)) ∧ KB w w' := by
  have hA : ArgsR w okc (LPh.C 48).params (c, ()) [cv] [] := ⟨[cv], [], [], [], rfl, rfl, ⟨rfl, hrep⟩, rfl, rfl⟩
  refine (fw_calls LPh.tsOk LPh.insts (fun j => extOk_none (LPh.noExt j)) (by kernel_rfl) (j := 48) (LPh.noExt 48) (Go.Cams.YtgmkcekfpmdhoaaLPh.e48 c) hA (by simp) (by simp) hok (on_self w) (by simp)).mono fun e w' ⟨v, he, hp⟩ => ?_
  obtain ⟨xs, Fr, Fo, ok', rfl, hR, hO, hnd, hFr, hok', hk⟩ := hp
  obtain ⟨c1, v1, F1, F2, e1, e2, h1, e5, e6⟩ := hR
  have h1 : F1 = [] ∧ c1 = [.int .i64 (c.length : Int)] := h1
  obtain ⟨rfl, rfl⟩ := h1
  exact ⟨by rw [he, e1, e5]; rfl, hk.mono fun b _ h => by simp at h⟩
theorem lift_calls (w : World) {okc : Nat → Prop} (hok : ∀ b, okc b → b < w.heap.size) {s : Sft} (hg : Go.Cams.Good s) {cs : List Value} (hrep : Rep w okc SftTy s cs) {t p : Int} (t0 : 0 ≤ t) (t1 : t ≤ 20000) (p0 : 0 ≤ p) (p1 : p ≤ 360) :
    Calls Try.prog 70 #[.agg cs.toArray, .int .i64 t, .int .i64 p] w fun e w' => e = .returned (.int .i64 (lift (withP s p) t)) ∧ KB w w' := by
  have hA : ArgsR w okc (LPh.C 70).params (s, t, p, ()) [.agg cs.toArray, .int .i64 t, .int .i64 p] [] := ⟨cs, _, [], [], rfl, rfl, ⟨rfl, hrep⟩, [.int .i64 t], _, [], [], rfl, rfl, ⟨rfl, rfl⟩, [.int .i64 p], [], [], [], rfl, rfl, ⟨rfl, rfl⟩, rfl, rfl⟩
  refine (fw_calls LPh.tsOk LPh.insts (fun j => extOk_none (LPh.noExt j)) (by kernel_rfl) (j := 70) (LPh.noExt 70) (Go.Cams.YtgmkcekfpmdhoaaLPh.e70 hg t0 t1 p0 p1) hA (by simp) (by simp) hok (on_self w) (by simp)).mono fun e w' ⟨v, he, hp⟩ => ?_
  obtain ⟨xs, Fr, Fo, ok', rfl, hR, hO, hnd, hFr, hok', hk⟩ := hp
  obtain ⟨c1, v1, F1, F2, e1, e2, h1, e5, e6⟩ := hR
  have h1 : F1 = [] ∧ c1 = [.int .i64 (lift (withP s p) t)] := h1
  obtain ⟨rfl, rfl⟩ := h1
  exact ⟨by rw [he, e1, e5]; rfl, hk.mono fun b _ h => by simp at h⟩
/-! ### The shafts in memory -/
theorem repL_at {R : Sft → List Value → Prop} (hR : ∀ s c, R s c → c.length = 4) : ∀ {S : List Sft} {es : List Value}, RepL R S es → ∀ {i : Nat} {s : Sft}, S[i]? = some s → ∃ c, R s c ∧ ∀ j v, c[j]? = some v → es[i * 4 + j]? = some v
  | [], _, _, _, _, h => by simp at h
  | u :: l, es, ⟨c, d, e, h1, h2⟩, i, s, h => by
    have hc := hR _ _ h1
    cases i with
    | zero =>
      have : u = s := by simpa using h
      subst this
      refine ⟨c, h1, fun j v hj => ?_⟩
      rw [e, Nat.zero_mul, Nat.zero_add, List.getElem?_append_left (List.getElem?_eq_some_iff.1 hj).1]
      exact hj
    | succ i =>
      obtain ⟨c', h3, h4⟩ := repL_at hR h2 (i := i) (s := s) (by simpa using h)
      refine ⟨c', h3, fun j v hj => ?_⟩
      rw [e, List.getElem?_append_right (by omega), hc, show (i + 1) * 4 + j - 4 = i * 4 + j by omega]
      exact h4 j v hj
theorem rep_sft {w : World} {okc : Nat → Prop} {s : Sft} {c : List Value} (h : Rep w okc SftTy s c) : ∃ cv, c = [.int .i16 s.1, .int .i16 s.2.1, .int .i16 s.2.2.1, cv] ∧ Rep w okc (.slc (.int .i16)) s.2.2.2.1 [cv] := by
  obtain ⟨x1, y1, e1, h1, x2, y2, e2, h2, x3, y3, e3, h3, x4, y4, e4, h4, h5⟩ := h
  have h1 : x1 = [.int .i16 s.1] := h1
  have h2 : x2 = [.int .i16 s.2.1] := h2
  have h3 : x3 = [.int .i16 s.2.2.1] := h3
  have h5 : y4 = [] := h5
  have hl := Rep.len _ h4
  obtain ⟨cv, rfl⟩ : ∃ cv, x4 = [cv] := by
    match x4, hl with
    | [cv], _ => exact ⟨cv, rfl⟩
  subst h1; subst h2; subst h3; subst h5; subst e4; subst e3; subst e2; subst e1
  exact ⟨cv, rfl, h4⟩
/-- A shaft's four cells. -/
structure SfAt (w : World) (okc : Nat → Prop) (a : Addr) (s : Sft) (cv : Value) : Prop where
  c0 : w.cell? a = some (.int .i16 s.1)
  c1 : w.cell? (a.add 1) = some (.int .i16 s.2.1)
  c2 : w.cell? (a.add 2) = some (.int .i16 s.2.2.1)
  c3 : w.cell? (a.add 3) = some cv
  rep : Rep w okc SftTy s [.int .i16 s.1, .int .i16 s.2.1, .int .i16 s.2.2.1, cv]
  cam : Rep w okc (.slc (.int .i16)) s.2.2.2.1 [cv]
theorem SfAt.kb {w w' : World} {okc : Nat → Prop} {a : Addr} {s : Sft} {cv : Value} (h : SfAt w okc a s cv) (k : KB w w') : SfAt w' okc a s cv :=
  ⟨k.cell h.c0, k.cell h.c1, k.cell h.c2, k.cell h.c3, rep_kb k h.rep, rep_kb k h.cam⟩
theorem shafts_at {w : World} {okc : Nat → Prop} {S : List Sft} {sv : Value} (h : Rep w okc (.slc SftTy) S [sv]) (hS : S ≠ []) : ∃ a cap, sv = .slice (some a) S.length cap ∧ S.length ≤ cap ∧ a.block < w.heap.size ∧ ∀ i s, S[i]? = some s → ∃ cv, SfAt w okc (a.add (i * 4)) s cv := by
  obtain ⟨A, cap, e, hn, h⟩ := h
  obtain ⟨a, es, rfl, _, hlt, hc, hr⟩ := h.resolve_left hS
  injection e with e
  refine ⟨a, cap, e, hn, hlt, fun i s hs => ?_⟩
  obtain ⟨c, h1, h2⟩ := repL_at (fun s c h => Rep.len (w := w) (ok := okc) SftTy h) hr hs
  obtain ⟨cv, rfl, h3⟩ := rep_sft h1
  refine ⟨cv, ?_, ?_, ?_, ?_, h1, h3⟩
  · have := hc _ _ (h2 0 _ rfl); simpa [add_add] using this
  · have := hc _ _ (h2 1 _ rfl); simpa [add_add] using this
  · have := hc _ _ (h2 2 _ rfl); simpa [add_add] using this
  · have := hc _ _ (h2 3 _ rfl); simpa [add_add] using this
end
end Go.Proofs.Ytgmkcekfpmdhoaa

namespace Go.Proofs.Ytgmkcekfpmdhoaa
section
open Go Go.Fw Go.Proofs Go.RowKit Go.Maps
open Go.Cams (Sft SftTy withP lift codeR inR gSf ck2 ckB skL skP psI pfI)
/-- What the entries of the memo tell. -/
def KnR (S : List Sft) (t a : Int) (key : Value) (v : Bool) : Prop := ∀ (i : Nat) p b, key = key3 i p b → v = ckB S t a i p b
theorem MapR.keep {W W' : World} {b : Nat} {R : Value → Bool → Prop} (h : MapR W b R) (hk : W'.heap[b]? = W.heap[b]?) : MapR W' b R := by
  obtain ⟨es, clock, hb, he⟩ := h
  exact ⟨es, clock, hk.trans hb, he⟩
structure SkI (w0 : World) (sv : Value) (S : List Sft) (a t : Int) (G M B : Nat) (ps : List Int) (l : Int) (W : World) : Prop where
  below : Below w0.heap.size w0 W
  sk : W.heap[B]? = some (.cells #[sv, .int .i64 a, .int .i64 t, .int .i64 l, .slice (some ⟨G, 0, none⟩) S.length S.length, .map (some M)] 67 (0, 0))
  ph : W.heap[G]? = some (.cells (ps.map (Value.int .i64)).toArray 2 (0, 0))
  mp : MapR W M (KnR S t a)
  hG : w0.heap.size ≤ G
  hM : w0.heap.size ≤ M
  hB : w0.heap.size ≤ B
  len : ps.length = S.length
  rng : ∀ x ∈ ps, 0 ≤ x ∧ x ≤ 360
  l0 : 0 ≤ l
  l1 : l ≤ 100000
variable {w0 W W' : World} {sv : Value} {S : List Sft} {a t l : Int} {G M B : Nat} {ps : List Int}
theorem SkI.kb (I : SkI w0 sv S a t G M B ps l W) (k : KB W W') : SkI w0 sv S a t G M B ps l W' :=
  ⟨Below.kb I.below.size I.below k, k.at I.sk, k.at I.ph, by
    obtain ⟨es, clock, hb, he⟩ := I.mp
    exact ⟨es, clock, k.at hb, he⟩, I.hG, I.hM, I.hB, I.len, I.rng, I.l0, I.l1⟩
theorem SkI.cells (I : SkI w0 sv S a t G M B ps l W) : W.cell? ⟨B, 0, none⟩ = some sv ∧ W.cell? ⟨B, 1, none⟩ = some (.int .i64 a) ∧ W.cell? ⟨B, 2, none⟩ = some (.int .i64 t) ∧ W.cell? ⟨B, 3, none⟩ = some (.int .i64 l) ∧ W.cell? ⟨B, 4, none⟩ = some (.slice (some ⟨G, 0, none⟩) S.length S.length) ∧ W.cell? ⟨B, 5, none⟩ = some (.map (some M)) ∧ W.frozen? ⟨B, 3, none⟩ = false := by
  have h := I.sk
  refine ⟨?_, ?_, ?_, ?_, ?_, ?_, ?_⟩ <;> simp [World.cell?, World.frozen?, h]
theorem SkI.pc (I : SkI w0 sv S a t G M B ps l W) {i : Nat} (hi : i < S.length) : W.cell? ⟨G, i, none⟩ = some (.int .i64 (ps.getD i 0)) ∧ W.frozen? ⟨G, i, none⟩ = false ∧ 0 ≤ ps.getD i 0 ∧ ps.getD i 0 ≤ 360 := by
  have h := I.ph
  have hl : i < ps.length := by rw [I.len]; exact hi
  have hm := I.rng _ (List.getElem_mem hl)
  have e : ps.getD i 0 = ps[i] := by simp [List.getD_eq_getElem?_getD, hl]
  rw [e]
  refine ⟨?_, ?_, hm.1, hm.2⟩
  · simp [World.cell?, h, hl]
  · simp [World.frozen?, h]
structure Hid (P : Prop) : Prop where
  out : P
theorem key3_inj {x y z x' y' z' : Int} (h : key3 x y z = key3 x' y' z') : x = x' ∧ y = y' ∧ z = z' := by simpa [key3] using h
theorem SkI.stored (I : SkI w0 sv S a t G M B ps l W) {W2 : World} (hm : MapR W2 M (KnR S t a)) (h1 : W2.os = W.os) (h2 : W2.tape = W.tape) (h3 : W2.output = W.output) (h4 : W2.heap.size = W.heap.size) (h5 : ∀ i, i ≠ M → W2.heap[i]? = W.heap[i]?) : SkI w0 sv S a t G M B ps l W2 := by
  obtain ⟨es, clock, hb, he⟩ := I.mp
  have hBM : B ≠ M := fun e => by have := I.sk; rw [e, hb] at this; cases this
  have hGM : G ≠ M := fun e => by have := I.ph; rw [e, hb] at this; cases this
  have hbl := I.below
  have hM := I.hM
  exact ⟨⟨h1.trans hbl.os, h2.trans hbl.tape, h3.trans hbl.output, by rw [h4]; exact hbl.size, fun b hb => (h5 b (by omega)).trans (hbl.block b hb)⟩, (h5 _ hBM).trans I.sk, (h5 _ hGM).trans I.ph, hm, I.hG, I.hM, I.hB, I.len, I.rng, I.l0, I.l1⟩
set_option maxRecDepth 100000 in
set_option maxHeartbeats 4000000 in
theorem clash_calls {okc : Nat → Prop} (hok : ∀ b, okc b → b < w0.heap.size) (hrep : Rep w0 okc (.slc SftTy) S [sv]) (hgood : ∀ s ∈ S, Go.Cams.Good s) (ht : 0 ≤ t ∧ t ≤ 20000) (ha : 0 ≤ a ∧ a ≤ 20000) {j : Nat} (hj : j + 1 < S.length) (h6 : S.length ≤ 6) {p : Int} (p0 : 0 ≤ p) (p1 : p ≤ 360) {bf : Int} (hbf : ps.getD j 0 = bf)
    (I : SkI w0 sv S a t G M B ps l W) :
    Calls Try.prog 59 #[.pointer (some ⟨B, 0, none⟩), .int .i64 ((j : Int) + 1), .int .i64 p] W fun e W' => e = .returned (.bool (ckB S t a (j + 1) p bf)) ∧ SkI w0 sv S a t G M B ps l W' := by
  obtain ⟨c0, c1, c2, c3, c4, c5, f3⟩ := I.cells
  obtain ⟨g0, _, b0, b1⟩ := I.pc (i := j) (by omega)
  rw [hbf] at g0 b0 b1
  have HI : Hid (SkI w0 sv S a t G M B ps l W) := ⟨I⟩
  clear I hbf
  have hj' : (j : Int) < S.length := by omega
  generalize hR : ckB S t a (j + 1) p bf = R
  go_enter Try.func59, Try.ntmps59
  go_wp2
  have hk1 := kb_alloc W (Obj.cells #[Value.int IntKind.i64 (↑j + 1), Value.int IntKind.i64 p, Value.int IntKind.i64 bf] 102)
  have hK : (W.alloc (Obj.cells #[Value.int IntKind.i64 (↑j + 1), Value.int IntKind.i64 p, Value.int IntKind.i64 bf] 102)).heap[W.heap.size]? = some (.cells #[Value.int IntKind.i64 (↑j + 1), Value.int IntKind.i64 p, Value.int IntKind.i64 bf] 102 (0, 0)) := heap_alloc_new W _
  generalize W.alloc (Obj.cells #[Value.int IntKind.i64 (↑j + 1), Value.int IntKind.i64 p, Value.int IntKind.i64 bf] 102) = Wk at hk1 hK ⊢
  generalize W.heap.size = K at hK ⊢
  have hK2 := (kb_drew Wk).at hK
  obtain ⟨kl, hkl⟩ := key_lit (k := (j : Int) + 1) (p := p) (b := bf) (by omega) (by omega) (by omega)
  have HD := (HI.out.kb hk1).kb (kb_drew Wk)
  obtain ⟨v, ok, hl, hv1, hv2⟩ := map_look HD.mp hkl
  have d5 := HD.cells.2.2.2.2.2.1
  have k0 : Wk.drew.cell? ⟨K, 0, none⟩ = some (.int .i64 (↑j + 1)) := by simp [World.cell?, hK2]
  have k1 : Wk.drew.cell? ⟨K, 1, none⟩ = some (.int .i64 p) := by simp [World.cell?, hK2]
  have k2 : Wk.drew.cell? ⟨K, 2, none⟩ = some (.int .i64 bf) := by simp [World.cell?, hK2]
  unfold key3 at hl
  have HD2 : Hid (SkI w0 sv S a t G M B ps l Wk) := ⟨HI.out.kb hk1⟩
  have HR : Hid (ckB S t a (j + 1) p bf = R) := ⟨hR⟩
  have hkl : Hid (keyOf Try.prog 102 (key3 (j + 1) p bf) = some kl) := ⟨hkl⟩
  have HV : Hid ((ok = true → KnR S t a (key3 (j + 1) p bf) v) ∧ (ok = false → v = false)) := ⟨hv1, hv2⟩
  have HK : Hid (Wk.heap[K]? = some (.cells #[Value.int IntKind.i64 (↑j + 1), Value.int IntKind.i64 p, Value.int IntKind.i64 bf] 102 (0, 0))) := ⟨hK⟩
  clear c0 c1 c2 c3 c4 c5 f3 g0 hk1 hK hK2 HD hv1 hv2 HI
  go_region_held3 (fun w' => w'.cell? ⟨B, 5, none⟩ = some (.map (some M)) ∧ w'.cell? ⟨K, 0, none⟩ = some (.int .i64 (↑j + 1)) ∧ w'.cell? ⟨K, 1, none⟩ = some (.int .i64 p) ∧ w'.cell? ⟨K, 2, none⟩ = some (.int .i64 bf) ∧ (Instr.lookup 65 (.map (some M)) (.agg #[.int .i64 (↑j + 1), .int .i64 p, .int .i64 bf]) true).run Try.prog w' = .ok (.tuple #[.bool v, .bool ok]) w') (first | exact ⟨d5, k0, k1, k2, hl⟩ | assumption) (first | fail)
  have hv1 : ok = true → v = R := fun e => by rw [HV.out.1 e (j + 1) p bf (by simp [key3]), hR]
  have hv2 := HV.out.2
  clear HV
  cases ok with
  | true =>
    have hv := hv1 rfl
    subst hv
    clear hv1 hv2
    go_wp2
    go_ret
    exact ⟨rfl, HD2.out.kb (kb_drew Wk)⟩
  | false =>
    have hv := hv2 rfl
    subst hv
    clear hl hv1 hv2 k0 k1 k2 d5
    obtain ⟨A, cap, rfl, hcap, hAlt, hsf⟩ := shafts_at hrep (by intro e; subst e; simp at hj)
    obtain ⟨s1, hs1⟩ : ∃ s, S[j]? = some s := ⟨_, List.getElem?_eq_getElem (by omega)⟩
    obtain ⟨s2, hs2⟩ : ∃ s, S[j + 1]? = some s := ⟨_, List.getElem?_eq_getElem hj⟩
    obtain ⟨cv1, z1⟩ := hsf j s1 hs1
    obtain ⟨cv2, z2⟩ := hsf (j + 1) s2 hs2
    have q1 := hgood s1 (List.mem_of_getElem? hs1)
    have q2 := hgood s2 (List.mem_of_getElem? hs2)
    have G1 : gSf S j = s1 := by simp [gSf, List.getD_eq_getElem?_getD, hs1]
    have G2 : gSf S (j + 1) = s2 := by simp [gSf, List.getD_eq_getElem?_getD, hs2]
    have hck : ckB S t a (j + 1) p bf = (List.range t.toNat).any fun i => decide (lift (withP s1 bf) (i : Nat) + lift (withP s2 p) (i : Nat) > a) := by
      unfold ckB ck2
      rw [Nat.add_sub_cancel, G1, G2]
    rw [hR] at hck
    clear G1 G2 hs1 hs2 hgood hsf hrep
    have HF : Hid (R = (List.range t.toNat).any fun i => decide (lift (withP s1 bf) (i : Nat) + lift (withP s2 p) (i : Nat) > a)) := ⟨hck⟩
    have hwk0 : w0.heap.size ≤ Wk.heap.size := HD2.out.below.size
    have hfacts : ∀ w', KB Wk w' → (KB Wk w' ∧ w'.cell? ⟨B, 0, none⟩ = some (.slice (some A) S.length cap) ∧ w'.cell? ⟨B, 1, none⟩ = some (.int .i64 a) ∧ w'.cell? ⟨B, 2, none⟩ = some (.int .i64 t) ∧ SfAt w' okc (A.add (j * 4)) s1 cv1 ∧ SfAt w' okc (A.add ((j + 1) * 4)) s2 cv2) := fun w' k => by
      obtain ⟨c0, c1, c2, c3, c4, c5, f3⟩ := (HD2.out.kb k).cells
      have kk : KB w0 w' := by
        have hb := (HD2.out.kb k).below
        exact ⟨hb.os, hb.tape, hb.output, hb.size, fun b hb' _ => hb.block b hb'⟩
      exact ⟨k, c0, c1, c2, z1.kb kk, z2.kb kk⟩
    have HFA : Hid (∀ w', KB Wk w' → (KB Wk w' ∧ w'.cell? ⟨B, 0, none⟩ = some (.slice (some A) S.length cap) ∧ w'.cell? ⟨B, 1, none⟩ = some (.int .i64 a) ∧ w'.cell? ⟨B, 2, none⟩ = some (.int .i64 t) ∧ SfAt w' okc (A.add (j * 4)) s1 cv1 ∧ SfAt w' okc (A.add ((j + 1) * 4)) s2 cv2)) := ⟨hfacts⟩
    clear hck hR hfacts z1 z2
    go_wp2
    go_loopw [9, 11] (fun is tk wr => ∃ (i : Nat) (b : Bool), is = .bool b ∧ tk = .int .i64 i ∧ (i : Int) ≤ t ∧ Hid (b = (List.range i).any fun i => decide (lift (withP s1 bf) (i : Nat) + lift (withP s2 p) (i : Nat) > a)) ∧ Hid (KB Wk wr)) (fun is tk _ => t.toNat - (RowKit.intOf tk).toNat)
    case atStart => exact ⟨0, false, rfl, rfl, ht.1, ⟨rfl⟩, ⟨kb_drew Wk⟩⟩
    case round =>
      obtain ⟨i, b, rfl, rfl, hi, Hb, Hk⟩ := hrel
      obtain ⟨_, x0, x1, x2, x3, x4⟩ := HFA.out _ Hk.out
      by_cases hgo : b = false ∧ (i : Int) < t
      · obtain ⟨rfl, hlt⟩ := hgo
        have hlf1 := Go.Cams.lift_eq (q1.withP b0 b1) (t := (i : Int)) (by omega) (by omega)
        have hlf2 := Go.Cams.lift_eq (q2.withP p0 p1) (t := (i : Int)) (by omega) (by omega)
        have hl1 := hlf1.2.1
        have hl2 := hlf1.2.2
        have hl3 := hlf2.2.1
        have hl4 := hlf2.2.2
        clear hlf1 hlf2
        have hsum : IntKind.i64.wrap (lift (withP s1 bf) i + lift (withP s2 p) i) = lift (withP s1 bf) i + lift (withP s2 p) i := IntWalk.i64_in _ (by omega)
        have hkd : KB Wk wr.drew := Hk.out.trans (kb_drew wr)
        have hwd := hkd.size
        have e1 : IntKind.i64.wrap (j : Int) = (j : Int) := IntWalk.i64_in _ (by omega)
        have hj0 : (0 : Int) ≤ (j : Int) := by omega
        have hj1 : (0 : Int) ≤ (j : Int) + 1 := by omega
        have hj2 : (j : Int) + 1 < S.length := by omega
        have hj3 : ((j : Int) + 1).toNat = j + 1 := by omega
        have y2 := x2
        clear x0 x1 x3 x4
        go_wp2
        clear x2 y2
        have HF9 : Hid (∀ w', KB Wk w' → (KB Wk w' ∧ w'.cell? ⟨B, 0, none⟩ = some (.slice (some A) S.length cap) ∧ w'.cell? ⟨B, 1, none⟩ = some (.int .i64 a) ∧ w'.cell? (A.add (j * 4)) = some (.int .i16 s1.1) ∧ w'.cell? ⟨(A.add (j * 4)).block, (A.add (j * 4)).off + 1, none⟩ = some (.int .i16 s1.2.1) ∧ w'.cell? ⟨(A.add (j * 4)).block, (A.add (j * 4)).off + 2, none⟩ = some (.int .i16 s1.2.2.1) ∧ w'.cell? ⟨(A.add (j * 4)).block, (A.add (j * 4)).off + 3, none⟩ = some cv1 ∧ w'.cell? (A.add ((j + 1) * 4)) = some (.int .i16 s2.1) ∧ w'.cell? ⟨(A.add ((j + 1) * 4)).block, (A.add ((j + 1) * 4)).off + 1, none⟩ = some (.int .i16 s2.2.1) ∧ w'.cell? ⟨(A.add ((j + 1) * 4)).block, (A.add ((j + 1) * 4)).off + 2, none⟩ = some (.int .i16 s2.2.2.1) ∧ w'.cell? ⟨(A.add ((j + 1) * 4)).block, (A.add ((j + 1) * 4)).off + 3, none⟩ = some cv2)) := ⟨fun w' k => by
          obtain ⟨k0, y0, y1, y2, z1, z2⟩ := HFA.out w' k
          exact ⟨k0, y0, y1, z1.c0, z1.c1, z1.c2, z1.c3, z2.c0, z2.c1, z2.c2, z2.c3⟩⟩
        have HL1 : Hid (∀ w', KB Wk w' → Calls Try.prog 70 #[.agg #[.int .i16 s1.1, .int .i16 s1.2.1, .int .i16 s1.2.2.1, cv1], .int .i64 i, .int .i64 bf] w' fun e W' => e = .returned (.int .i64 (lift (withP s1 bf) i)) ∧ KB w' W') :=
          ⟨fun w' k => lift_calls w' (okc := okc) (fun b hb => by have := hok b hb; have := k.size; omega) q1 (HFA.out _ k).2.2.2.2.1.rep (by omega) (by omega) b0 b1⟩
        have HL2 : Hid (∀ w', KB Wk w' → Calls Try.prog 70 #[.agg #[.int .i16 s2.1, .int .i16 s2.2.1, .int .i16 s2.2.2.1, cv2], .int .i64 i, .int .i64 p] w' fun e W' => e = .returned (.int .i64 (lift (withP s2 p) i)) ∧ KB w' W') :=
          ⟨fun w' k => lift_calls w' (okc := okc) (fun b hb => by have := hok b hb; have := k.size; omega) q2 (HFA.out _ k).2.2.2.2.2.rep (by omega) (by omega) p0 p1⟩
        go_region_held3 (fun w' => KB Wk w' ∧ w'.cell? ⟨B, 0, none⟩ = some (.slice (some A) S.length cap) ∧ w'.cell? ⟨B, 1, none⟩ = some (.int .i64 a) ∧ w'.cell? (A.add (j * 4)) = some (.int .i16 s1.1) ∧ w'.cell? ⟨(A.add (j * 4)).block, (A.add (j * 4)).off + 1, none⟩ = some (.int .i16 s1.2.1) ∧ w'.cell? ⟨(A.add (j * 4)).block, (A.add (j * 4)).off + 2, none⟩ = some (.int .i16 s1.2.2.1) ∧ w'.cell? ⟨(A.add (j * 4)).block, (A.add (j * 4)).off + 3, none⟩ = some cv1 ∧ w'.cell? (A.add ((j + 1) * 4)) = some (.int .i16 s2.1) ∧ w'.cell? ⟨(A.add ((j + 1) * 4)).block, (A.add ((j + 1) * 4)).off + 1, none⟩ = some (.int .i16 s2.2.1) ∧ w'.cell? ⟨(A.add ((j + 1) * 4)).block, (A.add ((j + 1) * 4)).off + 2, none⟩ = some (.int .i16 s2.2.2.1) ∧ w'.cell? ⟨(A.add ((j + 1) * 4)).block, (A.add ((j + 1) * 4)).off + 3, none⟩ = some cv2) (first | exact HF9.out _ hkd | exact HF9.out _ (KB.trans (And.left (by assumption)) hk5)) (first | (go_at_call_of 70 bf; refine Calls.mono (HL1.out _ ?_) ?_; (exact And.left (by assumption)); rintro e w5 ⟨rfl, hk5⟩) | (go_at_call_of 70 p; refine Calls.mono (HL2.out _ ?_) ?_; (exact And.left (by assumption)); rintro e w5 ⟨rfl, hk5⟩))
        all_goals (
          clear e1 hsum HF9 HL1 HL2
          go_wp2
          case roundEnd =>
            refine ⟨⟨i + 1, _, rfl, by simp, by omega, ⟨?_⟩, ⟨And.left (by assumption)⟩⟩, by simp [RowKit.intOf]; omega⟩
            rw [List.range_succ, List.any_append, ← Hb.out]
            simp)
      · have hbR : b = R := by
          rw [HF.out]
          cases b with
          | true =>
            have h := Hb.out
            symm
            rw [List.any_eq_true]
            obtain ⟨y, hy, hy2⟩ := List.any_eq_true.1 h.symm
            exact ⟨y, by rw [List.mem_range] at hy ⊢; omega, hy2⟩
          | false =>
            have : i = t.toNat := by
              have : ¬ (i : Int) < t := fun h => hgo ⟨rfl, h⟩
              omega
            rw [← this]
            exact Hb.out
        have HD4 := (HD2.out.kb Hk.out).kb (kb_drew wr)
        have hKn : KnR S t a (key3 (j + 1) p bf) b := fun i' p' b' e => by
          obtain ⟨e1, e2, e3⟩ := key3_inj e
          subst e2; subst e3
          have : i' = j + 1 := by omega
          subst this
          rw [hbR, HR.out]
        obtain ⟨W2, hst, hmp2, ho, htp, hout, hsz, hoth⟩ := map_store HD4.mp hkl.out hKn
        have HD5 : Hid (SkI w0 (.slice (some A) S.length cap) S a t G M B ps l W2) := ⟨HD4.stored hmp2 ho htp hout hsz hoth⟩
        have hB5 : wr.drew.cell? ⟨B, 5, none⟩ = some (.map (some M)) := HD4.cells.2.2.2.2.2.1
        have hB6 : W2.cell? ⟨B, 5, none⟩ = some (.map (some M)) := HD5.out.cells.2.2.2.2.2.1
        have hK4 : wr.drew.heap[K]? = some (.cells #[Value.int IntKind.i64 (↑j + 1), Value.int IntKind.i64 p, Value.int IntKind.i64 bf] 102 (0, 0)) := (Hk.out.trans (kb_drew wr)).at HK.out
        have hKM : K ≠ M := fun e => by
          obtain ⟨es, clock, hb, _⟩ := HD4.mp
          rw [e, hb] at hK4
          cases hK4
        have hK5 := (hoth K hKM).trans hK4
        have k0 : wr.drew.cell? ⟨K, 0, none⟩ = some (.int .i64 (↑j + 1)) := by simp [World.cell?, hK4]
        have k1 : wr.drew.cell? ⟨K, 1, none⟩ = some (.int .i64 p) := by simp [World.cell?, hK4]
        have k2 : wr.drew.cell? ⟨K, 2, none⟩ = some (.int .i64 bf) := by simp [World.cell?, hK4]
        have l0 : W2.cell? ⟨K, 0, none⟩ = some (.int .i64 (↑j + 1)) := by simp [World.cell?, hK5]
        have l1 : W2.cell? ⟨K, 1, none⟩ = some (.int .i64 p) := by simp [World.cell?, hK5]
        have l2 : W2.cell? ⟨K, 2, none⟩ = some (.int .i64 bf) := by simp [World.cell?, hK5]
        have HbR : Hid (b = R) := ⟨hbR⟩
        unfold key3 at hst
        have HE := Hid.mk (And.intro hst (And.intro (And.intro hB5 (And.intro k0 (And.intro k1 k2))) (And.intro hB6 (And.intro l0 (And.intro l1 l2)))))
        clear hbR hKM x0 x1 x3 x4 hst hB5 k0 k1 k2 hB6 l0 l1 l2
        clear hK4 hK5 hoth hsz hout htp ho hmp2 HD4 hKn Hk
        cases b
        · by_cases hlt : (i : Int) < t
          · exact absurd ⟨rfl, hlt⟩ hgo
          · clear hgo
            go_wp2
            obtain ⟨hst, hS1, hS2⟩ := HE.out
            clear x2
            go_region_held3 (fun w' => w'.cell? ⟨B, 5, none⟩ = some (.map (some M)) ∧ w'.cell? ⟨K, 0, none⟩ = some (.int .i64 (↑j + 1)) ∧ w'.cell? ⟨K, 1, none⟩ = some (.int .i64 p) ∧ w'.cell? ⟨K, 2, none⟩ = some (.int .i64 bf)) (first | exact hS1 | exact hS2 | assumption) (first | fail)
            clear hst hS1 hS2
            go_wp2
            go_ret
            exact ⟨congrArg (fun c => Ending.returned (.bool c)) HbR.out, HD5.out⟩
        · by_cases hlt : (i : Int) < t
          · clear hgo
            go_wp2
            obtain ⟨hst, hS1, hS2⟩ := HE.out
            clear x2
            go_region_held3 (fun w' => w'.cell? ⟨B, 5, none⟩ = some (.map (some M)) ∧ w'.cell? ⟨K, 0, none⟩ = some (.int .i64 (↑j + 1)) ∧ w'.cell? ⟨K, 1, none⟩ = some (.int .i64 p) ∧ w'.cell? ⟨K, 2, none⟩ = some (.int .i64 bf)) (first | exact hS1 | exact hS2 | assumption) (first | fail)
            clear hst hS1 hS2
            go_wp2
            go_ret
            exact ⟨congrArg (fun c => Ending.returned (.bool c)) HbR.out, HD5.out⟩
          · clear hgo
            go_wp2
            obtain ⟨hst, hS1, hS2⟩ := HE.out
            clear x2
            go_region_held3 (fun w' => w'.cell? ⟨B, 5, none⟩ = some (.map (some M)) ∧ w'.cell? ⟨K, 0, none⟩ = some (.int .i64 (↑j + 1)) ∧ w'.cell? ⟨K, 1, none⟩ = some (.int .i64 p) ∧ w'.cell? ⟨K, 2, none⟩ = some (.int .i64 bf)) (first | exact hS1 | exact hS2 | assumption) (first | fail)
            clear hst hS1 hS2
            go_wp2
            go_ret
            exact ⟨congrArg (fun c => Ending.returned (.bool c)) HbR.out, HD5.out⟩
end
end Go.Proofs.Ytgmkcekfpmdhoaa

namespace Go.Proofs.Ytgmkcekfpmdhoaa
section
open Go Go.Fw Go.Proofs Go.RowKit Go.Maps
open Go.Cams (Sft SftTy withP lift codeR inR gSf ck2 ckB skL skP psI pfI SkR)
variable {w0 W W' : World} {sv : Value} {S : List Sft} {a t l : Int} {G M B : Nat} {ps : List Int}
theorem setc_ne {W : World} {b k o : Nat} {v : Value} (h : k ≠ b) : (W.setCell ⟨b, o, none⟩ v).heap[k]? = W.heap[k]? := by
  simp only [World.setCell]
  rw [Array.getElem?_modify, if_neg (fun e => h e.symm)]
theorem setc_eq {W : World} {b i : Nat} {xs : Array Value} {T : TypeId} (v : Value) (hb : W.heap[b]? = some (.cells xs T (0, 0))) : (W.setCell ⟨b, i, none⟩ v).heap[b]? = some (.cells (xs.setIfInBounds i v) T (0, 0)) := by
  simp [World.setCell, Array.getElem?_modify, hb]
theorem setc_size (W : World) (b o : Nat) (v : Value) : (W.setCell ⟨b, o, none⟩ v).heap.size = W.heap.size := by simp [World.setCell]
theorem SkI.ne (I : SkI w0 sv S a t G M B ps l W) : B ≠ M ∧ G ≠ M ∧ B ≠ G := by
  obtain ⟨es, clock, hb, he⟩ := I.mp
  refine ⟨fun e => ?_, fun e => ?_, fun e => ?_⟩
  · have := I.sk; rw [e, hb] at this; cases this
  · have := I.ph; rw [e, hb] at this; cases this
  · have := I.sk; rw [e, I.ph] at this
    injection this with this
    injection this with _ this
    cases this
theorem SkI.dec (I : SkI w0 sv S a t G M B ps l W) {l' : Int} (h0 : 0 ≤ l') (h1 : l' ≤ 100000) : SkI w0 sv S a t G M B ps l' (W.setCell ⟨B, 3, none⟩ (.int .i64 l')) := by
  obtain ⟨n1, n2, n3⟩ := I.ne
  refine ⟨I.below.setCell I.hB _, by rw [setc_eq _ I.sk]; rfl, by rw [setc_ne (Ne.symm n3)]; exact I.ph, ?_, I.hG, I.hM, I.hB, I.len, I.rng, h0, h1⟩
  exact I.mp.keep (setc_ne (Ne.symm n1))
theorem SkI.setp (I : SkI w0 sv S a t G M B ps l W) {k : Nat} {p : Int} (p0 : 0 ≤ p) (p1 : p ≤ 360) : SkI w0 sv S a t G M B (ps.set k p) l (W.setCell ⟨G, k, none⟩ (.int .i64 p)) := by
  obtain ⟨n1, n2, n3⟩ := I.ne
  refine ⟨I.below.setCell I.hG _, by rw [setc_ne n3]; exact I.sk, ?_, I.mp.keep (setc_ne (Ne.symm n2)), I.hG, I.hM, I.hB, by rw [List.length_set]; exact I.len, fun x hx => ?_, I.l0, I.l1⟩
  · rw [setc_eq _ I.ph]
    congr 2
    rw [List.setIfInBounds_toArray, List.map_set]
  · rcases List.mem_or_eq_of_mem_set hx with h | h
    · exact I.rng x h
    · subst h; exact ⟨p0, p1⟩
theorem skL_succ (next : List Int → Int → SkR) (ck : Int → Int → Bool) (k m : Nat) (ph : Int) (ps : List Int) (l : Int) : skL next ck k (m + 1) ph ps l = if l = 0 then (7, ps, l) else if ck ph (ps.getD (k - 1) 0) = true then skL next ck k m (ph + 1) ps (l - 1) else
    if (next (ps.set k ph) (l - 1)).1 ≠ 6 then next (ps.set k ph) (l - 1) else skL next ck k m (ph + 1) (next (ps.set k ph) (l - 1)).2.1 (next (ps.set k ph) (l - 1)).2.2 := rfl
set_option maxRecDepth 100000 in
set_option maxHeartbeats 4000000 in
theorem seek_calls {okc : Nat → Prop} (hok : ∀ b, okc b → b < w0.heap.size) (hrep : Rep w0 okc (.slc SftTy) S [sv]) (hgood : ∀ s ∈ S, Go.Cams.Good s) (ht : 0 ≤ t ∧ t ≤ 20000) (ha : 0 ≤ a ∧ a ≤ 20000) (h6 : S.length ≤ 6) :
    ∀ (d j : Nat) (ps : List Int) (l : Int) (W : World), j + 1 + d = S.length → SkI w0 sv S a t G M B ps l W →
    Calls Try.prog 35 #[.pointer (some ⟨B, 0, none⟩), .int .i64 ((j : Int) + 1)] W fun e W' => e = .returned (.int .i64 (skP S t a d (j + 1) ps l).1) ∧ SkI w0 sv S a t G M B (skP S t a d (j + 1) ps l).2.1 (skP S t a d (j + 1) ps l).2.2 W' := by
  intro d
  induction d with
  | zero =>
    intro j ps l W hj I
    obtain ⟨A, cap, rfl, hcap, hAlt, hsf⟩ := shafts_at hrep (by intro e; subst e; simp at hj)
    obtain ⟨c0, c1, c2, c3, c4, c5, f3⟩ := I.cells
    have HI : Hid (SkI w0 (.slice (some A) S.length cap) S a t G M B ps l W) := ⟨I⟩
    clear I
    have hj' : (j : Int) + 1 = S.length := by omega
    rw [hj']
    go_enter Try.func35, Try.ntmps35
    go_wp2
    go_ret
    exact ⟨rfl, HI.out⟩
  | succ d ih =>
    intro j ps l W hj I
    obtain ⟨A, cap, rfl, hcap, hAlt, hsf⟩ := shafts_at hrep (by intro e; subst e; simp at hj)
    have hjS : j + 1 < S.length := by omega
    obtain ⟨s, hs⟩ : ∃ s, S[j + 1]? = some s := ⟨_, List.getElem?_eq_getElem hjS⟩
    obtain ⟨cv, z⟩ := hsf (j + 1) s hs
    have q := hgood s (List.mem_of_getElem? hs)
    have hlen := q.len
    have Gs : gSf S (j + 1) = s := by simp [gSf, List.getD_eq_getElem?_getD, hs]
    obtain ⟨c0, c1, c2, c3, c4, c5, f3⟩ := I.cells
    have kk : KB w0 W := by
      have hb := I.below
      exact ⟨hb.os, hb.tape, hb.output, hb.size, fun b hb' _ => hb.block b hb'⟩
    have z' := z.kb kk
    have x3 : W.cell? ⟨(A.add ((j + 1) * 4)).block, (A.add ((j + 1) * 4)).off + 3, none⟩ = some cv := z'.c3
    have hST := steps_calls W (okc := okc) (fun b hb => by have := hok b hb; have := kk.size; omega) z'.cam
    have HI : Hid (SkI w0 (.slice (some A) S.length cap) S a t G M B ps l W) := ⟨I⟩
    have hne : ¬ (j : Int) + 1 = S.length := by omega
    have hj' : (j : Int) + 1 < S.length := by omega
    have hj2 : ((j : Int) + 1).toNat = j + 1 := by omega
    have HIH := Hid.mk ih
    have HCL := Hid.mk (fun (p : Int) (p0 : 0 ≤ p) (p1 : p ≤ 360) (ps' : List Int) (l' : Int) (W' : World) (I' : SkI w0 (.slice (some A) S.length cap) S a t G M B ps' l' W') => clash_calls hok hrep hgood ht ha hjS h6 p0 p1 rfl I')
    have HS : Hid (skP S t a (d + 1) (j + 1) ps l = skL (skP S t a d (j + 1 + 1)) (ckB S t a (j + 1)) (j + 1) s.2.2.2.1.length 0 ps l) := ⟨by rw [← Gs]; rfl⟩
    generalize skP S t a (d + 1) (j + 1) ps l = R at HS ⊢
    clear I z z' kk ih hsf hs hgood hrep Gs
    go_enter Try.func35, Try.ntmps35
    go_wp2_with (go_at_call 48; refine hST.mono ?_; rintro e w1 ⟨rfl, hk1⟩)
    clear hST
    have HI1 := Hid.mk (HI.out.kb hk1)
    clear HI hk1 c0 c1 c2 c3 c4 c5 f3 x3
    go_loopw [23] (fun pv wr => ∃ (i : Nat) (ps' : List Int) (l' : Int), pv = .int .i64 i ∧ i ≤ s.2.2.2.1.length ∧ Hid (SkI w0 (.slice (some A) S.length cap) S a t G M B ps' l' wr) ∧ Hid (skL (skP S t a d (j + 1 + 1)) (ckB S t a (j + 1)) (j + 1) (s.2.2.2.1.length - i) i ps' l' = R)) (fun pv _ => s.2.2.2.1.length - (RowKit.intOf pv).toNat)
    case atStart => exact ⟨0, ps, l, rfl, Nat.zero_le _, HI1, ⟨HS.out.symm⟩⟩
    case round =>
      obtain ⟨i, ps', l', rfl, hi, HJ, HR⟩ := hrel
      clear HI1 HS
      obtain ⟨c0, c1, c2, c3, c4, c5, f3⟩ := HJ.out.cells
      by_cases hlt : i < s.2.2.2.1.length
      · obtain ⟨m, hm⟩ : ∃ m, s.2.2.2.1.length - i = m + 1 := ⟨s.2.2.2.1.length - i - 1, by omega⟩
        have hR := HR.out
        rw [hm, skL_succ] at hR
        by_cases hl : l' = 0
        · subst hl
          rw [if_pos rfl] at hR
          have HR2 := Hid.mk hR
          clear hR HR
          go_wp2
          go_ret
          exact ⟨congrArg (fun r : SkR => Ending.returned (.int .i64 r.1)) HR2.out, by have h := HJ.out; rw [← HR2.out]; exact h⟩
        · rw [if_neg hl] at hR
          have l0 := HJ.out.l0
          have l1 := HJ.out.l1
          have HJ1 := Hid.mk (HJ.out.dec (l' := l' - 1) (by omega) (by omega))
          have HC := Hid.mk (HCL.out i (by omega) (by omega) ps' (l' - 1) _ HJ1.out)
          have hR : (if ckB S t a (j + 1) i (ps'.getD j 0) = true then skL (skP S t a d (j + 1 + 1)) (ckB S t a (j + 1)) (j + 1) m ((i : Int) + 1) ps' (l' - 1) else
            if (skP S t a d (j + 1 + 1) (ps'.set (j + 1) i) (l' - 1)).1 ≠ 6 then skP S t a d (j + 1 + 1) (ps'.set (j + 1) i) (l' - 1) else skL (skP S t a d (j + 1 + 1)) (ckB S t a (j + 1)) (j + 1) m ((i : Int) + 1) (skP S t a d (j + 1 + 1) (ps'.set (j + 1) i) (l' - 1)).2.1 (skP S t a d (j + 1 + 1) (ps'.set (j + 1) i) (l' - 1)).2.2) = R := hR
          have HR2 := Hid.mk hR
          have hm2 : s.2.2.2.1.length - (i + 1) = m := by omega
          clear hR HR HJ
          generalize hc : ckB S t a (j + 1) i (ps'.getD j 0) = c at HC HR2
          have hlt' : (i : Int) < (s.2.2.2.1.length : Int) := by omega
          have hcast : ((i + 1 : Nat) : Int) = (i : Int) + 1 := by omega
          clear hc hm
          go_wp2_with (go_at_call 59; refine HC.out.mono ?_)
          rintro e w3 ⟨rfl, hk3⟩
          have HK3 := Hid.mk hk3
          clear hk3 HC HJ1 c0 c1 c2 c3 c4 c5 f3
          obtain ⟨c0, c1, c2, c3, c4, c5, f3⟩ := HK3.out.cells
          cases c with
          | true =>
            have hR3 := HR2.out
            rw [if_pos rfl] at hR3
            have HR3 := Hid.mk hR3
            clear HR2 hR3
            go_wp2
            case roundEnd =>
              exact ⟨⟨i + 1, ps', l' - 1, by simp, by omega, HK3, ⟨by rw [hm2, hcast]; exact HR3.out⟩⟩, by simp [RowKit.intOf]; omega⟩
          | false =>
            obtain ⟨g0, g1, _, _⟩ := HK3.out.pc hjS
            have g2 : w3.cell? ⟨G, j + 1, none⟩ = some (.int .i64 (ps'.getD (j + 1) 0)) := g0
            have HK4 := Hid.mk (HK3.out.setp (k := j + 1) (p := (i : Int)) (by omega) (by omega))
            have HC5 := Hid.mk (HIH.out (j + 1) (ps'.set (j + 1) i) (l' - 1) _ (by omega) HK4.out)
            have hR3 := HR2.out
            rw [if_neg (by decide)] at hR3
            have HR3 := Hid.mk hR3
            clear HR2 hR3 HK4 g0
            generalize hr : skP S t a d (j + 1 + 1) (ps'.set (j + 1) i) (l' - 1) = r at HC5 HR3
            clear hr
            have hcast2 : ((j + 1 : Nat) : Int) + 1 = (j : Int) + 1 + 1 := by omega
            rw [hcast2] at HC5
            go_wp2_with (go_at_call 35; refine HC5.out.mono ?_)
            rintro e w5 ⟨rfl, hk5⟩
            have HK5 := Hid.mk hk5
            clear hk5 HC5 HK3 c0 c1 c2 c3 c4 c5 f3 g2 g1
            obtain ⟨r1, r2, r3⟩ := r
            by_cases hr6 : r1 = 6
            · subst hr6
              have hR4 := HR3.out
              rw [if_neg (by simp)] at hR4
              have HR4 := Hid.mk hR4
              clear HR3 hR4
              go_wp2
              case roundEnd =>
                exact ⟨⟨i + 1, r2, r3, by simp, by omega, HK5, ⟨by rw [hm2, hcast]; exact HR4.out⟩⟩, by simp [RowKit.intOf]; omega⟩
            · have hR4 := HR3.out
              rw [if_pos hr6] at hR4
              have HR4 := Hid.mk hR4
              clear HR3 hR4
              go_wp2
              go_ret
              exact ⟨congrArg (fun r : SkR => Ending.returned (.int .i64 r.1)) HR4.out, by have h := HK5.out; rw [← HR4.out]; exact h⟩
      · have h0 : s.2.2.2.1.length - i = 0 := by omega
        have hR := HR.out
        rw [h0] at hR
        have HR2 : Hid ((6, ps', l') = R) := ⟨hR⟩
        clear hR HR h0
        go_wp2
        go_ret
        exact ⟨congrArg (fun r : SkR => Ending.returned (.int .i64 r.1)) HR2.out, by have h := HJ.out; rw [← HR2.out]; exact h⟩
end
end Go.Proofs.Ytgmkcekfpmdhoaa

namespace Go.Proofs.Ytgmkcekfpmdhoaa
section
open Go Go.Fw Go.Proofs Go.RowKit Go.Maps
open Go.Cams (Sft SftTy withP lift codeR inR gSf ck2 ckB skL skP psI pfI SkR)
/-- What PhasesFor leaves. -/
def PfQ (S : List Sft) (a b : Int) (w : World) (e : Ending) (w' : World) : Prop := ∃ hd F, e = .returned (.tuple #[hd, .int .i64 (pfI S a b).2.1, .int .i64 (pfI S a b).2.2.1]) ∧ RowOk w' hd 1 (pfI S a b).1.length ((pfI S a b).1.map (Value.int .i64)) F ∧ F.Nodup ∧ (∀ g ∈ F, w.heap.size ≤ g ∧ g < w'.heap.size) ∧ Below w.heap.size w w'
theorem nilRow (w : World) : RowOk w (.slice none 0 0) 1 0 [] [] := ⟨none, 0, rfl, Nat.le_refl _, rfl, .inl ⟨rfl, rfl⟩⟩
theorem kb_below {w w' : World} (k : KB w w') : Below w.heap.size w w' := ⟨k.os, k.tape, k.output, k.size, fun b hb => k.heap b hb (fun h => h)⟩
theorem pfq_bad {S : List Sft} {a b c : Int} {w w' : World} (e : pfI S a b = ([], 0, c, ())) (k : Below w.heap.size w w') : PfQ S a b w (.returned (.tuple #[.slice none 0 0, .int .i64 0, .int .i64 c])) w' :=
  ⟨.slice none 0 0, [], by rw [e], by rw [e]; exact nilRow _, by simp, by simp, k⟩
theorem info2 : (Try.prog.info? 2).map (fun i => (i.zero, i.size, i.bytes)) = some (some (.int .i64 0), 1, 8) := by kernel_rfl
theorem made_zero (n : Nat) : madeCells (Value.int .i64 0).cells (n * 1) = Array.replicate n (Value.int .i64 0) := by
  unfold madeCells
  apply Array.ext
  · simp
  · intro i h1 h2
    simp [Value.cells, Nat.mod_one]
theorem run_mk (w : World) {n : Nat} (hn : n ≤ 1000) : (Instr.makeSlice 24 (.int .i64 n) (.int .i64 n)).run Try.prog w = .ok (.slice (some ⟨w.heap.size, 0, none⟩) n n) (w.alloc (.cells (Array.replicate n (Value.int .i64 0)) 2)) := by
  obtain ⟨i0, hi0, hz0, hz1, hz2⟩ := info_parts info2
  rw [run_make w 24 2 i0 _ Try.underlying24 hi0 hz0 .i64 .i64 n n (by omega) (Int.le_refl _) (by rw [hz2]; omega) (by omega), hz1]
  simp only [Int.toNat_natCast, made_zero]
theorem below_kb {w w' : World} (h : Below w.heap.size w w') : KB w w' := ⟨h.os, h.tape, h.output, h.size, fun b hb _ => h.block b hb⟩
theorem pfq_good {S : List Sft} {a b t r3 : Int} {r2 : List Int} {G M B : Nat} {sv : Value} {w w' : World} (e : pfI S a b = (r2, b - r3, 0, ())) (I : SkI w sv S a t G M B r2 r3 w') : PfQ S a b w (.returned (.tuple #[.slice (some ⟨G, 0, none⟩) S.length S.length, .int .i64 (b - r3), .int .i64 0])) w' := by
  have hG := (Array.getElem?_eq_some_iff.1 I.ph).1
  refine ⟨.slice (some ⟨G, 0, none⟩) S.length S.length, [G], by rw [e], ?_, by simp, fun g hg => ?_, I.below⟩
  · rw [e]
    show RowOk w' _ 1 r2.length (r2.map (Value.int .i64)) [G]
    rw [I.len]
    refine ⟨some ⟨G, 0, none⟩, S.length, rfl, Nat.le_refl _, by simp [I.len], .inr ⟨G, _, 2, rfl, rfl, I.ph, by simp [I.len], ?_⟩⟩
    rw [List.toList_toArray, Nat.mul_one, List.take_of_length_le (by simp [I.len])]
  · have hg : g = G := by simpa using hg
    subst hg
    exact ⟨I.hG, hG⟩
def mkW (w : World) (sv : Value) (n : Nat) (a t b : Int) : World := ((w.alloc (Obj.cells (Array.replicate n (Value.int IntKind.i64 0)) 2)).alloc (Obj.map #[] 0)).alloc (Obj.cells #[sv, Value.int IntKind.i64 a, Value.int IntKind.i64 t, Value.int IntKind.i64 b, Value.slice (some { block := w.heap.size, off := 0 }) n n, Value.map (some (w.heap.size + 1))] 67)
theorem sk_start {w w3 : World} (k : KB w w3) (sv : Value) (S : List Sft) {a t b : Int} (hb : 0 ≤ b ∧ b ≤ 100000) : SkI w sv S a t w3.heap.size (w3.heap.size + 1) (w3.heap.size + 1 + 1) (List.replicate S.length 0) b (mkW w3 sv S.length a t b) := by
  have hs := k.size
  have k1 := kb_alloc w3 (Obj.cells (Array.replicate S.length (Value.int IntKind.i64 0)) 2)
  have k2 := kb_alloc (w3.alloc (Obj.cells (Array.replicate S.length (Value.int IntKind.i64 0)) 2)) (Obj.map #[] 0)
  have k3 := kb_alloc ((w3.alloc (Obj.cells (Array.replicate S.length (Value.int IntKind.i64 0)) 2)).alloc (Obj.map #[] 0)) (Obj.cells #[sv, Value.int IntKind.i64 a, Value.int IntKind.i64 t, Value.int IntKind.i64 b, Value.slice (some { block := w3.heap.size, off := 0 }) S.length S.length, Value.map (some (w3.heap.size + 1))] 67)
  have h1 := heap_alloc_new w3 (Obj.cells (Array.replicate S.length (Value.int IntKind.i64 0)) 2)
  have h2 := heap_alloc_new (w3.alloc (Obj.cells (Array.replicate S.length (Value.int IntKind.i64 0)) 2)) (Obj.map #[] 0)
  have h3 := heap_alloc_new ((w3.alloc (Obj.cells (Array.replicate S.length (Value.int IntKind.i64 0)) 2)).alloc (Obj.map #[] 0)) (Obj.cells #[sv, Value.int IntKind.i64 a, Value.int IntKind.i64 t, Value.int IntKind.i64 b, Value.slice (some { block := w3.heap.size, off := 0 }) S.length S.length, Value.map (some (w3.heap.size + 1))] 67)
  simp only [World.size_alloc] at h2 h3
  refine ⟨kb_below (k.trans ((k1.trans k2).trans k3)), h3, ?_, ⟨#[], 0, k3.at h2, by simp⟩, hs, by omega, by omega, by simp, fun x hx => ?_, hb.1, hb.2⟩
  · have h := (k2.trans k3).at h1
    have e : Array.replicate S.length (Value.int IntKind.i64 0) = (List.map (Value.int IntKind.i64) (List.replicate S.length 0)).toArray := by simp
    exact h.trans (by rw [e])
  · obtain ⟨_, rfl⟩ := List.mem_replicate.1 hx
    omega
set_option maxRecDepth 100000 in
set_option maxHeartbeats 4000000 in
theorem pf_walk (w : World) {okc : Nat → Prop} (hok : ∀ b, okc b → b < w.heap.size) {S : List Sft} (hS : Go.Cams.Small S) {sv : Value} (hrep : Rep w okc (.slc SftTy) S [sv]) (a b : Int) :
    Calls Try.prog 8 #[sv, .int .i64 a, .int .i64 b] w fun e w' => PfQ S a b w e w' := by
  generalize hA : inR a 0 20000 = ra
  generalize hB : inR b 0 100000 = rb
  obtain ⟨t, c, hcr⟩ : ∃ t c : Int, codeR S (ra && rb) = (t, c, ()) := ⟨(codeR S (ra && rb)).1, (codeR S (ra && rb)).2.1, rfl⟩
  have hR1 := room_calls w a
  rw [hA] at hR1
  have HC : Hid (∀ w', KB w w' → Calls Try.prog 32 #[sv, .bool (ra && rb)] w' fun e w2 => e = .returned (.tuple #[.int .i64 t, .int .i64 c]) ∧ KB w' w2) :=
    ⟨fun w' k => by have h := code_calls w' (okc := okc) (fun b hb => by have := hok b hb; have := k.size; omega) hS (rep_kb k hrep) (ra && rb); rw [hcr] at h; exact h⟩
  have HP : Hid (pfI S a b = if c = (0 : Int) then
    (if (skP S t a (S.length - 1) 1 (psI S) b).1 = 0 then ((skP S t a (S.length - 1) 1 (psI S) b).2.1, b - (skP S t a (S.length - 1) 1 (psI S) b).2.2, 0, ()) else ([], 0, (skP S t a (S.length - 1) 1 (psI S) b).1, ()))
    else ([], 0, c, ())) := ⟨by unfold pfI; rw [hA, hB, hcr]⟩
  have HRB : Hid (∀ w', Calls Try.prog 34 #[.int .i64 b, .int .i64 0, .int .i64 100000] w' fun e w2 => e = .returned (.bool rb) ∧ KB w' w2) := ⟨fun w' => by rw [← hB]; exact rng_calls w' b 0 100000⟩
  have HAB : Hid (inR a 0 20000 = ra ∧ inR b 0 100000 = rb) := ⟨hA, hB⟩
  have HCR := Hid.mk hcr
  have HRE := Hid.mk hrep
  clear hA hB hrep hcr
  go_enter Try.func8, Try.ntmps8
  go_wp2_with (go_at_call 33; refine hR1.mono ?_)
  rintro e w1 ⟨rfl, hk1⟩
  clear hR1
  have HK1 := Hid.mk hk1
  clear hk1
  cases ra with
  | false =>
    have hc : ¬ c = 0 := fun h => by
      have h1 : (codeR S (false && rb)).2.1 = (0 : Int) := by rw [HCR.out]; exact h
      exact absurd (Go.Cams.codeR_room h1) (by simp)
    have HP2 : Hid (pfI S a b = ([], 0, c, ())) := ⟨by rw [HP.out, if_neg hc]⟩
    clear HP HCR HRB HAB
    go_wp2_with (go_at_call 32; refine (HC.out _ HK1.out).mono ?_)
    rintro e w2 ⟨rfl, hk2⟩
    have HK2 := Hid.mk (HK1.out.trans hk2)
    clear hk2 HK1
    go_wp2
    refine bodyPost_ret (results_run (slots := [.tmp 6, .tmp 7, .tmp 8]) (xs := [_, _, _]) rfl ⟨rfl, rfl, rfl, trivial⟩) rfl ?_
    exact pfq_bad HP2.out (kb_below HK2.out)
  | true =>
    go_wp2_with (go_at_call 34; refine (HRB.out _).mono ?_)
    rintro e w2 ⟨rfl, hk2⟩
    have HK2 := Hid.mk (HK1.out.trans hk2)
    clear hk2 HK1 HRB
    simp only [Bool.true_and] at HC HCR
    go_wp2_with (go_at_call 32; refine (HC.out _ HK2.out).mono ?_)
    rintro e w3 ⟨rfl, hk3⟩
    have HK3 := Hid.mk (HK2.out.trans hk3)
    clear hk3 HK2 HC
    by_cases hc : c = 0
    · subst hc
      have h1 : (codeR S rb).2.1 = (0 : Int) := by rw [HCR.out]
      obtain ⟨hokA, ht0, ht1⟩ := Go.Cams.code_ok h1
      rw [HCR.out] at ht0 ht1
      have ht0 : (0 : Int) ≤ t := ht0
      have ht1 : t ≤ (20000 : Int) := ht1
      have hb := HAB.out.2
      rw [Go.Cams.codeR_room h1] at hb
      have ha := Go.Cams.inR_iff.1 HAB.out.1
      have hb := Go.Cams.inR_iff.1 hb
      obtain ⟨hn, hgood⟩ := Go.Cams.okA_good hokA
      obtain ⟨A, cap, rfl, hcap, hAlt, hsf⟩ := shafts_at HRE.out (by intro e; subst e; simp at hn)
      obtain ⟨s, hs⟩ : ∃ s, S[0]? = some s := ⟨_, List.getElem?_eq_getElem (by omega)⟩
      obtain ⟨cv, z⟩ := hsf 0 s hs
      have q := hgood s (List.mem_of_getElem? hs)
      have Gs : gSf S 0 = s := by simp [gSf, List.getD_eq_getElem?_getD, hs]
      have hHP := HP.out
      rw [if_pos rfl] at hHP
      have HP2 := Hid.mk hHP
      have HGD := Hid.mk hgood
      have hsn : (0 : Int) ≤ S.length := by omega
      have hmk := run_mk w3 (n := S.length) (by omega)
      have hmm := run_makeMap (P := Try.prog) 65 (w3.alloc (.cells (Array.replicate S.length (Value.int .i64 0)) 2))
      clear HP hHP hgood hsf HCR HAB hokA
      go_wp2
      have HI := Hid.mk (sk_start HK3.out (.slice (some A) S.length cap) S (a := a) (t := t) hb)
      clear hmk hmm
      change Code.wp Try.prog _ _ _ (mkW w3 (.slice (some A) S.length cap) S.length a t b)
      have hG : w3.heap.size = w3.heap.size := rfl
      generalize mkW w3 (.slice (some A) S.length cap) S.length a t b = W4 at HI ⊢
      generalize w3.heap.size = G at HI ⊢
      have HD := HI.out.kb (kb_drew W4)
      obtain ⟨_, _, _, _, c4, _, _⟩ := HD.cells
      obtain ⟨g0, g1, _, _⟩ := HD.pc (i := 0) (by omega)
      have hzd : W4.drew.cell? ⟨A.block, A.off + 2, none⟩ = some (.int .i16 s.2.2.1) := by
        have h := (z.kb (below_kb HD.below)).c2
        rw [Nat.zero_mul, Go.Fw.add_zero] at h
        exact h
      have HD1 := Hid.mk (HD.setp (k := 0) (p := wr .i64 s.2.2.1) q.ph.1 q.ph.2)
      have hn0 : (0 : Int) < S.length := by omega
      clear HI HD hG
      have c4' : W4.cell? ⟨G + 1 + 1, 4, none⟩ = some (.slice (some ⟨G, 0, none⟩) S.length S.length) := c4
      have hzd' : W4.cell? ⟨A.block, A.off + 2, none⟩ = some (.int .i16 s.2.2.1) := hzd
      have g0' : W4.cell? ⟨G, 0, none⟩ = some (.int .i64 ((List.replicate S.length 0).getD 0 0)) := g0
      have g1' : W4.frozen? ⟨G, 0, none⟩ = false := g1
      clear c4 hzd g0 g1
      go_region
      have eps : (List.replicate S.length (0 : Int)).set 0 (wr .i64 s.2.2.1) = psI S := by
        unfold psI
        rw [Gs]
        obtain ⟨n', hn'⟩ : ∃ n', S.length = n' + 1 := ⟨S.length - 1, by omega⟩
        rw [hn', List.replicate_succ]
        rfl
      have HD2 := HD1.out
      rw [eps] at HD2
      have HC5 : Hid (Calls Try.prog 35 #[.pointer (some ⟨G + 1 + 1, 0, none⟩), .int .i64 1] (W4.setCell ⟨G, 0, none⟩ (.int .i64 (IntKind.i64.wrap s.2.2.1))).drew fun e W' => e = .returned (.int .i64 (skP S t a (S.length - 1) 1 (psI S) b).1) ∧ SkI w (.slice (some A) S.length cap) S a t G (G + 1) (G + 1 + 1) (skP S t a (S.length - 1) 1 (psI S) b).2.1 (skP S t a (S.length - 1) 1 (psI S) b).2.2 W') :=
        ⟨seek_calls hok HRE.out HGD.out ⟨ht0, ht1⟩ ha (by omega) (S.length - 1) 0 (psI S) b _ (by omega) HD2⟩
      have ew : IntKind.i64.wrap s.2.2.1 = wrap64 s.2.2.1 := by rw [IntKind.wrap_i64]; unfold wrap64; rfl
      rw [ew] at HC5
      clear ew
      generalize skP S t a (S.length - 1) 1 (psI S) b = r at HC5 HP2
      obtain ⟨r1, r2, r3⟩ := r
      clear HD1 HD2 c4' g0' g1' hzd' eps Gs z
      go_wp2_with (go_at_call 35; refine HC5.out.mono ?_)
      rintro e w5 rfl hk5
      have HK5 := Hid.mk hk5
      clear hk5 HC5
      by_cases hr : r1 = 0
      · subst hr
        have hHP := HP2.out
        have HP3 : Hid (pfI S a b = (r2, b - r3, 0, ())) := ⟨hHP⟩
        clear HP2 hHP
        have d4 := (HK5.out.kb (kb_drew w5)).cells.2.2.2.2.1
        have d3 := (HK5.out.kb (kb_drew w5)).cells.2.2.2.1
        have r30 := HK5.out.l0
        have r31 := HK5.out.l1
        have hsub : IntKind.i64.wrap (b - r3) = b - r3 := IntWalk.i64_in _ (by omega)
        go_wp2
        go_region_held3 (fun w' => w'.cell? ⟨G + 1 + 1, 4, none⟩ = some (.slice (some ⟨G, 0, none⟩) S.length S.length) ∧ w'.cell? ⟨G + 1 + 1, 3, none⟩ = some (.int .i64 r3)) (first | exact ⟨d4, d3⟩ | assumption) (first | fail)
        clear d4 d3
        go_wp2
        refine bodyPost_ret (results_run (slots := [.tmp 6, .tmp 7, .tmp 8]) (xs := [_, _, _]) rfl ⟨rfl, rfl, rfl, trivial⟩) rfl ?_
        exact pfq_good HP3.out (HK5.out.kb (kb_drew w5))
      · have hHP := HP2.out
        rw [if_neg hr] at hHP
        have HP3 := Hid.mk hHP
        clear HP2 hHP
        go_wp2
        refine bodyPost_ret (results_run (slots := [.tmp 6, .tmp 7, .tmp 8]) (xs := [_, _, _]) rfl ⟨rfl, rfl, rfl, trivial⟩) rfl ?_
        exact pfq_bad HP3.out HK5.out.below
    · have HP2 : Hid (pfI S a b = ([], 0, c, ())) := ⟨by rw [HP.out, if_neg hc]⟩
      clear HP HCR HAB
      go_wp2
      refine bodyPost_ret (results_run (slots := [.tmp 6, .tmp 7, .tmp 8]) (xs := [_, _, _]) rfl ⟨rfl, rfl, rfl, trivial⟩) rfl ?_
      exact pfq_bad HP2.out (kb_below HK3.out)
end
end Go.Proofs.Ytgmkcekfpmdhoaa

namespace Go.Proofs.Ytgmkcekfpmdhoaa
section
open Go Go.Fw Go.Proofs Go.RowKit
open Go.Cams (Sft SftTy pfI)
theorem repI64 {w : World} {ok : Nat → Prop} : ∀ l : List Int, RepL (Rep w ok (.int .i64)) l (l.map (Value.int .i64))
  | [] => rfl
  | n :: l => ⟨[.int .i64 n], l.map (Value.int .i64), rfl, rfl, repI64 l⟩
theorem pf_ext {L0 : Laid} : ExtOk Try.prog L0 LCl.I8 := by
  refine extOk_of (I := LCl.I8) (g := fun x => if Go.Cams.smallB x.1 = true then some ((Go.Cams.pfI x.1 x.2.1 x.2.2.1), ()) else none) (fn := Try.f8) (code := bd Try.f8) rfl Try.func8 (by kernel_rfl) (by kernel_rfl) ?_
  intro x r o w vals okc Fs hg hA hok hon
  obtain ⟨S, a, b, u⟩ := x
  change List Sft at S
  change Int at a
  change Int at b
  obtain ⟨c1, v1, F1, F2, e1, e2, h1, c2, v2, F3, F4, e3, e4, h2, c3, v3, F5, F6, e5, e6, h3, e7, e8⟩ := hA
  obtain ⟨hF1, h1⟩ : F1 = [] ∧ Rep w okc (.slc SftTy) S c1 := h1
  obtain ⟨hF3, h2⟩ : F3 = [] ∧ c2 = [.int .i64 a] := h2
  obtain ⟨hF5, h3⟩ : F5 = [] ∧ c3 = [.int .i64 b] := h3
  subst hF1; subst hF3; subst hF5; subst h2; subst h3
  have eF : Fs = [] := by rw [e2, e4, e6, e8]; rfl
  subst eF
  have hc1 := h1.len
  obtain ⟨sv, rfl⟩ : ∃ s, c1 = [s] := by
    match c1, hc1 with
    | [s], _ => exact ⟨s, rfl⟩
  split at hg
  · rename_i hx
    injection hg with hg
    injection hg with h3 h4
    subst h3
    subst e7
    subst e5
    subst e3
    subst e1
    refine (pf_walk w hok (Go.Cams.smallB_iff.1 hx) h1 a b).mono fun e w' ⟨hd, F, he, hrow, nd, hF, hB⟩ => ?_
    refine ⟨_, he, [hd, .int .i64 (pfI S a b).2.1, .int .i64 (pfI S a b).2.2.1], F, [], okc, rfl, ?_, ⟨_, _, rfl, _, _, rfl, _, _, rfl, rfl⟩, by simpa using nd, fun g hb => ?_, fun g hb => ?_, keptBut_below hB.os hB.tape hB.output hB.size (fun g hb => hB.block g hb)⟩
    · refine ⟨[hd], _, F, [], rfl, by simp, ?_, [.int .i64 (pfI S a b).2.1], _, [], [], rfl, rfl, ⟨rfl, rfl⟩, [.int .i64 (pfI S a b).2.2.1], [], [], [], rfl, rfl, ⟨rfl, rfl⟩, rfl, rfl⟩
      exact ⟨hd, (pfI S a b).1.map (Value.int .i64), F, [], rfl, by simp, hrow, rfl, repI64 _⟩
    · have := hF g (by simpa using hb)
      exact ⟨this.2, .inl this.1⟩
    · have := hok g hb
      have hs := hB.size
      refine ⟨by omega, .inl hb, fun hm => ?_⟩
      have := hF g (by simpa using hm)
      omega
  · cases hg
end
end Go.Proofs.Ytgmkcekfpmdhoaa
