/- impl.ReverseProgram, walked by hand (a range over slices.Backward): what its code answers. -/
import Derived.Test.YtipjblnjaicbfaaGreatDoorERv
import Derived.Test.YtipjblnjaicbfaaGreatDoorLPg
import Derived.RangeFuncNested
import Derived.RangeFuncBound
import Derived.RangeFuncCalls
import Derived.RangeFuncLeaves
import Derived.Shelf.Abstract
import Derived.Shelf.RegionOpen
import Derived.WalkKit
import Derived.OwnWalkIn
import Derived.TacticsInMore
import Derived.LoopNIn
import Derived.LoopIn
namespace Go.Proofs.YtipjblnjaicbfaaGreatDoor
section
open Go Go.Fw Go.Proofs Go.RowKit Go.Shelf
attribute [local go_sem] Oper.semAt_some
theorem fw_calls {P : Program} {T : Nat → Option TI} {C : Nat → Inst} {L : Laid} (hT : TsOk P T) (hI : ∀ j, InstOk P (C j)) (hX : ∀ j, ExtOk P L (C j)) (hm : P.follows .mixedOrders = true) {j : Nat} (hroot : (C j).ext = none) {x : (argTy (C j).params).I} {r : (resTy (C j).res).I} {o : (outTy (C j).params).I} (hE : Evt (fun n => call T C n j x) (r, o)) {w : World} {vals : List Value} {okc : Nat → Prop} {Fs : List Nat} (hA : ArgsR w okc (C j).params x vals Fs) (hnd : Fs.Nodup) (hF : ∀ b ∈ Fs, b < w.heap.size ∧ ¬ okc b) (hok : ∀ b, okc b → b < w.heap.size) (hon : L.on w) (hbl : ∀ b ∈ Fs, ¬ L.bl b) : Calls P (C j).f vals.toArray w fun e w' => ∃ v, e = .returned v ∧ Post w okc Fs (C j).params (C j).res r o vals v w' := by
  obtain ⟨N, hN⟩ := hE
  have hent := call_sound hT hI hX hm N j x r o w vals okc Fs (hN N (Nat.le_refl _)) hA hnd hF hok hon hbl
  have hcalls := enters_calls (hI j) hroot hent
  refine Calls.mono hcalls fun e W1 he => ?_
  cases e with
  | panicked _ => exact he.elim
  | outgrown => exact he.elim
  | returned v => exact ⟨v, rfl, he⟩
abbrev PgTy : Ty := .pair (.int .i16) (.pair (.slc Go.Cams.MoTy) .unit)
theorem vp_calls {L : Laid} (w : World) (hon : L.on w) {p : Go.Cams.Prg} (hr : Go.Cams.RngPg p) {okc : Nat → Prop} (hok : ∀ b, okc b → b < w.heap.size) {s m : Value} (hrep : Rep w okc PgTy p [s, m]) :
    Calls Tryz.prog 38 #[.agg #[s, m]] w fun e w' => e = .returned (.bool (Go.Cams.okPg p)) ∧ KeptBut (fun _ => False) w w' := by
  have hA : ArgsR w okc (LRv.C 38).params (p, ()) [.agg #[s, m]] [] := ⟨[s, m], [], [], [], rfl, rfl, ⟨rfl, hrep⟩, rfl, rfl⟩
  refine (fw_calls LRv.tsOk LRv.insts (fun j => extOk_none (LRv.noExt j)) (by kernel_rfl) (j := 38) (LRv.noExt 38) (Go.Cams.YtipjblnjaicbfaaGreatDoorLRv.e38 p hr) hA (by simp) (by simp) hok hon (by simp)).mono fun e w' ⟨v, he, hp⟩ => ?_
  obtain ⟨xs, Fr, Fo, ok', rfl, hR, hO, hnd, hFr, hok', hk⟩ := hp
  obtain ⟨c1, v1, F1, F2, e1, e2, h1, e5, e6⟩ := hR
  have h1 : F1 = [] ∧ c1 = [.bool (Go.Cams.okPg p)] := h1
  obtain ⟨rfl, rfl⟩ := h1
  refine ⟨by rw [he, e1, e5]; rfl, hk.mono fun b _ h => by simp at h⟩
/-- All below M but block q is kept. -/
def KpR (M q : Nat) (A B : World) : Prop := M ≤ A.heap.size → A.heap.size ≤ B.heap.size ∧ ∀ b, b < M → b ≠ q → B.heap[b]? = A.heap[b]?
theorem KpR.refl (M q : Nat) (A : World) : KpR M q A A := fun _ => ⟨Nat.le_refl _, fun _ _ _ => rfl⟩
theorem KpR.trans {M q : Nat} {A B C : World} (h : KpR M q A B) (k : KpR M q B C) : KpR M q A C := fun hM => by
  obtain ⟨h1, h2⟩ := h hM
  obtain ⟨k1, k2⟩ := k (Nat.le_trans hM h1)
  exact ⟨Nat.le_trans h1 k1, fun b hb hq => (k2 b hb hq).trans (h2 b hb hq)⟩
theorem KpR.put {M q : Nat} (W : World) (l : Nat) (o' : Obj) (hl : M ≤ l) : KpR M q W (W.putObj l o') := fun _ => ⟨by simp, fun b hb _ => World.putObj_heap_other (by omega)⟩
/-- What a motion's cells hold. -/
def moC (v : Go.Cams.Ct) : List Value := [.int .i8 v.1, .int .i16 v.2.1, .int .i16 v.2.2.1]
def encM (L : List Go.Cams.Ct) (x : Fin L.length) : Array Value := #[.int .i64 (x.1 : Int), .agg #[.int .i8 (L[x.1]).1, .int .i16 (L[x.1]).2.1, .int .i16 (L[x.1]).2.2.1]]
def dn {n : Nat} (hn : 0 < n) (k : Nat) : Fin n := ⟨n - 1 - k, by omega⟩
def uptoD {n : Nat} (hn : 0 < n) (k : Nat) : List (Fin n) := (List.range k).map (dn hn)
theorem uptoD_succ {n : Nat} (hn : 0 < n) (k : Nat) : uptoD hn (k + 1) = uptoD hn k ++ [dn hn k] := by simp [uptoD, List.range_succ]
theorem uptoD_len {n : Nat} (hn : 0 < n) (k : Nat) : (uptoD hn k).length = k := by simp [uptoD]
/-- The motions lie at an address. -/
def MoAt (w : World) (a : Addr) (L : List Go.Cams.Ct) : Prop := ∀ (j : Nat) (v : Go.Cams.Ct), L[j]? = some v → w.cell? (a.add (j * 3)) = some (.int .i8 v.1) ∧ w.cell? ((a.add (j * 3)).add 1) = some (.int .i16 v.2.1) ∧ w.cell? ((a.add (j * 3)).add 2) = some (.int .i16 v.2.2.1)
theorem MoAt.keep {w w' : World} {a : Addr} {L : List Go.Cams.Ct} (h : MoAt w a L) (hk : w'.heap[a.block]? = w.heap[a.block]?) : MoAt w' a L := fun j v hv => by
  have hb : ∀ (x : Addr), x.block = a.block → w'.cell? x = w.cell? x := fun x hx => by
    unfold World.cell?
    rw [hx, hk]
  have e1 : (a.add (j * 3)).block = a.block := by unfold Addr.add; split <;> rfl
  have e2 : ((a.add (j * 3)).add 1).block = a.block := by rw [← e1]; unfold Addr.add; simp
  have e3 : ((a.add (j * 3)).add 2).block = a.block := by rw [← e1]; unfold Addr.add; simp
  rw [hb _ e1, hb _ e2, hb _ e3]
  exact h j v hv
theorem moAt_rep {w : World} {ok : Nat → Prop} {a : Addr} : ∀ (L : List Go.Cams.Ct) (es : List Value), RepL (Rep w ok Go.Cams.MoTy) L es → es = L.flatMap moC
  | [], _, h => h
  | v :: l, es, h => by
    obtain ⟨c, d, e, h1, h2⟩ := h
    obtain ⟨x1, y1, ex1, rfl, h3⟩ := h1
    obtain ⟨x2, y2, ex2, rfl, h4⟩ := h3
    obtain ⟨x3, y3, ex3, rfl, h5⟩ := h4
    have h5 : y3 = [] := h5
    subst h5
    rw [e, ex1, ex2, ex3, moAt_rep (a := a) l d h2]
    rfl
theorem moC_at : ∀ (L : List Go.Cams.Ct) (j : Nat) (v : Go.Cams.Ct), L[j]? = some v → (L.flatMap moC)[j * 3]? = some (.int .i8 v.1) ∧ (L.flatMap moC)[j * 3 + 1]? = some (.int .i16 v.2.1) ∧ (L.flatMap moC)[j * 3 + 2]? = some (.int .i16 v.2.2.1)
  | [], _, _, h => by simp at h
  | u :: l, 0, v, h => by
    have : u = v := by simpa using h
    subst this
    simp [moC]
  | u :: l, j + 1, v, h => by
    have h' : l[j]? = some v := by simpa using h
    obtain ⟨h1, h2, h3⟩ := moC_at l j v h'
    have e : (u :: l).flatMap moC = moC u ++ l.flatMap moC := by simp
    have hl : (moC u).length = 3 := rfl
    rw [e, List.getElem?_append_right (by rw [hl]; omega), List.getElem?_append_right (by rw [hl]; omega), List.getElem?_append_right (by rw [hl]; omega), hl, show (j + 1) * 3 - 3 = j * 3 by omega, show (j + 1) * 3 + 1 - 3 = j * 3 + 1 by omega, show (j + 1) * 3 + 2 - 3 = j * 3 + 2 by omega]
    exact ⟨h1, h2, h3⟩
theorem moAt_of {w : World} {ok : Nat → Prop} {a : Addr} {L : List Go.Cams.Ct} {es : List Value} (hc : cellsAt w a es) (h : RepL (Rep w ok Go.Cams.MoTy) L es) : MoAt w a L := fun j v hv => by
  have e := moAt_rep (a := a) L es h
  subst e
  obtain ⟨h1, h2, h3⟩ := moC_at L j v hv
  rw [add_add, add_add]
  exact ⟨hc _ _ h1, hc _ _ h2, hc _ _ h3⟩
end
end Go.Proofs.YtipjblnjaicbfaaGreatDoor

namespace Go.Proofs.YtipjblnjaicbfaaGreatDoor
section
open Go Go.Fw Go.Proofs Go.RowKit Go.Shelf
attribute [local go_sem] Oper.semAt_some
set_option maxRecDepth 100000 in
set_option maxHeartbeats 2000000 in
theorem bw_in (F : Fence) (n : Nat) (h : F.fn 120) (hro : F.round = none) (a : Option Addr) (len cap : Nat) (w : World) :
    CallsIn F n Tryz.prog 120 #[.slice a len cap] w fun e w' => e = .returned (.func (.func 184) #[] #[.pointer (some ⟨w.heap.size, 0, none⟩)]) ∧ w' = w.alloc (.cells #[.slice a len cap] 58) := by
  refine callsIn_of_wp Tryz.func120 rfl h ?_ hro
  simp only [Tryz.ntmps120, List.size_toArray, List.length_cons, List.length_nil, Nat.reduceAdd, Nat.reduceSub, Array.replicate_succ, Array.replicate_zero, List.push_toArray, List.append_toArray, List.nil_append, List.cons_append]
  gi_wp2
  go_ret
  exact ⟨rfl, rfl⟩
set_option maxRecDepth 100000 in
set_option maxHeartbeats 4000000 in
theorem bw1_in (F : Fence) (n : Nat) (h : F.fn 184) (hro : F.round = none) (hn : 1 ≤ n) (l Bs M q cap : Nat) (a : Addr) (L : List Go.Cams.Ct) (hpos : 0 < L.length) (hL : L.length ≤ 24) (J Jx : List (Fin L.length) → World → Prop)
    (hY : ∀ pre x W, J pre W → pre.length < L.length → YieldAt F (n - 1) Tryz.prog l (encM L x) W fun e W' =>
      (e = .returned (.bool true) ∧ J (pre ++ [x]) W' ∧ KpR M q W W') ∨ (e = .returned (.bool false) ∧ Jx (pre ++ [x]) W'))
    (W : World) (hM : M ≤ W.heap.size) (hBM : Bs < M) (hBq : Bs ≠ q) (haM : a.block < M) (haq : a.block ≠ q) (hBs : W.heap[Bs]? = some (.cells #[.slice (some a) L.length cap] 58 (0, 0))) (hc : MoAt W a L) (h0 : J [] W) :
    CallsIn F n Tryz.prog 184 #[.func (.yield l) #[] #[], .pointer (some ⟨Bs, 0, none⟩)] W fun e W' => (∃ v, e = .returned v) ∧
      ((∃ ys, ys = uptoD hpos L.length ∧ J ys W') ∨ (∃ pre, True ∧ Jx pre W')) := by
  have cell1 : ∀ {W : World}, W.heap[Bs]? = some (.cells #[.slice (some a) L.length cap] 58 (0, 0)) → W.cell? ⟨Bs, 0, none⟩ = some (.slice (some a) L.length cap) := fun h => by simp [World.cell?, h]
  have hb0 := cell1 hBs
  refine callsIn_of_wp Tryz.func184 rfl h ?_ hro
  simp only [Tryz.ntmps184, List.size_toArray, List.length_cons, List.length_nil, Nat.reduceAdd, Nat.reduceSub, Array.replicate_succ, Array.replicate_zero, List.push_toArray, List.append_toArray, List.nil_append, List.cons_append]
  gi_wp2
  gi_loopw [3] (fun i wr => ∃ k j : Nat, k + j = L.length ∧ i = .int .i64 ((j : Int) - 1) ∧ J (uptoD hpos k) wr ∧ KpR M q W wr)
    (fun i _ => (intOf i + 1).toNat)
  case atStart => exact ⟨0, L.length, by omega, by simp, h0, KpR.refl _ _ _⟩
  case round =>
    obtain ⟨k, j, hkj, rfl, hJs, hkp⟩ := hrel
    obtain ⟨hsz, hkh⟩ := hkp hM
    have hMr : M ≤ wr.heap.size := by omega
    have hb1 := cell1 ((hkh Bs hBM hBq).trans hBs)
    cases j with
    | zero =>
      have hkl : k = L.length := by omega
      subst hkl
      gi_wp2
      go_end0
      exact ⟨⟨_, rfl⟩, .inl ⟨_, rfl, hJs⟩⟩
    | succ j =>
      have hjl : j < L.length := by omega
      have hc' := hc.keep (w' := wr) (hkh a.block haM haq)
      obtain ⟨c1, c2, c3⟩ := hc' j L[j] (List.getElem?_eq_getElem hjl)
      have c2 : wr.cell? ⟨(a.add (j * 3)).block, (a.add (j * 3)).off + 1, none⟩ = some (.int .i16 L[j].2.1) := c2
      have c3 : wr.cell? ⟨(a.add (j * 3)).block, (a.add (j * 3)).off + 2, none⟩ = some (.int .i16 L[j].2.2.1) := c3
      have hdn : dn hpos k = ⟨j, hjl⟩ := by
        unfold dn
        congr 1
        omega
      obtain ⟨fn, tmps, assign, body, hy, hR⟩ := hY _ (dn hpos k) wr hJs (by rw [uptoD_len]; omega)
      rw [hdn] at hy
      unfold encM at hy
      dsimp only at hy
      have ej : (((j + 1 : Nat) : Int) - 1) = (j : Int) := by omega
      rw [ej]
      gi_wp2
      refine hR.mono ?_
      rintro e W3 (⟨rfl, hJ3, hk3⟩ | ⟨rfl, hJx3⟩)
      · gi_wp2
        go_roundw
        case rel => exact ⟨k + 1, j, by omega, rfl, by rw [uptoD_succ]; exact hJ3, hkp.trans hk3⟩
        case measure => simp [intOf]
      · gi_wp2
        refine bodyPost_ret (results_none rfl _ _ _) rfl ?_
        exact ⟨⟨_, rfl⟩, .inr ⟨_, trivial, hJx3⟩⟩
theorem bw_stops (F : Fence) (n : Nat) (h : F.fn 184) (hro : F.round = none) (hn : 1 ≤ n) (Bs q cap : Nat) (a : Addr) (L : List Go.Cams.Ct) (hpos : 0 < L.length) (hL : L.length ≤ 24) (w : World) (hBM : Bs < w.heap.size) (hBq : Bs ≠ q) (haM : a.block < w.heap.size) (haq : a.block ≠ q) (hBs : w.heap[Bs]? = some (.cells #[.slice (some a) L.length cap] 58 (0, 0))) (hc : MoAt w a L) :
    SeqStopsK F n Tryz.prog 184 #[.pointer (some ⟨Bs, 0, none⟩)] (encM L) (KpR w.heap.size q) (fun ys => ys = uptoD hpos L.length) (fun _ => True) L.length w := fun l J Jx W hW _ _ hY h0 => by
  refine (bw1_in F n h hro hn l Bs w.heap.size q cap a L hpos hL J Jx hY W hW.size hBM hBq haM haq ((hW.block Bs hBM).trans hBs) (hc.keep (hW.block _ haM)) h0).mono ?_
  exact fun e W' h => h
end
end Go.Proofs.YtipjblnjaicbfaaGreatDoor

namespace Go.Proofs.YtipjblnjaicbfaaGreatDoor
section
open Go Go.Fw Go.Proofs Go.RowKit Go.Shelf
attribute [local go_sem] Oper.semAt_some
theorem on_kept {L : Laid} {w w' : World} (h : L.on w) (k : KeptBut (fun _ => False) w w') : L.on w' := Laid.on_kept h (md := []) (k.mono fun _ _ h => h.elim) (by simp)
theorem on_below {L : Laid} {w wr : World} (h : L.on w) (hB : Below w.heap.size w wr) : L.on wr := on_kept h ⟨hB.os, hB.tape, hB.output, hB.size, fun b hb _ => hB.block b hb⟩
theorem rep_pg {w : World} {okc : Nat → Prop} {t : Int} {L : List Go.Cams.Ct} {s m : Value} (h : Rep w okc PgTy (t, L, ()) [s, m]) (hL : L ≠ []) : s = .int .i16 t ∧ ∃ a cap, m = .slice (some a) L.length cap ∧ okc a.block ∧ a.block < w.heap.size ∧ MoAt w a L := by
  obtain ⟨c, d, e, h1, h2⟩ := h
  have h1 : c = [.int .i16 t] := h1
  obtain ⟨c2, d2, e2, h3, h4⟩ := h2
  have h4 : d2 = [] := h4
  obtain ⟨A, cap, e3, hn, h5⟩ := h3
  subst h1; subst h4; subst e3; subst e2
  injection e with e1 e2
  injection e2 with e2 e3
  obtain ⟨a, es, hA, ho, hlt, hc, hr⟩ := h5.resolve_left hL
  exact ⟨e1, a, cap, by rw [e2, hA], ho, hlt, moAt_of hc hr⟩
theorem alloc_at (w : World) (o : Obj) : (w.alloc o).heap[w.heap.size]? = some o := World.alloc_heap_new w o
theorem alloc_below (w : World) (o : Obj) {b : Nat} (h : b < w.heap.size) : (w.alloc o).heap[b]? = w.heap[b]? := Below.heap_alloc w o b h
theorem cells2 {w : World} {b : Nat} {h0 h1 : Value} {T : TypeId} (h : w.heap[b]? = some (.cells #[h0, h1] T (0, 0))) : w.cell? ⟨b, 0, none⟩ = some h0 ∧ w.cell? ⟨b, 1, none⟩ = some h1 ∧ w.frozen? ⟨b, 0, none⟩ = false ∧ w.frozen? ⟨b, 1, none⟩ = false := by
  simp [World.cell?, World.frozen?, h]
theorem own_keep {W W' : World} {base : Nat} {e : TypeId} {sz n : Nat} {v : Value} {xs : List Value} (h : W.ownsRow base e sz v n xs) (hk : ∀ g, v.ownBlock = some g → W'.heap[g]? = W.heap[g]?) : W'.ownsRow base e sz v n xs := by
  refine ⟨h.1, h.2.imp id ?_⟩
  rintro ⟨g, cap, cur, rfl, hb, hg, r⟩
  exact ⟨g, cap, cur, rfl, hb, (hk g rfl).trans hg, r⟩
theorem own_at {W : World} {base : Nat} {e : TypeId} {sz n : Nat} {v : Value} {xs : List Value} (h : W.ownsRow base e sz v n xs) {g : Nat} (hg : v.ownBlock = some g) : base ≤ g ∧ g < W.heap.size ∧ ∃ cur, W.heap[g]? = some (.cells cur e (0, 0)) := by
  rcases h.2 with ⟨rfl, _⟩ | ⟨g', cap, cur, rfl, hb, hg', _⟩
  · cases hg
  · have : g' = g := by injection hg
    subst this
    exact ⟨hb, (Array.getElem?_eq_some_iff.1 hg').1, cur, hg'⟩
/-- What is kept since the loop's start. -/
structure KK (M q : Nat) (W0 W : World) : Prop where
  size : M ≤ W.heap.size
  os : W.os = W0.os
  tape : W.tape = W0.tape
  output : W.output = W0.output
  heap : ∀ b, b < M → b ≠ q → W.heap[b]? = W0.heap[b]?
theorem KK.step {M q : Nat} {W0 W W' : World} (h : KK M q W0 W) (h1 : W'.os = W.os) (h2 : W'.tape = W.tape) (h3 : W'.output = W.output) (h4 : W.heap.size ≤ W'.heap.size) (h5 : ∀ b, b < M → b ≠ q → W'.heap[b]? = W.heap[b]?) : KK M q W0 W' :=
  ⟨Nat.le_trans h.size h4, h1.trans h.os, h2.trans h.tape, h3.trans h.output, fun b hb hq => (h5 b hb hq).trans (h.heap b hb hq)⟩
theorem cells3 {w : World} {b : Nat} {h0 h1 h2 : Value} {T : TypeId} (h : w.heap[b]? = some (.cells #[h0, h1, h2] T (0, 0))) : w.cell? ⟨b, 0, none⟩ = some h0 ∧ w.cell? ⟨b, 1, none⟩ = some h1 ∧ w.cell? ⟨b, 2, none⟩ = some h2 ∧ w.frozen? ⟨b, 0, none⟩ = false ∧ w.frozen? ⟨b, 1, none⟩ = false ∧ w.frozen? ⟨b, 2, none⟩ = false := by
  simp [World.cell?, World.frozen?, h]
def rvC (t : Int) (L : List Go.Cams.Ct) (pre : List (Fin L.length)) : List Value := (pre.map fun x => Go.Cams.revEl t L x.1).flatMap moC
def InvR (M q : Nat) (t : Int) (L : List Go.Cams.Ct) (W0 : World) (pre : List (Fin L.length)) (W : World) : Prop :=
  (∃ v, W.heap[q]? = some (.cells #[.int .i16 t, v] 60 (0, 0)) ∧ W.ownsRow M 77 3 v pre.length (rvC t L pre)) ∧ KK M q W0 W
theorem grown_cells {W W' : World} {row : Option Nat} (hg : W.grownBy W' row) (hr : ∀ r, row = some r → ∃ o : Obj, W.heap[r]? = some o ∧ o.isCells = false) {b : Nat} {cs : Array Value} {T : TypeId} {z : Nat × Nat} (h : W.heap[b]? = some (.cells cs T z)) : W'.heap[b]? = W.heap[b]? :=
  hg.block b (Array.getElem?_eq_some_iff.1 h).1 fun e => by
    obtain ⟨o, ho, hc⟩ := hr b e.symm
    rw [h] at ho
    cases ho
    cases hc
theorem inv_own (M q : Nat) (t : Int) (L : List Go.Cams.Ct) (W0 : World) : OwnFrom M (InvR M q t L W0) := by
  rintro pre X Y row ⟨⟨v, hv, hrow⟩, hk⟩ hg hr
  have hr' : ∀ r, row = some r → ∃ o : Obj, X.heap[r]? = some o ∧ o.isCells = false := fun r e => (hr r e).2
  refine ⟨⟨v, (grown_cells hg hr' hv).trans hv, own_keep hrow fun g e => ?_⟩, ⟨Nat.le_trans hk.size hg.size, hg.os.trans hk.os, hg.tape.trans hk.tape, hg.output.trans hk.output, fun b hb hq => (hg.block b (by have := hk.size; omega) fun e => ?_).trans (hk.heap b hb hq)⟩⟩
  · obtain ⟨_, _, cur, h⟩ := own_at hrow e
    exact grown_cells hg hr' h
  · have := (hr b e.symm).1
    omega
theorem setc_ne {W : World} {b k o : Nat} {v : Value} (h : k ≠ b) : (W.setCell ⟨b, o, none⟩ v).heap[k]? = W.heap[k]? := by
  simp only [World.setCell]
  rw [Array.getElem?_modify, if_neg (fun e => h e.symm)]
theorem setc_eq {W : World} {b i : Nat} {xs : Array Value} {T : TypeId} (v : Value) (hb : W.heap[b]? = some (.cells xs T (0, 0))) : (W.setCell ⟨b, i, none⟩ v).heap[b]? = some (.cells (xs.setIfInBounds i v) T (0, 0)) := by
  simp [World.setCell, Array.getElem?_modify, hb]
theorem setc_size (W : World) (b o : Nat) (v : Value) : (W.setCell ⟨b, o, none⟩ v).heap.size = W.heap.size := by simp [World.setCell]
/-- What a round leaves. -/
theorem body_fin {M q Bx k : Nat} {t : Int} {v2 v' : Value} {es es' : List Value} {xs : Array Value} {W WA w3 : World} {o : Obj} (hM : M ≤ W.heap.size) (hqM : q < M) (hv : W.heap[q]? = some (.cells #[.int .i16 t, v2] 60 (0, 0))) (hBM : M ≤ Bx) (hBx : W.heap[Bx]? = some (.cells xs 77 (0, 0))) (hrow : W.ownsRow M 77 3 v2 k es) (hWA : ∀ b, b ≠ Bx → WA.heap[b]? = W.heap[b]?) (hsz : WA.heap.size = W.heap.size) (h1 : WA.os = W.os) (h2 : WA.tape = W.tape) (h3 : WA.output = W.output) (hgrow : (WA.alloc o).grownBy w3 v2.ownBlock) (hown : w3.ownsRow M 77 3 v' (k + 1) es') :
    w3.heap[q]? = some (.cells #[.int .i16 t, v2] 60 (0, 0)) ∧ KeepsFrom M W (w3.setCell ⟨q, 1, none⟩ v') ∧ KpR M q W (w3.setCell ⟨q, 1, none⟩ v') ∧ (w3.setCell ⟨q, 1, none⟩ v').heap[q]? = some (.cells #[.int .i16 t, v'] 60 (0, 0)) ∧ (w3.setCell ⟨q, 1, none⟩ v').ownsRow M 77 3 v' (k + 1) es' ∧
      (∀ W0, KK M q W0 W → KK M q W0 (w3.setCell ⟨q, 1, none⟩ v')) := by
  have hs3 := hgrow.size
  have hsa : (WA.alloc o).heap.size = W.heap.size + 1 := by simp [hsz]
  rw [hsa] at hs3
  have old : ∀ b, b < W.heap.size → b ≠ Bx → some b ≠ v2.ownBlock → w3.heap[b]? = W.heap[b]? := fun b hb hB hr => by
    rw [hgrow.block b (by rw [hsa]; omega) hr, alloc_below _ _ (by rw [hsz]; exact hb), hWA b hB]
  have nrow : ∀ b, b < M → some b ≠ v2.ownBlock := fun b hb e => by
    have := (own_at hrow e.symm).1
    omega
  have hq3 := old q (by omega) (by omega) (nrow q hqM)
  refine ⟨hq3.trans hv, ⟨by rw [setc_size]; omega, fun b ob hb hob hc => ?_⟩, fun _ => ⟨by rw [setc_size]; omega, fun b hb hq => ?_⟩, ?_, own_keep hown fun g e => setc_ne ?_, fun W0 hk => hk.step ?_ ?_ ?_ (by rw [setc_size]; omega) fun b hb hq => ?_⟩
  · rw [setc_ne (by omega), old b (Array.getElem?_eq_some_iff.1 hob).1 (fun e => ?_) (fun e => ?_)]
    · exact hob
    · subst e
      rw [hBx] at hob
      cases hob
      cases hc
    · obtain ⟨_, _, cur, h⟩ := own_at hrow e.symm
      rw [h] at hob
      cases hob
      cases hc
  · rw [setc_ne hq, old b (by omega) (by omega) (nrow b hb)]
  · rw [setc_eq v' (hq3.trans hv)]
    rfl
  · have := (own_at hown e).1
    omega
  · exact hgrow.os.trans h1
  · exact hgrow.tape.trans h2
  · exact hgrow.output.trans h3
  · rw [setc_ne hq, old b (by omega) (by omega) (nrow b hb)]
theorem rvC_snoc (t : Int) (L : List Go.Cams.Ct) (pre : List (Fin L.length)) (x : Fin L.length) : rvC t L (pre ++ [x]) = rvC t L pre ++ moC (Go.Cams.revEl t L x.1) := by simp [rvC]
theorem revEl_zero {t : Int} {L : List Go.Cams.Ct} (h : 0 < L.length) : moC (Go.Cams.revEl t L 0) = [.int .i8 (L[0]).1, .int .i16 (L[0]).2.1, .int .i16 t] := by
  unfold Go.Cams.revEl
  rw [List.getElem?_eq_getElem h]
  rfl
theorem revEl_succ {t : Int} {L : List Go.Cams.Ct} {i : Nat} (h : i + 1 < L.length) : moC (Go.Cams.revEl t L (i + 1)) = [.int .i8 (L[i + 1]).1, .int .i16 (L[i + 1]).2.1, .int .i16 (L[i]'(by omega)).2.2.1] := by
  unfold Go.Cams.revEl Go.Cams.prevT
  rw [List.getElem?_eq_getElem h]
  simp only [Nat.add_sub_cancel]
  rw [if_neg (by omega), List.getElem?_eq_getElem (by omega)]
  rfl
theorem cells_one (w : World) {x y z : Value} : ∀ (j : Nat) u, [x, y, z][j]? = some u → (w.alloc (.cells #[x, y, z] 77)).cell? ((⟨w.heap.size, 0, none⟩ : Addr).add j) = some u := fun j u hj => by
  match j, hj with
  | 0, hj => cases hj; exact (cells3 (alloc_at w _)).1
  | 1, hj => cases hj; exact (cells3 (alloc_at w (.cells #[x, y, z] 77))).2.1
  | 2, hj => cases hj; exact (cells3 (alloc_at w (.cells #[x, y, z] 77))).2.2.1
theorem rv_res {tmps : Array Value} {W : World} {b : Nat} {h0 h1 : Value} (hW : W.heap[b]? = some (.cells #[h0, h1] 60 (0, 0))) (e2 : tmps.getD 2 undef = .pointer (some ⟨b, 0, none⟩)) (e3 : tmps.getD 3 undef = .int .i64 0) : (results Tryz.f44 tmps).run Tryz.prog W = .ok (.tuple #[.agg #[h0, h1], .int .i64 0]) W := by
  obtain ⟨c0, c1, _, _⟩ := cells2 hW
  refine results_run (a := ⟨tmps, []⟩) (slots := [.cell 2 60, .tmp 3]) (xs := [.agg #[h0, h1], .int .i64 0]) rfl ⟨⟨_, e2, run_loadVar (cs := [h0, h1]) (Tryz.sizeOf60 W) (Tryz.isAgg60 W) (by simp) ?_ rfl⟩, e3.symm, trivial⟩
  intro i v hi
  match i, hi with
  | 0, hi => cases hi; exact c0
  | 1, hi => cases hi; exact c1
def RvQ (t : Int) (L : List Go.Cams.Ct) (w : World) (e : Ending) (w' : World) : Prop := ∃ hd F, e = .returned (.tuple #[.agg #[.int .i16 t, hd], .int .i64 0]) ∧ RowOk w' hd 3 L.length ((Go.Cams.revL t L).flatMap moC) F ∧ F.Nodup ∧ (∀ b ∈ F, w.heap.size ≤ b ∧ b < w'.heap.size) ∧ Below w.heap.size w w'
def AxR (M q N0 : Nat) (t : Int) (L : List Go.Cams.Ct) (a : Addr) (cap : Nat) (x : Fin L.length) (a' : Act) (W : World) : Prop :=
  ∃ Bx, M ≤ Bx ∧ W.heap[Bx]? = some (.cells #[.int .i8 (L[x.1]).1, .int .i16 (L[x.1]).2.1, .int .i16 (L[x.1]).2.2.1] 77 (0, 0)) ∧ (∃ v, W.heap[q]? = some (.cells #[.int .i16 t, v] 60 (0, 0)) ∧ v.ownBlock ≠ some Bx) ∧
    a' = { tmps := #[.agg #[.int .i16 t, .slice (some a) L.length cap], .pointer (some ⟨N0, 0, none⟩), .pointer (some ⟨N0 + 1, 0, none⟩), .int .i64 0, .pointer (some ⟨q, 0, none⟩), .int .i64 (x.1 : Int), .pointer (some ⟨Bx, 0, none⟩), .agg #[.int .i16 t, .slice (some a) L.length cap], .bool true, .bool false, undef, .pointer (some ⟨N0, 0, none⟩), .int .i16 t, .agg #[.int .i16 t, .slice none 0 0], .pointer (some ⟨N0, 1, none⟩), .slice (some a) L.length cap, .func (.func 184) #[] #[.pointer (some ⟨q + 1, 0, none⟩)], .int .i64 (x.1 : Int), .agg #[.int .i8 (L[x.1]).1, .int .i16 (L[x.1]).2.1, .int .i16 (L[x.1]).2.2.1], undef, undef, undef, undef, undef, undef, undef, undef, undef, undef, undef, undef, undef, undef, undef, undef, undef, undef, undef, undef], defers := [] }
theorem ax_own (M q N0 : Nat) (t : Int) (L : List Go.Cams.Ct) (a : Addr) (cap : Nat) (x : Fin L.length) (a' : Act) : OwnFrom M (fun (_ : Unit) W => AxR M q N0 t L a cap x a' W) := by
  rintro _ X Y row ⟨Bx, h1, h2, ⟨v, h3, h4⟩, h5⟩ hg hr
  have hr' : ∀ r, row = some r → ∃ o : Obj, X.heap[r]? = some o ∧ o.isCells = false := fun r e => (hr r e).2
  exact ⟨Bx, h1, (grown_cells hg hr' h2).trans h2, ⟨v, (grown_cells hg hr' h3).trans h3, h4⟩, h5⟩
theorem infoM : (Tryz.prog.info? 77).map (fun i => (i.zero, i.size, i.bytes)) = some (some (.agg #[.int .i8 0, .int .i16 0, .int .i16 0]), 3, 6) := by kernel_rfl
set_option maxRecDepth 100000 in
set_option maxHeartbeats 4000000 in
theorem rv_walk {L0 : Laid} (w : World) (hon : L0.on w) (t : Int) (L : List Go.Cams.Ct) (hin : Go.Cams.pgIn (t, L, ()) = true) {okc : Nat → Prop} (hok : ∀ b, okc b → b < w.heap.size) {s m : Value} (hrep : Rep w okc PgTy (t, L, ()) [s, m]) :
    Calls Tryz.prog 44 #[.agg #[s, m]] w fun e w' => RvQ t L w e w' := by
  obtain ⟨hr, hop⟩ := Go.Cams.pgIn_rng hin
  have hn := (Go.Cams.goodPg hr hop).n
  have hn : 1 ≤ (L.length : Int) ∧ (L.length : Int) ≤ 24 := hn
  have hpos : 0 < L.length := by omega
  obtain ⟨es, a, cap, em, hoa, halt, hmo⟩ := rep_pg hrep (by intro e; subst e; simp at hpos)
  subst es; subst em
  have hBA : Below w.heap.size w ((w.alloc (.cells #[.int .i16 t, .slice (some a) L.length cap] 60)).alloc (.cells #[.int .i16 0, .slice none 0 0] 60)) := ((Below.refl w.heap.size w).alloc (Nat.le_refl _) _).alloc (by simp) _
  have hA : L0.on ((w.alloc (.cells #[.int .i16 t, .slice (some a) L.length cap] 60)).alloc (.cells #[.int .i16 0, .slice none 0 0] 60)) := on_below hon hBA
  have hrepA : Rep ((w.alloc (.cells #[.int .i16 t, .slice (some a) L.length cap] 60)).alloc (.cells #[.int .i16 0, .slice none 0 0] 60)) okc PgTy (t, L, ()) [.int .i16 t, .slice (some a) L.length cap] := Rep.keep (fun b hb hlt => ⟨hb, hBA.block b hlt⟩) hBA.size _ hrep
  have HV := vp_calls _ hA hr (okc := okc) (fun b hb => by have := hok b hb; simp; omega) hrepA
  rw [hop] at HV
  have HV2 := (callsIn_wide (n := 2)).2 HV
  clear HV
  refine (callsIn_wide (n := 3)).1 ?_
  have hwide : ∀ f, Fence.wide.fn f := fun _ => trivial
  have hro : Fence.wide.round = none := rfl
  generalize Fence.wide = F at *
  refine callsIn_of_wp_marks Tryz.func44 rfl (hwide 44) ?_ hro
  simp only [Tryz.ntmps44, List.size_toArray, List.length_cons, List.length_nil, Nat.reduceAdd, Nat.reduceSub, Array.replicate_succ, Array.replicate_zero, List.push_toArray, List.append_toArray, List.nil_append, List.cons_append]
  gi_wp2_with (gi_at_call 38; refine HV2.mono ?_)
  intro e w1 he hk1
  subst he
  clear HV2 hrepA hA
  obtain ⟨f1, f2, f3, f4⟩ : w1.heap[w.heap.size]? = some (.cells #[.int .i16 t, .slice (some a) L.length cap] 60 (0, 0)) ∧ w1.heap[w.heap.size + 1]? = some (.cells #[.int .i16 0, .slice none 0 0] 60 (0, 0)) ∧ w.heap.size + 2 ≤ w1.heap.size ∧ Below w.heap.size w w1 := by
    have hs := hk1.size
    have hsA : ((w.alloc (Obj.cells #[Value.int IntKind.i16 t, Value.slice (some a) L.length cap] 60)).alloc (Obj.cells #[Value.int IntKind.i16 0, Value.slice none 0 0] 60)).heap.size = w.heap.size + 2 := by simp
    rw [hsA] at hs
    refine ⟨?_, ?_, hs, hBA.trans ⟨hk1.os, hk1.tape, hk1.output, hk1.size, fun b hb => hk1.heap b (by omega) (fun h => h)⟩⟩
    · rw [hk1.heap _ (by omega) (fun h => h), alloc_below _ _ (by simp), alloc_at]
    · rw [hk1.heap _ (by omega) (fun h => h)]
      have := alloc_at (w.alloc (Obj.cells #[Value.int IntKind.i16 t, Value.slice (some a) L.length cap] 60)) (Obj.cells #[Value.int IntKind.i16 0, Value.slice none 0 0] 60)
      rw [World.size_alloc] at this
      exact this
  obtain ⟨g1, g2, g3, g4⟩ := cells2 f1
  have g5 : (w1.alloc (Obj.cells #[Value.int IntKind.i16 t, Value.slice none 0 0] 60)).cell? ⟨w.heap.size, 1, none⟩ = some (.slice (some a) L.length cap) := by
    unfold World.cell? at g2 ⊢
    rw [alloc_below _ _ (by show w.heap.size < _; omega)]
    exact g2
  gi_wp2_with (gi_at_call 120; refine (bw_in F _ (hwide 120) hro _ _ _ _).mono ?_; rintro e w2 ⟨rfl, hw2⟩; subst hw2)
  obtain ⟨z0, z1, z2, z3, hsz, z4⟩ : (((w1.alloc (Obj.cells #[Value.int IntKind.i16 t, Value.slice none 0 0] 60)).alloc (Obj.cells #[Value.slice (some a) L.length cap] 58)).heap[w.heap.size]? = some (.cells #[.int .i16 t, .slice (some a) L.length cap] 60 (0, 0))) ∧ (((w1.alloc (Obj.cells #[Value.int IntKind.i16 t, Value.slice none 0 0] 60)).alloc (Obj.cells #[Value.slice (some a) L.length cap] 58)).heap[w.heap.size + 1]? = some (.cells #[.int .i16 0, .slice none 0 0] 60 (0, 0))) ∧ (((w1.alloc (Obj.cells #[Value.int IntKind.i16 t, Value.slice none 0 0] 60)).alloc (Obj.cells #[Value.slice (some a) L.length cap] 58)).heap[w1.heap.size]? = some (.cells #[.int .i16 t, .slice none 0 0] 60 (0, 0))) ∧ (((w1.alloc (Obj.cells #[Value.int IntKind.i16 t, Value.slice none 0 0] 60)).alloc (Obj.cells #[Value.slice (some a) L.length cap] 58)).heap[w1.heap.size + 1]? = some (.cells #[.slice (some a) L.length cap] 58 (0, 0))) ∧ ((w1.alloc (Obj.cells #[Value.int IntKind.i16 t, Value.slice none 0 0] 60)).alloc (Obj.cells #[Value.slice (some a) L.length cap] 58)).heap.size = w1.heap.size + 2 ∧ Below w.heap.size w ((w1.alloc (Obj.cells #[Value.int IntKind.i16 t, Value.slice none 0 0] 60)).alloc (Obj.cells #[Value.slice (some a) L.length cap] 58)) := by
    have hB2 : Below w1.heap.size w1 ((w1.alloc (Obj.cells #[Value.int IntKind.i16 t, Value.slice none 0 0] 60)).alloc (Obj.cells #[Value.slice (some a) L.length cap] 58)) := ((Below.refl w1.heap.size w1).alloc (Nat.le_refl _) _).alloc (by simp) _
    refine ⟨(hB2.block _ (by omega)).trans f1, (hB2.block _ (by omega)).trans f2, ?_, ?_, by simp, f4.trans (hB2.mono (by omega))⟩
    · rw [alloc_below _ _ (by simp), alloc_at]
    · have := alloc_at (w1.alloc (Obj.cells #[Value.int IntKind.i16 t, Value.slice none 0 0] 60)) (Obj.cells #[Value.slice (some a) L.length cap] 58)
      rw [World.size_alloc] at this
      exact this
  clear f1 f2 g1 g2 g3 g4 g5 hk1 f4
  generalize (w1.alloc (Obj.cells #[Value.int IntKind.i16 t, Value.slice none 0 0] 60)).alloc (Obj.cells #[Value.slice (some a) L.length cap] 58) = W0 at z0 z1 z2 z3 hsz z4 ⊢
  generalize w1.heap.size = q at z2 z3 hsz f3 ⊢
  have hmo0 : MoAt W0 a L := hmo.keep (z4.block _ halt)
  obtain ⟨i0, hi0, hz0, hz1, hz2⟩ := info_parts infoM
  refine wpIn_rangeFunc_ownH hro (by omega) (gf := 184) (lb := #[.pointer (some ⟨q + 1, 0, none⟩)]) rfl (hwide 184) (enters_of Tryz.func184 (by kernel_rfl) rfl)
    (bw_stops F _ (hwide 184) hro (by omega) (q + 1) q cap a L hpos (by omega) W0 (by omega) (by omega) (by omega) (by omega) z3 hmo0) KpR.trans (fun W l o o' hl _ _ _ => KpR.put W l o' hl) (Below.refl _ _) (fun _ => rfl)
    (InvR W0.heap.size q t L W0) (fun _ _ _ => False) (inv_own _ _ _ _ _) (fun _ _ _ _ _ hs _ _ => hs) ?start (AxR W0.heap.size q w.heap.size t L a cap) (ax_own _ _ _ _ _ _ _) ?assign ?body ?done ?stop
  case start => exact ⟨⟨_, z2, by simp [rvC], .inl ⟨rfl, rfl⟩⟩, ⟨Nat.le_refl _, rfl, rfl, rfl, fun _ _ _ => rfl⟩⟩
  case stop =>
    rintro D c pre W _ _ h _
    exact h.elim
  case assign =>
    rintro l pre x W K ⟨⟨v, hv, hrow⟩, hk⟩ hK
    unfold encM
    gi_wp2
    have hM := hk.size
    exact hK _ _ ((KeepsOthers.alloc _ _).from _) (fun _ => ⟨by simp, fun b hb _ => alloc_below _ _ (by omega)⟩)
      ⟨⟨v, (alloc_below _ _ (Array.getElem?_eq_some_iff.1 hv).1).trans hv, own_keep hrow fun g e => alloc_below _ _ (own_at hrow e).2.1⟩, hk.step rfl rfl rfl (by simp) fun b hb _ => alloc_below _ _ (by omega)⟩
      ⟨W.heap.size, hM, alloc_at _ _, ⟨v, (alloc_below _ _ (Array.getElem?_eq_some_iff.1 hv).1).trans hv, fun e => by have := (own_at hrow e).2.1; omega⟩, rfl⟩
  case body =>
    rintro l pre x a' W _ _ ⟨⟨v, hv, hrow⟩, hk⟩ ⟨Bx, hBM, hBx, ⟨v2, hv2, hvB⟩, rfl⟩ hlt
    have ev : v2 = v := by
      rw [hv] at hv2
      simpa using hv2.symm
    subst ev
    have hM := hk.size
    obtain ⟨g1, g2, _, _⟩ := cells2 ((hk.heap w.heap.size (by omega) (by omega)).trans z0)
    obtain ⟨q1, q2, q3, q4⟩ := cells2 hv
    obtain ⟨b1, b2, b3, b4, b5, b6⟩ := cells3 hBx
    have hmoW := hmo0.keep (w' := W) (hk.heap a.block (by omega) (by omega))
    obtain ⟨i, hi⟩ := x
    dsimp only at b1 b2 b3 ⊢
    cases i with
    | zero =>
      have HR : ((W.setCell ⟨Bx, 2, none⟩ (.int .i16 t)).alloc (.cells #[.int .i8 (L[0]).1, .int .i16 (L[0]).2.1, .int .i16 t] 77)).ownsRow W0.heap.size 77 3 v2 pre.length (rvC t L pre) := own_keep hrow fun g e => by
        have hg := own_at hrow e
        rw [alloc_below _ _ (by rw [setc_size]; exact hg.2.1), setc_ne (fun h => hvB (by rw [e, h]))]
      have HC : ∀ (j : Nat) u, [Value.int .i8 (L[0]).1, .int .i16 (L[0]).2.1, .int .i16 t][j]? = some u → ((W.setCell ⟨Bx, 2, none⟩ (.int .i16 t)).alloc (.cells #[.int .i8 (L[0]).1, .int .i16 (L[0]).2.1, .int .i16 t] 77)).cell? ((⟨W.heap.size, 0, none⟩ : Addr).add j) = some u := by
        have := cells_one (W.setCell ⟨Bx, 2, none⟩ (.int .i16 t)) (x := .int .i8 (L[0]).1) (y := .int .i16 (L[0]).2.1) (z := .int .i16 t)
        rw [setc_size] at this
        exact this
      gi_wp2_with (gi_at_builtin; refine wpListIn_append_own _ rfl _ _ 58 rfl W0.heap.size 77 i0 _ 3 6 Tryz.underlying58 hi0 hz0 hz1 hz2 rfl (by decide) _ _ _ rfl HR ⟨W.heap.size, 0, none⟩ 1 1 [Value.int .i8 (L[0]).1, .int .i16 (L[0]).2.1, .int .i16 t] rfl rfl HC (by intro u hu; simp at hu; rcases hu with rfl | rfl | rfl <;> rfl) (by unfold maxLen; omega) (by omega) (by simp; omega) ?_; intro v' w3 hown hgrow _; obtain ⟨g', cap', rfl⟩ := ownsRow_succ hown; obtain ⟨r1, r2, r3, r4, r5, r6⟩ := body_fin hM (by omega) hv hBM hBx hrow (fun b hb => setc_ne hb) (setc_size _ _ _ _) rfl rfl rfl hgrow hown; obtain ⟨_, s2, _, s4⟩ := cells2 r1)
      rw [← hsz]
      refine ⟨r2, r3, ⟨⟨_, r4, ?_⟩, r6 _ hk⟩⟩
      rw [List.length_append, List.length_singleton, rvC_snoc, revEl_zero]
      exact r5
    | succ i =>
      have hi' : i < L.length := by omega
      obtain ⟨_, _, m3⟩ := hmoW i L[i] (List.getElem?_eq_getElem hi')
      have hne : (a.add (i * 3)).block ≠ Bx := by
        have : (a.add (i * 3)).block = a.block := by unfold Addr.add; split <;> rfl
        omega
      have m4 : (W.setCell ⟨Bx, 2, none⟩ (.int .i16 t)).cell? ⟨(a.add (i * 3)).block, (a.add (i * 3)).off + 2, none⟩ = some (.int .i16 L[i].2.2.1) := by
        rw [← m3]
        exact World.cell?_of_block (setc_ne hne)
      have e1 : (((i + 1 : Nat) : Int) - 1) = (i : Int) := by omega
      have e2 : decide ((((i + 1 : Nat) : Int)) > 0) = true := by simp
      clear m3 hmoW
      have HR : (((W.setCell ⟨Bx, 2, none⟩ (.int .i16 t)).setCell ⟨Bx, 2, none⟩ (.int .i16 L[i].2.2.1)).alloc (.cells #[.int .i8 (L[i + 1]).1, .int .i16 (L[i + 1]).2.1, .int .i16 L[i].2.2.1] 77)).ownsRow W0.heap.size 77 3 v2 pre.length (rvC t L pre) := own_keep hrow fun g e => by
        have hg := own_at hrow e
        rw [alloc_below _ _ (by rw [setc_size, setc_size]; exact hg.2.1), setc_ne (fun h => hvB (by rw [e, h])), setc_ne (fun h => hvB (by rw [e, h]))]
      have HC : ∀ (j : Nat) u, [Value.int .i8 (L[i + 1]).1, .int .i16 (L[i + 1]).2.1, .int .i16 L[i].2.2.1][j]? = some u → (((W.setCell ⟨Bx, 2, none⟩ (.int .i16 t)).setCell ⟨Bx, 2, none⟩ (.int .i16 L[i].2.2.1)).alloc (.cells #[.int .i8 (L[i + 1]).1, .int .i16 (L[i + 1]).2.1, .int .i16 L[i].2.2.1] 77)).cell? ((⟨W.heap.size, 0, none⟩ : Addr).add j) = some u := by
        have := cells_one ((W.setCell ⟨Bx, 2, none⟩ (.int .i16 t)).setCell ⟨Bx, 2, none⟩ (.int .i16 L[i].2.2.1)) (x := .int .i8 (L[i + 1]).1) (y := .int .i16 (L[i + 1]).2.1) (z := .int .i16 L[i].2.2.1)
        rw [setc_size, setc_size] at this
        exact this
      gi_wp2_with (gi_at_builtin; refine wpListIn_append_own _ rfl _ _ 58 rfl W0.heap.size 77 i0 _ 3 6 Tryz.underlying58 hi0 hz0 hz1 hz2 rfl (by decide) _ _ _ rfl HR ⟨W.heap.size, 0, none⟩ 1 1 [Value.int .i8 (L[i + 1]).1, .int .i16 (L[i + 1]).2.1, .int .i16 L[i].2.2.1] rfl rfl HC (by intro u hu; simp at hu; rcases hu with rfl | rfl | rfl <;> rfl) (by unfold maxLen; omega) (by omega) (by simp; omega) ?_; intro v' w3 hown hgrow _; obtain ⟨g', cap', rfl⟩ := ownsRow_succ hown; obtain ⟨r1, r2, r3, r4, r5, r6⟩ := body_fin hM (by omega) hv hBM hBx hrow (fun b hb => (setc_ne hb).trans (setc_ne hb)) (by rw [setc_size, setc_size]) rfl rfl rfl hgrow hown; obtain ⟨_, s2, _, s4⟩ := cells2 r1)
      rw [← hsz]
      refine ⟨r2, r3, ⟨⟨_, r4, ?_⟩, r6 _ hk⟩⟩
      rw [List.length_append, List.length_singleton, rvC_snoc, revEl_succ]
      exact r5
  case done =>
    rintro D xs W hD rfl ⟨⟨v, hv, hrow⟩, hk⟩ hDD
    obtain ⟨q1, q2, q3, q4⟩ := cells2 hv
    obtain ⟨r1, r2, r3, r4⟩ := cells2 ((hk.heap (w.heap.size + 1) (by omega) (by omega)).trans z1)
    rw [uptoD_len] at hrow
    have eES : rvC t L (uptoD hpos L.length) = (Go.Cams.revL t L).flatMap moC := by
      rw [Go.Cams.revL_rvk]
      unfold rvC uptoD Go.Cams.rvk
      rw [List.map_map]
      rfl
    rw [eES] at hrow
    obtain ⟨n', hn'⟩ : ∃ n', L.length = n' + 1 := ⟨L.length - 1, by omega⟩
    have hv' : ∃ g cap2, v = .slice (some ⟨g, 0, none⟩) L.length cap2 := by
      have h := hrow
      rw [hn'] at h
      rw [hn']
      exact ownsRow_succ h
    obtain ⟨g', cap2, rfl⟩ := hv'
    rw [hn']
    rw [hn'] at hrow hv
    gi_wp2
    have hDM : ((W.setCell ⟨w.heap.size + 1, 0, none⟩ (.int .i16 t)).setCell ⟨w.heap.size + 1, 1, none⟩ (.slice (some ⟨g', 0, none⟩) (n' + 1) cap2)).heap[D]? = some (.deferred (some [])) := by
      rw [setc_ne (by omega), setc_ne (by omega)]; exact hDD
    refine ⟨by simp, .inl ⟨_, _, rfl, run_takeDeferred hDM, ?_⟩⟩
    have hw1 : ((W.setCell ⟨w.heap.size + 1, 0, none⟩ (.int .i16 t)).setCell ⟨w.heap.size + 1, 1, none⟩ (.slice (some ⟨g', 0, none⟩) (n' + 1) cap2)).heap[w.heap.size + 1]? = some (.cells #[.int .i16 t, .slice (some ⟨g', 0, none⟩) (n' + 1) cap2] 60 (0, 0)) := by
      rw [setc_eq _ (setc_eq _ ((hk.heap (w.heap.size + 1) (by omega) (by omega)).trans z1))]
      rfl
    refine ⟨_, rv_res ((World.putObj_heap_other (by omega)).trans hw1) rfl rfl, ?_⟩
    have old : ∀ b, b ≠ w.heap.size + 1 → b ≠ D → (((W.setCell ⟨w.heap.size + 1, 0, none⟩ (.int .i16 t)).setCell ⟨w.heap.size + 1, 1, none⟩ (.slice (some ⟨g', 0, none⟩) (n' + 1) cap2)).putObj D (.deferred none)).heap[b]? = W.heap[b]? := fun b h1 h2 => by
      rw [World.putObj_heap_other (by omega), setc_ne h1, setc_ne h1]
    have hWs : (((W.setCell ⟨w.heap.size + 1, 0, none⟩ (.int .i16 t)).setCell ⟨w.heap.size + 1, 1, none⟩ (.slice (some ⟨g', 0, none⟩) (n' + 1) cap2)).putObj D (.deferred none)).heap.size = W.heap.size := by
      simp [World.putObj, setc_size]
    have hMW := hk.size
    rcases hrow.2 with ⟨h, _⟩ | ⟨g, cp, cur, h, hgb, hgg, h1, h2, h3, h4⟩
    · cases h
    · injection h with h5 h6 h7
      injection h5 with h5
      injection h5 with h5
      subst h5
      subst h7
      have hgW := (Array.getElem?_eq_some_iff.1 hgg).1
      have hgD : g' ≠ D := fun e => by
        rw [e, hDD] at hgg
        cases hgg
      refine ⟨_, [g'], rfl, ⟨_, _, hn' ▸ rfl, by omega, by rw [hn']; exact hrow.1, .inr ⟨g', cur, 77, rfl, rfl, (old g' (by omega) hgD).trans hgg, h3, by rw [hn']; exact h4.symm⟩⟩, by simp, fun b hb => ?_, ⟨hk.os.trans z4.os, hk.tape.trans z4.tape, hk.output.trans z4.output, by rw [hWs]; have := z4.size; omega, fun b hb => ?_⟩⟩
      · have hb : b = g' := by simpa using hb
        rw [hWs]
        omega
      · have := z4.size
        rw [old b (by omega) (by omega), hk.heap b (by omega) (by omega)]
        exact z4.block b hb
end
end Go.Proofs.YtipjblnjaicbfaaGreatDoor

namespace Go.Proofs.YtipjblnjaicbfaaGreatDoor
section
open Go Go.Fw Go.Proofs Go.RowKit
theorem repMo {w : World} {ok : Nat → Prop} : ∀ l : List Go.Cams.Ct, RepL (Rep w ok Go.Cams.MoTy) l (l.flatMap moC)
  | [] => rfl
  | v :: l => ⟨moC v, l.flatMap moC, by simp, ⟨[.int .i8 v.1], [.int .i16 v.2.1, .int .i16 v.2.2.1], rfl, rfl, [.int .i16 v.2.1], [.int .i16 v.2.2.1], rfl, rfl, [.int .i16 v.2.2.1], [], rfl, rfl, rfl⟩, repMo l⟩
theorem revL_len : ∀ (L : List Go.Cams.Ct) (f : Int), (Go.Cams.revL f L).length = L.length
  | [], _ => rfl
  | v :: l, f => by simp [Go.Cams.revL, revL_len l]
theorem rv_ext {L0 : Laid} : ExtOk Tryz.prog L0 LPg.I44 := by
  refine extOk_of (I := LPg.I44) (g := fun x => if Go.Cams.pgIn x.1 = true then some ((Go.Cams.revP x.1, 0, ()), ()) else none) (fn := Tryz.f44) (code := bd Tryz.f44) rfl Tryz.func44 (by kernel_rfl) (by kernel_rfl) ?_
  intro x r o w vals okc Fs hg hA hok hon
  obtain ⟨p, u⟩ := x
  change Go.Cams.Prg at p
  obtain ⟨t, L, u2⟩ := p
  obtain ⟨c1, v1, F1, F2, e1, e2, h1, e5, e6⟩ := hA
  obtain ⟨hF1, h1⟩ : F1 = [] ∧ Rep w okc PgTy (t, L, ()) c1 := h1
  subst hF1
  subst e6
  have eF : Fs = [] := by rw [e2]; rfl
  subst eF
  have hc1 := h1.len
  obtain ⟨s, m, rfl⟩ : ∃ s m, c1 = [s, m] := by
    match c1, hc1 with
    | [s, m], _ => exact ⟨s, m, rfl⟩
  split at hg
  · rename_i hx
    injection hg with hg
    injection hg with h3 h4
    subst h3
    subst e5
    subst e1
    refine (rv_walk w hon t L hx hok h1).mono fun e w' ⟨hd, F, he, hrow, nd, hF, hB⟩ => ?_
    refine ⟨_, he, [.agg #[.int .i16 t, hd], .int .i64 0], F, [], okc, rfl, ?_, ⟨_, _, rfl, rfl⟩, by simpa using nd, fun b hb => ?_, fun b hb => ?_, keptBut_below hB.os hB.tape hB.output hB.size (fun b hb => hB.block b hb)⟩
    · refine ⟨[.int .i16 t, hd], [.int .i64 0], F, [], rfl, by simp, ?_, [.int .i64 0], [], [], [], rfl, rfl, ⟨rfl, rfl⟩, rfl, rfl⟩
      refine ⟨[.int .i16 t], [hd], [], F, rfl, rfl, ⟨rfl, rfl⟩, [hd], [], F, [], rfl, by simp, ⟨hd, (Go.Cams.revL t L).flatMap moC, F, [], rfl, by simp, ?_, rfl, repMo _⟩, rfl, rfl⟩
      have e : (Go.Cams.revP (t, L, u2)).2.1.length = L.length := revL_len L t
      show RowOk w' hd 3 (Go.Cams.revP (t, L, u2)).2.1.length _ F
      rw [e]
      exact hrow
    · have := hF b (by simpa using hb)
      exact ⟨this.2, .inl this.1⟩
    · have := hok b hb
      have hs := hB.size
      refine ⟨by omega, .inl hb, fun hm => ?_⟩
      have := hF b (by simpa using hm)
      omega
  · cases hg
end
end Go.Proofs.YtipjblnjaicbfaaGreatDoor
