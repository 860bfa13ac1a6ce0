/- What the functions compute, in plain terms: definitions and laws of lists and numbers, no program in sight. -/
import Derived.Test.YtjeakogmccogmaaDoorPuAllc
import Derived.Lib.ParseIntB
import Derived.Lib.Split
import Derived.Lib.SplitLaws
import Derived.Lib.ItoaNum
import Derived.Lib.Bytealg
import Derived.Lib.IndexMore
import Derived.Laws.Strings
/- Texts cut at a byte, numbers read. In plain terms. -/
namespace Go.Cams
open Go Go.Fw
theorem mod48 {d : Nat} (h : d < 10) : (UInt8.ofNat (48 + d)).toNat = 48 + d := by
  rw [UInt8.toNat_ofNat']; omega
/-- A numeral's bytes are digits. -/
theorem dec_dig : ∀ (u : Nat) (c : UInt8), c ∈ Lib.decDigits u → 48 ≤ c.toNat ∧ c.toNat ≤ 57 := by
  intro u
  induction u using Nat.strongRecOn with
  | ind u ih =>
    intro c hc
    by_cases h : u < 10
    · rw [dec_small h] at hc
      rw [List.mem_singleton.1 hc, mod48 h]; omega
    · rw [dec_big h] at hc
      rcases List.mem_append.1 hc with hc | hc
      · exact ih (u / 10) (by omega) c hc
      · rw [List.mem_singleton.1 hc, mod48 (Nat.mod_lt _ (by omega))]; omega
theorem dec_ne (u : Nat) : Lib.decDigits u ≠ [] := by
  by_cases h : u < 10
  · rw [dec_small h]; simp
  · rw [dec_big h]; simp
theorem parse_dec {M : Nat} (hM : M ≤ 18446744073709551615) : ∀ (u : Nat), u ≤ M → ∀ r, Lib.parseUintM M 0 (Lib.decDigits u ++ r) = Lib.parseUintM M u r := by
  intro u
  induction u using Nat.strongRecOn with
  | ind u ih =>
    intro hu r
    by_cases h : u < 10
    · rw [dec_small h]
      simp only [List.cons_append, List.nil_append, Lib.parseUintM, mod48 h]
      rw [if_pos (by omega), if_neg (by omega), if_neg (by omega), show 0 * 10 + (48 + u - 48) = u by omega]
    · rw [dec_big h, List.append_assoc, ih (u / 10) (by omega) (by omega)]
      have hm : u % 10 < 10 := Nat.mod_lt _ (by omega)
      simp only [List.cons_append, List.nil_append, Lib.parseUintM, mod48 hm]
      rw [if_pos (by omega), if_neg (by omega), if_neg (by omega), show u / 10 * 10 + (48 + u % 10 - 48) = u by omega]
theorem parse_int {u : Nat} (h : u ≤ 9223372036854775807) : Lib.parseIntB 64 (Lib.decDigits u) = .ok (u : Int) := by
  have hp := parse_dec (M := 2 ^ 64 - 1) (by decide) u (by omega) []
  rw [List.append_nil] at hp
  have hd := dec_dig u
  have hn := dec_ne u
  generalize Lib.decDigits u = l at hp hd hn
  cases l with
  | nil => exact absurd rfl hn
  | cons c r =>
    have hc := hd c (by simp)
    unfold Lib.parseIntB
    simp only
    rw [if_neg (by omega)]
    unfold Lib.parseUintB
    rw [if_neg hn, hp]
    simp only [Lib.parseUintM]
    rw [if_neg (by omega), if_neg (by omega), if_neg (by omega)]
/-! ### Texts cut at a byte -/
theorem ix_hit {c : UInt8} {w : List UInt8} (h : c ∉ w) (r : List UInt8) : Lib.index (w ++ c :: r) [c] = (w.length : Nat) := by
  refine Lib.index_first (by simp) ?_ fun j hj => ?_
  · unfold Lib.occAt
    rw [List.drop_left' rfl]
    simp
  · cases ho : Lib.occAt (w ++ c :: r) [c] j with
    | false => rfl
    | true =>
      have := Lib.occAt_head (c := c) (t := []) rfl ho
      rw [List.getElem?_append_left hj] at this
      exact absurd (List.mem_of_getElem? this) h
theorem ix_miss {c : UInt8} {w : List UInt8} (h : c ∉ w) : Lib.index w [c] = -1 := by
  refine Lib.index_none fun j hj => ?_
  cases ho : Lib.occAt w [c] j with
  | false => rfl
  | true => exact absurd (List.mem_of_getElem? (Lib.occAt_head (c := c) (t := []) rfl ho)) h
theorem split_join {c : UInt8} : ∀ (w : List UInt8) (ws : List (List UInt8)), c ∉ w → (∀ v ∈ ws, c ∉ v) → Lib.splitK [c] 0 (Lib.count (Lib.join (w :: ws) [c]) [c]) (Lib.join (w :: ws) [c]) = w :: ws
  | w, [], h, _ => by
    show Lib.splitK [c] 0 (Lib.count (Lib.join [w] [c]) [c]) (Lib.join [w] [c]) = [w]
    have e : Lib.join [w] [c] = w := by simp [Lib.join]
    rw [e, Lib.count_miss (ix_miss h)]
    rfl
  | w, v :: ws, h, hs => by
    have e : Lib.join (w :: v :: ws) [c] = w ++ c :: Lib.join (v :: ws) [c] := by simp [Lib.join]
    have ix := ix_hit h (Lib.join (v :: ws) [c])
    rw [e, Lib.count_hit (by simp) ix, Nat.add_comm 1]
    have hd : (w ++ c :: Lib.join (v :: ws) [c]).drop (w.length + 1) = Lib.join (v :: ws) [c] := by simp
    have ih := split_join v ws (hs v (by simp)) fun u hu => hs u (by simp [hu])
    rw [List.length_singleton, hd]
    unfold Lib.splitK
    rw [if_neg (by rw [ix]; simp), ix, Int.toNat_natCast, List.length_singleton, hd, ih]
    simp
theorem tx_map : ∀ {l : List ByteArray} {ws : List (List UInt8)}, l.map (·.data.toList) = ws → l = ws.map tx := by
  intro l ws h
  subst h
  rw [List.map_map]
  exact ((List.map_congr_left fun a _ => rfl).trans (List.map_id l)).symm
theorem split_tx {c : UInt8} {w : List UInt8} {ws : List (List UInt8)} (h : c ∉ w) (hs : ∀ v ∈ ws, c ∉ v) : Lib.splitB (tx [c]) 0 (Lib.countB (tx (Lib.join (w :: ws) [c])) (tx [c])) (tx (Lib.join (w :: ws) [c])) = (w :: ws).map tx :=
  tx_map ((Lib.splitB_data _ _ _ _).trans (split_join w ws h hs))
end Go.Cams

/- Tracks of followers: on the cam or above it. In plain terms. -/
namespace Go.Cams
open Go Go.Fw
theorem trk_succ (c : List Int) (s : Int) (k : Nat) : trk c s (k + 1) = nxT (trk c s k) (cAt c ((k + 1 : Nat) : Int)) s := rfl
theorem nxT_ge (q : Trk) (l s : Int) : l ≤ (nxT q l s).1 ∧ (nxT q l s).2.2.1 = ((nxT q l s).1 == l) ∧ (nxT q l s).1 = q.1 + (nxT q l s).2.1 := by
  unfold nxT
  by_cases h : q.1 + (q.2.1 - s) > l
  · rw [if_pos h]
    exact ⟨by show l ≤ q.1 + (q.2.1 - s); omega, (beq_eq_false_iff_ne.2 (show q.1 + (q.2.1 - s) ≠ l by omega)).symm, rfl⟩
  · rw [if_neg h]
    exact ⟨Int.le_refl _, (beq_self_eq_true l).symm, by show l = q.1 + (l - q.1); omega⟩
theorem twice {α : Type} {c : Prop} [Decidable c] {A T : Nat → Option α} {y : α} (h1 : Evt T y → c → Evt A y) (h2 : Evt T y) : Evt (fun n => if c then A n else T n) y :=
  Evt.ite (fun h => h1 h2 h) (fun _ => h2)
def flW : List UInt8 := [102, 111, 108, 108, 111, 119, 101, 114]
theorem fl_no : (32 : UInt8) ∉ flW := by decide
theorem dec_no (u : Nat) : (32 : UInt8) ∉ Lib.decDigits u := fun h => by
  have := dec_dig u 32 h
  have e : (32 : UInt8).toNat = 32 := rfl
  omega
def flT (b s : Nat) : List UInt8 := Lib.join [flW, Lib.decDigits b, Lib.decDigits s] [32]
theorem flT_eq (b s : Nat) : flT b s = ((flW ++ [32]) ++ Lib.decDigits b ++ [32]) ++ Lib.decDigits s := by simp [flT, Lib.join]
theorem flT_len {b s : Nat} (hb : b ≤ 9223372036854775807) (hs : s ≤ 9223372036854775807) : (flT b s).length ≤ 100 := by
  have h1 := dec_len hb
  have h2 := dec_len hs
  rw [flT_eq]
  simp only [List.length_append, flW, List.length_cons, List.length_nil]
  omega
end Go.Cams

/- Texts cut at each byte of a kind; numerals read strictly and with a check. In plain terms. -/
namespace Go.Cams
open Go Go.Fw
theorem tx_self (a : ByteArray) : tx a.data.toList = a := by cases a; rfl
theorem tx_of (a : ByteArray) : ∃ l, a = tx l := ⟨_, (tx_self a).symm⟩
theorem tx_inj {a b : List UInt8} (h : tx a = tx b) : a = b := by
  have := congrArg (fun x : ByteArray => x.data.toList) h
  exact this
theorem tx_toList (l : List UInt8) : (tx l).toList = l := by rw [ByteArray.toList_eq]; rfl
theorem tx_ext (l : List UInt8) (i j : Nat) : (tx l).extract i j = tx ((l.drop i).take (j - i)) := by
  rw [← tx_self ((tx l).extract i j)]
  congr 1
  exact Lib.extract_data _ _ _
theorem nums_tx (l : List UInt8) : numsOf (tx l) = l.map fun c => (c.toNat : Int) := rfl
theorem nums_at {l : List UInt8} {i : Nat} {c : UInt8} (h : l[i]? = some c) : idx (numsOf (tx l)) (i : Int) = some (c.toNat : Int) := by
  unfold idx
  rw [if_pos (by omega), nums_tx, Int.toNat_natCast, List.getElem?_map, h]
  rfl
theorem byte_eq {a b : UInt8} : ((a.toNat : Int) == (b.toNat : Int)) = (a == b) := by
  rw [Bool.eq_iff_iff, beq_iff_eq, beq_iff_eq]
  constructor
  · intro h; exact UInt8.toNat_inj.1 (by omega)
  · intro h; rw [h]
/-! ### Words between bytes of a kind -/
def splitC (c : UInt8) : List UInt8 → List (List UInt8)
  | [] => [[]]
  | x :: l => if x = c then [] :: splitC c l else match splitC c l with
    | [] => [[x]]
    | w :: ws => (x :: w) :: ws
theorem splitC_ne (c : UInt8) (l : List UInt8) : ∃ w ws, splitC c l = w :: ws := by
  cases l with
  | nil => exact ⟨_, _, rfl⟩
  | cons x l =>
    unfold splitC
    split
    · exact ⟨_, _, rfl⟩
    · split
      · exact ⟨_, _, rfl⟩
      · exact ⟨_, _, rfl⟩
theorem splitC_miss {c : UInt8} : ∀ {w : List UInt8}, c ∉ w → splitC c w = [w]
  | [], _ => rfl
  | x :: w, h => by
    simp only [List.mem_cons, not_or] at h
    unfold splitC
    rw [if_neg (fun e => h.1 e.symm), splitC_miss h.2]
theorem splitC_hit {c : UInt8} : ∀ {w : List UInt8}, c ∉ w → ∀ r, splitC c (w ++ c :: r) = w :: splitC c r
  | [], _, r => by
    show splitC c (c :: r) = _
    rw [splitC, if_pos rfl]
  | x :: w, h, r => by
    simp only [List.mem_cons, not_or] at h
    show splitC c (x :: (w ++ c :: r)) = _
    rw [splitC, if_neg (fun e => h.1 e.symm), splitC_hit h.2 r]
theorem splitC_spec (c : UInt8) : ∀ l : List UInt8, Lib.join (splitC c l) [c] = l ∧ ∀ w ∈ splitC c l, c ∉ w
  | [] => by simp [splitC, Lib.join]
  | x :: l => by
    obtain ⟨h1, h2⟩ := splitC_spec c l
    obtain ⟨w, ws, e⟩ := splitC_ne c l
    unfold splitC
    rw [e] at h1 h2 ⊢
    split
    · rename_i hx
      subst hx
      refine ⟨?_, ?_⟩
      · show Lib.join ([] :: w :: ws) [x] = _
        have : Lib.join ([] :: w :: ws) [x] = x :: Lib.join (w :: ws) [x] := by simp [Lib.join]
        rw [this, h1]
      · intro v hv
        rcases List.mem_cons.1 hv with rfl | hv
        · simp
        · exact h2 v hv
    · rename_i hx
      refine ⟨?_, ?_⟩
      · cases ws with
        | nil =>
          have h0 : Lib.join [w] [c] = w := by simp [Lib.join]
          rw [h0] at h1
          simp [Lib.join, h1]
        | cons v vs =>
          have h0 : Lib.join (w :: v :: vs) [c] = w ++ c :: Lib.join (v :: vs) [c] := by simp [Lib.join]
          have h3 : Lib.join ((x :: w) :: v :: vs) [c] = x :: (w ++ c :: Lib.join (v :: vs) [c]) := by simp [Lib.join]
          rw [h3, ← h0, h1]
      · intro v hv
        rcases List.mem_cons.1 hv with rfl | hv
        · intro hm
          rcases List.mem_cons.1 hm with e | hm
          · exact hx e.symm
          · exact h2 w (by simp) hm
        · exact h2 v (by simp [hv])
theorem splitC_join {c : UInt8} : ∀ (w : List UInt8) (ws : List (List UInt8)), c ∉ w → (∀ v ∈ ws, c ∉ v) → splitC c (Lib.join (w :: ws) [c]) = w :: ws
  | w, [], h, _ => by
    have e : Lib.join [w] [c] = w := by simp [Lib.join]
    rw [e, splitC_miss h]
  | w, v :: ws, h, hs => by
    have e : Lib.join (w :: v :: ws) [c] = w ++ c :: Lib.join (v :: ws) [c] := by simp [Lib.join]
    rw [e, splitC_hit h, splitC_join v ws (hs v (by simp)) fun u hu => hs u (by simp [hu])]
theorem splitC_len (c : UInt8) : ∀ l : List UInt8, (splitC c l).length ≤ l.length + 1
  | [] => by simp [splitC]
  | x :: l => by
    have := splitC_len c l
    unfold splitC
    split
    · simp; omega
    · split
      · simp
      · rename_i e
        rw [e] at this
        simp at this ⊢; omega
theorem splitC_wlen {c : UInt8} : ∀ {l : List UInt8}, ∀ w ∈ splitC c l, w.length ≤ l.length
  | [], w, h => by simp [splitC] at h; simp [h]
  | x :: l, w, h => by
    unfold splitC at h
    split at h
    · rcases List.mem_cons.1 h with rfl | h
      · simp
      · have := splitC_wlen w h; simp; omega
    · obtain ⟨v, vs, e⟩ := splitC_ne c l
      rw [e] at h
      simp only [List.mem_cons] at h
      rcases h with rfl | h
      · have := splitC_wlen (l := l) v (by rw [e]; simp); simp; omega
      · have := splitC_wlen (l := l) w (by rw [e]; simp [h]); simp; omega
theorem split_all (c : UInt8) (l : List UInt8) : Lib.splitB (tx [c]) 0 (Lib.countB (tx l) (tx [c])) (tx l) = (splitC c l).map tx := by
  obtain ⟨h1, h2⟩ := splitC_spec c l
  obtain ⟨w, ws, e⟩ := splitC_ne c l
  have := split_tx (c := c) (w := w) (ws := ws) (h2 w (by rw [e]; simp)) fun v hv => h2 v (by rw [e]; simp [hv])
  rw [← e, h1] at this
  exact this
theorem cut_hit {c : UInt8} {w : List UInt8} (h : c ∉ w) (r : List UInt8) : Lib.cut (w ++ c :: r) [c] = (w, r, true) := by
  have ix := ix_hit h r
  unfold Lib.cut
  rw [if_pos (by omega), ix, Int.toNat_natCast]
  simp
theorem cut_miss {c : UInt8} {w : List UInt8} (h : c ∉ w) : Lib.cut w [c] = (w, [], false) := by
  have ix := ix_miss h
  unfold Lib.cut
  rw [if_neg (by omega)]
/-! ### Numerals -/
def isDg (c : UInt8) : Bool := decide (48 ≤ c.toNat) && decide (c.toNat ≤ 57)
theorem isDg_iff {c : UInt8} : isDg c = true ↔ 48 ≤ c.toNat ∧ c.toNat ≤ 57 := by simp [isDg]
def numV : List UInt8 → Nat → Nat
  | [], n => n
  | c :: l, n => numV l (10 * n + (c.toNat - 48))
theorem numV_app : ∀ (a b : List UInt8) (n : Nat), numV (a ++ b) n = numV b (numV a n)
  | [], _, _ => rfl
  | _ :: a, b, _ => numV_app a b _
theorem numV_dec : ∀ (u : Nat), numV (Lib.decDigits u) 0 = u := by
  intro u
  induction u using Nat.strongRecOn with
  | ind u ih =>
    by_cases h : u < 10
    · rw [dec_small h]
      simp only [numV, mod48 h]; omega
    · rw [dec_big h, numV_app, ih (u / 10) (by omega)]
      have hm : u % 10 < 10 := Nat.mod_lt _ (by omega)
      simp only [numV, mod48 hm]; omega
theorem numV_ge : ∀ (l : List UInt8) (n : Nat), n ≤ numV l n
  | [], n => Nat.le_refl n
  | c :: l, n => by
    have := numV_ge l (10 * n + (c.toNat - 48))
    show n ≤ numV l _
    omega
theorem numV_lt : ∀ (l : List UInt8) (n k : Nat), (∀ c ∈ l, c.toNat ≤ 57) → n < 10 ^ k → numV l n < 10 ^ (k + l.length)
  | [], n, k, _, h => by simpa [numV] using h
  | c :: l, n, k, hc, h => by
    have h1 := hc c (by simp)
    have := numV_lt l (10 * n + (c.toNat - 48)) (k + 1) (fun d hd => hc d (by simp [hd])) (by rw [Nat.pow_succ]; omega)
    show numV l _ < _
    rw [show k + (c :: l).length = k + 1 + l.length by simp; omega]
    exact this
/-- Digits that do not begin with 0 spell their number's numeral. -/
theorem dec_numV : ∀ (l : List UInt8) (u : Nat), 1 ≤ u → (∀ c ∈ l, isDg c = true) → Lib.decDigits (numV l u) = Lib.decDigits u ++ l
  | [], u, _, _ => by simp [numV]
  | c :: l, u, hu, hd => by
    obtain ⟨h1, h2⟩ := isDg_iff.1 (hd c (by simp))
    have ih := dec_numV l (10 * u + (c.toNat - 48)) (by omega) fun d hd' => hd d (by simp [hd'])
    show Lib.decDigits (numV l _) = _
    rw [ih, dec_big (u := 10 * u + (c.toNat - 48)) (by omega), show (10 * u + (c.toNat - 48)) / 10 = u by omega, show 48 + (10 * u + (c.toNat - 48)) % 10 = c.toNat by omega, UInt8.ofNat_toNat]
    simp
theorem dec_of {l : List UInt8} (h0 : l ≠ []) (h1 : l.head? = some 48 → l.length ≤ 1) (hd : ∀ c ∈ l, isDg c = true) : Lib.decDigits (numV l 0) = l := by
  cases l with
  | nil => exact absurd rfl h0
  | cons c l =>
    obtain ⟨e1, e2⟩ := isDg_iff.1 (hd c (by simp))
    by_cases hc : c = 48
    · subst hc
      have := h1 rfl
      have : l = [] := List.length_eq_zero_iff.1 (by rw [List.length_cons] at this; omega)
      subst this
      rw [show numV [48] 0 = 0 from rfl, dec_small (by omega)]
      rfl
    · have hne : c.toNat ≠ 48 := fun e => hc (UInt8.toNat_inj.1 e)
      show Lib.decDigits (numV l (10 * 0 + (c.toNat - 48))) = _
      rw [dec_numV l _ (by omega) fun d hd' => hd d (by simp [hd']), dec_small (by omega), show 48 + (10 * 0 + (c.toNat - 48)) = c.toNat by omega, UInt8.ofNat_toNat]
      rfl
theorem dec_head : ∀ (u : Nat), (Lib.decDigits u).head? = some 48 → u = 0 := by
  intro u
  induction u using Nat.strongRecOn with
  | ind u ih =>
    intro h
    by_cases h10 : u < 10
    · rw [dec_small h10] at h
      simp only [List.head?_cons, Option.some.injEq] at h
      have := mod48 h10
      rw [h] at this
      have : (48 : UInt8).toNat = 48 := rfl
      omega
    · rw [dec_big h10, List.head?_append] at h
      cases hh : (Lib.decDigits (u / 10)).head? with
      | none => exact absurd (List.head?_eq_none_iff.1 hh) (dec_ne _)
      | some c =>
        rw [hh] at h
        simp at h
        subst h
        have := ih (u / 10) (by omega) hh
        omega
theorem dec_lenK : ∀ (k u : Nat), u < 10 ^ (k + 1) → (Lib.decDigits u).length ≤ k + 1
  | 0, u, h => by rw [dec_small (by simpa using h)]; simp
  | k + 1, u, h => by
    by_cases h10 : u < 10
    · rw [dec_small h10]; simp
    · rw [dec_big h10, List.length_append]
      have := dec_lenK k (u / 10) (by rw [Nat.pow_succ] at h; omega)
      simp; omega
theorem dec_inj {u v : Nat} (h : Lib.decDigits u = Lib.decDigits v) : u = v := by rw [← numV_dec u, h, numV_dec]
/-- A number of at most nine digits, without a sign. -/
def numR (l : List UInt8) : Int × Bool :=
  if l ≠ [] ∧ l.length ≤ 9 ∧ (l.head? = some 48 → l.length ≤ 1) ∧ ∀ c ∈ l, isDg c = true then ((numV l 0 : Nat), true) else (0, false)
theorem numR_dec {u : Nat} (h : u < 1000000000) : numR (Lib.decDigits u) = ((u : Int), true) := by
  unfold numR
  rw [if_pos ⟨dec_ne u, dec_lenK 8 u (by simpa using h), fun e => by rw [dec_head u e, dec_small (by omega)]; simp, fun c hc => isDg_iff.2 (dec_dig u c hc)⟩, numV_dec]
theorem numR_ok {l : List UInt8} (h : (numR l).2 = true) : ∃ u : Nat, u < 1000000000 ∧ l = Lib.decDigits u ∧ (numR l).1 = u := by
  unfold numR at h ⊢
  split at h
  · rename_i hc
    rw [if_pos hc]
    obtain ⟨h0, h1, h2, h3⟩ := hc
    refine ⟨numV l 0, ?_, (dec_of h0 h2 h3).symm, rfl⟩
    have := numV_lt l 0 0 (fun c hc => (isDg_iff.1 (h3 c hc)).2) (by decide)
    have h9 : 10 ^ (0 + l.length) ≤ 10 ^ 9 := Nat.pow_le_pow_right (by omega) (by omega)
    omega
  · cases h
theorem numR_bd (l : List UInt8) : 0 ≤ (numR l).1 ∧ (numR l).1 < 1000000000 := by
  cases h : (numR l).2 with
  | true => obtain ⟨u, hu, _, e⟩ := numR_ok h; omega
  | false =>
    unfold numR at h ⊢
    split at h
    · cases h
    · rename_i hc
      rw [if_neg hc]; exact ⟨Int.le_refl _, by decide⟩
/-- A number that is written as it is read. -/
def numI (l : List UInt8) : Int × Bool := match Lib.parseIntB 64 l with
  | .ok v => (v, Lib.itoa v == l)
  | .range => (Lib.intSat 64 l, false)
  | _ => (0, false)
theorem parse_bd {l : List UInt8} {v : Int} (h : Lib.parseIntB 64 l = .ok v) : -9223372036854775808 ≤ v ∧ v ≤ 9223372036854775807 := by
  unfold Lib.parseIntB at h
  cases l with
  | nil => cases h
  | cons c r =>
    simp only at h
    split at h
    · cases h
    · cases h
    · split at h
      · cases h
      · split at h
        · cases h
        · rename_i h1 h2
          injection h with h
          simp only [Nat.reducePow, Nat.reduceSub] at h1 h2
          split at h
          · rename_i hn
            have : ¬ 9223372036854775808 < _ := fun e => h2 ⟨hn, e⟩
            omega
          · rename_i hn
            have : ¬ 9223372036854775808 ≤ _ := fun e => h1 ⟨hn, e⟩
            omega
theorem numI_bd (l : List UInt8) : -9223372036854775808 ≤ (numI l).1 ∧ (numI l).1 ≤ 9223372036854775807 := by
  unfold numI
  rcases h : Lib.parseIntB 64 l with v | _ | _
  · exact parse_bd h
  · exact ⟨show -9223372036854775808 ≤ (0 : Int) by decide, show (0 : Int) ≤ 9223372036854775807 by decide⟩
  · show _ ≤ Lib.intSat 64 l ∧ Lib.intSat 64 l ≤ _
    unfold Lib.intSat
    split <;> simp
theorem numI_dec {u : Nat} (h : u ≤ 9223372036854775807) : numI (Lib.decDigits u) = ((u : Int), true) := by
  unfold numI
  rw [parse_int h]
  simp [Lib.itoa, show ¬ ((u : Int) < 0) by omega]
theorem numI_ok {l : List UInt8} (h : (numI l).2 = true) : l = Lib.itoa (numI l).1 := by
  unfold numI at h ⊢
  rcases hp : Lib.parseIntB 64 l with v | _ | _
  · rw [hp] at h; exact (beq_iff_eq.1 h).symm
  · rw [hp] at h; cases h
  · rw [hp] at h; cases h
end Go.Cams
namespace Go.Cams
open Go Go.Fw
theorem cut_at {l : List UInt8} {b i : Nat} {c : UInt8} (hb : b ≤ i) (h : l[i]? = some c) : l.drop b = (l.drop b).take (i - b) ++ c :: l.drop (i + 1) := by
  have e := drop_cons h
  rw [← e]
  conv => lhs; rw [← List.take_append_drop (i - b) (l.drop b)]
  rw [List.drop_drop, show b + (i - b) = i by omega]
theorem take_on {l : List UInt8} {b i : Nat} {c : UInt8} (hb : b ≤ i) (h : l[i]? = some c) : (l.drop b).take (i + 1 - b) = (l.drop b).take (i - b) ++ [c] := by
  rw [show i + 1 - b = (i - b) + 1 by omega, List.take_add_one, List.getElem?_drop, show b + (i - b) = i by omega, h]
  rfl
theorem take_rest {l : List UInt8} (b : Nat) : (l.drop b).take (l.length - b) = l.drop b := List.take_of_length_le (by rw [List.length_drop]; exact Nat.le_refl _)
theorem numR_no {l : List UInt8} (h : ¬ (l ≠ [] ∧ l.length ≤ 9 ∧ (l.head? = some 48 → l.length ≤ 1) ∧ ∀ c ∈ l, isDg c = true)) : numR l = (0, false) := if_neg h
/-- A digit more. -/
theorem dig_wr {n : Nat} {c : UInt8} (hn : n < 1000000000) (h : isDg c = true) : wr .i64 (wr .i64 (10 * (n : Int)) + wr .i64 (wr .u8 ((c.toNat : Int) - 48))) = ((10 * n + (c.toNat - 48) : Nat) : Int) := by
  obtain ⟨h1, h2⟩ := isDg_iff.1 h
  have e : wr .u8 ((c.toNat : Int) - 48) = (c.toNat : Int) - 48 := by
    show IntKind.u8.wrap _ = _
    simp [IntKind.wrap, IntKind.signed, IntKind.bits]; omega
  rw [e, wrap_id (x := (c.toNat : Int) - 48) (by omega) (by omega), wrap_id (x := 10 * (n : Int)) (by omega) (by omega), wrap_id (by omega) (by omega)]
  omega
end Go.Cams

/- Programs read from their texts. In plain terms. -/
namespace Go.Cams
open Go Go.Fw
def lawOf (c : UInt8) : Int := Lib.indexByte [101, 115, 99, 102] c
theorem lawOf_cases (c : UInt8) : lawOf c = if c = 101 then 0 else if c = 115 then 1 else if c = 99 then 2 else if c = 102 then 3 else -1 := by
  unfold lawOf
  simp only [Lib.indexByte]
  by_cases h1 : c = 101
  · subst h1; rfl
  by_cases h2 : c = 115
  · subst h2; rfl
  by_cases h3 : c = 99
  · subst h3; rfl
  by_cases h4 : c = 102
  · subst h4; rfl
  simp [h1, h2, h3, h4, Ne.symm h1, Ne.symm h2, Ne.symm h3, Ne.symm h4, beq_iff_eq]
theorem lawOf_bd (c : UInt8) : -1 ≤ lawOf c ∧ lawOf c ≤ 3 := by rw [lawOf_cases]; repeat' split <;> try omega
theorem lawOf_ltr {k : Int} (h0 : 0 ≤ k) (h3 : k ≤ 3) : lawOf (ltr k) = k := by
  have : k = 0 ∨ k = 1 ∨ k = 2 ∨ k = 3 := by omega
  rcases this with rfl | rfl | rfl | rfl <;> rfl
theorem ltr_lawOf {c : UInt8} (h : 0 ≤ lawOf c) : ltr (lawOf c) = c := by
  rw [lawOf_cases] at h ⊢
  repeat' split
  all_goals first | (subst_vars; rfl) | skip
  rw [if_neg (by assumption), if_neg (by assumption), if_neg (by assumption), if_neg (by assumption)] at h
  omega
/-- A motion read strictly. -/
def srMo (w : List UInt8) : Option Ct := match w with
  | [] => none
  | k :: r => if r.length < 3 then none else if lawOf k < 0 then none else match splitC 58 r with
    | [a, b] => if (numR a).2 = true ∧ (numR b).2 = true ∧ (numR a).1 ≤ 360 ∧ (numR b).1 ≤ 10000 then some (lawOf k, (numR a).1, (numR b).1, ()) else none
    | _ => none
/-- .. and as far as it goes. -/
def irMo (w : List UInt8) : Option Ct := match w with
  | [] => none
  | k :: r => if inR (numI (Lib.cut r [58]).2.1).1 0 10000 = true ∧ inR (numI (Lib.cut r [58]).1).1 1 360 = true then some (lawOf k, (numI (Lib.cut r [58]).1).1, (numI (Lib.cut r [58]).2.1).1, ()) else none
theorem dec_no' {c : UInt8} (h : c.toNat < 48 ∨ 57 < c.toNat) (u : Nat) : c ∉ Lib.decDigits u := fun hm => by
  have := dec_dig u c hm
  omega
theorem srMo_ok {w : List UInt8} {m : Ct} (h : srMo w = some m) : w = motW m ∧ 0 ≤ m.1 ∧ m.1 ≤ 3 ∧ 0 ≤ m.2.1 ∧ m.2.1 ≤ 360 ∧ 0 ≤ m.2.2.1 ∧ m.2.2.1 ≤ 10000 := by
  unfold srMo at h
  split at h
  · cases h
  · rename_i k r
    split at h
    · cases h
    · split at h
      · cases h
      rename_i hl hk
      split at h
      · rename_i a b e
        split at h
        · rename_i hc
          obtain ⟨h1, h2, h3, h4⟩ := hc
          injection h with h
          subst h
          obtain ⟨u, hu, ea, eu⟩ := numR_ok h1
          obtain ⟨v, hv, eb, ev⟩ := numR_ok h2
          have hj := (splitC_spec 58 r).1
          rw [e] at hj
          have hb := lawOf_bd k
          refine ⟨?_, by show 0 ≤ lawOf k; omega, hb.2, by show 0 ≤ (numR a).1; omega, h3, by show 0 ≤ (numR b).1; omega, h4⟩
          show _ = ltr (lawOf k) :: (Lib.decDigits (numR a).1.toNat ++ 58 :: Lib.decDigits (numR b).1.toNat)
          rw [ltr_lawOf (by omega), eu, ev, Int.toNat_natCast, Int.toNat_natCast, ← ea, ← eb, ← hj]
          simp [Lib.join]
        · cases h
      · cases h
theorem motW_no (m : Ct) : (32 : UInt8) ∉ motW m := by
  unfold motW
  intro h
  rcases List.mem_cons.1 h with h | h
  · unfold ltr at h
    revert h
    repeat' split
    all_goals decide
  · rcases List.mem_append.1 h with h | h
    · exact dec_no' (by decide) _ h
    · rcases List.mem_cons.1 h with h | h
      · revert h; decide
      · exact dec_no' (by decide) _ h
theorem srMo_motW {m : Ct} (h1 : 0 ≤ m.1 ∧ m.1 ≤ 3) (h2 : 0 ≤ m.2.1 ∧ m.2.1 ≤ 360) (h3 : 0 ≤ m.2.2.1 ∧ m.2.2.1 ≤ 10000) : srMo (motW m) = some m := by
  obtain ⟨k, s, t, u⟩ := m
  obtain ⟨s, rfl⟩ := Int.eq_ofNat_of_zero_le h2.1
  obtain ⟨t, rfl⟩ := Int.eq_ofNat_of_zero_le h3.1
  have h2 := h2.2
  have h3 := h3.2
  simp only at h1 h2 h3
  show srMo (ltr k :: (Lib.decDigits s ++ 58 :: Lib.decDigits t)) = _
  unfold srMo
  dsimp only
  have l1 : 1 ≤ (Lib.decDigits s).length := List.length_pos_iff.2 (dec_ne s)
  have l2 : 1 ≤ (Lib.decDigits t).length := List.length_pos_iff.2 (dec_ne t)
  rw [if_neg (by simp; omega), lawOf_ltr h1.1 h1.2, if_neg (by omega), splitC_hit (dec_no' (by decide) s), splitC_miss (dec_no' (by decide) t)]
  simp only [numR_dec (u := s) (by omega), numR_dec (u := t) (by omega)]
  rw [if_pos ⟨trivial, trivial, by omega, by omega⟩]
theorem irMo_motW {m : Ct} (h1 : 0 ≤ m.1 ∧ m.1 ≤ 3) (h2 : 1 ≤ m.2.1 ∧ m.2.1 ≤ 360) (h3 : 0 ≤ m.2.2.1 ∧ m.2.2.1 ≤ 10000) : irMo (motW m) = some m := by
  obtain ⟨k, s, t, u⟩ := m
  obtain ⟨s, rfl⟩ := Int.eq_ofNat_of_zero_le (show 0 ≤ s by have := h2.1; simp only at this; omega)
  obtain ⟨t, rfl⟩ := Int.eq_ofNat_of_zero_le h3.1
  simp only at h1 h2 h3
  show irMo (ltr k :: (Lib.decDigits s ++ 58 :: Lib.decDigits t)) = _
  unfold irMo
  dsimp only
  rw [cut_hit (dec_no' (by decide) s)]
  simp only [numI_dec (u := s) (by omega), numI_dec (u := t) (by omega)]
  rw [if_pos ⟨inR_iff.2 ⟨by omega, by omega⟩, inR_iff.2 ⟨by omega, by omega⟩⟩, lawOf_ltr h1.1 h1.2]
def mapO {α β : Type} (f : α → Option β) : List α → Option (List β)
  | [] => some []
  | x :: l => match f x, mapO f l with
    | some y, some r => some (y :: r)
    | _, _ => none
theorem mapO_map {α β : Type} {f : α → Option β} {g : β → α} : ∀ {l : List β}, (∀ y ∈ l, f (g y) = some y) → mapO f (l.map g) = some l
  | [], _ => rfl
  | y :: l, h => by
    have h1 := h y (by simp)
    have h2 := mapO_map (l := l) fun z hz => h z (by simp [hz])
    simp [mapO, h1, h2]
theorem mapO_el {α β : Type} {f : α → Option β} : ∀ {l : List α} {r : List β}, mapO f l = some r → r.length = l.length ∧ (∀ y ∈ r, ∃ x ∈ l, f x = some y)
  | [], r, h => by injection h with h; subst h; simp
  | x :: l, r, h => by
    unfold mapO at h
    split at h
    · rename_i y r' h1 h2
      injection h with h
      subst h
      obtain ⟨e1, e2⟩ := mapO_el h2
      refine ⟨by simp [e1], fun z hz => ?_⟩
      rcases List.mem_cons.1 hz with rfl | hz
      · exact ⟨x, by simp, h1⟩
      · obtain ⟨a, ha, e⟩ := e2 z hz
        exact ⟨a, by simp [ha], e⟩
    · cases h
theorem mapO_back {α β : Type} {f : α → Option β} {g : β → α} (hg : ∀ x y, f x = some y → x = g y) : ∀ {l : List α} {r : List β}, mapO f l = some r → l = r.map g
  | [], r, h => by injection h with h; subst h; rfl
  | x :: l, r, h => by
    unfold mapO at h
    split at h
    · rename_i y r' h1 h2
      injection h with h
      subst h
      rw [List.map_cons, ← hg _ _ h1, ← mapO_back hg h2]
    · cases h
def pgT (p : Prg) : List UInt8 := Lib.join (pgW p.1 p.2.1) [32]
def srPg (l : List UInt8) : Option Prg := match splitC 32 l with
  | w :: ws => if (numR w).2 = true ∧ inR (numR w).1 0 10000 = true then (mapO srMo ws).map fun L => ((numR w).1, L, ()) else none
  | [] => none
def irPg (l : List UInt8) : Option Prg := match splitC 32 l with
  | w :: ws => if inR (numI w).1 0 10000 = true then (mapO irMo ws).map fun L => ((numI w).1, L, ()) else none
  | [] => none
/-- What both answer. -/
def rdPg (l : List UInt8) : Prg × Int := match srPg l with
  | some p => if okPg p = true then (p, 0) else ((0, [], ()), 5)
  | none => ((0, [], ()), 5)
theorem pgT_split {p : Prg} : splitC 32 (pgT p) = Lib.decDigits p.1.toNat :: p.2.1.map motW :=
  splitC_join _ _ (dec_no' (by decide) _) fun v hv => by
    obtain ⟨m, _, rfl⟩ := List.mem_map.1 hv
    exact motW_no m
theorem okPg_el {p : Prg} (hr : RngPg p) (h : okPg p = true) : (0 ≤ p.1 ∧ p.1 ≤ 10000) ∧ ∀ m ∈ p.2.1, (0 ≤ m.1 ∧ m.1 ≤ 3) ∧ (1 ≤ m.2.1 ∧ m.2.1 ≤ 360) ∧ 0 ≤ m.2.2.1 ∧ m.2.2.1 ≤ 10000 := by
  unfold okPg at h
  simp only [Bool.and_eq_true] at h
  obtain ⟨⟨⟨⟨h1, h2⟩, h3⟩, h4⟩, h5⟩ := h
  have hp := hr.1
  rw [wrap_id (by omega) (by omega)] at h2
  have e2 := inR_iff.1 h2
  have e4 := inR_iff.1 h4
  refine ⟨e2, ?_⟩
  have hel : ∀ m ∈ p.2.1, (0 ≤ m.1 ∧ m.1 ≤ 3) ∧ 1 ≤ m.2.1 ∧ 0 ≤ m.2.2.1 ∧ m.2.2.1 ≤ 10000 := fun m hm => by
    have := List.all_eq_true.1 h3 m hm
    unfold moOk at this
    rw [hr.2.i1 hm, hr.2.i3 hm] at this
    simp only [Bool.and_eq_true, Bool.not_eq_true', decide_eq_false_iff_not] at this
    obtain ⟨⟨a1, a2⟩, a3⟩ := this
    have b1 := inR_iff.1 a1
    have b3 := inR_iff.1 a3
    exact ⟨b1, by omega, b3⟩
  have hs : ∀ (L : List Ct), (∀ m ∈ L, 1 ≤ m.2.1) → ∀ m ∈ L, m.2.1 ≤ sumM L := by
    intro L
    induction L with
    | nil => intro _ m hm; cases hm
    | cons v L ih =>
      intro hL m hm
      have h0 : 0 ≤ sumM L := by
        clear ih hm
        have hL' : ∀ m ∈ L, 1 ≤ m.2.1 := fun m hm => hL m (by simp [hm])
        induction L with
        | nil => exact Int.le_refl _
        | cons u L ih =>
          have := hL' u (by simp)
          have := ih (fun m hm => hL m (by simp only [List.mem_cons] at hm ⊢; rcases hm with h | h <;> simp [h])) fun m hm => hL' m (by simp [hm])
          show 0 ≤ u.2.1 + sumM L
          omega
      show m.2.1 ≤ v.2.1 + sumM L
      rcases List.mem_cons.1 hm with rfl | hm
      · omega
      · have := ih (fun m hm => hL m (by simp [hm])) m hm
        have := hL v (by simp)
        omega
  intro m hm
  obtain ⟨a, b, c⟩ := hel m hm
  have := hs p.2.1 (fun m hm => (hel m hm).2.1) m hm
  exact ⟨a, ⟨b, by omega⟩, c⟩
theorem srPg_text {p : Prg} (hr : RngPg p) (h : okPg p = true) : srPg (pgT p) = some p := by
  obtain ⟨h1, h2⟩ := okPg_el hr h
  obtain ⟨t, L, u⟩ := p
  obtain ⟨t, rfl⟩ := Int.eq_ofNat_of_zero_le h1.1
  have h1 := h1.2
  simp only at h1 h2
  unfold srPg
  rw [pgT_split]
  simp only [Int.ofNat_eq_natCast, Int.toNat_natCast]
  rw [numR_dec (by omega), if_pos ⟨rfl, inR_iff.2 ⟨by omega, by omega⟩⟩, mapO_map fun m hm => srMo_motW (h2 m hm).1 ⟨by have := (h2 m hm).2.1; omega, (h2 m hm).2.1.2⟩ (h2 m hm).2.2]
  rfl
theorem irPg_text {p : Prg} (hr : RngPg p) (h : okPg p = true) : irPg (pgT p) = some p := by
  obtain ⟨h1, h2⟩ := okPg_el hr h
  obtain ⟨t, L, u⟩ := p
  obtain ⟨t, rfl⟩ := Int.eq_ofNat_of_zero_le h1.1
  have h1 := h1.2
  simp only at h1 h2
  unfold irPg
  rw [pgT_split]
  simp only [Int.ofNat_eq_natCast, Int.toNat_natCast]
  rw [numI_dec (by omega), if_pos (inR_iff.2 ⟨by omega, by omega⟩), mapO_map fun m hm => irMo_motW (h2 m hm).1 (h2 m hm).2.1 (h2 m hm).2.2]
  rfl
theorem rngPg_mk {t : Int} {L : List Ct} (ht : 0 ≤ t ∧ t ≤ 10000) (hl : (L.length : Int) ≤ 2000000) (hL : ∀ m ∈ L, (-1 ≤ m.1 ∧ m.1 ≤ 3) ∧ (0 ≤ m.2.1 ∧ m.2.1 ≤ 360) ∧ 0 ≤ m.2.2.1 ∧ m.2.2.1 ≤ 10000) : RngPg (t, L, ()) :=
  ⟨⟨by show -32768 ≤ t; omega, by show t ≤ 32767; omega⟩, ⟨by show (L.length : Int) * 6 ≤ _; omega, fun v hv => by have := hL v hv; exact ⟨by omega, by omega, by omega⟩⟩⟩
theorem srPg_ok {l : List UInt8} (hl : l.length ≤ 1048576) {p : Prg} (h : srPg l = some p) : l = pgT p ∧ RngPg p := by
  unfold srPg at h
  split at h
  · rename_i w ws e
    split at h
    · rename_i hc
      cases hm : mapO srMo ws with
      | none => rw [hm] at h; cases h
      | some L =>
        rw [hm] at h
        injection h with h
        subst h
        obtain ⟨u, hu, ew, eu⟩ := numR_ok hc.1
        have hi := inR_iff.1 hc.2
        have hj := (splitC_spec 32 l).1
        have hn := splitC_len 32 l
        rw [e] at hj hn
        obtain ⟨e1, e2⟩ := mapO_el hm
        refine ⟨?_, rngPg_mk hi (by simp only [List.length_cons] at hn; omega) fun m hm => ?_⟩
        · rw [← hj, mapO_back (g := motW) (fun x y h => (srMo_ok h).1) hm, ew]
          show _ = Lib.join (Lib.decDigits (numR _).1.toNat :: L.map motW) [32]
          rw [← ew, eu, Int.toNat_natCast, ← ew]
        · obtain ⟨x, _, hx⟩ := e2 m hm
          have := (srMo_ok hx).2
          exact ⟨by omega, by omega, by omega⟩
    · cases h
  · cases h
theorem irPg_rng {l : List UInt8} (hl : l.length ≤ 1048576) {p : Prg} (h : irPg l = some p) : RngPg p := by
  unfold irPg at h
  split at h
  · rename_i w ws e
    split at h
    · rename_i hc
      cases hm : mapO irMo ws with
      | none => rw [hm] at h; cases h
      | some L =>
        rw [hm] at h
        injection h with h
        subst h
        have hi := inR_iff.1 hc
        have hn := splitC_len 32 l
        rw [e] at hn
        obtain ⟨e1, e2⟩ := mapO_el hm
        refine rngPg_mk hi (by simp only [List.length_cons] at hn; omega) fun m hm => ?_
        obtain ⟨x, _, hx⟩ := e2 m hm
        unfold irMo at hx
        cases x with
        | nil => cases hx
        | cons k r =>
          dsimp only at hx
          split at hx
          · rename_i hc2
            injection hx with hx
            subst hx
            have b1 := inR_iff.1 hc2.1
            have b2 := inR_iff.1 hc2.2
            exact ⟨lawOf_bd k, by show 0 ≤ (numI _).1 ∧ (numI _).1 ≤ 360; omega, b1⟩
          · cases hx
    · cases h
  · cases h
/-- The lenient reading with its check answers as the strict one. -/
theorem rdPg_eq {l : List UInt8} (hl : l.length ≤ 1048576) : rdPg l = match irPg l with
  | some p => if okPg p = true ∧ pgT p = l then (p, 0) else ((0, [], ()), 5)
  | none => ((0, [], ()), 5) := by
  unfold rdPg
  cases hs : srPg l with
  | some p =>
    obtain ⟨e, hr⟩ := srPg_ok hl hs
    simp only
    by_cases ho : okPg p = true
    · have := irPg_text hr ho
      rw [← e] at this
      rw [this]
      simp only
      rw [if_pos ho, if_pos ⟨ho, e.symm⟩]
    · rw [if_neg ho]
      cases hi : irPg l with
      | none => rfl
      | some q =>
        simp only
        by_cases hq : okPg q = true ∧ pgT q = l
        · have := srPg_text (irPg_rng hl hi) hq.1
          rw [hq.2, hs] at this
          injection this with this
          subst this
          exact absurd hq.1 ho
        · rw [if_neg hq]
  | none =>
    simp only
    cases hi : irPg l with
    | none => rfl
    | some q =>
      simp only
      by_cases hq : okPg q = true ∧ pgT q = l
      · have := srPg_text (irPg_rng hl hi) hq.1
        rw [hq.2, hs] at this
        cases this
      · rw [if_neg hq]
end Go.Cams
namespace Go.Cams
open Go Go.Fw
theorem mapO_snoc {α β : Type} {f : α → Option β} {x : α} {y : β} (hx : f x = some y) : ∀ {l : List α} {r : List β}, mapO f l = some r → mapO f (l ++ [x]) = some (r ++ [y])
  | [], r, h => by injection h with h; subst h; simp [mapO, hx]
  | z :: l, r, h => by
    unfold mapO at h
    split at h
    · rename_i y' r' h1 h2
      injection h with h
      subst h
      simp [mapO, h1, mapO_snoc hx h2]
    · cases h
theorem mapO_none {α β : Type} {f : α → Option β} {x : α} (hx : f x = none) : ∀ {l : List α}, x ∈ l → mapO f l = none
  | z :: l, h => by
    rcases List.mem_cons.1 h with rfl | h
    · simp [mapO, hx]
    · unfold mapO
      rw [mapO_none hx h]
      split
      · rename_i e; cases e
      · rfl
def srMoR (w : List UInt8) : Ct × Bool × Unit := match srMo w with
  | some m => (m, true, ())
  | none => ((0, 0, 0, ()), false, ())
theorem letter_at {i : Nat} (h : i < 4) (c : UInt8) : ∃ d : UInt8, ([101, 115, 99, 102] : List UInt8)[i]? = some d ∧ (d = c ↔ lawOf c = i) := by
  have : i = 0 ∨ i = 1 ∨ i = 2 ∨ i = 3 := by omega
  rcases this with rfl | rfl | rfl | rfl
  all_goals
    refine ⟨_, rfl, ?_⟩
    constructor
    · intro e; subst e; rfl
    · intro e
      have := ltr_lawOf (c := c) (by omega)
      rw [e] at this
      exact this
theorem rdPg_len {l : List UInt8} (hl : l.length ≤ 1048576) : (rdPg l).1.2.1.length ≤ 24 := by
  unfold rdPg
  split
  · split
    · rename_i p h ho
      unfold okPg at ho
      simp only [Bool.and_eq_true] at ho
      have := inR_iff.1 ho.1.1.1.1
      show p.2.1.length ≤ 24
      omega
    · simp
  · simp
end Go.Cams

/- Cams read from their texts. In plain terms. -/
namespace Go.Cams
open Go Go.Fw
def foldO {α σ : Type} (f : σ → α → Option σ) : σ → List α → Option σ
  | s, [] => some s
  | s, x :: l => match f s x with
    | some t => foldO f t l
    | none => none
theorem foldO_snoc {α σ : Type} {f : σ → α → Option σ} {x : α} : ∀ {l : List α} {s t : σ}, foldO f s l = some t → foldO f s (l ++ [x]) = f t x
  | [], s, t, h => by
    injection h with h
    subst h
    simp only [List.nil_append, foldO]
    split <;> simp_all
  | y :: l, s, t, h => by
    simp only [foldO, List.cons_append] at h ⊢
    split at h
    · exact foldO_snoc h
    · cases h
theorem foldO_app {α σ : Type} {f : σ → α → Option σ} : ∀ {l m : List α} {s t : σ}, foldO f s l = some t → foldO f s (l ++ m) = foldO f t m
  | [], m, s, t, h => by injection h with h; subst h; rfl
  | y :: l, m, s, t, h => by
    simp only [foldO, List.cons_append] at h ⊢
    split at h
    · exact foldO_app h
    · cases h
theorem foldO_none {α σ : Type} {f : σ → α → Option σ} {x : α} {l : List α} {s t : σ} {i : Nat} (h : foldO f s (l.take i) = some t) (hi : l[i]? = some x) (hx : f t x = none) : foldO f s l = none := by
  have e : l = l.take i ++ x :: l.drop (i + 1) := by
    rw [← drop_cons hi, List.take_append_drop]
  rw [e, foldO_app h]
  simp [foldO, hx]
theorem foldO_next {α σ : Type} {f : σ → α → Option σ} {x : α} {l : List α} {s t : σ} {i : Nat} (h : foldO f s (l.take i) = some t) (hi : l[i]? = some x) : foldO f s (l.take (i + 1)) = f t x := by
  rw [List.take_add_one, hi]
  exact foldO_snoc h
/-! ### Runs -/
theorem rle_app : ∀ (c d : List Int), (∀ v, c.getLast? = some v → d.head? ≠ some v) → rle (c ++ d) = rle c ++ rle d
  | [], d, _ => rfl
  | [a], d, h => by
    have hd : d.head? ≠ some a := h a rfl
    have := rle_run a hd 0
    simpa [rle] using this
  | a :: b :: r, d, h => by
    have ih := rle_app (b :: r) d (fun v hv => h v (by rw [List.getLast?_cons_cons]; exact hv))
    show rle (a :: ((b :: r) ++ d)) = _
    rw [rle_cons, ih, rle_cons a (b :: r)]
    cases hr : rle (b :: r) with
    | nil =>
      have := rle_cons b r
      rw [hr] at this
      split at this
      · cases this
      · split at this <;> cases this
    | cons x t =>
      simp only [List.cons_append]
      split <;> rfl
theorem rle_rep {v : Int} {k : Nat} (hk : 1 ≤ k) : rle (List.replicate k v) = [(v, k)] := by
  obtain ⟨k, rfl⟩ : ∃ j, k = j + 1 := ⟨k - 1, by omega⟩
  have := rle_run v (t := []) (by simp) k
  simpa [rle] using this
theorem rle_more {c : List Int} {v : Int} {k : Nat} (hk : 1 ≤ k) (h : c.getLast? ≠ some v) : rle (c ++ List.replicate k v) = rle c ++ [(v, k)] := by
  rw [rle_app c _ (fun u hu e => ?_), rle_rep hk]
  obtain ⟨k, rfl⟩ : ∃ j, k = j + 1 := ⟨k - 1, by omega⟩
  simp only [List.replicate_succ, List.head?_cons, Option.some.injEq] at e
  subst e
  exact h hu
/-- Runs laid out. -/
def lay : List (Int × Nat) → List Int
  | [] => []
  | x :: r => List.replicate x.2 x.1 ++ lay r
theorem lay_app : ∀ (a b : List (Int × Nat)), lay (a ++ b) = lay a ++ lay b
  | [], _ => rfl
  | x :: a, b => by simp [lay, lay_app a b]
theorem lay_rle : ∀ l : List Int, lay (rle l) = l
  | [] => rfl
  | v :: r => by
    have ih := lay_rle r
    rw [rle_cons]
    split
    · rename_i h
      rw [h] at ih
      simp only [lay] at ih
      simp [lay, ← ih]
    · rename_i w k t h
      rw [h] at ih
      split
      · rename_i e
        subst e
        simp only [lay] at ih ⊢
        rw [List.replicate_succ, List.cons_append, ih]
      · simp only [lay] at ih ⊢
        rw [ih]; rfl
/-- Runs beside each other differ, and none is empty. -/
def Chn : List (Int × Nat) → Prop
  | [] => True
  | [x] => 1 ≤ x.2
  | x :: y :: r => 1 ≤ x.2 ∧ x.1 ≠ y.1 ∧ Chn (y :: r)
theorem chn_rle : ∀ l : List Int, Chn (rle l)
  | [] => trivial
  | v :: r => by
    have ih := chn_rle r
    rw [rle_cons]
    split
    · exact Nat.le_refl 1
    · rename_i w k t h
      rw [h] at ih
      split
      · cases t with
        | nil => exact Nat.succ_le_succ (Nat.zero_le _)
        | cons y t => exact ⟨Nat.succ_le_succ (Nat.zero_le _), ih.2.1, ih.2.2⟩
      · rename_i hne
        exact ⟨Nat.le_refl 1, fun e => hne e.symm, ih⟩
theorem lay_last {a : List (Int × Nat)} {x : Int × Nat} (hx : 1 ≤ x.2) : (lay (a ++ [x])).getLast? = some x.1 := by
  rw [lay_app]
  simp only [lay, List.append_nil]
  obtain ⟨k, hk⟩ : ∃ j, x.2 = j + 1 := ⟨x.2 - 1, by omega⟩
  rw [hk, List.replicate_succ', ← List.append_assoc, List.getLast?_append]
  simp
/-- What holds of each step holds of the whole. -/
theorem fold_runs {f : List Int → List UInt8 → Option (List Int)} {m : Nat} (hf : ∀ (c : List Int) (x : Int × Nat), 0 ≤ x.1 → x.1 ≤ 10000 → 1 ≤ x.2 → c.length + x.2 ≤ m → c.getLast? ≠ some x.1 → f c (wordL x) = some (c ++ List.replicate x.2 x.1)) :
    ∀ (rs done : List (Int × Nat)), Chn rs → (∀ x ∈ rs, 0 ≤ x.1 ∧ x.1 ≤ 10000) → (∀ x y, done.getLast? = some x → rs.head? = some y → x.1 ≠ y.1) → (∀ x, done.getLast? = some x → 1 ≤ x.2) → (lay (done ++ rs)).length ≤ m → foldO f (lay done) (rs.map wordL) = some (lay (done ++ rs))
  | [], done, _, _, _, _, _ => by simp [foldO]
  | x :: rs, done, hc, hv, hd, h1, hl => by
    have hx : 1 ≤ x.2 := by
      cases rs with
      | nil => exact hc
      | cons y r => exact hc.1
    have hv0 := hv x (by simp)
    have hl' : (lay done).length + x.2 ≤ m := by
      rw [lay_app] at hl
      simp only [lay, List.length_append, List.length_replicate] at hl
      omega
    have hlast : (lay done).getLast? ≠ some x.1 := by
      rcases List.eq_nil_or_concat done with rfl | ⟨d, y, rfl⟩
      · simp [lay]
      · have hy := h1 y (by simp)
        rw [List.concat_eq_append, lay_last hy]
        intro e
        injection e with e
        exact hd y x (by simp) (by simp) e
    rw [List.map_cons]
    simp only [foldO]
    rw [hf (lay done) x hv0.1 hv0.2 hx hl' hlast]
    have e : lay done ++ List.replicate x.2 x.1 = lay (done ++ [x]) := by rw [lay_app]; simp [lay]
    simp only [e]
    have ih := fold_runs hf rs (done ++ [x]) (by cases rs with | nil => trivial | cons y r => exact hc.2.2) (fun y hy => hv y (by simp [hy])) (fun a b ha hb => by
      simp at ha
      subst ha
      cases rs with
      | nil => cases hb
      | cons y r => injection hb with hb; subst hb; exact hc.2.1) (fun a ha => by simp at ha; subst ha; exact hx) (by simpa using hl)
    simpa using ih
/-! ### Words of runs -/
/-- A word read strictly. -/
def srW (c : List Int) (w : List UInt8) : Option (List Int) := match splitC 42 w with
  | [a] => if (numR a).2 = true ∧ (numR a).1 ≤ 10000 ∧ c.length + 1 ≤ 360 ∧ c.getLast? ≠ some (numR a).1 then some (c ++ List.replicate 1 (numR a).1) else none
  | [a, b] => if (numR a).2 = true ∧ (numR b).2 = true ∧ 1 < (numR b).1 ∧ (numR a).1 ≤ 10000 ∧ c.length + (numR b).1.toNat ≤ 360 ∧ c.getLast? ≠ some (numR a).1 then some (c ++ List.replicate (numR b).1.toNat (numR a).1) else none
  | _ => none
/-- How often a lift comes. -/
def timesI (l : List UInt8) : Int := if (numI l).2 = true then (numI l).1 else 1
def irW (c : List Int) (w : List UInt8) : Option (List Int) :=
  if inR (numI (Lib.cut w [42]).1).1 0 10000 = true ∧ inR (timesI (Lib.cut w [42]).2.1) 1 (360 - c.length) = true then some (c ++ List.replicate (timesI (Lib.cut w [42]).2.1).toNat (numI (Lib.cut w [42]).1).1) else none
theorem srW_word (c : List Int) (x : Int × Nat) (h0 : 0 ≤ x.1) (h1 : x.1 ≤ 10000) (h2 : 1 ≤ x.2) (h3 : c.length + x.2 ≤ 360) (h4 : c.getLast? ≠ some x.1) : srW c (wordL x) = some (c ++ List.replicate x.2 x.1) := by
  obtain ⟨v, k⟩ := x
  obtain ⟨v, rfl⟩ := Int.eq_ofNat_of_zero_le h0
  simp only at h0 h1 h2 h3 h4
  unfold srW wordL
  simp only [Int.toNat_natCast]
  by_cases hk : k > 1
  · rw [if_pos hk, splitC_hit (dec_no' (by decide) v), splitC_miss (dec_no' (by decide) k)]
    simp only [numR_dec (u := v) (by omega), numR_dec (u := k) (by omega), Int.toNat_natCast]
    rw [if_pos ⟨trivial, trivial, by omega, by omega, h3, h4⟩]
  · rw [if_neg hk, splitC_miss (dec_no' (by decide) v)]
    obtain rfl : k = 1 := by omega
    simp only [numR_dec (u := v) (by omega)]
    rw [if_pos ⟨trivial, by omega, h3, h4⟩]
theorem irW_word (c : List Int) (x : Int × Nat) (h0 : 0 ≤ x.1) (h1 : x.1 ≤ 10000) (h2 : 1 ≤ x.2) (h3 : c.length + x.2 ≤ 360) (_ : c.getLast? ≠ some x.1) : irW c (wordL x) = some (c ++ List.replicate x.2 x.1) := by
  obtain ⟨v, k⟩ := x
  obtain ⟨v, rfl⟩ := Int.eq_ofNat_of_zero_le h0
  simp only at h0 h1 h2 h3
  unfold irW wordL timesI
  simp only [Int.toNat_natCast]
  by_cases hk : k > 1
  · rw [if_pos hk, cut_hit (dec_no' (by decide) v)]
    simp only [numI_dec (u := v) (by omega), numI_dec (u := k) (by omega), if_true, Int.toNat_natCast]
    rw [if_pos ⟨inR_iff.2 ⟨by omega, by omega⟩, inR_iff.2 ⟨by omega, by omega⟩⟩]
  · rw [if_neg hk, cut_miss (dec_no' (by decide) v)]
    obtain rfl : k = 1 := by omega
    have e : numI [] = (0, false) := rfl
    simp only [numI_dec (u := v) (by omega), e]
    rw [if_pos ⟨inR_iff.2 ⟨by omega, by omega⟩, inR_iff.2 ⟨by simp, by simp; omega⟩⟩]
    rfl
theorem srW_ok {c d : List Int} {w : List UInt8} (h : srW c w = some d) : ∃ x : Int × Nat, w = wordL x ∧ 0 ≤ x.1 ∧ x.1 ≤ 10000 ∧ 1 ≤ x.2 ∧ c.length + x.2 ≤ 360 ∧ c.getLast? ≠ some x.1 ∧ d = c ++ List.replicate x.2 x.1 := by
  have hj := (splitC_spec 42 w).1
  unfold srW at h
  split at h
  · rename_i a e
    rw [e] at hj
    split at h
    · rename_i hc
      injection h with h
      obtain ⟨u, hu, ea, eu⟩ := numR_ok hc.1
      refine ⟨((numR a).1, 1), ?_, by show 0 ≤ (numR a).1; omega, hc.2.1, Nat.le_refl _, hc.2.2.1, hc.2.2.2, h.symm⟩
      unfold wordL
      rw [if_neg (by simp), eu, Int.toNat_natCast, ← ea, ← hj]
      simp [Lib.join]
    · cases h
  · rename_i a b e
    rw [e] at hj
    split at h
    · rename_i hc
      injection h with h
      obtain ⟨u, hu, ea, eu⟩ := numR_ok hc.1
      obtain ⟨t, ht, eb, et⟩ := numR_ok hc.2.1
      have h2 := hc.2.2.1
      refine ⟨((numR a).1, (numR b).1.toNat), ?_, by show 0 ≤ (numR a).1; omega, hc.2.2.2.1, by show 1 ≤ (numR b).1.toNat; omega, hc.2.2.2.2.1, hc.2.2.2.2.2, h.symm⟩
      unfold wordL
      rw [if_pos (by show (numR b).1.toNat > 1; omega), eu, et, Int.toNat_natCast, Int.toNat_natCast, ← ea, ← eb, ← hj]
      simp [Lib.join]
    · cases h
  · cases h
theorem wordL_no (x : Int × Nat) : (32 : UInt8) ∉ wordL x := by
  unfold wordL
  split
  · intro h
    rcases List.mem_append.1 h with h | h
    · exact dec_no' (by decide) _ h
    · rcases List.mem_cons.1 h with h | h
      · revert h; decide
      · exact dec_no' (by decide) _ h
  · exact dec_no' (by decide) _
theorem srW_fold : ∀ (ws : List (List UInt8)) {c0 c : List Int}, c0.length ≤ 360 → (∀ v ∈ c0, 0 ≤ v ∧ v ≤ 10000) → foldO srW c0 ws = some c → (rle c).map wordL = (rle c0).map wordL ++ ws ∧ c.length ≤ 360 ∧ ∀ v ∈ c, 0 ≤ v ∧ v ≤ 10000
  | [], c0, c, hl, hv, h => by
    injection h with h
    subst h
    exact ⟨by simp, hl, hv⟩
  | w :: ws, c0, c, hl, hv, h => by
    simp only [foldO] at h
    split at h
    · rename_i d hd
      obtain ⟨x, ew, x0, x1, x2, x3, x4, ed⟩ := srW_ok hd
      subst ed
      obtain ⟨h1, h2, h3⟩ := srW_fold ws (by simp; omega) (fun v hv' => by
        rcases List.mem_append.1 hv' with hv' | hv'
        · exact hv v hv'
        · rw [(List.mem_replicate.1 hv').2]; exact ⟨x0, x1⟩) h
      refine ⟨?_, h2, h3⟩
      rw [h1, rle_more x2 x4, List.map_append, ew]
      simp
    · cases h
/-- What is known of a cam as far as it is read. -/
def GoodC (c : List Int) : Prop := c.length ≤ 360 ∧ ∀ v ∈ c, 0 ≤ v ∧ v ≤ 10000
theorem GoodC.rng {c : List Int} (h : GoodC c) : Rng c := ⟨by have := h.1; omega, fun v hv => by have := h.2 v hv; omega⟩
theorem irW_good {c d : List Int} {w : List UInt8} (hc : GoodC c) (h : irW c w = some d) : GoodC d := by
  unfold irW at h
  split at h
  · rename_i hh
    injection h with h
    subst h
    have h1 := inR_iff.1 hh.1
    have h2 := inR_iff.1 hh.2
    have h3 := hc.1
    refine ⟨by rw [List.length_append, List.length_replicate]; omega, fun v hv => ?_⟩
    rcases List.mem_append.1 hv with hv | hv
    · exact hc.2 v hv
    · rw [(List.mem_replicate.1 hv).2]; exact h1
  · cases h
theorem irW_fold : ∀ (ws : List (List UInt8)) {c0 c : List Int}, GoodC c0 → foldO irW c0 ws = some c → GoodC c
  | [], c0, c, hg, h => by injection h with h; subst h; exact hg
  | w :: ws, c0, c, hg, h => by
    simp only [foldO] at h
    split at h
    · rename_i d hd
      exact irW_fold ws (irW_good hg hd) h
    · cases h
theorem good0 : GoodC [] := ⟨by simp, by simp⟩
theorem srW_good {ws : List (List UInt8)} {c : List Int} (h : foldO srW [] ws = some c) : GoodC c := (srW_fold ws (c0 := []) (by simp) (by simp) h).2
theorem camJ_split {c : List Int} (h : okC c = true) : splitC 32 (camJ c) = (rle c).map wordL := by
  have hl := okC_len h
  cases hr : rle c with
  | nil =>
    have := lay_rle c
    rw [hr] at this
    rw [← this] at hl
    simp [lay] at hl
  | cons x r =>
    unfold camJ
    rw [hr]
    exact splitC_join _ _ (wordL_no x) fun v hv => by
      obtain ⟨y, _, rfl⟩ := List.mem_map.1 hv
      exact wordL_no y
theorem fold_text {f : List Int → List UInt8 → Option (List Int)} (hf : ∀ (c : List Int) (x : Int × Nat), 0 ≤ x.1 → x.1 ≤ 10000 → 1 ≤ x.2 → c.length + x.2 ≤ 360 → c.getLast? ≠ some x.1 → f c (wordL x) = some (c ++ List.replicate x.2 x.1))
    {c : List Int} (hr : Rng c) (h : okC c = true) : foldO f [] (splitC 32 (camJ c)) = some c := by
  have hl := okC_len h
  have he := okC_el h hr
  rw [camJ_split h]
  have := fold_runs hf (rle c) [] (chn_rle c) (fun x hx => he _ (rle_el c x hx).1) (fun x y hx => by simp at hx) (fun x hx => by simp at hx) (by rw [List.nil_append, lay_rle]; omega)
  rw [List.nil_append, lay_rle] at this
  exact this
/-- What both answer. -/
def rdC (l : List UInt8) : List Int × Int := match foldO srW [] (splitC 32 l) with
  | some c => if okC c = true then (c, 0) else ([], 5)
  | none => ([], 5)
theorem rdC_text {c : List Int} (hr : Rng c) (h : okC c = true) : rdC (camJ c) = (c, 0) := by
  unfold rdC
  rw [fold_text srW_word hr h]
  simp only
  rw [if_pos h]
theorem rdC_back {l : List UInt8} {c : List Int} (h : foldO srW [] (splitC 32 l) = some c) : camJ c = l := by
  obtain ⟨h1, _, _⟩ := srW_fold _ (c0 := []) (by simp) (by simp) h
  unfold camJ
  rw [h1]
  show Lib.join ((rle []).map wordL ++ _) [32] = l
  exact (splitC_spec 32 l).1
theorem rdC_eq (l : List UInt8) : rdC l = match foldO irW [] (splitC 32 l) with
  | some c => if okC c = true ∧ camJ c = l then (c, 0) else ([], 5)
  | none => ([], 5) := by
  unfold rdC
  cases hs : foldO srW [] (splitC 32 l) with
  | some c =>
    have hr := (srW_good hs).rng
    have e := rdC_back hs
    simp only
    by_cases ho : okC c = true
    · have := fold_text irW_word hr ho
      rw [e] at this
      rw [this]
      simp only
      rw [if_pos ho, if_pos ⟨ho, e⟩]
    · rw [if_neg ho]
      cases hi : foldO irW [] (splitC 32 l) with
      | none => rfl
      | some d =>
        simp only
        by_cases hq : okC d = true ∧ camJ d = l
        · have := fold_text srW_word (irW_fold _ good0 hi).rng hq.1
          rw [hq.2, hs] at this
          injection this with this
          subst this
          exact absurd hq.1 ho
        · rw [if_neg hq]
  | none =>
    simp only
    cases hi : foldO irW [] (splitC 32 l) with
    | none => rfl
    | some d =>
      simp only
      by_cases hq : okC d = true ∧ camJ d = l
      · have := fold_text srW_word (irW_fold _ good0 hi).rng hq.1
        rw [hq.2, hs] at this
        cases this
      · rw [if_neg hq]
theorem rdC_good (l : List UInt8) : GoodC (rdC l).1 := by
  unfold rdC
  split
  · rename_i c h
    split
    · exact srW_good h
    · exact good0
  · exact good0
end Go.Cams

/- Texts of shafts. In plain terms. -/
namespace Go.Cams
open Go Go.Fw
structure RngSf (s : Sft) : Prop where
  n : -32768 ≤ s.1 ∧ s.1 ≤ 32767
  d : -32768 ≤ s.2.1 ∧ s.2.1 ≤ 32767
  p : -32768 ≤ s.2.2.1 ∧ s.2.2.1 ≤ 32767
  c : Rng s.2.2.2.1
structure GoodSf (s : Sft) : Prop where
  n : 1 ≤ s.1 ∧ s.1 ≤ 60
  d : 1 ≤ s.2.1 ∧ s.2.1 ≤ 60
  c : okC s.2.2.2.1 = true
  p : 0 ≤ s.2.2.1 ∧ s.2.2.1 < (s.2.2.2.1.length : Int)
theorem goodSf {s : Sft} (hr : RngSf s) (h : okS s = true) : GoodSf s := by
  have h1 := hr.n
  have h2 := hr.d
  have h3 := hr.p
  unfold okS at h
  simp only [Bool.and_eq_true] at h
  obtain ⟨⟨⟨a, b⟩, c⟩, d⟩ := h
  have hl := okC_len c
  rw [wrap_id (by omega) (by omega)] at a b
  rw [wrap_id (x := s.2.2.1) (by omega) (by omega), wrap_id (by omega) (by omega)] at d
  have a := inR_iff.1 a
  have b := inR_iff.1 b
  have d := inR_iff.1 d
  exact ⟨a, b, c, by omega⟩
theorem okS_of {s : Sft} (hr : RngSf s) (G : GoodSf s) : okS s = true := by
  have h1 := hr.n
  have h2 := hr.d
  have h3 := hr.p
  have g1 := G.n
  have g2 := G.d
  have g3 := G.p
  have hl := okC_len G.c
  unfold okS
  simp only [Bool.and_eq_true]
  rw [wrap_id (x := s.1) (by omega) (by omega), wrap_id (x := s.2.1) (by omega) (by omega), wrap_id (x := s.2.2.1) (by omega) (by omega), wrap_id (by omega) (by omega)]
  exact ⟨⟨⟨inR_iff.2 G.n, inR_iff.2 G.d⟩, G.c⟩, inR_iff.2 ⟨by omega, by omega⟩⟩
def shL (s : Sft) : List UInt8 := ((((((Lib.decDigits s.1.toNat ++ [32]) ++ Lib.decDigits s.2.1.toNat) ++ [32]) ++ Lib.decDigits s.2.2.1.toNat) ++ [32]) ++ camJ s.2.2.2.1) ++ [10]
def shT (l : List Sft) : List UInt8 := (l.map shL).flatten
def shR (l : List Sft) : ByteArray := if okA l = true then tx (shT l) else tx []
theorem shT_snoc (l : List Sft) (s : Sft) : shT (l ++ [s]) = shT l ++ shL s := by simp [shT]
theorem shL_len {s : Sft} (hr : RngSf s) (G : GoodSf s) : (shL s).length ≤ 1000100 := by
  have hl := okC_len G.c
  have h1 := camJ_len (c := s.2.2.2.1) (by omega) (okC_el G.c hr.c)
  have g1 := G.n
  have g2 := G.d
  have g3 := G.p
  have d1 := dec_len (u := s.1.toNat) (by omega)
  have d2 := dec_len (u := s.2.1.toNat) (by omega)
  have d3 := dec_len (u := s.2.2.1.toNat) (by omega)
  simp only [shL, List.length_append, List.length_cons, List.length_nil]
  omega
theorem okA_el {l : List Sft} (h : okA l = true) : 1 ≤ (l.length : Int) ∧ (l.length : Int) ≤ 6 ∧ ∀ s ∈ l, okS s = true := by
  unfold okA at h
  simp only [Bool.and_eq_true] at h
  have := inR_iff.1 h.1
  exact ⟨this.1, this.2, fun s hs => List.all_eq_true.1 h.2 s hs⟩
theorem shT_len {l : List Sft} (hr : ∀ s ∈ l, RngSf s) (hg : ∀ s ∈ l, GoodSf s) : (shT l).length ≤ 1000100 * l.length := by
  induction l with
  | nil => simp [shT]
  | cons s l ih =>
    have h1 := shL_len (hr s (by simp)) (hg s (by simp))
    have h2 := ih (fun x hx => hr x (by simp [hx])) fun x hx => hg x (by simp [hx])
    have e : shT (s :: l) = shL s ++ shT l := by simp [shT]
    rw [e, List.length_append, List.length_cons]
    omega
end Go.Cams

/- Shafts read from their texts. In plain terms. -/
namespace Go.Cams
open Go Go.Fw
theorem splitK_hit {c : UInt8} {w : List UInt8} (h : c ∉ w) (k : Nat) (r : List UInt8) : Lib.splitK [c] 0 (k + 1) (w ++ c :: r) = w :: Lib.splitK [c] 0 k r := by
  have ix := ix_hit h r
  have e : Lib.splitK [c] 0 (k + 1) (w ++ c :: r) = if Lib.index (w ++ c :: r) [c] == -1 then [w ++ c :: r] else (w ++ c :: r).take ((Lib.index (w ++ c :: r) [c]).toNat + 0) :: Lib.splitK [c] 0 k ((w ++ c :: r).drop ((Lib.index (w ++ c :: r) [c]).toNat + [c].length)) := rfl
  rw [e, if_neg (by rw [ix]; simp), ix, Int.toNat_natCast]
  simp
def splitN4 (l : List UInt8) : List (List UInt8) := Lib.splitK [32] 0 (min 4 (l.length + 1) - 1) l
theorem splitN4_len (l : List UInt8) : (splitN4 l).length ≤ 4 := by
  have := Lib.splitB_length_le (tx [32]) 0 (min 4 (l.length + 1) - 1) (tx l)
  have e := Lib.splitB_data (tx [32]) 0 (min 4 (l.length + 1) - 1) (tx l)
  have : (splitN4 l).length = (Lib.splitB (tx [32]) 0 (min 4 (l.length + 1) - 1) (tx l)).length := by
    have := congrArg List.length e
    rw [List.length_map] at this
    exact this.symm
  omega
theorem splitN_tx (l : List UInt8) : Lib.splitB (tx [32]) 0 (min 4 ((tx l).size + 1) - 1) (tx l) = (splitN4 l).map tx := by
  rw [tx_size]
  exact tx_map (Lib.splitB_data _ _ _ _)
/-- A number that fits 16 bits. -/
def shortI (l : List UInt8) : Int := if wr .i64 (wr .i16 (numI l).1) = (numI l).1 then wr .i16 (numI l).1 else 0
theorem wr16_bd (x : Int) : -32768 ≤ wr .i16 x ∧ wr .i16 x ≤ 32767 := by
  show -32768 ≤ IntKind.i16.wrap x ∧ IntKind.i16.wrap x ≤ 32767
  simp [IntKind.wrap, IntKind.signed, IntKind.bits]
  constructor <;> split <;> omega
theorem shortI_bd (l : List UInt8) : -32768 ≤ shortI l ∧ shortI l ≤ 32767 := by
  unfold shortI
  split
  · exact wr16_bd _
  · exact ⟨by omega, by omega⟩
theorem shortI_dec {u : Nat} (h : u ≤ 32767) : shortI (Lib.decDigits u) = u := by
  unfold shortI
  rw [numI_dec (by omega)]
  simp only
  rw [wrap16 (x := (u : Int)) (by omega) (by omega), wrap_id (by omega) (by omega), if_pos rfl]
/-- A shaft's line. -/
def liL (s : Sft) : List UInt8 := Lib.decDigits s.1.toNat ++ 32 :: (Lib.decDigits s.2.1.toNat ++ 32 :: (Lib.decDigits s.2.2.1.toNat ++ 32 :: camJ s.2.2.2.1))
theorem shL_eq (s : Sft) : shL s = liL s ++ [10] := by simp [shL, liL]
def srSh (l : List UInt8) : Option Sft := match splitC 32 l with
  | a :: b :: c :: _ :: _ => match foldO srW [] (splitC 32 (l.drop (a.length + b.length + c.length + 3))) with
    | some k => if (numR a).2 = true ∧ (numR b).2 = true ∧ (numR c).2 = true ∧ okC k = true ∧ (numR a).1 ≤ 60 ∧ (numR b).1 ≤ 60 ∧ (numR c).1 ≤ 360 then some ((numR a).1, (numR b).1, (numR c).1, k, ()) else none
    | none => none
  | _ => none
def irSh (l : List UInt8) : Option Sft := match splitN4 l with
  | [a, b, c, r] => if (rdC r).2 = 0 then some (shortI a, shortI b, shortI c, (rdC r).1, ()) else none
  | _ => none
/-- What the spec's reader of a line answers. -/
def srShR (l : List UInt8) : Sft × Bool × Unit := match srSh l with
  | some s => (s, true, ())
  | none => (((0 : Int), (0 : Int), (0 : Int), ([] : List Int), ()), false, ())
theorem srShR_some {l : List UInt8} {s : Sft} (h : srSh l = some s) : srShR l = (s, true, ()) := by unfold srShR; rw [h]
theorem srShR_none {l : List UInt8} (h : srSh l = none) : srShR l = (((0 : Int), (0 : Int), (0 : Int), ([] : List Int), ()), false, ()) := by unfold srShR; rw [h]
theorem splitK_wlen {c : UInt8} : ∀ (k : Nat) (l : List UInt8), ∀ w ∈ Lib.splitK [c] 0 k l, w.length ≤ l.length
  | 0, l, w, h => by
    rw [show Lib.splitK [c] 0 0 l = [l] from rfl, List.mem_singleton] at h
    rw [h]; exact Nat.le_refl _
  | k + 1, l, w, h => by
    rw [show Lib.splitK [c] 0 (k + 1) l = if Lib.index l [c] == -1 then [l] else l.take ((Lib.index l [c]).toNat + 0) :: Lib.splitK [c] 0 k (l.drop ((Lib.index l [c]).toNat + [c].length)) from rfl] at h
    split at h
    · rw [List.mem_singleton] at h
      rw [h]; exact Nat.le_refl _
    · rcases List.mem_cons.1 h with rfl | h
      · rw [List.length_take]; omega
      · have := splitK_wlen k _ w h
        rw [List.length_drop] at this
        omega
theorem totS_bd {L : List Sft} (h1 : L.length ≤ 6) (h2 : ∀ s ∈ L, s.2.2.2.1.length ≤ 360) : 0 ≤ totS L ∧ totS L ≤ 3000 := by
  have := totS_le (l := L) (fun s hs => by have := h2 s hs; omega)
  exact ⟨totS_nonneg L, by omega⟩
theorem join_cons2 (w v : List UInt8) (ws : List (List UInt8)) (c : UInt8) : Lib.join (w :: v :: ws) [c] = w ++ c :: Lib.join (v :: ws) [c] := by simp [Lib.join]
theorem srSh_ok {l : List UInt8} {s : Sft} (h : srSh l = some s) : l = liL s ∧ (0 ≤ s.1 ∧ s.1 ≤ 60) ∧ (0 ≤ s.2.1 ∧ s.2.1 ≤ 60) ∧ (0 ≤ s.2.2.1 ∧ s.2.2.1 ≤ 360) ∧ GoodC s.2.2.2.1 := by
  have hj := (splitC_spec 32 l).1
  unfold srSh at h
  split at h
  · rename_i a b c d ws e
    rw [e] at hj
    rw [join_cons2, join_cons2, join_cons2] at hj
    have hd : l.drop (a.length + b.length + c.length + 3) = Lib.join (d :: ws) [32] := by
      rw [← hj]
      have e1 : a ++ 32 :: (b ++ 32 :: (c ++ 32 :: Lib.join (d :: ws) [32])) = (a ++ 32 :: (b ++ 32 :: (c ++ [32]))) ++ Lib.join (d :: ws) [32] := by simp
      rw [e1]
      exact List.drop_left' (by simp; omega)
    split at h
    · rename_i k hk
      split at h
      · rename_i hc
        injection h with h
        subst h
        obtain ⟨u1, _, ea, eu⟩ := numR_ok hc.1
        obtain ⟨u2, _, eb, ev⟩ := numR_ok hc.2.1
        obtain ⟨u3, _, ec, ew⟩ := numR_ok hc.2.2.1
        obtain ⟨_, _, _, hok, h1, h2, h3⟩ := hc
        refine ⟨?_, ⟨by show 0 ≤ (numR a).1; omega, h1⟩, ⟨by show 0 ≤ (numR b).1; omega, h2⟩, ⟨by show 0 ≤ (numR c).1; omega, h3⟩, srW_good hk⟩
        have hcj := rdC_back hk
        show l = Lib.decDigits (numR a).1.toNat ++ 32 :: (Lib.decDigits (numR b).1.toNat ++ 32 :: (Lib.decDigits (numR c).1.toNat ++ 32 :: camJ k))
        rw [hcj, hd, eu, ev, ew, Int.toNat_natCast, Int.toNat_natCast, Int.toNat_natCast, ← ea, ← eb, ← ec, hj]
      · cases h
    · cases h
  · cases h
theorem camJ_words {c : List Int} (h : okC c = true) : ∃ d ws, (rle c).map wordL = d :: ws := by
  have hl := okC_len h
  cases hr : rle c with
  | nil =>
    have := lay_rle c
    rw [hr] at this
    rw [← this] at hl
    simp [lay] at hl
  | cons x r => exact ⟨_, _, rfl⟩
theorem srSh_li {s : Sft} (hr : RngSf s) (G : GoodSf s) : srSh (liL s) = some s := by
  have g1 := G.n
  have g2 := G.d
  have g3 := G.p
  have hc := okC_len G.c
  obtain ⟨a, b, p, k, u⟩ := s
  obtain ⟨a, rfl⟩ := Int.eq_ofNat_of_zero_le (show 0 ≤ a by simp only at g1; omega)
  obtain ⟨b, rfl⟩ := Int.eq_ofNat_of_zero_le (show 0 ≤ b by simp only at g2; omega)
  obtain ⟨p, rfl⟩ := Int.eq_ofNat_of_zero_le (show 0 ≤ p by simp only at g3; omega)
  have gc : okC k = true := G.c
  have rc : Rng k := hr.c
  simp only at g1 g2 g3 hc
  obtain ⟨d, ws, hw⟩ := camJ_words gc
  have hsp : splitC 32 (liL ((a : Int), (b : Int), (p : Int), k, u)) = Lib.decDigits a :: Lib.decDigits b :: Lib.decDigits p :: d :: ws := by
    show splitC 32 (Lib.decDigits a ++ 32 :: (Lib.decDigits b ++ 32 :: (Lib.decDigits p ++ 32 :: camJ k))) = _
    rw [splitC_hit (dec_no' (by decide) a), splitC_hit (dec_no' (by decide) b), splitC_hit (dec_no' (by decide) p), camJ_split gc, hw]
  have hd : (liL ((a : Int), (b : Int), (p : Int), k, u)).drop ((Lib.decDigits a).length + (Lib.decDigits b).length + (Lib.decDigits p).length + 3) = camJ k := by
    show (Lib.decDigits a ++ 32 :: (Lib.decDigits b ++ 32 :: (Lib.decDigits p ++ 32 :: camJ k))).drop _ = _
    have e1 : Lib.decDigits a ++ 32 :: (Lib.decDigits b ++ 32 :: (Lib.decDigits p ++ 32 :: camJ k)) = (Lib.decDigits a ++ 32 :: (Lib.decDigits b ++ 32 :: (Lib.decDigits p ++ [32]))) ++ camJ k := by simp
    rw [e1]
    exact List.drop_left' (by simp; omega)
  unfold srSh
  rw [hsp]
  simp only
  rw [hd, fold_text srW_word rc gc]
  simp only [numR_dec (u := a) (by omega), numR_dec (u := b) (by omega), numR_dec (u := p) (by omega)]
  rw [if_pos ⟨trivial, trivial, trivial, gc, by omega, by omega, by omega⟩]
theorem irSh_li {s : Sft} (hr : RngSf s) (G : GoodSf s) : irSh (liL s) = some s := by
  have g1 := G.n
  have g2 := G.d
  have g3 := G.p
  have hc := okC_len G.c
  obtain ⟨a, b, p, k, u⟩ := s
  obtain ⟨a, rfl⟩ := Int.eq_ofNat_of_zero_le (show 0 ≤ a by simp only at g1; omega)
  obtain ⟨b, rfl⟩ := Int.eq_ofNat_of_zero_le (show 0 ≤ b by simp only at g2; omega)
  obtain ⟨p, rfl⟩ := Int.eq_ofNat_of_zero_le (show 0 ≤ p by simp only at g3; omega)
  have gc : okC k = true := G.c
  have rc : Rng k := hr.c
  simp only at g1 g2 g3 hc
  have hsp : splitN4 (liL ((a : Int), (b : Int), (p : Int), k, u)) = [Lib.decDigits a, Lib.decDigits b, Lib.decDigits p, camJ k] := by
    unfold splitN4
    have hlen : 3 ≤ (liL ((a : Int), (b : Int), (p : Int), k, u)).length := by simp [liL]; omega
    rw [show min 4 ((liL ((a : Int), (b : Int), (p : Int), k, u)).length + 1) - 1 = 2 + 1 by omega]
    show Lib.splitK [32] 0 (2 + 1) (Lib.decDigits a ++ 32 :: (Lib.decDigits b ++ 32 :: (Lib.decDigits p ++ 32 :: camJ k))) = _
    rw [splitK_hit (dec_no' (by decide) a), splitK_hit (dec_no' (by decide) b), splitK_hit (dec_no' (by decide) p)]
    rfl
  unfold irSh
  rw [hsp]
  simp only [rdC_text rc gc, shortI_dec (u := a) (by omega), shortI_dec (u := b) (by omega), shortI_dec (u := p) (by omega)]
  rfl
theorem irSh_rng {l : List UInt8} {s : Sft} (h : irSh l = some s) : RngSf s ∧ s.2.2.2.1.length ≤ 360 := by
  unfold irSh at h
  split at h
  · rename_i a b c r e
    split at h
    · injection h with h
      subst h
      exact ⟨⟨shortI_bd a, shortI_bd b, shortI_bd c, (rdC_good r).rng⟩, (rdC_good r).1⟩
    · cases h
  · cases h
theorem srSh_rng {l : List UInt8} {s : Sft} (h : srSh l = some s) : RngSf s ∧ s.2.2.2.1.length ≤ 360 := by
  obtain ⟨_, h1, h2, h3, h4⟩ := srSh_ok h
  exact ⟨⟨by omega, by omega, by omega, h4.rng⟩, h4.1⟩
theorem liL_no (s : Sft) : (10 : UInt8) ∉ liL s := by
  unfold liL
  intro h
  have hw : ∀ x, (10 : UInt8) ∉ wordL x := fun x h => by
    unfold wordL at h
    split at h
    · rcases List.mem_append.1 h with h | h
      · exact dec_no' (by decide) _ h
      · rcases List.mem_cons.1 h with h | h
        · revert h; decide
        · exact dec_no' (by decide) _ h
    · exact dec_no' (by decide) _ h
  have hj : ∀ (ws : List (List UInt8)), (∀ w ∈ ws, (10 : UInt8) ∉ w) → (10 : UInt8) ∉ Lib.join ws [32] := by
    intro ws
    induction ws with
    | nil => intro _ h; simp [Lib.join] at h
    | cons w ws ih =>
      intro hws h
      cases ws with
      | nil =>
        have e : Lib.join [w] [32] = w := by simp [Lib.join]
        rw [e] at h
        exact hws w (by simp) h
      | cons v vs =>
        rw [join_cons2] at h
        rcases List.mem_append.1 h with h | h
        · exact hws w (by simp) h
        · rcases List.mem_cons.1 h with h | h
          · revert h; decide
          · exact ih (fun x hx => hws x (by simp [hx])) h
  rcases List.mem_append.1 h with h | h
  · exact dec_no' (by decide) _ h
  rcases List.mem_cons.1 h with h | h
  · revert h; decide
  rcases List.mem_append.1 h with h | h
  · exact dec_no' (by decide) _ h
  rcases List.mem_cons.1 h with h | h
  · revert h; decide
  rcases List.mem_append.1 h with h | h
  · exact dec_no' (by decide) _ h
  rcases List.mem_cons.1 h with h | h
  · revert h; decide
  · refine hj _ (fun w hw' => ?_) h
    obtain ⟨x, _, rfl⟩ := List.mem_map.1 hw'
    exact hw x
/-! ### Lines -/
def linesT (ls : List (List UInt8)) : List UInt8 := (ls.map (· ++ [10])).flatten
theorem linesT_join : ∀ ls : List (List UInt8), Lib.join (ls ++ [[]]) [10] = linesT ls
  | [] => by simp [Lib.join, linesT]
  | [w] => by simp [Lib.join, linesT]
  | w :: v :: ls => by
    have ih := linesT_join (v :: ls)
    have e : (w :: v :: ls) ++ [[]] = w :: v :: (ls ++ [[]]) := rfl
    rw [e, join_cons2]
    have e2 : v :: (ls ++ [[]]) = (v :: ls) ++ [[]] := rfl
    rw [e2, ih]
    simp [linesT]
theorem lines_split {ls : List (List UInt8)} (h : ∀ w ∈ ls, (10 : UInt8) ∉ w) : splitC 10 (linesT ls) = ls ++ [[]] := by
  rw [← linesT_join]
  cases ls with
  | nil => simp [Lib.join, splitC]
  | cons w ls =>
    exact splitC_join w (ls ++ [[]]) (h w (by simp)) fun v hv => by
      rcases List.mem_append.1 hv with hv | hv
      · exact h v (by simp [hv])
      · rw [List.mem_singleton.1 hv]; simp
theorem trim_lines {ls : List (List UInt8)} (h0 : ls ≠ []) : Lib.trimSuffix (linesT ls) [10] = Lib.join ls [10] := by
  have e : linesT ls = Lib.join ls [10] ++ [10] := by
    rw [← linesT_join, join_snoc h0]
    simp
  rw [e]
  unfold Lib.trimSuffix Lib.hasSuffix
  rw [if_pos (by simp [List.isSuffixOf_iff_suffix])]
  simp
theorem trim_split {ls : List (List UInt8)} (h0 : ls ≠ []) (h : ∀ w ∈ ls, (10 : UInt8) ∉ w) : splitC 10 (Lib.trimSuffix (linesT ls) [10]) = ls := by
  rw [trim_lines h0]
  cases ls with
  | nil => exact absurd rfl h0
  | cons w ls => exact splitC_join w ls (h w (by simp)) fun v hv => h v (by simp [hv])
theorem shT_lines (L : List Sft) : shT L = linesT (L.map liL) := by
  unfold shT linesT
  rw [List.map_map]
  congr 1
  exact List.map_congr_left fun s _ => shL_eq s
/-- What both answer. -/
def rdS (l : List UInt8) : List Sft × Int :=
  if (splitC 10 l).getLast? = some [] then match mapO srSh (splitC 10 l).dropLast with
    | some L => if okA L = true then (L, 0) else ([], 5)
    | none => ([], 5)
  else ([], 5)
theorem rdS_text {L : List Sft} (hr : ∀ s ∈ L, RngSf s) (h : okA L = true) : rdS (shT L) = (L, 0) := by
  obtain ⟨h1, h2, h3⟩ := okA_el h
  unfold rdS
  rw [shT_lines, lines_split (fun w hw => by obtain ⟨s, _, rfl⟩ := List.mem_map.1 hw; exact liL_no s)]
  rw [if_pos (by simp), List.dropLast_concat, mapO_map fun s hs => srSh_li (hr s hs) (goodSf (hr s hs) (h3 s hs))]
  simp only
  rw [if_pos h]
theorem rdS_back {l : List UInt8} {L : List Sft} (h1 : (splitC 10 l).getLast? = some []) (h2 : mapO srSh (splitC 10 l).dropLast = some L) : shT L = l ∧ ∀ s ∈ L, RngSf s ∧ s.2.2.2.1.length ≤ 360 := by
  have hj := (splitC_spec 10 l).1
  have e : splitC 10 l = (splitC 10 l).dropLast ++ [[]] := by
    rcases List.eq_nil_or_concat (splitC 10 l) with h | ⟨d, y, h⟩
    · rw [h] at h1; cases h1
    · rw [h, List.concat_eq_append] at h1 ⊢
      simp at h1
      rw [h1, List.dropLast_concat]
  have hb := mapO_back (g := liL) (fun x y h => (srSh_ok h).1) h2
  refine ⟨?_, fun s hs => ?_⟩
  · rw [shT_lines, ← hb, ← linesT_join, ← e, hj]
  · obtain ⟨x, _, hx⟩ := (mapO_el h2).2 s hs
    exact srSh_rng hx
theorem rdS_eq (l : List UInt8) : rdS l = match mapO irSh (splitC 10 (Lib.trimSuffix l [10])) with
  | some L => if okA L = true ∧ shT L = l then (L, 0) else ([], 5)
  | none => ([], 5) := by
  have back : ∀ L, mapO irSh (splitC 10 (Lib.trimSuffix l [10])) = some L → okA L = true → shT L = l → rdS l = (L, 0) := fun L hL ho e => by
    rw [← e]
    exact rdS_text (fun s hs => by obtain ⟨x, _, hx⟩ := (mapO_el hL).2 s hs; exact (irSh_rng hx).1) ho
  have forth : ∀ L, (∀ s ∈ L, RngSf s) → okA L = true → shT L = l → mapO irSh (splitC 10 (Lib.trimSuffix l [10])) = some L := fun L hr ho e => by
    obtain ⟨h1, h2, h3⟩ := okA_el ho
    rw [← e, shT_lines, trim_split (fun h => by rw [List.map_eq_nil_iff] at h; subst h; simp at h1) (fun w hw => by obtain ⟨s, _, rfl⟩ := List.mem_map.1 hw; exact liL_no s)]
    exact mapO_map fun s hs => irSh_li (hr s hs) (goodSf (hr s hs) (h3 s hs))
  have hcase : (∃ L, (∀ s ∈ L, RngSf s) ∧ okA L = true ∧ shT L = l ∧ rdS l = (L, 0)) ∨ rdS l = ([], 5) := by
    unfold rdS
    split
    · rename_i h1
      split
      · rename_i L h2
        obtain ⟨e, hr⟩ := rdS_back h1 h2
        split
        · rename_i ho
          exact .inl ⟨L, fun s hs => (hr s hs).1, ho, e, rfl⟩
        · exact .inr rfl
      · exact .inr rfl
    · exact .inr rfl
  rcases hcase with ⟨L, hr, ho, e, h⟩ | h
  · rw [forth L hr ho e, h]
    simp only
    rw [if_pos ⟨ho, e⟩]
  · rw [h]
    cases hi : mapO irSh (splitC 10 (Lib.trimSuffix l [10])) with
    | none => rfl
    | some L =>
      simp only
      by_cases hq : okA L = true ∧ shT L = l
      · rw [back L hi hq.1 hq.2] at h
        injection h with h1 h2
        cases h2
      · rw [if_neg hq]
theorem rdS_good (l : List UInt8) : (rdS l).1.length ≤ 6 ∧ ∀ s ∈ (rdS l).1, s.2.2.2.1.length ≤ 360 := by
  unfold rdS
  split
  · rename_i h1
    split
    · rename_i L h2
      split
      · rename_i ho
        obtain ⟨_, h4, _⟩ := okA_el ho
        exact ⟨by show L.length ≤ 6; omega, fun s hs => ((rdS_back h1 h2).2 s hs).2⟩
      · simp
    · simp
  · simp
end Go.Cams

/- Cuts' texts, and what a list of cuts of one cutter does. In plain terms. -/
namespace Go.Cams
open Go Go.Fw
def liT (v : Ct) : List UInt8 := Lib.decDigits v.1.toNat ++ 32 :: (Lib.decDigits v.2.1.toNat ++ 32 :: Lib.decDigits v.2.2.1.toNat)
def ctT (L : List Ct) : List UInt8 := linesT (L.map liT)
theorem ctT_snoc (L : List Ct) (v : Ct) : ctT (L ++ [v]) = ctT L ++ (liT v ++ [10]) := by simp [ctT, linesT]
theorem liT_no (v : Ct) : (10 : UInt8) ∉ liT v := by
  unfold liT
  intro h
  rcases List.mem_append.1 h with h | h
  · exact dec_no' (by decide) _ h
  rcases List.mem_cons.1 h with h | h
  · revert h; decide
  rcases List.mem_append.1 h with h | h
  · exact dec_no' (by decide) _ h
  rcases List.mem_cons.1 h with h | h
  · revert h; decide
  · exact dec_no' (by decide) _ h
theorem liT_split (v : Ct) : splitC 32 (liT v) = [Lib.decDigits v.1.toNat, Lib.decDigits v.2.1.toNat, Lib.decDigits v.2.2.1.toNat] := by
  unfold liT
  rw [splitC_hit (dec_no' (by decide) _), splitC_hit (dec_no' (by decide) _), splitC_miss (dec_no' (by decide) _)]
theorem liT_len {m : Nat} {L : List Ct} (h : OneK m L) (hm : m ≤ 360) {v : Ct} (hv : v ∈ L) : (liT v).length ≤ 65 := by
  have := h.el v hv
  have z1 := dec_len (u := v.1.toNat) (by omega)
  have z2 := dec_len (u := v.2.1.toNat) (by omega)
  have z3 := dec_len (u := v.2.2.1.toNat) (by omega)
  simp [liT]
  omega
theorem OneK.sub {m : Nat} {L M : List Ct} (h : OneK m L) (hl : M.length ≤ L.length) (hs : ∀ v ∈ M, v ∈ L) : OneK m M := ⟨by have := h.l; omega, fun v hv => h.el v (hs v hv)⟩
theorem ctT_len {m : Nat} (hm : m ≤ 360) : ∀ {L : List Ct}, OneK m L → (ctT L).length ≤ 66 * L.length
  | [], _ => by simp [ctT, linesT]
  | v :: L, h => by
    have ih := ctT_len hm (L := L) (h.sub (by simp) fun u hu => by simp [hu])
    have := liT_len h hm (v := v) (by simp)
    have e : ctT (v :: L) = liT v ++ [10] ++ ctT L := by simp [ctT, linesT]
    rw [e]
    simp
    omega
theorem ctT_split {L : List Ct} (h : L ≠ []) : splitC 10 (Lib.trimSuffix (ctT L) [10]) = L.map liT :=
  trim_split (fun e => h (List.map_eq_nil_iff.1 e)) fun w hw => by obtain ⟨v, _, rfl⟩ := List.mem_map.1 hw; exact liT_no v
theorem ctT_ne {L : List Ct} (h : L ≠ []) : ctT L ≠ [] := by
  cases L with
  | nil => exact absurd rfl h
  | cons v L => intro e; have : (ctT (v :: L)).length = 0 := by rw [e]; rfl
                simp [ctT, linesT] at this
theorem OneK.okCt {m : Nat} {L : List Ct} (h : OneK m L) (hm : m ≤ 360) : okCt L 8 = true := by
  have hr := h.rng hm
  simp only [Go.Cams.okCt, Bool.and_eq_true, decide_eq_true_eq, List.all_eq_true]
  refine ⟨h.l, fun v hv => ?_⟩
  have := h.el v hv
  simp only [ctOk, Bool.and_eq_true, inR_iff]
  rw [hr.i1 hv, hr.i2 hv, hr.i3 hv, wrap_id (by simp) (by simp)]
  omega
/-! ### Sums -/
theorem sum_set : ∀ (l : List Int) (p : Nat) (x : Int), p < l.length → (l.set p x).sum = l.sum - g l p + x
  | [], p, x, h => by simp at h
  | v :: l, 0, x, _ => by simp [g]; omega
  | v :: l, p + 1, x, h => by
    have ih := sum_set l p x (by simpa using h)
    have e : g (v :: l) (p + 1) = g l p := by simp [g]
    rw [e, List.set_cons_succ, List.sum_cons, List.sum_cons, ih]
    omega
theorem cutTo_sum (k : List Int) (s tp : Int) {o : List Int} (h : 0 < o.length) : ∀ i, (cutTo k s tp o i).2 = o.sum - (cutTo k s tp o i).1.sum
  | 0 => by simp [cutTo]
  | i + 1 => by
    have ih := cutTo_sum k s tp h i
    have hl := cutTo_len k s tp o i
    have hlt := place_lt k s h i
    rw [cutTo_succ]
    split
    · simp only
      rw [sum_set _ _ _ (by omega), ih]
      omega
    · exact ih
theorem doF_take (k : List Int) (L : List Ct) (o : List Int) {i : Nat} {v : Ct} (hv : L[i]? = some v) (h0 : v.2.2.1 = 0) : doF [k] (L.take (i + 1)) o = ((cutTo k v.1 v.2.1 (doF [k] (L.take i) o).1 k.length).1, (doF [k] (L.take i) o).2 + (cutTo k v.1 v.2.1 (doF [k] (L.take i) o).1 k.length).2) := by
  rw [List.take_add_one, hv]
  show doF [k] (L.take i ++ [v]) o = _
  rw [doF_snoc]
  unfold cut1
  rw [kOf_one h0]
theorem doF_len {m : Nat} {k o : List Int} (m0 : 0 < m) (ho : o.length = m) {L : List Ct} (h : ∀ v ∈ L, v.2.2.1 = 0) : (doF [k] L o).1.length = m := (doF_el m0 ho 0 m0 L h).1
theorem doF_sum {m : Nat} {k o : List Int} (m0 : 0 < m) (ho : o.length = m) {L : List Ct} (h : ∀ v ∈ L, v.2.2.1 = 0) : ∀ i, i ≤ L.length → (doF [k] (L.take i) o).2 = o.sum - (doF [k] (L.take i) o).1.sum
  | 0, _ => by simp [doF]
  | i + 1, hi => by
    have ih := doF_sum (k := k) m0 ho h i (by omega)
    obtain ⟨v, hv⟩ : ∃ v, L[i]? = some v := ⟨_, List.getElem?_eq_getElem (by omega)⟩
    have hl := doF_len (k := k) m0 ho (L := L.take i) fun u hu => h u (List.mem_of_mem_take hu)
    rw [doF_take k L o hv (h v (List.mem_of_getElem? hv)), cutTo_sum k v.1 v.2.1 (by omega), ih]
    simp only
    omega
/-- Cuts in whatever order make the same. -/
theorem doF_same {m : Nat} {k o : List Int} (m0 : 0 < m) (ho : o.length = m) {L M : List Ct} (h : ∀ v ∈ L, v.2.2.1 = 0) (hs : ∀ v, v ∈ M ↔ v ∈ L) : (doF [k] M o).1 = (doF [k] L o).1 := by
  have h' : ∀ v ∈ M, v.2.2.1 = 0 := fun v hv => h v ((hs v).1 hv)
  refine ext_g (by rw [doF_len m0 ho h, doF_len m0 ho h']) fun p hp => ?_
  rw [doF_len m0 ho h] at hp
  obtain ⟨_, a1, a2, a3⟩ := doF_el (k := k) m0 ho p hp L h
  obtain ⟨_, b1, b2, b3⟩ := doF_el (k := k) m0 ho p hp M h'
  have q1 : g (doF [k] M o).1 p ≤ g (doF [k] L o).1 p := by
    rcases a3 with e | ⟨v, hv, j, hj, hp', e⟩
    · omega
    · have := b2 v ((hs v).2 hv) j hj hp'; omega
  have q2 : g (doF [k] L o).1 p ≤ g (doF [k] M o).1 p := by
    rcases b3 with e | ⟨v, hv, j, hj, hp', e⟩
    · omega
    · have := a2 v ((hs v).1 hv) j hj hp'; omega
  omega
theorem cutTo_idle (k : List Int) (s tp : Int) {o : List Int} : ∀ i, (∀ j, j < i → g o (place k s o.length j) ≤ tp + g k j) → cutTo k s tp o i = (o, 0)
  | 0, _ => rfl
  | i + 1, h => by
    rw [cutTo_succ, cutTo_idle k s tp i fun j hj => h j (by omega), if_neg (by have := h i (by omega); simp only; omega)]
theorem doF_idle {m : Nat} {k o : List Int} (ho : o.length = m) {L : List Ct} (h : ∀ v ∈ L, v.2.2.1 = 0) (hc : ∀ v ∈ L, ∀ j, j < k.length → g o (place k v.1 m j) ≤ v.2.1 + g k j) : ∀ i, i ≤ L.length → doF [k] (L.take i) o = (o, 0)
  | 0, _ => rfl
  | i + 1, hi => by
    have ih := doF_idle ho h hc i (by omega)
    obtain ⟨v, hv⟩ : ∃ v, L[i]? = some v := ⟨_, List.getElem?_eq_getElem (by omega)⟩
    rw [doF_take k L o hv (h v (List.mem_of_getElem? hv)), ih]
    simp only
    rw [cutTo_idle k v.1 v.2.1 k.length fun j hj => by rw [ho]; exact hc v (List.mem_of_getElem? hv) j hj]
    rfl
/-- What is cut already is not cut again. -/
theorem doF_again {m : Nat} {k o : List Int} (m0 : 0 < m) (ho : o.length = m) {L : List Ct} (h : ∀ v ∈ L, v.2.2.1 = 0) : doF [k] L (doF [k] L o).1 = ((doF [k] L o).1, 0) := by
  have hl := doF_len (k := k) m0 ho h
  have := doF_idle (k := k) hl h (fun v hv j hj => by
    have hp := place_lt k v.1 (n := m) m0 j
    exact (doF_el (k := k) m0 ho (place k v.1 m j) hp L h).2.2.1 v hv j hj rfl) L.length (Nat.le_refl _)
  rwa [List.take_length] at this
theorem surf_okC {m : Nat} {o : List Int} (S : Surf m o) (h8 : 8 ≤ m) (hm : m ≤ 360) : okC o = true := by
  have hl := S.len
  simp only [okC, Bool.and_eq_true, inR_iff, List.all_eq_true]
  refine ⟨by omega, fun v hv => ?_⟩
  have := S.el v hv
  simp only [okV, inR_iff]
  rw [wrap_id (by omega) (by omega)]
  exact this
theorem surf_rng {m : Nat} {o : List Int} (S : Surf m o) (hm : m ≤ 360) : Rng o := rng_bd (by have := S.len; omega) S.el
theorem take_sum {l : List Int} {i : Nat} (h : i < l.length) : (l.take (i + 1)).sum = (l.take i).sum + g l i := by
  have e : l[i]? = some (g l i) := by unfold g; rw [List.getD_eq_getElem?_getD, List.getElem?_eq_getElem h]; rfl
  rw [List.take_add_one, e]
  simp
theorem sum_bd : ∀ {l : List Int}, (∀ v ∈ l, 0 ≤ v ∧ v ≤ 10000) → 0 ≤ l.sum ∧ l.sum ≤ 10000 * l.length
  | [], _ => by simp
  | v :: l, h => by
    have ih := sum_bd (l := l) fun u hu => h u (by simp [hu])
    have := h v (by simp)
    rw [List.sum_cons, List.length_cons]
    omega
end Go.Cams

/- Shafts' periods, in plain terms. -/
namespace Go.Cams
open Go Go.Fw
theorem lift_eq2 {s : Sft} (h : Good s) {t : Int} (h0 : 0 ≤ t) (h1 : t ≤ 1000000) : (∃ v, idx s.2.2.2.1 (stp s t) = some v ∧ lift s t = wr .i64 v) ∧ 0 ≤ lift s t ∧ lift s t ≤ 10000 := by
  have hn := h.num
  have hd := h.den
  have hl := h.len
  have hp := h.ph
  have a : 0 * wr .i64 s.1 ≤ t * wr .i64 s.1 := Int.mul_le_mul_of_nonneg_right h0 (by omega)
  have b : t * wr .i64 s.1 ≤ 1000000 * wr .i64 s.1 := Int.mul_le_mul_of_nonneg_right h1 (by omega)
  have e1 : wr .i64 (t * wr .i64 s.1) = t * wr .i64 s.1 := wrap_id (by omega) (by omega)
  have e2 : 0 ≤ Int.tdiv (t * wr .i64 s.1) (wr .i64 s.2.1) := Int.tdiv_nonneg (by omega) (by omega)
  have e3 : Int.tdiv (t * wr .i64 s.1) (wr .i64 s.2.1) ≤ t * wr .i64 s.1 := by
    rw [Int.tdiv_eq_ediv_of_nonneg (by omega)]
    exact Int.ediv_le_self _ (by omega)
  have e4 : stp s t = Int.tmod (wr .i64 s.2.2.1 + Int.tdiv (t * wr .i64 s.1) (wr .i64 s.2.1)) (s.2.2.2.1.length : Int) := by
    unfold stp
    rw [e1, wrap_id (x := Int.tdiv _ _) (by omega) (by omega), wrap_id (by omega) (by omega)]
  have e5 : 0 ≤ stp s t := by rw [e4]; exact Int.tmod_nonneg _ (by omega)
  have e6 : stp s t < (s.2.2.2.1.length : Int) := by rw [e4]; exact Int.tmod_lt_of_pos _ (by omega)
  obtain ⟨v, hv, hv'⟩ := idx_at e5 e6
  have hc := h.cam v (List.mem_of_getElem? hv')
  have : lift s t = wr .i64 v := by unfold lift; rw [hv]
  exact ⟨⟨v, hv, this⟩, by omega, by omega⟩
theorem wr_nat {x : Nat} (h : x ≤ 9000000000000000000) : wr .i64 (x : Int) = (x : Int) := wrap_id (by omega) (by omega)
def nN (s : Sft) : Nat := (wr .i64 s.1).toNat
def nD (s : Sft) : Nat := (wr .i64 s.2.1).toNat
def nL (s : Sft) : Nat := s.2.2.2.1.length
def nP (s : Sft) : Nat := (wr .i64 s.2.2.1).toNat
theorem Good.nn {s : Sft} (h : Good s) : (wr .i64 s.1 = (nN s : Int) ∧ 1 ≤ nN s ∧ nN s ≤ 60) ∧ (wr .i64 s.2.1 = (nD s : Int) ∧ 1 ≤ nD s ∧ nD s ≤ 60) ∧ (8 ≤ nL s ∧ nL s ≤ 360) ∧ (wr .i64 s.2.2.1 = (nP s : Int) ∧ nP s ≤ 360) := by
  have h1 := h.num
  have h2 := h.den
  have h3 := h.len
  have h4 := h.ph
  unfold nN nD nL nP
  omega
theorem stp_nat {s : Sft} (h : Good s) {t : Nat} (ht : t ≤ 1000000) : stp s (t : Int) = (((nP s + t * nN s / nD s) % nL s : Nat) : Int) := by
  obtain ⟨⟨e1, a1, a2⟩, ⟨e2, b1, b2⟩, ⟨c1, c2⟩, e4, d2⟩ := h.nn
  have hm : t * nN s ≤ 1000000 * 60 := Nat.mul_le_mul ht a2
  have hq : t * nN s / nD s ≤ t * nN s := Nat.div_le_self _ _
  have m1 : ((t : Int) * (nN s : Int)) = ((t * nN s : Nat) : Int) := by rw [Int.natCast_mul]
  unfold stp
  rw [e1, e2, e4, m1, wrap_id (x := ((t * nN s : Nat) : Int)) (by omega) (by omega), ← Int.ofNat_tdiv, wr_nat (x := t * nN s / nD s) (Nat.le_trans hq (by omega)), ← Int.natCast_add, wr_nat (x := nP s + t * nN s / nD s) (Nat.le_trans (Nat.add_le_add_left hq _) (by omega))]
  exact (Int.ofNat_tmod _ _).symm
def whole (s : Sft) : Nat := nD s * nL s
def ownN (s : Sft) : Nat := whole s / Nat.gcd (whole s) (nN s)
theorem dl_nat {s : Sft} (h : Good s) : dl s = (whole s : Int) ∧ 8 ≤ whole s ∧ whole s ≤ 21600 := by
  obtain ⟨⟨e1, a1, a2⟩, ⟨e2, b1, b2⟩, ⟨c1, c2⟩, e4, d2⟩ := h.nn
  have h1 : nD s * nL s ≤ 60 * 360 := Nat.mul_le_mul b2 c2
  have h2 : 1 * 8 ≤ nD s * nL s := Nat.mul_le_mul b1 c1
  unfold dl whole
  rw [e2]
  have : (nD s : Int) * (s.2.2.2.1.length : Int) = ((nD s * nL s : Nat) : Int) := by rw [Int.natCast_mul]; rfl
  rw [this, wrap_id (by omega) (by omega)]
  exact ⟨rfl, by omega, by omega⟩
theorem own_nat {s : Sft} (h : Good s) : own s = (ownN s : Int) ∧ 1 ≤ ownN s ∧ ownN s ≤ 21600 := by
  have hb := own_eq h
  obtain ⟨e, w1, w2⟩ := dl_nat h
  have e1 := h.nn.1.1
  have ho : own s = (ownN s : Int) := by
    unfold own ownN gg
    rw [e, e1, Int.toNat_natCast, Int.toNat_natCast, ← Int.ofNat_tdiv]
    have : whole s / (whole s).gcd (nN s) ≤ whole s := Nat.div_le_self _ _
    exact wr_nat (Nat.le_trans this (by omega))
  rw [ho] at hb
  exact ⟨ho, by omega, by omega⟩
theorem mul_dvd {W N k : Nat} (hW : 0 < W) : W ∣ k * N ↔ W / Nat.gcd W N ∣ k := by
  have hg : 0 < Nat.gcd W N := Nat.gcd_pos_of_pos_left _ hW
  have hc : Nat.Coprime (W / Nat.gcd W N) (N / Nat.gcd W N) := Nat.coprime_div_gcd_div_gcd hg
  have ea : W = Nat.gcd W N * (W / Nat.gcd W N) := (Nat.mul_div_cancel' (Nat.gcd_dvd_left W N)).symm
  have eb : N = Nat.gcd W N * (N / Nat.gcd W N) := (Nat.mul_div_cancel' (Nat.gcd_dvd_right W N)).symm
  generalize hgg : Nat.gcd W N = g at *
  generalize W / g = a at *
  generalize N / g = b at *
  subst ea
  subst eb
  constructor
  · intro h
    have h2 : g * a ∣ g * (k * b) := by rw [show g * (k * b) = k * (g * b) by rw [← Nat.mul_assoc, ← Nat.mul_assoc, Nat.mul_comm g k]]; exact h
    exact hc.dvd_of_dvd_mul_right (Nat.dvd_of_mul_dvd_mul_left hg h2)
  · rintro ⟨c, rfl⟩
    exact ⟨c * b, by rw [show a * c * (g * b) = g * a * (c * b) by rw [Nat.mul_comm g a, Nat.mul_assoc, Nat.mul_assoc]; congr 1; rw [← Nat.mul_assoc, Nat.mul_comm c g, Nat.mul_assoc]]⟩
theorem own_dvd {s : Sft} (h : Good s) (k : Nat) : whole s ∣ k * nN s ↔ ownN s ∣ k := mul_dvd (by have := (dl_nat h).2; omega)
theorem stp_per {s : Sft} (h : Good s) {t p : Nat} (hp : ownN s ∣ p) (ht : t + p ≤ 1000000) : stp s ((t + p : Nat) : Int) = stp s (t : Int) := by
  obtain ⟨c, hc⟩ := (own_dvd h p).2 hp
  obtain ⟨_, ⟨_, b1, _⟩, _⟩ := h.nn
  rw [stp_nat h ht, stp_nat h (by omega), Nat.add_mul, hc]
  unfold whole
  rw [Nat.mul_assoc, Nat.add_mul_div_left _ _ (by omega), ← Nat.add_assoc, Nat.add_mul_mod_self_left]
theorem lift_per {s : Sft} (h : Good s) {t p : Nat} (hp : ownN s ∣ p) (ht : t + p ≤ 1000000) : lift s ((t + p : Nat) : Int) = lift s (t : Int) := by
  unfold lift
  rw [stp_per h hp ht]
theorem nxt_nat {t : Nat} {s : Sft} (h : Good s) (h0 : 1 ≤ t) (h1 : t ≤ 20000) : nxt (t : Int) s = ((t / Nat.gcd t (ownN s) * ownN s : Nat) : Int) := by
  obtain ⟨eo, o1, o2⟩ := own_nat h
  have hq : t / Nat.gcd t (ownN s) ≤ t := Nat.div_le_self _ _
  have hm : t / Nat.gcd t (ownN s) * ownN s ≤ 20000 * 21600 := Nat.mul_le_mul (Nat.le_trans hq h1) o2
  unfold nxt gg
  rw [eo, Int.toNat_natCast, Int.toNat_natCast, ← Int.ofNat_tdiv, wr_nat (x := t / Nat.gcd t (ownN s)) (Nat.le_trans hq (by omega)), ← Int.natCast_mul, wr_nat (Nat.le_trans hm (by omega))]
theorem per_dvd : ∀ {l : List Sft} {t : Nat} {p : Int}, (∀ s ∈ l, Good s) → 1 ≤ t → t ≤ 20000 → per l (t : Int) = some p → t ∣ p.toNat ∧ ∀ s ∈ l, ownN s ∣ p.toNat
  | [], t, p, _, h0, h1, h => by
    simp only [per] at h
    injection h with h
    subst h
    exact ⟨by rw [Int.toNat_natCast]; exact Nat.dvd_refl _, fun s hs => by cases hs⟩
  | s :: r, t, p, hG, h0, h1, h => by
    have hs := hG s (by simp)
    simp only [per] at h
    rw [nxt_nat hs h0 h1] at h
    have hpos := nxt_pos hs (t := (t : Int)) (by omega) (by omega)
    rw [nxt_nat hs h0 h1] at hpos
    obtain ⟨_, o1, _⟩ := own_nat hs
    split at h
    · cases h
    · rename_i hn
      obtain ⟨a, b⟩ := per_dvd (fun s hs => hG s (by simp [hs])) (by omega) (by omega) h
      have d1 : t ∣ t / Nat.gcd t (ownN s) * ownN s := by
        have e1 := Nat.div_mul_cancel (Nat.gcd_dvd_left t (ownN s))
        have e2 := Nat.mul_div_cancel' (Nat.gcd_dvd_right t (ownN s))
        refine ⟨ownN s / Nat.gcd t (ownN s), ?_⟩
        generalize Nat.gcd t (ownN s) = g at *
        calc t / g * ownN s = t / g * (g * (ownN s / g)) := by rw [e2]
          _ = t / g * g * (ownN s / g) := by rw [Nat.mul_assoc]
          _ = t * (ownN s / g) := by rw [e1]
      refine ⟨Nat.dvd_trans d1 a, fun u hu => ?_⟩
      rcases List.mem_cons.1 hu with rfl | hu
      · exact Nat.dvd_trans (Nat.dvd_mul_left _ _) a
      · exact b u hu
theorem own_first {s : Sft} (h : Good s) {k : Nat} (k1 : 1 ≤ k) (k2 : k ≤ ownN s) : (Int.tmod (wr .i64 ((k : Int) * wr .i64 s.1)) (wr .i64 ((s.2.2.2.1.length : Int) * wr .i64 s.2.1)) == 0) = ((k : Int) == own s) := by
  obtain ⟨⟨e1, a1, a2⟩, ⟨e2, b1, b2⟩, ⟨c1, c2⟩, e4, d2⟩ := h.nn
  obtain ⟨eo, o1, o2⟩ := own_nat h
  obtain ⟨_, w1, w2⟩ := dl_nat h
  have hm : k * nN s ≤ 21600 * 60 := Nat.mul_le_mul (by omega) a2
  have m1 : (k : Int) * (nN s : Int) = ((k * nN s : Nat) : Int) := by rw [Int.natCast_mul]
  have m2 : (s.2.2.2.1.length : Int) * (nD s : Int) = ((whole s : Nat) : Int) := by unfold whole; rw [Int.natCast_mul, Int.mul_comm]; rfl
  rw [e1, e2, eo, m1, m2, wrap_id (x := ((k * nN s : Nat) : Int)) (by omega) (by omega), wrap_id (x := ((whole s : Nat) : Int)) (by omega) (by omega), ← Int.ofNat_tmod]
  rw [Bool.eq_iff_iff, beq_iff_eq, beq_iff_eq]
  have hd := own_dvd h k
  constructor
  · intro hz
    have : ownN s ∣ k := hd.1 (Nat.dvd_of_mod_eq_zero (by omega))
    have := Nat.le_of_dvd (by omega) this
    omega
  · intro hz
    have : whole s ∣ k * nN s := hd.2 (by rw [show k = ownN s by omega]; exact Nat.dvd_refl _)
    rw [Nat.mod_eq_zero_of_dvd this]; rfl
theorem sumL_per {l : List Sft} (hG : ∀ s ∈ l, Good s) {p : Nat} (hp : ∀ s ∈ l, ownN s ∣ p) {t : Nat} (ht : t ≤ 1000000) : sumL l ((t % p : Nat) : Int) = sumL l (t : Int) := by
  unfold sumL
  congr 1
  refine List.map_congr_left fun s hs => ?_
  have e : t = t % p + p * (t / p) := (Nat.mod_add_div t p).symm
  have := lift_per (hG s hs) (t := t % p) (p := p * (t / p)) (Nat.dvd_trans (hp s hs) (Nat.dvd_mul_right _ _)) (by omega)
  rw [← e] at this
  exact this.symm
/-- A shaft that is drawn. -/
structure DrS (s : Sft) : Prop where
  n : 1 ≤ s.1 ∧ s.1 ≤ 3
  d : 1 ≤ s.2.1 ∧ s.2.1 ≤ 3
  l : 8 ≤ s.2.2.2.1.length ∧ s.2.2.2.1.length ≤ 16
  c : ∀ v ∈ s.2.2.2.1, 0 ≤ v ∧ v ≤ 9
  p : 0 ≤ s.2.2.1 ∧ s.2.2.1 < (s.2.2.2.1.length : Int)
theorem DrS.rng {s : Sft} (h : DrS s) : RngSf s := ⟨by have := h.n; omega, by have := h.d; omega, by have := h.p; have := h.l; omega, rng_bd (by have := h.l; omega) fun v hv => by have := h.c v hv; omega⟩
theorem DrS.ok {s : Sft} (h : DrS s) : okS s = true := by
  have h1 := h.n
  have h2 := h.d
  have h3 := h.l
  have h4 := h.p
  simp only [okS, okC, Bool.and_eq_true, inR_iff, List.all_eq_true]
  rw [wrap_id (x := s.1) (by omega) (by omega), wrap_id (x := s.2.1) (by omega) (by omega), wrap_id (x := s.2.2.1) (by omega) (by omega), wrap_id (by omega) (by omega)]
  refine ⟨⟨⟨by omega, by omega⟩, ⟨by omega, fun v hv => ?_⟩⟩, by omega⟩
  have := h.c v hv
  simp only [okV, inR_iff]
  rw [wrap_id (by omega) (by omega)]
  omega
theorem drA {l : List Sft} (h0 : 1 ≤ l.length ∧ l.length ≤ 3) (h : ∀ s ∈ l, DrS s) : okA l = true := by
  simp only [okA, Bool.and_eq_true, inR_iff, List.all_eq_true]
  exact ⟨by omega, fun s hs => (h s hs).ok⟩
theorem drL_len {s : Sft} (h : DrS s) : (shL s).length ≤ 1000 := by
  have hl := h.l
  have g1 := h.n
  have g2 := h.d
  have g3 := h.p
  have h1 := rle_len s.2.2.2.1
  have hj := join_len [32] ((rle s.2.2.2.1).map wordL) (m := 43) (fun w hw => by
    obtain ⟨x, hx, rfl⟩ := List.mem_map.1 hw
    have := rle_el s.2.2.2.1 x hx
    have := h.c _ this.1
    exact wordL_len (by omega) (by omega))
  have z1 := dec_len (u := s.1.toNat) (by omega)
  have z2 := dec_len (u := s.2.1.toNat) (by omega)
  have z3 := dec_len (u := s.2.2.1.toNat) (by omega)
  have hc : (camJ s.2.2.2.1).length ≤ 800 := by
    simp only [List.length_map, List.length_cons, List.length_nil] at hj
    unfold camJ
    omega
  simp [shL]
  omega
theorem drT_len : ∀ {l : List Sft}, (∀ s ∈ l, DrS s) → (shT l).length ≤ 1000 * l.length
  | [], _ => by simp [shT]
  | s :: l, h => by
    have h1 := drL_len (h s (by simp))
    have h2 := drT_len (l := l) fun x hx => h x (by simp [hx])
    have e : shT (s :: l) = shL s ++ shT l := by simp [shT]
    rw [e, List.length_append, List.length_cons]
    omega
end Go.Cams

/- Cams turned and mirrored, in plain terms. -/
namespace Go.Cams
open Go Go.Fw
def trn (c : List Int) (b : Int) : List Int := turnL c (b % c.length).toNat
theorem trn_len (c : List Int) (b : Int) : (trn c b).length = c.length := turnL_len _ _
theorem trn_at {c : List Int} (h : 0 < c.length) (b x : Int) : cAt (trn c b) x = cAt c (x + b) := by
  have b0 := Int.emod_nonneg b (show (c.length : Int) ≠ 0 by omega)
  have b1 := Int.emod_lt_of_pos b (show 0 < (c.length : Int) by omega)
  have x0 := Int.emod_nonneg x (show (c.length : Int) ≠ 0 by omega)
  have x1 := Int.emod_lt_of_pos x (show 0 < (c.length : Int) by omega)
  have hadd := Int.add_emod x b (c.length : Int)
  obtain ⟨m, hm⟩ := Int.eq_ofNat_of_zero_le b0
  obtain ⟨i, hi⟩ := Int.eq_ofNat_of_zero_le x0
  have hg := turnL_get (l := c) (m := m) (i := i) (by omega) (by omega)
  unfold cAt
  rw [trn_len, hadd, hi, hm, ← Int.natCast_add, ← Int.natCast_emod, Int.toNat_natCast, Int.toNat_natCast]
  unfold trn
  rw [hm, Int.toNat_natCast]
  unfold g
  rw [List.getD_eq_getElem?_getD, List.getD_eq_getElem?_getD, hg]
theorem trn_mem {c : List Int} {b v : Int} (h : v ∈ trn c b) : v ∈ c := by
  unfold trn turnL at h
  rcases List.mem_append.1 h with h | h
  · exact List.mem_of_mem_drop h
  · exact List.mem_of_mem_take h
theorem SmD.trn {c : List Int} (S : SmD c) (b : Int) : SmD (trn c b) := ⟨by rw [trn_len]; exact S.len, fun v hv => S.el v (trn_mem hv)⟩
def Per (c : List Int) (k : Int) : Prop := ∀ x, cAt c (x + k) = cAt c x
theorem trn_self {c : List Int} (h : 0 < c.length) {k : Int} : trn c k = c ↔ Per c k := by
  constructor
  · intro e x
    rw [← trn_at h, e]
  · intro hp
    exact cAt_ext (trn_len c k) fun i _ => by rw [trn_at h]; exact hp _
theorem trn_two {c : List Int} (h : 0 < c.length) {a b : Int} (e : trn c a = trn c b) : Per c (a - b) := fun x => by
  have h1 := trn_at h a (x - b)
  have h2 := trn_at h b (x - b)
  rw [e] at h1
  rw [show x + (a - b) = x - b + a by omega, ← h1, h2]
  congr 1
  omega
theorem trn_back {c : List Int} (h : 0 < c.length) (b : Int) : trn (trn c b) (-b) = c := by
  have h' : 0 < (trn c b).length := by rw [trn_len]; exact h
  refine cAt_ext (by rw [trn_len, trn_len]) fun i _ => ?_
  rw [trn_at h', trn_at h]
  congr 1
  omega
theorem trn_mod {c : List Int} (h : 0 < c.length) (b : Int) : trn c (b % c.length) = trn c b := by
  unfold trn
  rw [Int.emod_emod_of_dvd b (Int.dvd_refl _)]
theorem per_len (c : List Int) : Per c c.length := fun x => cAt_add c x
theorem Per.neg {c : List Int} {k : Int} (h : Per c k) : Per c (-k) := fun x => by
  have := h (x + -k)
  rw [← this]
  congr 1
  omega
theorem Per.nat {c : List Int} {k : Int} (h : Per c k) : ∀ q : Nat, Per c (k * (q : Int))
  | 0 => fun x => by simp
  | q + 1 => fun x => by
    rw [show k * ((q + 1 : Nat) : Int) = k * (q : Int) + k by rw [Int.natCast_add, Int.mul_add]; simp, ← Int.add_assoc, h]
    exact Per.nat h q x
theorem Per.mul {c : List Int} {k : Int} (h : Per c k) (q : Int) : Per c (k * q) := by
  rcases Int.eq_nat_or_neg q with ⟨n, rfl | rfl⟩
  · exact h.nat n
  · rw [Int.mul_neg]
    exact (h.nat n).neg
theorem per_least {c : List Int} {p k : Int} (h1 : 1 ≤ p) (hp : Per c p) (hm : ∀ r, 1 ≤ r → r < p → ¬ Per c r) (hk : Per c k) : k % p = 0 := by
  have r0 := Int.emod_nonneg k (show p ≠ 0 by omega)
  have r1 := Int.emod_lt_of_pos k (show 0 < p by omega)
  by_cases e : k % p = 0
  · exact e
  · refine absurd (fun x => ?_) (hm (k % p) (by omega) r1)
    have hd := Int.emod_add_mul_ediv k p
    have := hp.mul (k / p) (x + k % p)
    rw [← this, show x + k % p + p * (k / p) = x + k by omega]
    exact hk x
theorem least_of {P : Int → Prop} : ∀ (d : Nat) {f k : Int}, (k - f).toNat = d → f ≤ k → P k → ∃ r, f ≤ r ∧ r ≤ k ∧ P r ∧ ∀ j, f ≤ j → j < r → ¬ P j
  | 0, f, k, hd, hf, hk => ⟨k, hf, Int.le_refl _, hk, fun j h1 h2 => by omega⟩
  | d + 1, f, k, hd, hf, hk => by
    by_cases hP : P f
    · exact ⟨f, Int.le_refl _, hf, hP, fun j h1 h2 => by omega⟩
    · obtain ⟨r, h1, h2, h3, h4⟩ := least_of d (f := f + 1) (k := k) (by omega) (by omega) hk
      exact ⟨r, by omega, h2, h3, fun j hj hr => by
        by_cases e : j = f
        · rw [e]; exact hP
        · exact h4 j (by omega) hr⟩
/-! ### Mirrors -/
def mir (c : List Int) : List Int := tb c.length fun i => cAt c (-(i : Nat) : Int)
theorem mir_len (c : List Int) : (mir c).length = c.length := tb_len _ _
theorem mir_at {c : List Int} {i : Nat} (h : i < c.length) : cAt (mir c) (i : Nat) = cAt c (-(i : Nat) : Int) := cAt_tb h
theorem mir_atx {c : List Int} (h : 0 < c.length) (x : Int) : cAt (mir c) x = cAt c (-x) := by
  have x0 := Int.emod_nonneg x (show (c.length : Int) ≠ 0 by omega)
  have x1 := Int.emod_lt_of_pos x (show 0 < (c.length : Int) by omega)
  have hd := Int.emod_add_mul_ediv x (c.length : Int)
  obtain ⟨i, hi⟩ := Int.eq_ofNat_of_zero_le x0
  have e := cAt_mod (mir c) x
  rw [mir_len, hi] at e
  rw [← e, mir_at (by omega)]
  have := cAt_mul c (-(i : Int)) (-(x / (c.length : Int)))
  rw [← this]
  congr 1
  rw [Int.mul_neg]
  omega
theorem mir_mir {c : List Int} (h : 0 < c.length) : mir (mir c) = c := by
  refine cAt_ext (by rw [mir_len, mir_len]) fun i hi => ?_
  rw [mir_atx (by rw [mir_len]; exact h), mir_atx h, Int.neg_neg]
theorem mir_mem {c : List Int} (h : 0 < c.length) {v : Int} (hv : v ∈ mir c) : v ∈ c := by
  unfold mir tb at hv
  obtain ⟨i, _, rfl⟩ := List.mem_map.1 hv
  exact cAt_mem h _
theorem SmD.mir {c : List Int} (S : SmD c) : SmD (mir c) := ⟨by rw [mir_len]; exact S.len, fun v hv => S.el v (mir_mem (by have := S.len; omega) hv)⟩
/-! ### Which of two turns comes first -/
def LexP (a b : Int → Int) (n : Nat) : Prop := ∃ i : Nat, i < n ∧ (∀ j : Nat, j < i → a j = b j) ∧ a i < b i
noncomputable instance lexD (a b : Int → Int) (n : Nat) : Decidable (LexP a b n) := Classical.propDecidable _
noncomputable def lexB (a b : Int → Int) (n : Nat) : Bool := decide (LexP a b n)
theorem lexB_at {a b : Int → Int} {n i : Nat} (hi : i < n) (he : ∀ j : Nat, j < i → a j = b j) (hd : a i ≠ b i) : lexB a b n = decide (a i < b i) := by
  have key : LexP a b n ↔ a i < b i := by
    constructor
    · rintro ⟨k, hk, hj, hl⟩
      rcases Nat.lt_trichotomy k i with h | h | h
      · have := he k h; omega
      · subst h; exact hl
      · exact absurd (hj i h) hd
    · exact fun h => ⟨i, hi, he, h⟩
  unfold lexB
  by_cases h : a i < b i
  · rw [decide_eq_true h]
    exact decide_eq_true (key.2 h)
  · rw [decide_eq_false h]
    exact decide_eq_false fun hh => h (key.1 hh)
theorem lexB_no {a b : Int → Int} {n : Nat} (he : ∀ j : Nat, j < n → a j = b j) : lexB a b n = false := by
  unfold lexB
  exact decide_eq_false fun ⟨k, hk, _, hl⟩ => by have := he k hk; omega
noncomputable def ltTo (c : List Int) : Nat → Int
  | 0 => 0
  | k + 1 => if lexB (fun i => cAt c (i + (k : Int))) (fun i => cAt c (i + ltTo c k)) c.length = true then (k : Int) else ltTo c k
theorem ltTo_succ (c : List Int) (k : Nat) : ltTo c (k + 1) = if lexB (fun i => cAt c (i + (k : Int))) (fun i => cAt c (i + ltTo c k)) c.length = true then (k : Int) else ltTo c k := rfl
theorem ltTo_one (c : List Int) : ltTo c 1 = 0 := by
  rw [ltTo_succ]
  split <;> rfl
theorem ltTo_bd (c : List Int) : ∀ k : Nat, 0 ≤ ltTo c k ∧ ltTo c k ≤ k
  | 0 => ⟨Int.le_refl _, Int.le_refl _⟩
  | k + 1 => by
    have := ltTo_bd c k
    rw [ltTo_succ]
    split <;> omega
/-! ### Sums -/
theorem sum_tele (G : Nat → Int) : ∀ n : Nat, ((List.range n).map fun i => G (i + 1) - G i).sum = G n - G 0
  | 0 => by simp
  | n + 1 => by
    rw [List.range_succ, List.map_append, List.sum_append, sum_tele G n]
    simp
    omega
theorem chg_sum {c : List Int} (_ : 0 < c.length) : (chgL c).sum = 0 := by
  have := sum_tele (fun i => cAt c (i : Nat)) c.length
  have e : chgL c = (List.range c.length).map fun i => cAt c ((i + 1 : Nat) : Int) - cAt c (i : Nat) := rfl
  rw [e, this]
  have := cAt_add c 0
  rw [Int.zero_add] at this
  rw [this]
  show cAt c 0 - cAt c 0 = 0
  omega
theorem bend_sum {c : List Int} (_ : 0 < c.length) : (bends c).sum = 0 := by
  have := sum_tele (fun i => cAt c (i : Nat) - cAt c ((i : Int) - 1)) c.length
  have e : bends c = (List.range c.length).map fun i => (cAt c ((i + 1 : Nat) : Int) - cAt c (((i + 1 : Nat) : Int) - 1)) - (cAt c (i : Nat) - cAt c ((i : Int) - 1)) := by
    unfold bends tb
    refine List.map_congr_left fun i _ => ?_
    unfold bendP
    rw [show ((i + 1 : Nat) : Int) - 1 = (i : Int) by omega, show ((i + 1 : Nat) : Int) = (i : Int) + 1 by omega]
    omega
  rw [e, this]
  have h1 := cAt_add c 0
  have h2 := cAt_add c (-1)
  rw [Int.zero_add] at h1
  rw [show (-1 : Int) + (c.length : Int) = (c.length : Int) - 1 by omega] at h2
  rw [h1, h2]
  show cAt c 0 - cAt c (-1) - (cAt c 0 - cAt c (0 - 1)) = 0
  rw [show (0 : Int) - 1 = -1 by rfl]
  omega
theorem sum_le {B : Int} (hB : 0 ≤ B) : ∀ {l : List Int}, (∀ v ∈ l, -B ≤ v ∧ v ≤ B) → -(B * l.length) ≤ l.sum ∧ l.sum ≤ B * l.length
  | [], _ => by simp
  | v :: l, h => by
    have ih := sum_le hB (l := l) fun u hu => h u (by simp [hu])
    have := h v (by simp)
    rw [List.sum_cons, List.length_cons, Int.natCast_add, Int.mul_add]
    simp only [Int.natCast_one, Int.mul_one]
    omega
/-! ### The greatest's place -/
theorem gr_at : ∀ (n : Nat) (l : List Int), l.length = n + 1 → (0 ≤ (gr l).1 ∧ (gr l).1 < (l.length : Int)) ∧ ∃ v, l[(gr l).1.toNat]? = some v ∧ siz v = (gr l).2.1 := by
  intro n
  induction n with
  | zero =>
    intro l hl
    obtain ⟨v, rfl⟩ := List.length_eq_one_iff.1 hl
    have := siz_nn v
    have e : gr [v] = (0, siz v, 1) := by
      show grS (0, -1, 0) v = _
      unfold grS
      rw [if_pos (by simp only; omega)]
      rfl
    rw [e]
    exact ⟨⟨by simp, by simp⟩, v, rfl, rfl⟩
  | succ n ih =>
    intro l hl
    rcases List.eq_nil_or_concat l with h | ⟨r, v, h⟩
    · rw [h] at hl; simp at hl
    · rw [List.concat_eq_append] at h
      subst h
      have hr : r.length = n + 1 := by simp at hl; omega
      obtain ⟨⟨h0, h1⟩, u, hu, hs⟩ := ih r hr
      have hn : (gr r).2.2 = (r.length : Int) := by have := gr_n r (0, -1, 0); unfold gr; rw [this]; simp
      rw [gr_snoc]
      unfold grS
      split
      · simp only
        rw [hn]
        refine ⟨⟨by omega, by simp; omega⟩, v, ?_, rfl⟩
        rw [Int.toNat_natCast]
        simp
      · simp only
        refine ⟨⟨h0, by simp; omega⟩, u, ?_, hs⟩
        rw [List.getElem?_append_left (by omega)]
        exact hu
end Go.Cams

/- Plates' texts in base 16, in plain terms. -/
namespace Go.Cams
open Go Go.Fw
def hxN : Nat → Nat → List UInt8
  | 0, _ => []
  | n + 1, u => hxN n (u / 16) ++ [Fw.hd (u % 16)]
theorem hxN_len : ∀ n u, (hxN n u).length = n
  | 0, _ => rfl
  | n + 1, u => by simp [hxN, hxN_len n]
theorem hxN_zero : ∀ n, hxN n 0 = List.replicate n 48
  | 0 => rfl
  | n + 1 => by
    have e : Fw.hd (0 % 16) = 48 := by decide
    rw [hxN, Nat.zero_div, hxN_zero n, e, List.replicate_succ']
theorem hex_pad : ∀ (n u : Nat), u < 16 ^ (n + 1) → (hexD u).length ≤ n + 1 ∧ List.replicate (n + 1 - (hexD u).length) 48 ++ hexD u = hxN (n + 1) u
  | 0, u, h => by
    have h : u < 16 := by simpa using h
    rw [hexD_lt h]
    refine ⟨by simp, ?_⟩
    simp [hxN, Nat.mod_eq_of_lt h]
  | n + 1, u, h => by
    by_cases hu : u < 16
    · rw [hexD_lt hu]
      refine ⟨by simp, ?_⟩
      rw [hxN, Nat.div_eq_of_lt hu, hxN_zero, Nat.mod_eq_of_lt hu]
      simp
    · have hd : u / 16 < 16 ^ (n + 1) := Nat.div_lt_of_lt_mul (by rw [Nat.mul_comm, ← Nat.pow_succ]; exact h)
      obtain ⟨h1, h2⟩ := hex_pad n (u / 16) hd
      rw [hexD_ge (by omega)]
      refine ⟨by simp; omega, ?_⟩
      rw [hxN, ← h2, List.length_append, List.length_singleton, show n + 1 + 1 - ((hexD (u / 16)).length + 1) = n + 1 - (hexD (u / 16)).length by omega, List.append_assoc]
theorem hex16 {u : Nat} (h : u < 18446744073709551616) : (hexD u).length ≤ 16 ∧ List.replicate (16 - (hexD u).length) 48 ++ hexD u = hxN 16 u := hex_pad 15 u (by simpa using h)
theorem hxN_step (u : Nat) {j : Nat} (hj : j < 16) : hxN (j + 1) (u / 16 ^ (15 - j)) = hxN j (u / 16 ^ (16 - j)) ++ [Fw.hd (u / 16 ^ (15 - j) % 16)] := by
  rw [hxN, Nat.div_div_eq_div_mul, ← Nat.pow_succ, show (15 - j).succ = 16 - j by omega]
def plL (v : Int) : List UInt8 := hxN 16 v.toNat ++ [10]
def plT (p : List Int) : List UInt8 := (p.map plL).flatten
theorem plT_snoc (p : List Int) (v : Int) : plT (p ++ [v]) = plT p ++ (hxN 16 v.toNat ++ [10]) := by simp [plT, plL]
theorem plT_len (p : List Int) : (plT p).length = 17 * p.length := by
  induction p with
  | nil => rfl
  | cons v p ih =>
    have e : plT (v :: p) = plL v ++ plT p := by simp [plT]
    rw [e, List.length_append, ih, plL, List.length_append, hxN_len, List.length_cons]
    simp; omega
def numsL (l : List UInt8) : List Int := l.map fun b => (b.toNat : Int)
theorem strOf_nums (l : List UInt8) : strOf (numsL l) = tx l := by
  have key : ∀ (l : List UInt8) (r : ByteArray), (numsL l).foldl (fun (r : ByteArray) (n : Int) => r.push (UInt8.ofNat n.toNat)) r = ⟨(r.data.toList ++ l).toArray⟩ := by
    intro l
    induction l with
    | nil => intro r; simp [numsL]
    | cons b l ih =>
      intro r
      show (numsL l).foldl _ (r.push (UInt8.ofNat ((b.toNat : Int)).toNat)) = _
      rw [ih, Int.toNat_natCast, UInt8.ofNat_toNat]
      simp [ByteArray.push]
  have := key l ByteArray.empty
  unfold strOf
  rw [this]
  simp [tx]
theorem dig16_at : ∀ i, i < 16 → ([48, 49, 50, 51, 52, 53, 54, 55, 56, 57, 97, 98, 99, 100, 101, 102] : List UInt8)[i]? = some (Fw.hd i) := by decide
theorem and_15 {a : Nat} (h : a < 18446744073709551616) : bitsI .and .u64 (a : Int) (15 : Int) = ((a % 16 : Nat) : Int) := by
  rw [show (15 : Int) = ((15 : Nat) : Int) from rfl, and_nat h (by omega), show (15 : Nat) = 2 ^ 4 - 1 from rfl, Nat.and_two_pow_sub_one_eq_mod]
end Go.Cams

/- Plates read from their texts in base 16, in plain terms. -/
namespace Go.Cams
open Go Go.Fw
theorem hexVal_hd : ∀ k, k < 16 → hexVal (Fw.hd k) = some k := by decide
theorem hexVal_bd {c : UInt8} {d : Nat} (h : hexVal c = some d) : d < 16 := by
  unfold hexVal at h
  split at h
  · injection h with h; omega
  · split at h
    · injection h with h; omega
    · split at h
      · injection h with h; omega
      · cases h
theorem pu16_cons (c : UInt8) (r : List UInt8) (n : Nat) : pu16 (c :: r) n = match hexVal c with
    | none => (0, 2)
    | some d => if 1152921504606846976 ≤ n then (18446744073709551615, 1) else pu16 r (n * 16 + d) := by rw [pu16]; rfl
theorem pu16_app : ∀ (l r : List UInt8) (n m : Nat), pu16 l n = (m, 0) → pu16 (l ++ r) n = pu16 r m
  | [], r, n, m, h => by
    injection h with h
    subst h
    rfl
  | c :: l, r, n, m, h => by
    show pu16 (c :: (l ++ r)) n = _
    rw [pu16_cons] at h ⊢
    cases hv : hexVal c with
    | none => rw [hv] at h; cases h
    | some d =>
      rw [hv] at h
      simp only at h ⊢
      split at h
      · cases h
      · rename_i h1
        rw [if_neg h1]
        exact pu16_app l r _ m h
theorem pu16_bd : ∀ (l : List UInt8) (n : Nat), n < 18446744073709551616 → (pu16 l n).1 < 18446744073709551616
  | [], n, h => h
  | c :: l, n, h => by
    unfold pu16
    cases hv : hexVal c with
    | none => exact Nat.zero_lt_succ _
    | some d =>
      have hd := hexVal_bd hv
      simp only
      split
      · show 18446744073709551615 < 18446744073709551616
        omega
      · exact pu16_bd l _ (by omega)
theorem pu16_hx : ∀ (n : Nat), n ≤ 16 → ∀ u, u < 16 ^ n → pu16 (hxN n u) 0 = (u, 0)
  | 0, _, u, h => by
    have h : u = 0 := by simpa using h
    subst h
    rfl
  | n + 1, hn, u, h => by
    have hd : u / 16 < 16 ^ n := Nat.div_lt_of_lt_mul (by rw [Nat.mul_comm, ← Nat.pow_succ]; exact h)
    have hp : 16 ^ n ≤ 16 ^ 15 := Nat.pow_le_pow_right (by omega) (by omega)
    have hp2 : (16 : Nat) ^ 15 = 1152921504606846976 := by decide
    have ih := pu16_hx n (by omega) (u / 16) hd
    rw [hxN, pu16_app _ _ _ _ ih]
    unfold pu16
    rw [hexVal_hd _ (Nat.mod_lt _ (by omega))]
    simp only
    rw [if_neg (by omega)]
    show (u / 16 * 16 + u % 16, 0) = _
    rw [show u / 16 * 16 + u % 16 = u by omega]
/-- What impl.unhex answers. -/
def uhx (l : List UInt8) : Int := if (puT l).2 = 0 then ((puT l).1 : Int) else 0
theorem puT_bd (l : List UInt8) : (puT l).1 < 18446744073709551616 := by
  unfold puT
  split
  · exact Nat.zero_lt_succ _
  · exact pu16_bd l 0 (by omega)
theorem uhx_bd (l : List UInt8) : 0 ≤ uhx l ∧ uhx l < 18446744073709551616 := by
  have h := puT_bd l
  unfold uhx
  split <;> omega
theorem hxN_ne {n u : Nat} (h : 0 < n) : hxN n u ≠ [] := fun e => by have := hxN_len n u; rw [e] at this; simp at this; omega
theorem uhx_hx {u : Nat} (h : u < 18446744073709551616) : uhx (hxN 16 u) = u := by
  unfold uhx puT
  rw [if_neg (hxN_ne (by omega)), pu16_hx 16 (by omega) u (by simpa using h), if_pos rfl]
/-- spec.l05Hex: the number of digits of base 16, small letters only. -/
def hxS : List UInt8 → Nat → Option Nat
  | [], a => some a
  | c :: r, a => if 48 ≤ c.toNat ∧ c.toNat ≤ 57 then hxS r (a * 16 % 18446744073709551616 + (c.toNat - 48)) else if 97 ≤ c.toNat ∧ c.toNat ≤ 102 then hxS r (a * 16 % 18446744073709551616 + (c.toNat - 87)) else none
theorem hxS_app : ∀ (l r : List UInt8) (a : Nat), hxS (l ++ r) a = (hxS l a).bind (hxS r)
  | [], r, a => rfl
  | c :: l, r, a => by
    show hxS (c :: (l ++ r)) a = _
    unfold hxS
    split
    · exact hxS_app l r _
    · split
      · exact hxS_app l r _
      · rfl
theorem hxS_hd : ∀ k, k < 16 → ∀ a, hxS [Fw.hd k] a = some (a * 16 % 18446744073709551616 + k) := by
  intro k hk a
  have key : ∀ k, k < 16 → if 48 ≤ (Fw.hd k).toNat ∧ (Fw.hd k).toNat ≤ 57 then (Fw.hd k).toNat - 48 = k else (97 ≤ (Fw.hd k).toNat ∧ (Fw.hd k).toNat ≤ 102) ∧ (Fw.hd k).toNat - 87 = k := by decide
  have hk := key k hk
  unfold hxS
  split
  · rename_i h1
    rw [if_pos h1] at hk
    rw [hk]
    rfl
  · rename_i h1
    rw [if_neg h1] at hk
    rw [if_pos hk.1, hk.2]
    rfl
theorem hxS_hx : ∀ (n : Nat), n ≤ 16 → ∀ u, u < 16 ^ n → hxS (hxN n u) 0 = some u
  | 0, _, u, h => by
    have h : u = 0 := by simpa using h
    subst h
    rfl
  | n + 1, hn, u, h => by
    have hd : u / 16 < 16 ^ n := Nat.div_lt_of_lt_mul (by rw [Nat.mul_comm, ← Nat.pow_succ]; exact h)
    have hp : 16 ^ n ≤ 16 ^ 15 := Nat.pow_le_pow_right (by omega) (by omega)
    have hp2 : (16 : Nat) ^ 15 = 1152921504606846976 := by decide
    rw [hxN, hxS_app, hxS_hx n (by omega) (u / 16) hd, Option.bind_some, hxS_hd _ (Nat.mod_lt _ (by omega))]
    congr 1
    omega
theorem hd_val : ∀ b, b < 256 → (48 ≤ b ∧ b ≤ 57 → Fw.hd (b - 48) = UInt8.ofNat b) ∧ (97 ≤ b ∧ b ≤ 102 → Fw.hd (b - 87) = UInt8.ofNat b) := by decide +kernel
theorem hxS_one {c : UInt8} {a u : Nat} (h : hxS [c] a = some u) : ∃ d, d < 16 ∧ c = Fw.hd d ∧ u = a * 16 % 18446744073709551616 + d := by
  have hc := hd_val c.toNat c.toNat_lt
  rw [UInt8.ofNat_toNat] at hc
  unfold hxS at h
  split at h
  · rename_i h1
    injection h with h
    exact ⟨c.toNat - 48, by omega, (hc.1 h1).symm, h.symm⟩
  · split at h
    · rename_i h1
      injection h with h
      exact ⟨c.toNat - 87, by omega, (hc.2 h1).symm, h.symm⟩
    · cases h
theorem hxS_back : ∀ (n : Nat), n ≤ 16 → ∀ (l : List UInt8) (u : Nat), l.length = n → hxS l 0 = some u → l = hxN n u ∧ u < 16 ^ n
  | 0, _, l, u, hl, h => by
    have e := List.length_eq_zero_iff.1 hl
    subst e
    injection h with h
    subst h
    exact ⟨rfl, by simp⟩
  | n + 1, hn, l, u, hl, h => by
    have hne : l ≠ [] := fun e => by rw [e] at hl; simp at hl
    have el := List.dropLast_concat_getLast hne
    generalize l.getLast hne = c at el
    rw [← el, hxS_app] at h
    cases hv : hxS l.dropLast 0 with
    | none => rw [hv] at h; cases h
    | some m =>
      rw [hv, Option.bind_some] at h
      obtain ⟨e1, e2⟩ := hxS_back n (by omega) l.dropLast m (by simp [hl]) hv
      obtain ⟨d, hd, hc, hu⟩ := hxS_one h
      have hp : 16 ^ n ≤ 16 ^ 15 := Nat.pow_le_pow_right (by omega) (by omega)
      have hp2 : (16 : Nat) ^ 15 = 1152921504606846976 := by decide
      have hu : u = m * 16 + d := by omega
      have h1 : u / 16 = m := by omega
      have h2 : u % 16 = d := by omega
      refine ⟨?_, ?_⟩
      · rw [hxN, h1, h2, ← e1, ← hc, el]
      · rw [Nat.pow_succ]; omega
/-- A line of a plate. -/
def hxO (w : List UInt8) : Option Int := if w.length = 16 then (hxS w 0).map fun u => (u : Int) else none
theorem hxO_hx {u : Nat} (h : u < 18446744073709551616) : hxO (hxN 16 u) = some (u : Int) := by
  unfold hxO
  rw [if_pos (hxN_len _ _), hxS_hx 16 (by omega) u (by simpa using h)]
  rfl
theorem hxO_ok {w : List UInt8} {v : Int} (h : hxO w = some v) : w = hxN 16 v.toNat ∧ 0 ≤ v ∧ v < 18446744073709551616 := by
  unfold hxO at h
  split at h
  · rename_i hl
    cases hs : hxS w 0 with
    | none => rw [hs] at h; cases h
    | some u =>
      rw [hs] at h
      injection h with h
      have h : (u : Int) = v := h
      subst h
      obtain ⟨e1, e2⟩ := hxS_back 16 (by omega) w u hl hs
      refine ⟨e1, by omega, ?_⟩
      have e2 : u < 18446744073709551616 := by simpa using e2
      omega
  · cases h
theorem hd_ne10 : ∀ k, k < 16 → Fw.hd k ≠ 10 := by decide
theorem hxN_no : ∀ n u, (10 : UInt8) ∉ hxN n u
  | 0, _ => by simp [hxN]
  | n + 1, u => by
    rw [hxN]
    intro h
    rcases List.mem_append.1 h with h | h
    · exact hxN_no n _ h
    · exact hd_ne10 _ (Nat.mod_lt _ (by omega)) (List.mem_singleton.1 h).symm
theorem plT_lines (p : List Int) : plT p = linesT (p.map fun v => hxN 16 v.toNat) := by
  unfold plT linesT
  rw [List.map_map]
  rfl
theorem plT_split (p : List Int) : splitC 10 (plT p) = p.map (fun v => hxN 16 v.toNat) ++ [[]] := by
  rw [plT_lines, lines_split fun w hw => by
    obtain ⟨v, _, rfl⟩ := List.mem_map.1 hw
    exact hxN_no _ _]
/-- What the reference reads. -/
def rdP (l : List UInt8) : Option (List Int) := if (splitC 10 l).length = 65 ∧ (splitC 10 l)[64]? = some [] then mapO hxO ((splitC 10 l).take 64) else none
/-- What impl lays into a plate. -/
def ipP (l : List UInt8) : List Int := ((splitC 10 l).map uhx ++ List.replicate 64 0).take 64
def zeroP : List Int := List.replicate 64 0
theorem ipP_len (l : List UInt8) : (ipP l).length = 64 := by simp [ipP]
theorem ipP_bd (l : List UInt8) : ∀ v ∈ ipP l, 0 ≤ v ∧ v < 18446744073709551616 := by
  intro v hv
  have hv := List.mem_of_mem_take hv
  rcases List.mem_append.1 hv with hv | hv
  · obtain ⟨w, _, rfl⟩ := List.mem_map.1 hv
    exact uhx_bd w
  · have := (List.mem_replicate.1 hv).2
    omega
theorem rdP_text {p : List Int} (hl : p.length = 64) (hb : ∀ v ∈ p, 0 ≤ v ∧ v < 18446744073709551616) : rdP (plT p) = some p ∧ ipP (plT p) = p := by
  have hs := plT_split p
  unfold rdP ipP
  rw [hs]
  constructor
  · rw [if_pos ⟨by simp [hl], by rw [List.getElem?_append_right (by simp [hl])]; simp [hl]⟩, List.take_left' (by simpa using hl)]
    refine mapO_map fun v hv => ?_
    have h := hb v hv
    rw [hxO_hx (by omega)]
    congr 1
    omega
  · rw [List.map_append, List.append_assoc, List.take_left' (by simpa using hl), List.map_map]
    have e : ∀ v ∈ p, (uhx ∘ fun v : Int => hxN 16 v.toNat) v = id v := fun v hv => by
      have h := hb v hv
      rw [Function.comp_apply, uhx_hx (by omega)]
      show ((v.toNat : Nat) : Int) = v
      omega
    rw [List.map_congr_left e, List.map_id]
theorem rdP_back {l : List UInt8} {p : List Int} (h : rdP l = some p) : plT p = l ∧ p.length = 64 ∧ ∀ v ∈ p, 0 ≤ v ∧ v < 18446744073709551616 := by
  unfold rdP at h
  split at h
  · rename_i h1
    obtain ⟨hl, h64⟩ := h1
    obtain ⟨e1, e2⟩ := mapO_el h
    have e3 := mapO_back (g := fun v : Int => hxN 16 v.toNat) (fun x y h => (hxO_ok h).1) h
    refine ⟨?_, by rw [e1, List.length_take]; omega, fun v hv => ?_⟩
    · rw [plT_lines, ← e3, ← linesT_join]
      have e4 : (splitC 10 l).take 64 ++ [[]] = splitC 10 l := by
        have h65 : 64 < (splitC 10 l).length := by omega
        rw [List.getElem?_eq_getElem h65] at h64
        injection h64 with h64
        rw [← h64, ← List.take_succ_eq_append_getElem h65]
        exact List.take_of_length_le (by omega)
      rw [e4]
      exact (splitC_spec 10 l).1
    · obtain ⟨x, _, hx⟩ := e2 v hv
      exact (hxO_ok hx).2
  · cases h
/-- Both read the same. -/
theorem rdP_both (l : List UInt8) : (plT (ipP l) = l → rdP l = some (ipP l)) ∧ (plT (ipP l) ≠ l → rdP l = none) := by
  constructor
  · intro h
    have := (rdP_text (ipP_len l) (ipP_bd l)).1
    rwa [h] at this
  · intro h
    cases hr : rdP l with
    | none => rfl
    | some p =>
      obtain ⟨e1, e2, e3⟩ := rdP_back hr
      have := (rdP_text e2 e3).2
      rw [e1] at this
      rw [this] at h
      exact absurd e1 h
end Go.Cams

/- Grids' texts, in plain terms. -/
namespace Go.Cams
open Go Go.Fw
/-- The line of row r of a grid. -/
def grL (g : List Int) (r : Nat) : List UInt8 := Lib.decDigits r ++ 32 :: hxN 16 (g.getD r 0).toNat
/-- The first n rows of a grid that hold a pair. -/
def nzN (g : List Int) (n : Nat) : List Nat := (List.range n).filter fun r => decide (g.getD r 0 ≠ 0)
def grT (g : List Int) (n : Nat) : List UInt8 := linesT ((nzN g n).map (grL g))
theorem linesT_snoc (ls : List (List UInt8)) (w : List UInt8) : linesT (ls ++ [w]) = linesT ls ++ (w ++ [10]) := by simp [linesT]
theorem grT_yes {g : List Int} {n : Nat} (h : g.getD n 0 ≠ 0) : grT g (n + 1) = grT g n ++ (grL g n ++ [10]) := by
  unfold grT nzN
  rw [List.range_succ, List.filter_append, List.map_append]
  have e : List.filter (fun r => decide (g.getD r 0 ≠ 0)) [n] = [n] := by rw [List.filter_cons_of_pos (by simpa using h)]; rfl
  rw [e, List.map_singleton, linesT_snoc]
theorem grT_no {g : List Int} {n : Nat} (h : g.getD n 0 = 0) : grT g (n + 1) = grT g n := by
  unfold grT nzN
  rw [List.range_succ, List.filter_append, List.map_append]
  have e : List.filter (fun r => decide (g.getD r 0 ≠ 0)) [n] = [] := by rw [List.filter_cons_of_neg (by rw [h]; decide)]; rfl
  rw [e]
  simp
theorem grL_len {g : List Int} {r : Nat} (h : r < 64) : (grL g r).length ≤ 19 := by
  have := dec_lenK 1 r (by omega)
  unfold grL
  rw [List.length_append, List.length_cons, hxN_len]
  omega
theorem grT_len (g : List Int) : ∀ n, n ≤ 64 → (grT g n).length ≤ 20 * n
  | 0, _ => by simp [grT, nzN, linesT]
  | n + 1, h => by
    have ih := grT_len g n (by omega)
    by_cases hz : g.getD n 0 = 0
    · rw [grT_no hz]; omega
    · have := grL_len (g := g) (r := n) (by omega)
      rw [grT_yes hz, List.length_append, List.length_append, List.length_singleton]
      omega
theorem grL_no (g : List Int) (r : Nat) : (10 : UInt8) ∉ grL g r := by
  intro h
  unfold grL at h
  rcases List.mem_append.1 h with h | h
  · exact dec_no' (by decide) _ h
  · rcases List.mem_cons.1 h with h | h
    · revert h; decide
    · exact hxN_no _ _ h
theorem grL_cut (g : List Int) (r : Nat) : Lib.cut (grL g r) [32] = (Lib.decDigits r, hxN 16 (g.getD r 0).toNat, true) := cut_hit (dec_no' (by decide) _) _
theorem grT_split (g : List Int) (n : Nat) : splitC 10 (grT g n) = (nzN g n).map (grL g) ++ [[]] := lines_split fun w hw => by
  obtain ⟨r, _, rfl⟩ := List.mem_map.1 hw
  exact grL_no g r
theorem nzN_mem {g : List Int} {n r : Nat} (h : r ∈ nzN g n) : r < n ∧ g.getD r 0 ≠ 0 := by
  have := List.mem_filter.1 h
  exact ⟨List.mem_range.1 this.1, by simpa using this.2⟩
def setAll (g : List Int) (rs : List Nat) : List Int := rs.foldl (fun a r => a.set r (g.getD r 0)) (List.replicate 64 0)
theorem setAll_snoc (g : List Int) (rs : List Nat) (r : Nat) : setAll g (rs ++ [r]) = (setAll g rs).set r (g.getD r 0) := by simp [setAll]
theorem setAll_len (g : List Int) (rs : List Nat) : (setAll g rs).length = 64 := by
  have key : ∀ (rs : List Nat) (a : List Int), (rs.foldl (fun a r => a.set r (g.getD r 0)) a).length = a.length := by
    intro rs
    induction rs with
    | nil => intro a; rfl
    | cons r rs ih => intro a; rw [List.foldl_cons, ih, List.length_set]
  unfold setAll
  rw [key]
  simp
theorem setAll_at (g : List Int) : ∀ (rs : List Nat) (a : List Int) (j : Nat), j < a.length → (rs.foldl (fun a r => a.set r (g.getD r 0)) a).getD j 0 = if j ∈ rs then g.getD j 0 else a.getD j 0 := by
  intro rs
  induction rs with
  | nil => intro a j _; simp
  | cons r rs ih =>
    intro a j hj
    rw [List.foldl_cons, ih _ j (by simpa using hj)]
    by_cases h1 : j ∈ rs
    · rw [if_pos h1, if_pos (List.mem_cons_of_mem _ h1)]
    · rw [if_neg h1]
      by_cases h2 : j = r
      · subst h2
        rw [if_pos (by simp)]
        simp [hj]
      · rw [if_neg (by simp [h1, h2])]
        simp only [List.getD_eq_getElem?_getD]
        rw [List.getElem?_set_ne (fun e => h2 e.symm)]
theorem setAll_nz {g : List Int} (h : g.length = 64) : setAll g (nzN g 64) = g := by
  apply List.ext_getElem
  · rw [setAll_len, h]
  · intro j h1 h2
    have hl := setAll_len g (nzN g 64)
    have key := setAll_at g (nzN g 64) (List.replicate 64 0) j (by simp; omega)
    have e1 : (setAll g (nzN g 64)).getD j 0 = (setAll g (nzN g 64))[j] := by simp [List.getD_eq_getElem?_getD, h1]
    have e2 : g.getD j 0 = g[j] := by simp [List.getD_eq_getElem?_getD, h2]
    rw [← e1, ← e2]
    unfold setAll
    rw [key]
    by_cases hz : g.getD j 0 = 0
    · rw [hz]
      split
      · rfl
      · rw [List.getD_eq_getElem?_getD, List.getElem?_replicate]
        split <;> rfl
    · have hm : j ∈ nzN g 64 := List.mem_filter.2 ⟨List.mem_range.2 (by omega), decide_eq_true hz⟩
      rw [if_pos hm]
/-! ### Repairs -/
theorem rp_same {b lo : Int} {c : List Int} (h : ∀ i, i < c.length → siz (bendP c (i : Nat)) ≤ b) : ∀ k, k ≤ c.length → rp b lo c k = (c, [])
  | 0, _ => rfl
  | k + 1, hk => by
    unfold rp
    rw [rp_same h k (by omega)]
    unfold rpS
    exact if_pos (h k (by omega))
theorem rp_none {b lo : Int} {c : List Int} : ∀ k, (rp b lo c k).2 = [] → (rp b lo c k).1 = c
  | 0, _ => rfl
  | k + 1, h => by
    unfold rp at h ⊢
    unfold rpS at h ⊢
    by_cases h1 : siz (bendP (rp b lo c k).1 k) ≤ b
    · rw [if_pos h1] at h ⊢
      exact rp_none k h
    · rw [if_neg h1] at h ⊢
      split at h
      · simp at h
      · rename_i h2
        rw [if_neg h2]
        exact rp_none k h
theorem gr_bends (c : List Int) : ∀ i, i < c.length → siz (bendP c (i : Nat)) ≤ (gr (bends c)).2.1 := by
  intro i hi
  have h := (gr_le (bends c) (0, -1, 0) (gr (bends c)).2.1).1 (Int.le_refl _)
  refine h.2 _ ?_
  unfold bends tb
  exact List.mem_map.2 ⟨i, List.mem_range.2 hi, rfl⟩
theorem gr_bends_bd {c : List Int} (h0 : 0 < c.length) (hC : ∀ v ∈ c, 0 ≤ v ∧ v ≤ 10000) : 0 ≤ (gr (bends c)).2.1 ∧ (gr (bends c)).2.1 ≤ 20000 := by
  constructor
  · exact Int.le_trans (siz_nn _) (gr_bends c 0 h0)
  · refine (gr_le (bends c) (0, -1, 0) 20000).2 ⟨by decide, fun v hv => ?_⟩
    unfold bends tb at hv
    obtain ⟨i, _, rfl⟩ := List.mem_map.1 hv
    have := bends_bd h0 hC (i : Nat)
    exact siz_le this.1 this.2
/-- The bits of a row. -/
theorem row_bits (p : Nat → Bool) {y : Nat} (h : y < 64) : (mkN p 64 / 2 ^ y) % 2 = if p y = true then 1 else 0 := by
  have e := mkN_bit p 64 y
  rw [Nat.testBit_eq_decide_div_mod_eq] at e
  have hm := Nat.mod_lt (mkN p 64 / 2 ^ y) (show 0 < 2 by omega)
  cases hp : p y with
  | true =>
    rw [hp] at e
    simp [h] at e
    simpa using e
  | false =>
    rw [hp] at e
    simp at e
    simp
    omega
theorem bct_row (p : Nat → Bool) {y : Nat} (h : y < 64) : bct (mkN p 64) (y + 1) = if p y = true then bct (mkN p 64) y + 1 else bct (mkN p 64) y := by
  simp only [bct]
  rw [row_bits p h]
  split <;> rfl
end Go.Cams

/- Digits of base 16 gathered, in plain terms. -/
namespace Go.Cams
open Go Go.Fw
theorem hx_or {a d : Nat} (hd : d < 16) : bitsI .or .u64 (shl_ .u64 (a : Int) 4) (d : Int) = ((a * 16 % 18446744073709551616 + d : Nat) : Int) := by
  have e1 : shl_ .u64 (a : Int) 4 = ((a * 16 % 18446744073709551616 : Nat) : Int) := by
    unfold shl_
    show IntKind.u64.wrap ((a : Int) * 2 ^ (min (4 : Int).toNat 64)) = _
    rw [show (2 : Int) ^ (min (4 : Int).toNat 64) = 16 from rfl]
    rw [Int.natCast_emod, Int.natCast_mul]
    simp [IntKind.wrap, IntKind.signed, IntKind.bits]
  have e2 : (a * 16 % 18446744073709551616) ||| d = a * 16 % 18446744073709551616 + d := by
    have h : a * 16 % 18446744073709551616 = (a % 1152921504606846976) <<< 4 := by rw [Nat.shiftLeft_eq]; omega
    rw [h, Nat.shiftLeft_add_eq_or_of_lt (by omega)]
  rw [e1, or_nat (Nat.mod_lt _ (by omega)) (by omega), e2]
theorem hxS_bd : ∀ (l : List UInt8) (a u : Nat), a < 18446744073709551616 → hxS l a = some u → u < 18446744073709551616
  | [], a, u, h, e => by
    injection e with e
    omega
  | c :: r, a, u, h, e => by
    unfold hxS at e
    split at e
    · exact hxS_bd r _ u (by omega) e
    · split at e
      · exact hxS_bd r _ u (by omega) e
      · cases e
/-- What spec.l05Hex answers. -/
def hxR (l : List UInt8) : Int × Bool × Unit := match hxS l 0 with
  | some a => ((a : Int), (l.length : Int) == 16, ())
  | none => (0, false, ())
theorem hxR_o (l : List UInt8) : hxO l = if (hxR l).2.1 = true then some (hxR l).1 else none := by
  unfold hxO hxR
  cases hxS l 0 with
  | none => simp
  | some a =>
    by_cases h : l.length = 16
    · simp [h]
    · have h2 : ¬ (l.length : Int) = 16 := by omega
      simp [h, h2]
/-- What both answer. -/
def rpP (l : List UInt8) : List Int × Int := match rdP l with
  | some p => (p, 0)
  | none => (List.replicate 64 0, 5)
theorem rpP_len (l : List UInt8) : (rpP l).1.length = 64 := by
  unfold rpP
  cases h : rdP l with
  | none => simp
  | some p => exact (rdP_back h).2.1
theorem rpP_impl (l : List UInt8) : rpP l = if plT (ipP l) = l then (ipP l, 0) else (List.replicate 64 0, 5) := by
  obtain ⟨h1, h2⟩ := rdP_both l
  unfold rpP
  by_cases h : plT (ipP l) = l
  · rw [if_pos h, h1 h]
  · rw [if_neg h, h2 h]
theorem mapO_none' {α β : Type} {f : α → Option β} : ∀ {l : List α} {x : α}, x ∈ l → f x = none → mapO f l = none
  | y :: l, x, h, e => by
    unfold mapO
    rcases List.mem_cons.1 h with h | h
    · subst h; rw [e]
    · rw [mapO_none' h e]
      cases f y <;> rfl
/-- The rows laid so far. -/
def ipS (l : List UInt8) (i : Nat) : List Int := ((((splitC 10 l).take i).map uhx) ++ List.replicate 64 0).take 64
theorem ipS_len (l : List UInt8) (i : Nat) : (ipS l i).length = 64 := by simp [ipS]
theorem ipS_all (l : List UInt8) {i : Nat} (h : (splitC 10 l).length ≤ i) : ipS l i = ipP l := by unfold ipS ipP; rw [List.take_of_length_le h]
theorem ipS_zero (l : List UInt8) : ipS l 0 = List.replicate 64 0 := by unfold ipS; rw [List.take_zero]; rfl
theorem ipS_set (l : List UInt8) {i : Nat} {w : List UInt8} (h : (splitC 10 l)[i]? = some w) (hi : i < 64) : (ipS l i).set i (uhx w) = ipS l (i + 1) := by
  have hl : i < (splitC 10 l).length := (List.getElem?_eq_some_iff.1 h).1
  apply List.ext_getElem?
  intro j
  have hL : (List.map uhx (List.take i (splitC 10 l))).length = i := by simp; omega
  have hL2 : (List.map uhx (List.take (i + 1) (splitC 10 l))).length = i + 1 := by simp; omega
  by_cases hj : j = i
  · subst hj
    rw [List.getElem?_set_self (by rw [ipS_len]; exact hi)]
    unfold ipS
    rw [List.getElem?_take_of_lt hi, List.getElem?_append_left (by omega), List.getElem?_map, List.getElem?_take_of_lt (by omega), h]
    rfl
  · rw [List.getElem?_set_ne (fun e => hj e.symm)]
    by_cases h64 : j < 64
    · unfold ipS
      rw [List.getElem?_take_of_lt h64, List.getElem?_take_of_lt h64]
      by_cases hlt : j < i
      · rw [List.getElem?_append_left (by omega), List.getElem?_append_left (by omega), List.getElem?_map, List.getElem?_map, List.getElem?_take_of_lt hlt, List.getElem?_take_of_lt (by omega)]
      · rw [List.getElem?_append_right (by omega), List.getElem?_append_right (by omega), List.getElem?_replicate, List.getElem?_replicate, if_pos (by omega), if_pos (by omega)]
    · rw [List.getElem?_eq_none (by rw [ipS_len]; omega), List.getElem?_eq_none (by rw [ipS_len]; omega)]
theorem ipS_over (l : List UInt8) {i : Nat} (hi : 64 ≤ i) : ipS l (i + 1) = ipS l i := by
  unfold ipS
  by_cases h : (splitC 10 l).length ≤ i
  · have e1 : (splitC 10 l).take i = splitC 10 l := List.take_of_length_le h
    have e2 : (splitC 10 l).take (i + 1) = splitC 10 l := List.take_of_length_le (by omega)
    rw [e1, e2]
  · rw [List.take_append_of_le_length (by simp; omega), List.take_append_of_le_length (by simp; omega), ← List.map_take, ← List.map_take, List.take_take, List.take_take, Nat.min_eq_left (by omega), Nat.min_eq_left (by omega)]
end Go.Cams
