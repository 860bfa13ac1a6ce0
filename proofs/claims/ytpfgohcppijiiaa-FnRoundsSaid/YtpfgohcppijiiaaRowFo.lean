/- The law FnRounds returns true for all arguments, in every run, and leaves its arguments as they were; no conditions. -/
import Derived.Test.YtpfgohcppijiiaaEFo
import Derived.Test.YtpfgohcppijiiaaRows
import Derived.ProofKit
import Derived.Shelf.Small.Bits
import Derived.Shelf.Strconv.Itoa0
import Derived.Ground.SlsfProg
import Derived.Shelf.SlSortCmp.InsertionK
import Derived.Shelf.SlSortCmp.SiftDownK
import Derived.Shelf.SlSortCmp.HeapSortK
import Derived.Shelf.SlSortCmp.MedianK
import Derived.Shelf.SlSortCmp.PivotK
import Derived.Shelf.SlSortCmp.ReverseRangeK
import Derived.Shelf.SlSortCmp.PartialInsertionK
import Derived.Shelf.SlSortCmp.PartitionEqualK
import Derived.Shelf.SlSortCmp.PartitionK
import Derived.Shelf.SlSortCmp.PdqK
import Derived.Shelf.SlSortCmp.WholeK
import Derived.Shelf.SlSortCmp.NoneTotal
import Derived.WalkKit
import Derived.Lib.Builder
namespace Go.Proofs
open Go.Shelf
def Try.laysSlF06_f67_ren : Go.Shelf.Ren := ⟨fun | 6 => 67 | 15 => 82 | 14 => 81 | 28 => 92 | 29 => 93 | 20 => 84 | 21 => 85 | 22 => 86 | 23 => 87 | 24 => 88 | 25 => 89 | 26 => 90 | 27 => 91 | 46 => 94 | 47 => 95 | 48 => 96 | 49 => 97 | 50 => 98 | 57 => 99 | n => n, fun | 22 => 41 | 24 => 44 | 25 => 81 | 3 => 3 | 39 => 91 | 0 => 0 | 53 => 102 | 55 => 83 | 4 => 4 | 46 => 95 | 45 => 94 | 50 => 99 | 5 => 5 | 9 => 9 | 66 => 104 | 70 => 108 | 76 => 110 | 77 => 111 | n => n, fun | n => n⟩
theorem Try.laysSlF06_f67 : Go.Proofs.SlLaysF0.n6 Try.prog Try.laysSlF06_f67_ren := {
  mixed := by kernel_rfl
  f6 := ⟨Try.f67.name, by decide, Try.func67.trans (congrArg some (by kernel_rfl))⟩
  f14 := ⟨Try.f81.name, by decide, Try.func81.trans (congrArg some (by kernel_rfl))⟩
  f15 := Try.func82.trans (congrArg some (by kernel_rfl))
  f20 := ⟨Try.f84.name, by decide, Try.func84.trans (congrArg some (by kernel_rfl))⟩
  f21 := ⟨Try.f85.name, by decide, Try.func85.trans (congrArg some (by kernel_rfl))⟩
  f22 := ⟨Try.f86.name, by decide, Try.func86.trans (congrArg some (by kernel_rfl))⟩
  f23 := ⟨Try.f87.name, by decide, Try.func87.trans (congrArg some (by kernel_rfl))⟩
  f24 := ⟨Try.f88.name, by decide, Try.func88.trans (congrArg some (by kernel_rfl))⟩
  f25 := ⟨Try.f89.name, by decide, Try.func89.trans (congrArg some (by kernel_rfl))⟩
  f26 := ⟨Try.f90.name, by decide, Try.func90.trans (congrArg some (by kernel_rfl))⟩
  f27 := ⟨Try.f91.name, by decide, Try.func91.trans (congrArg some (by kernel_rfl))⟩
  f28 := Try.func92.trans (congrArg some (by kernel_rfl))
  f29 := Try.func93.trans (congrArg some (by kernel_rfl))
  f46 := ⟨Try.f94.name, by decide, Try.func94.trans (congrArg some (by kernel_rfl))⟩
  f47 := Try.func95.trans (congrArg some (by kernel_rfl))
  f48 := Try.func96.trans (congrArg some (by kernel_rfl))
  f49 := ⟨Try.f97.name, by decide, Try.func97.trans (congrArg some (by kernel_rfl))⟩
  f50 := ⟨Try.f98.name, by decide, Try.func98.trans (congrArg some (by kernel_rfl))⟩
  f57 := ⟨Try.f99.name, by decide, Try.func99.trans (congrArg some (by kernel_rfl))⟩
  t0 := Try.underlying0
  a0 := Try.isAgg0
  z0 := Try.sizeOf0
  v0 := Try.zeroValue0
  t3 := Try.underlying3
  a3 := Try.isAgg3
  z3 := Try.sizeOf3
  v3 := Try.zeroValue3
  t4 := Try.underlying4
  a4 := Try.isAgg4
  z4 := Try.sizeOf4
  v4 := Try.zeroValue4
  t5 := Try.underlying5
  a5 := Try.isAgg5
  z5 := Try.sizeOf5
  v5 := Try.zeroValue5
  t9 := Try.underlying9
  a9 := Try.isAgg9
  z9 := Try.sizeOf9
  v9 := Try.zeroValue9
  t22 := Try.underlying41
  a22 := Try.isAgg41
  z22 := Try.sizeOf41
  v22 := Try.zeroValue41
  t25 := Try.underlying81
  a25 := Try.isAgg81
  z25 := Try.sizeOf81
  v25 := Try.zeroValue81
  t39 := Try.underlying91
  a39 := Try.isAgg91
  z39 := Try.sizeOf91
  v39 := Try.zeroValue91
  t45 := Try.underlying94
  a45 := Try.isAgg94
  z45 := Try.sizeOf94
  v45 := Try.zeroValue94
  t46 := Try.underlying95
  a46 := Try.isAgg95
  z46 := Try.sizeOf95
  v46 := Try.zeroValue95
  t50 := Try.underlying99
  a50 := Try.isAgg99
  z50 := Try.sizeOf99
  v50 := Try.zeroValue99
  t53 := Try.underlying102
  a53 := Try.isAgg102
  z53 := Try.sizeOf102
  v53 := Try.zeroValue102
  t55 := Try.underlying83
  a55 := Try.isAgg83
  z55 := Try.sizeOf83
  v55 := Try.zeroValue83
  t66 := Try.underlying104
  a66 := Try.isAgg104
  z66 := Try.sizeOf104
  v66 := Try.zeroValue104
  t70 := Try.underlying108
  a70 := Try.isAgg108
  z70 := Try.sizeOf108
  v70 := Try.zeroValue108
  t76 := Try.underlying110
  a76 := Try.isAgg110
  z76 := Try.sizeOf110
  v76 := Try.zeroValue110
  t77 := Try.underlying111
  a77 := Try.isAgg111
  z77 := Try.sizeOf111
  v77 := Try.zeroValue111 }
open Go.RowKit Go.Lib Go.Sort in
/-- **slices.SortFunc, IN THE DOCUMENTATION's OWN TERMS: A PERMUTATION OF WHAT THE ROW HELD, SORTED BY 'cmp(a, b) < 0'.** Which of two equals comes first is left open ("The sort is not guaranteed to be stable"). (LAID AT THE INSTANCE 'slices.SortFunc[[][2]int64,[2]int64]': no walk: one application.) -/
theorem Try.slices_SortFunc {α : Type} [Inhabited α] (k : Nat) (aE : ∀ w, (isAgg 44).run Try.prog w = .ok true w) (zE : ∀ w, (Go.sizeOf 44).run Try.prog w = .ok k w) (enc : α → List Value) (hk : ∀ x, (enc x).length = k) (h1 : ∀ x, ∀ v ∈ enc x, v.oneCell' = true) (cf : α → α → Int) (hO : SWO (ltOf cf)) (g : Nat) (cb : Array Value) (blk off cap : Nat) (d : Array α) (w : World) (eg : ∀ args w, (callFunc g args).run Try.prog w = .ok (.enter g args) w) (hcmp : CmpLays Try.prog g cb enc k cf blk off d.size w) (hH : HoldsK enc k w blk off d) (hblk : blk < w.heap.size) (hsz : d.size < 4611686018427387904) :
    Calls Try.prog 67 #[.slice (some ⟨blk, off, none⟩) d.size cap, .func (.func g) #[] cb] w fun e w' =>
      e = .returned (.tuple #[]) ∧ ∃ d' n os, PermIn 0 d.size d d' ∧ SortedIn (ltOf cf) 0 d.size d' ∧ w' = sortWorldK enc k w blk off n d' os := AnyQ.slices_SortFunc Try.laysSlF06_f67 k aE zE enc hk h1 cf hO g cb blk off cap d w eg hcmp hH hblk hsz
open Go.RowKit Go.Lib Go.Sort in
/-- **slices.SortFunc AT NO ELEMENT, A nil SLICE TOO: nothing turns.** (LAID AT THE INSTANCE 'slices.SortFunc[[][2]int64,[2]int64]': no walk: one application.) -/
theorem Try.slices_SortFunc_none {α : Type} [Inhabited α] (p : Option Addr) (cap : Nat) (fv : Value) (w : World) :
    Calls Try.prog 67 #[.slice p 0 cap, fv] w fun e w' => e = .returned (.tuple #[]) ∧ w' = w := AnyF.slices_SortFunc_none Try.laysSlF06_f67 p cap fv w
section
open Go Go.RowKit Go.Lib Go.Sort
abbrev SK := {p : Int × Int // -1000000000000 ≤ p.1 ∧ p.1 ≤ 1000000000000}
instance : Inhabited SK := ⟨⟨(0, 0), by decide⟩⟩
def skE (x : SK) : List Value := [.int .i64 x.1.1, .int .i64 x.1.2]
def skC (x y : SK) : Int := x.1.1 - y.1.1
def skL (x : SK) : List Int := [x.1.1, x.1.2]
theorem skO : SWO (ltOf skC) where
  irrefl x := decide_eq_false (by unfold skC; omega)
  trans x y z h1 h2 := by
    have h1 : skC x y < 0 := of_decide_eq_true h1
    have h2 : skC y z < 0 := of_decide_eq_true h2
    refine decide_eq_true ?_
    unfold skC at *
    omega
  ntrans x y z h1 h2 := by
    have h1 : ¬ (skC x y < 0) := of_decide_eq_false h1
    have h2 : ¬ (skC y z < 0) := of_decide_eq_false h2
    refine decide_eq_false ?_
    unfold skC at *
    omega
theorem sk_calls (x y : SK) (W : World) : Calls Try.prog 68 #[.agg #[.int .i64 x.1.1, .int .i64 x.1.2], .agg #[.int .i64 y.1.1, .int .i64 y.1.2]] W fun e w' => e = .returned (.int .i64 (skC x y)) ∧ ∃ q os', w' = grow (W.drewN q) os' := by
  obtain ⟨⟨a, b⟩, h1, h2⟩ := x
  obtain ⟨⟨c, d⟩, h3, h4⟩ := y
  unfold skC
  simp only at h1 h2 h3 h4 ⊢
  go_enter Try.func68, Try.ntmps68
  go_wp2
  go_ret
  exact ⟨rfl, 0, _, by rw [alloc_eq_grow, alloc_eq_grow, grow_grow]; rfl⟩
theorem sk_lays (blk off size : Nat) (w : World) : CmpLays Try.prog 68 #[] skE 2 skC blk off size w :=
  fun _ _ _ _ x y => sk_calls x y _
theorem sk_flat_len : ∀ L : List SK, (L.flatMap skE).length = L.length * 2
  | [] => rfl
  | x :: L => by
    rw [List.flatMap_cons, List.length_append, sk_flat_len L]
    show 2 + _ = (L.length + 1) * 2
    omega
theorem sk_flat_get : ∀ (L : List SK) (t : Nat), t < L.length * 2 → (L.flatMap skE)[t]? = (skE (L.getD (t / 2) default))[t % 2]?
  | [], t, h => absurd h (by simp)
  | x :: L, 0, _ => rfl
  | x :: L, 1, _ => rfl
  | x :: L, t + 2, h => by
    have e1 : (t + 2) / 2 = t / 2 + 1 := by omega
    have e2 : (t + 2) % 2 = t % 2 := by omega
    have h : t + 2 < (L.length + 1) * 2 := h
    rw [e1, e2, List.getD_cons_succ]
    exact sk_flat_get L t (by omega)
theorem sk_flat (D : Array SK) : flatK skE 2 D = (D.toList.flatMap skE).toArray := by
  apply Array.ext
  · rw [size_flatK]
    show _ = (D.toList.flatMap skE).length
    rw [sk_flat_len, Array.length_toList]
  · intro t h1 h2
    have ht : t < D.size * 2 := by simpa using h1
    have h3 := get_flatK skE 2 D t ht
    have hd : t / 2 < D.size := by omega
    have e := sk_flat_get D.toList t (by simpa using ht)
    have ed : D.toList.getD (t / 2) default = D[t / 2]! := by
      rw [List.getD_eq_getElem?_getD]
      simp [hd]
    rw [ed] at e
    have hm : t % 2 < (skE D[t / 2]!).length := Nat.mod_lt _ (by omega)
    rw [getElem!_pos (flatK skE 2 D) t h1] at h3
    rw [h3, getElem!_pos (skE D[t / 2]!) (t % 2) hm]
    rw [List.getElem?_eq_getElem hm] at e
    have h4 : t < (D.toList.flatMap skE).length := by simpa using h2
    rw [List.getElem?_eq_getElem h4] at e
    simpa using (Option.some.inj e).symm
theorem sk_put {F cur : List Value} (h : F.length ≤ cur.length) : putCells id 0 F.toArray cur.toArray = (F ++ cur.drop F.length).toArray := by
  apply Array.ext'
  apply List.ext_getElem?
  intro t
  simp only [putCells]
  rw [Array.toList_mapIdx]
  simp only [List.getElem?_mapIdx]
  by_cases ht : t < F.length
  · rw [List.getElem?_append_left ht, List.getElem?_eq_getElem (by omega : t < cur.length)]
    simp [ht]
  · rw [List.getElem?_append_right (by omega), List.getElem?_drop, show F.length + (t - F.length) = t by omega]
    cases hc : cur[t]? with
    | none => simp [hc]
    | some v => simp [hc, ht]
end
end Go.Proofs
namespace Go.Proofs.Ytpfgohcppijiiaa
section
open Go Go.Fw Go.Proofs Go.RowKit
theorem sk_list : ∀ {l : List (List Int)}, sortOk l = true → ∃ D : List SK, l = D.map skL := by
  intro l hs
  have hall : ∀ p ∈ l, p.length = 2 ∧ -1000000000000 ≤ p.headD 0 ∧ p.headD 0 ≤ 1000000000000 := by
    unfold sortOk at hs
    simp only [Bool.and_eq_true, decide_eq_true_eq, List.all_eq_true] at hs
    exact hs.1.1
  clear hs
  induction l with
  | nil => exact ⟨[], rfl⟩
  | cons p l ih =>
    obtain ⟨D, rfl⟩ := ih fun q hq => hall q (List.mem_cons_of_mem _ hq)
    obtain ⟨h1, h2, h3⟩ := hall p (by simp)
    match p, h1, h2, h3 with
    | [a, b], _, h2, h3 => exact ⟨⟨(a, b), h2, h3⟩ :: D, rfl⟩
theorem sk_rep {w : World} {ok : Nat → Prop} : ∀ {D : List SK} {es : List Value}, RepL (Rep w ok (.arr 2 (.int .i64))) (D.map skL) es → es = D.flatMap skE
  | [], _, h => h
  | x :: D, es, h => by
    obtain ⟨c, d, e, ⟨_, h1⟩, h2⟩ := h
    obtain ⟨c1, c2, e2, h3, c3, c4, e4, h5, h6⟩ := h1
    have h3 : c1 = [.int .i64 x.1.1] := h3
    have h5 : c3 = [.int .i64 x.1.2] := h5
    have h6 : c4 = [] := h6
    rw [e, e2, e4, h3, h5, h6, sk_rep h2]
    rfl
theorem sk_rep' {w : World} {ok : Nat → Prop} : ∀ D : List SK, RepL (Rep w ok (.arr 2 (.int .i64))) (D.map skL) (D.flatMap skE)
  | [] => rfl
  | x :: D => ⟨skE x, D.flatMap skE, rfl, ⟨rfl, [.int .i64 x.1.1], [.int .i64 x.1.2], rfl, rfl, [.int .i64 x.1.2], [], rfl, rfl, rfl⟩, sk_rep' D⟩
open Go.Sort in
theorem sk_sorted {D : List SK} {d' : Array SK} (hs : sortOk (D.map skL) = true) (hp : PermIn 0 D.toArray.size D.toArray d') (ho : SortedIn (ltOf skC) 0 D.toArray.size d') : sortK (D.map skL) = d'.toList.map skL := by
  obtain ⟨hsz, _, hperm⟩ := hp
  have hsz : d'.size = D.length := by simpa using hsz
  have hperm : d'.toList.Perm D := by
    have e1 : d'.extract 0 D.toArray.size = d' := by rw [show D.toArray.size = d'.size by simp [hsz]]; simp
    have e2 : D.toArray.extract 0 D.toArray.size = D.toArray := by simp
    rw [e1, e2] at hperm
    exact hperm
  have hpm := hperm.map skL
  refine Go.Cams.sortK_of hpm.symm ?_
  have hn : ((D.map skL).map (·.headD 0)).Nodup := by
    unfold sortOk at hs
    simp only [Bool.and_eq_true, decide_eq_true_eq] at hs
    exact hs.1.2
  have hn' := ((hpm.map (·.headD 0)).nodup_iff).2 hn
  rw [List.pairwise_iff_getElem]
  intro i j hi hj hij
  have hi' : i < d'.size := by simpa using hi
  have hj' : j < d'.size := by simpa using hj
  have h1 := ho i j (Nat.zero_le _) hij (by simp; omega)
  rw [getElem!_pos d' j hj', getElem!_pos d' i hi'] at h1
  have h1 : ¬ (skC d'[j] d'[i] < 0) := of_decide_eq_false h1
  unfold skC at h1
  have hne : d'[i].1.1 ≠ d'[j].1.1 := by
    have := (List.pairwise_iff_getElem.1 hn') i j (by simpa using hi') (by simpa using hj') hij
    simpa [skL] using this
  simp only [List.getElem_map, Array.getElem_toList]
  show d'[i].1.1 < d'[j].1.1
  omega
set_option maxHeartbeats 1000000 in
theorem sort_ext {L : Laid} : ExtOk Try.prog L LFo.I67 := by
  refine extOk_of2 (I := LFo.I67) (g := fun x => if sortOk x.1 = true then some ((), (sortK x.1, ())) else none) (fn := Try.f67) (code := bd Try.f67) rfl Try.func67 (by kernel_rfl) (by kernel_rfl) ?_
  intro x r o w vals okc Fs hg hA hnd hF hok hon
  obtain ⟨l, cl, u⟩ := x
  change List (List Int) at l
  obtain ⟨c1, v1, F1, F2, e1, e2, h1, c2, v2, F3, F4, e3, e4, h2, e5, e6⟩ := hA
  simp only [ShR] at h1 h2
  obtain ⟨fi, ca, G3, G4, rfl, eG, hc1, hc2⟩ := h2
  simp only [ShC] at hc1 hc2
  obtain ⟨hfi, rfl⟩ := hc1
  obtain ⟨hca, rfl⟩ := hc2
  have hfi : fi = #[] := by simpa using hfi
  have hca : ca = #[] := by simpa using hca
  subst hfi
  subst hca
  obtain ⟨hd, es, G1, G2, rfl, eG1, hrow, hG2, hrep⟩ := h1
  split at hg
  case isFalse => cases hg
  rename_i hs
  have hs : sortOk l = true := hs
  injection hg with hg
  injection hg with h1 h2
  subst h1
  subst h2
  obtain ⟨D, rfl⟩ := sk_list hs
  have hes := sk_rep hrep
  subst hes
  have hl6 : D.length ≤ 1000000 := by
    unfold sortOk at hs
    simp only [Bool.and_eq_true, decide_eq_true_eq, List.length_map] at hs
    exact hs.2
  subst hG2
  simp only [List.append_nil] at eG eG1
  subst eG
  subst eG1
  subst e6
  simp only [List.append_nil] at e4
  subst e4
  simp only [List.append_nil] at e2
  subst e2
  obtain ⟨A0, cap, ehd, hn, hlen, hc⟩ := hrow
  have ev : vals.toArray = #[hd, .func (.func 68) #[] #[]] := by rw [e1, e3, e5]; rfl
  show Calls Try.prog 67 vals.toArray w _
  rw [ev, ehd]
  rw [List.length_map] at hn hlen
  rcases hc with ⟨hc0, hF0⟩ | ⟨g, cur, te, hA1, hG1, hb, hcs, he⟩
  · have hD : D = [] := List.length_eq_zero_iff.1 (by omega)
    subst hD
    refine (Try.slices_SortFunc_none (α := SK) A0 cap _ w).mono fun e w' ⟨he, hw⟩ => ?_
    subst hw
    subst hF0
    refine ⟨_, he, [], [], [], okc, rfl, ⟨rfl, rfl⟩, ⟨[hd], v1, [], [], e1, rfl, ?_, _, _, e3, rfl⟩, by simp, fun b hb => by simp at hb, fun b hb => ⟨hok b hb, .inl hb, by simp⟩, KeptBut.refl _ _⟩
    simp only [ShR]
    exact ⟨hd, [], [], [], rfl, rfl, ⟨A0, cap, ehd, hn, rfl, .inl ⟨hc0, rfl⟩⟩, rfl, rfl⟩
  · subst hA1
    subst hG1
    obtain ⟨cur⟩ := cur
    have hcs : cur.length = cap * 2 := hcs
    have he : D.flatMap skE = cur.take ((D.map skL).length * 2) := he
    rw [List.length_map] at he
    have hgz : g < w.heap.size := (Array.getElem?_eq_some_iff.1 hb).1
    have hcur : cur = D.flatMap skE ++ cur.drop (D.length * 2) := by rw [he, List.take_append_drop]
    have hH : Go.Sort.HoldsK skE 2 w g 0 D.toArray := by
      intro j hj
      rw [sk_flat] at hj ⊢
      have hj : j < (D.flatMap skE).length := by simpa using hj
      have hj2 := hj
      rw [sk_flat_len] at hj2
      rw [Nat.zero_add]
      refine ⟨?_, by simp [World.frozen?, hb]⟩
      rw [Go.Lib.cell_of_heap hb]
      rw [getElem!_pos _ _ (by simpa using hj)]
      simp only [List.getElem?_toArray, id_eq, List.getElem_toArray]
      rw [hcur, List.getElem?_append_left hj, List.getElem?_eq_getElem hj]
    have heg : ∀ args w, (callFunc 68 args).run Try.prog w = .ok (.enter 68 args) w := Go.Proofs.enters_of Try.func68 (by kernel_rfl) rfl
    have hcon := Try.slices_SortFunc (α := SK) 2 Try.isAgg44 Try.sizeOf44 skE (fun _ => rfl) (fun x v hv => by simp [skE] at hv; rcases hv with rfl | rfl <;> rfl) skC skO 68 #[] g 0 cap D.toArray w heg (sk_lays g 0 _ w) hH hgz (by simp; omega)
    rw [show D.toArray.size = (D.map skL).length by simp] at hcon
    refine hcon.mono fun e w' ⟨he, d', n, os, hp, ho, hw⟩ => ?_
    have hsorted := sk_sorted hs (by simpa using hp) (by simpa using ho)
    have hdsz : d'.toList.length = D.length := by
      have := hp.1
      simpa using this
    have hfl : (d'.toList.flatMap skE).length = D.length * 2 := by rw [sk_flat_len, hdsz]
    have hheap : ∀ b, b < w.heap.size → b ≠ g → w'.heap[b]? = w.heap[b]? := fun b hb1 hb2 => by
      rw [hw]
      simp only [Go.Proofs.sortWorldK, Go.Sort.putRowK, Go.Sort.putRow, Go.Sort.mapBlock, Go.Sort.grow, Go.Sort.ahead]
      rw [Array.getElem?_append_left (by simpa using hb1), Array.getElem?_modify, if_neg (fun e => hb2 e.symm)]
    have hsize : w.heap.size ≤ w'.heap.size := by
      rw [hw]
      simp [Go.Proofs.sortWorldK, Go.Sort.putRowK, Go.Sort.putRow, Go.Sort.mapBlock, Go.Sort.grow, Go.Sort.ahead]
    have hblk : w'.heap[g]? = some (.cells (d'.toList.flatMap skE ++ cur.drop (d'.toList.flatMap skE).length).toArray te (0, 0)) := by
      rw [hw]
      simp only [Go.Proofs.sortWorldK, Go.Sort.putRowK, Go.Sort.putRow, Go.Sort.mapBlock, Go.Sort.grow, Go.Sort.ahead]
      rw [Array.getElem?_append_left (by simpa using hgz), Array.getElem?_modify, if_pos rfl, hb]
      simp only [Option.map_some, Go.Sort.onCells]
      rw [sk_flat, sk_put (by rw [hfl, hcs]; omega)]
    have hkept : KeptBut (· ∈ [g]) w w' := by
      refine ⟨?_, ?_, ?_, hsize, fun b hb1 hb2 => hheap b hb1 (by simpa using hb2)⟩ <;> · rw [hw]; rfl
    rw [hsorted]
    refine ⟨_, he, [], [], [g], okc, rfl, ⟨rfl, rfl⟩, ⟨[hd], v1, [g], [], e1, by simp, ?_, _, _, e3, rfl⟩, by simp, fun b hb => ?_, fun b hb => ?_, hkept⟩
    · simp only [ShR]
      refine ⟨hd, d'.toList.flatMap skE, [g], [], rfl, by simp, ⟨some ⟨g, 0, none⟩, cap, ?_, ?_, ?_, .inr ⟨g, _, te, rfl, rfl, hblk, ?_, ?_⟩⟩, rfl, sk_rep' _⟩
      · rw [ehd, List.length_map, List.length_map, hdsz]
      · rw [List.length_map, hdsz]; exact hn
      · rw [List.length_map, sk_flat_len]; rfl
      · show (d'.toList.flatMap skE ++ cur.drop (d'.toList.flatMap skE).length).length = cap * 2
        rw [List.length_append, List.length_drop, hfl, hcs]
        omega
      · rw [List.length_map]
        show _ = (d'.toList.flatMap skE ++ cur.drop (d'.toList.flatMap skE).length).take (d'.toList.length * 2)
        rw [List.take_left' (by rw [sk_flat_len])]
    · have hb : b = g := by simpa using hb
      rw [hb]
      exact ⟨Nat.lt_of_lt_of_le hgz hsize, .inr (by simp)⟩
    · refine ⟨Nat.lt_of_lt_of_le (hok b hb) hsize, .inl hb, fun hm => ?_⟩
      have hm : b = g := by simpa using hm
      rw [hm] at hb
      exact (hF g (by simp)).2 hb
end
end Go.Proofs.Ytpfgohcppijiiaa
namespace Go.Proofs.Ytpfgohcppijiiaa
open Go.ChangeShapes Go.WideShapes Go.ChangeAt Go.RowKit Go.Fw
theorem Try.own : ownKnob Try.prog.godebug = none := by kernel_rfl
theorem Try.laidOut : laidOutB Try.prog = true := by kernel_rfl
theorem fnRounds_law : ∀ x, DomA (LFo.C 4).params x → ∃ n r o, call LFo.T LFo.C n 4 x = some (r, o) ∧ IsTrue (LFo.C 4).res r := by
  intro x hd
  obtain ⟨x0, x1, u⟩ := x
  obtain ⟨N, hN⟩ := Go.Cams.YtpfgohcppijiiaaLFo.e4 x0 x1 hd
  exact ⟨N, _, _, hN N (Nat.le_refl _), rfl⟩
theorem fnRounds_rec : (Try.f4.params.toList.all fun t => Try.prog.readableRec t && decide (t < Try.prog.types.size)) = true := by kernel_rfl
set_option maxRecDepth 100000 in
theorem fnRounds_lifted (os : Os) (started : os.Started) (H : Type) (enc : TypeId × Value → H) :
    ReturnsInHanded {} Try.checked os 4 .any (Rows.fnRoundsSpec.pre6 enc Try.prog Try.f4 Rows.fnRoundsRow.domain false) (Rows.fnRoundsSpec.post enc Try.prog Try.f4 false true false false) := by
  refine returnsInHanded_of_change_sized (C := Try.checked) Try.own started (by kernel_rfl) Try.func4
    (ChangeSpec.witness6 (enc := enc) (C := Try.checked) false ⟨#[], #[.slice none 0 0, .slice none 0 0], []⟩ 8 (by kernel_rfl) (by kernel_rfl) (by kernel_rfl) (by kernel_rfl)) ?_
  intro W base args ds gs before hval hW _ hw _
  exact law_callsX LFo.tsOk LFo.insts (by kernel_rfl) Try.laidOut (j := 4) (by kernel_rfl) (f := 4) (fn := Try.f4) rfl (tb := 4) (by kernel_rfl) Try.underlying4 (by kernel_rfl) (fun t ht => by have := List.all_eq_true.1 fnRounds_rec t ht; simp only [Bool.and_eq_true, decide_eq_true_eq] at this; exact this) rfl (fun H ds h => match ds, h with | [_, _], _ => rfl) fnRounds_law hval hW hw (bl := fun _ => False) (fun _ hb => hb.elim) (LFo.exts sort_ext)
theorem fnRounds_holds : Rows.FnRoundsSaid :=
  OpenClaim.holds_of_wide 4 Try.f4 rfl rfl rfl rfl rfl rfl rfl ⟨rfl, rfl, rfl, rfl, rfl⟩ rfl rfl rfl rfl rfl (by kernel_rfl) Try.func4 (by kernel_rfl)
    (of_decide_eq_true (by kernel_rfl)) (by unfold Func.isWrapper; rw [if_neg (by decide +kernel)]; exact ⟨rfl, rfl⟩)
    (fun os started H enc _ => fnRounds_lifted os started H enc)
#print axioms fnRounds_holds
end Go.Proofs.Ytpfgohcppijiiaa
