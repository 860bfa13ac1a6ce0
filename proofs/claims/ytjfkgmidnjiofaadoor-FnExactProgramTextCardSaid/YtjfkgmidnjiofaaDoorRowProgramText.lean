/- The law FnExactProgramText returns true for all arguments, in every run, and leaves its arguments as they were; no conditions. The library's table of powers of ten is as the program's text lays it: the card ties it. -/
import Derived.Test.YtjfkgmidnjiofaaDoorEProgramText
import Derived.Test.YtjfkgmidnjiofaaDoorRows
import Derived.Test.YtjfkgmidnjiofaaDoorTie
import Derived.Test.YtjfkgmidnjiofaaDoorCards
import Derived.ProofKit
import Derived.LaidMore
import Derived.OpenShut
import Derived.Stop.Joined
import Derived.Stop.LaidErr
import Derived.Lib.LaidTab
import Derived.Shelf.Strings.OnBuilder
import Derived.Shelf.LaysM
import Derived.Shelf.Strconv.Itoa4
import Derived.WalkKit
namespace Go.Proofs
open Go.Shelf
def Tryd.lays156_ren : Go.Shelf.Ren := ⟨fun | 156 => 38 | 165 => 67 | 166 => 31 | 169 => 33 | 240 => 55 | 241 => 90 | 276 => 83 | 277 => 101 | n => n, fun | 31 => 75 | 9 => 9 | 3 => 3 | 4 => 4 | 0 => 0 | 20 => 20 | 72 => 67 | 76 => 70 | 70 => 64 | 37 => 65 | 75 => 69 | 127 => 104 | 164 => 124 | 5 => 5 | 80 => 73 | n => n, fun | n => n⟩
theorem Tryd.lays156 : Go.Proofs.Lays.n156 Tryd.prog Tryd.lays156_ren := {
  mixed := by kernel_rfl
  f156 := Tryd.func38.trans (congrArg some (by kernel_rfl))
  f165 := Tryd.func67.trans (congrArg some (by kernel_rfl))
  f166 := Tryd.func31.trans (congrArg some (by kernel_rfl))
  f169 := Tryd.func33.trans (congrArg some (by kernel_rfl))
  f240 := Tryd.func55.trans (congrArg some (by kernel_rfl))
  f241 := Tryd.func90.trans (congrArg some (by kernel_rfl))
  f276 := Tryd.func83.trans (congrArg some (by kernel_rfl))
  f277 := Tryd.func101.trans (congrArg some (by kernel_rfl))
  t0 := Tryd.underlying0
  a0 := Tryd.isAgg0
  z0 := Tryd.sizeOf0
  v0 := Tryd.zeroValue0
  t3 := Tryd.underlying3
  a3 := Tryd.isAgg3
  z3 := Tryd.sizeOf3
  v3 := Tryd.zeroValue3
  t4 := Tryd.underlying4
  a4 := Tryd.isAgg4
  z4 := Tryd.sizeOf4
  v4 := Tryd.zeroValue4
  t9 := Tryd.underlying9
  a9 := Tryd.isAgg9
  z9 := Tryd.sizeOf9
  v9 := Tryd.zeroValue9
  t20 := Tryd.underlying20
  a20 := Tryd.isAgg20
  z20 := Tryd.sizeOf20
  v20 := Tryd.zeroValue20
  t31 := Tryd.underlying75
  a31 := Tryd.isAgg75
  z31 := Tryd.sizeOf75
  v31 := Tryd.zeroValue75
  t37 := Tryd.underlying65
  a37 := Tryd.isAgg65
  z37 := Tryd.sizeOf65
  v37 := Tryd.zeroValue65
  t70 := Tryd.underlying64
  a70 := Tryd.isAgg64
  z70 := Tryd.sizeOf64
  v70 := Tryd.zeroValue64
  t72 := Tryd.underlying67
  a72 := Tryd.isAgg67
  z72 := Tryd.sizeOf67
  v72 := Tryd.zeroValue67
  t75 := Tryd.underlying69
  a75 := Tryd.isAgg69
  z75 := Tryd.sizeOf69
  v75 := Tryd.zeroValue69
  t76 := Tryd.underlying70
  a76 := Tryd.isAgg70
  z76 := Tryd.sizeOf70
  v76 := Tryd.zeroValue70
  t127 := Tryd.underlying104
  a127 := Tryd.isAgg104
  z127 := Tryd.sizeOf104
  v127 := Tryd.zeroValue104
  t164 := Tryd.underlying124
  a164 := Tryd.isAgg124
  z164 := Tryd.sizeOf124
  v164 := Tryd.zeroValue124 }
theorem Tryd.Builder_Extra_156 : Builder.Extra Tryd.prog Tryd.lays156_ren := {
  sizeBuilder := by kernel_rfl
  liesBuilder := by kernel_rfl
  t5 := Tryd.underlying5
  a5 := Tryd.isAgg5
  z5 := Tryd.sizeOf5
  v5 := Tryd.zeroValue5
  infoByte := by kernel_rfl
  cellsByte := by kernel_rfl
  sizeByte := by kernel_rfl
  neB5 := by decide }
open Go.RowKit in
/-- No element: the empty string; the world is as it was. (Whatever the slice's address and capacity: a nil slice too.) (LAID: no walk: one application.) -/
theorem Tryd.strings_Join_none (a : Option Addr) (c : Nat) (sep : ByteArray) (w : World) :
    Calls Tryd.prog 38 #[.slice a 0 c, .string sep] w fun e w' => e = .returned (.string ⟨#[]⟩) ∧ w' = w := Any.strings_Join_none Tryd.lays156 Tryd.Builder_Extra_156 a c sep w
open Go.RowKit in
/-- strings.Join: "Join concatenates the elements of its first argument to create a single string. The separator string sep is placed between elements in the resulting string.": HOWEVER MANY ELEMENTS. Below the heap's end the world is as it was. (LAID: no walk: one application.) -/
theorem Tryd.strings_Join (bk o c : Nat) (xs : List ByteArray) (sep : ByteArray) (w : World) (hcells : ∀ (j : Nat) x, xs[j]? = some x → w.cell? ⟨bk, o + j, none⟩ = some (.string x)) (hbk : bk < w.heap.size) (hN : xs.length ≤ 140737488355328) (hcap : xs.length ≤ c) (hlen : (Lib.join (xs.map (·.data.toList)) sep.data.toList).length ≤ 140737488355328) :
    Calls Tryd.prog 38 #[.slice (some ⟨bk, o, none⟩) xs.length c, .string sep] w fun e w' => e = .returned (.string ⟨(Lib.join (xs.map (·.data.toList)) sep.data.toList).toArray⟩) ∧ Below w.heap.size w w' := Any.strings_Join Tryd.lays156 Tryd.Builder_Extra_156 bk o c xs sep w hcells hbk hN hcap hlen
def Tryd.laysM173_ren : Go.Shelf.Ren := ⟨fun | 173 => 66 | 246 => 89 | 283 => 94 | 284 => 95 | 285 => 96 | 286 => 97 | 129 => 105 | 317 => 104 | 318 => 106 | 319 => 107 | 320 => 108 | 337 => 109 | 338 => 110 | n => n, fun | 2 => 2 | 3 => 3 | 9 => 9 | 4 => 4 | 171 => 136 | 0 => 0 | 53 => 22 | 37 => 65 | 5 => 5 | 173 => 139 | 212 => 150 | 51 => 141 | 20 => 20 | 213 => 151 | 46 => 101 | 232 => 155 | 233 => 156 | n => n, fun | 17 => 0 | 18 => 2 | 19 => 3 | n => n⟩
theorem Tryd.laysM173 : Go.Proofs.LaysM.n173 Tryd.prog Tryd.laysM173_ren := {
  mixed := by kernel_rfl
  f129 := Tryd.func105.trans (congrArg some (by kernel_rfl))
  f173 := Tryd.func66.trans (congrArg some (by kernel_rfl))
  f246 := Tryd.func89.trans (congrArg some (by kernel_rfl))
  f283 := Tryd.func94.trans (congrArg some (by kernel_rfl))
  f284 := Tryd.func95.trans (congrArg some (by kernel_rfl))
  f285 := Tryd.func96.trans (congrArg some (by kernel_rfl))
  f286 := Tryd.func97.trans (congrArg some (by kernel_rfl))
  f317 := Tryd.func104.trans (congrArg some (by kernel_rfl))
  f318 := Tryd.func106.trans (congrArg some (by kernel_rfl))
  f319 := Tryd.func107.trans (congrArg some (by kernel_rfl))
  f320 := Tryd.func108.trans (congrArg some (by kernel_rfl))
  f337 := Tryd.func109.trans (congrArg some (by kernel_rfl))
  f338 := Tryd.func110.trans (congrArg some (by kernel_rfl))
  t0 := Tryd.underlying0
  a0 := Tryd.isAgg0
  z0 := Tryd.sizeOf0
  v0 := Tryd.zeroValue0
  t2 := Tryd.underlying2
  a2 := Tryd.isAgg2
  z2 := Tryd.sizeOf2
  v2 := Tryd.zeroValue2
  t3 := Tryd.underlying3
  a3 := Tryd.isAgg3
  z3 := Tryd.sizeOf3
  v3 := Tryd.zeroValue3
  t4 := Tryd.underlying4
  a4 := Tryd.isAgg4
  z4 := Tryd.sizeOf4
  v4 := Tryd.zeroValue4
  t5 := Tryd.underlying5
  a5 := Tryd.isAgg5
  z5 := Tryd.sizeOf5
  v5 := Tryd.zeroValue5
  t9 := Tryd.underlying9
  a9 := Tryd.isAgg9
  z9 := Tryd.sizeOf9
  v9 := Tryd.zeroValue9
  t20 := Tryd.underlying20
  a20 := Tryd.isAgg20
  z20 := Tryd.sizeOf20
  v20 := Tryd.zeroValue20
  t37 := Tryd.underlying65
  a37 := Tryd.isAgg65
  z37 := Tryd.sizeOf65
  v37 := Tryd.zeroValue65
  t46 := Tryd.underlying101
  a46 := Tryd.isAgg101
  z46 := Tryd.sizeOf101
  v46 := Tryd.zeroValue101
  t51 := Tryd.underlying141
  a51 := Tryd.isAgg141
  z51 := Tryd.sizeOf141
  v51 := Tryd.zeroValue141
  t53 := Tryd.underlying22
  a53 := Tryd.isAgg22
  z53 := Tryd.sizeOf22
  v53 := Tryd.zeroValue22
  t171 := Tryd.underlying136
  a171 := Tryd.isAgg136
  z171 := Tryd.sizeOf136
  v171 := Tryd.zeroValue136
  t173 := Tryd.underlying139
  a173 := Tryd.isAgg139
  z173 := Tryd.sizeOf139
  v173 := Tryd.zeroValue139
  t212 := Tryd.underlying150
  a212 := Tryd.isAgg150
  z212 := Tryd.sizeOf150
  v212 := Tryd.zeroValue150
  t213 := Tryd.underlying151
  a213 := Tryd.isAgg151
  z213 := Tryd.sizeOf151
  t232 := Tryd.underlying155
  a232 := Tryd.isAgg155
  z232 := Tryd.sizeOf155
  v232 := Tryd.zeroValue155
  t233 := Tryd.underlying156
  a233 := Tryd.isAgg156
  z233 := Tryd.sizeOf156
  v233 := Tryd.zeroValue156
  g17 := by kernel_rfl
  g18 := by kernel_rfl
  g19 := by kernel_rfl
  i0 := by kernel_rfl
  i2 := by kernel_rfl
  i3 := by kernel_rfl
  i4 := by kernel_rfl
  i5 := by kernel_rfl
  i9 := by kernel_rfl
  i20 := by kernel_rfl
  i37 := by kernel_rfl
  i46 := by kernel_rfl
  i51 := by kernel_rfl
  i53 := by kernel_rfl
  i171 := by kernel_rfl
  i173 := by kernel_rfl
  i212 := by kernel_rfl
  i232 := by kernel_rfl
  i233 := by kernel_rfl
  m17 := by kernel_rfl
  m18 := by kernel_rfl
  m19 := by kernel_rfl }
open Go.RowKit Go.Sort Go.Lib in
/-- strconv.FormatInt: "FormatInt returns the string representation of i in the given base": AT BASE 10: i's decimal numeral, for every int64. (LAID: no walk: one application.) -/
theorem Tryd.strconv_FormatInt_10 (n : Int) (h0 : -9223372036854775808 ≤ n) (h1 : n ≤ 9223372036854775807) (w : World) (htab : Lib.TabIs Tryd.prog w "internal/strconv.uint64pow10" .u64 Lib.pow10Tab) :
    Calls Tryd.prog 66 #[.int .i64 n, .int .i64 10] w fun e w' => e = .returned (.string ⟨(Lib.itoa n).toArray⟩) ∧ ∃ k os, w' = grow (w.drewN k) os := Any.strconv_FormatInt_10 Tryd.laysM173 n h0 h1 w htab
end Go.Proofs
namespace Go.Proofs.YtjfkgmidnjiofaaDoor
open Go Go.Fw Go.Proofs Go.RowKit
theorem fi_ext {L : Laid} (hL : ∀ w, L.on w → Lib.TabIs Tryd.prog w "internal/strconv.uint64pow10" .u64 Lib.pow10Tab) : ExtOk Tryd.prog L LProgramText.I66 := by
  refine extOk_of (I := LProgramText.I66) (g := fun x => if x.2.1 = 10 ∧ -9223372036854775808 ≤ x.1 ∧ x.1 ≤ 9223372036854775807 then some (((⟨(Lib.itoa x.1).toArray⟩ : ByteArray), ()), ()) else none) (fn := Tryd.f66) (code := bd Tryd.f66) rfl Tryd.func66 (by kernel_rfl) (by kernel_rfl) ?_
  intro x r o w vals okc Fs hg hA hok hon
  obtain ⟨a, b, u⟩ := x
  change Int at a
  change Int at b
  obtain ⟨c1, v1, F1, F2, e1, e2, h1, c2, v2, F3, F4, e3, e4, h2, e5, e6⟩ := hA
  simp only [ShR, Rep] at h1 h2
  obtain ⟨_, rfl⟩ := h1
  obtain ⟨_, rfl⟩ := h2
  split at hg
  · rename_i hx
    have hx : b = 10 ∧ -9223372036854775808 ≤ a ∧ a ≤ 9223372036854775807 := hx
    obtain ⟨rfl, ha, hb⟩ := hx
    injection hg with hg
    injection hg with h1 h2
    subst h1
    subst e5
    subst e3
    subst e1
    refine (Tryd.strconv_FormatInt_10 a ha hb w (hL w hon)).mono fun e w' ⟨he, k, os, hw⟩ => ?_
    subst hw
    refine ⟨_, he, post_plain (xs := [.string ⟨(Lib.itoa a).toArray⟩]) ?_ ?_ hok ?_⟩
    · exact ⟨[.string ⟨(Lib.itoa a).toArray⟩], [], [], [], rfl, rfl, ⟨rfl, rfl⟩, rfl, rfl⟩
    · exact ⟨_, _, rfl, _, _, rfl, rfl⟩
    · exact keptBut_below rfl rfl rfl (by simp [Go.Sort.grow, World.drewN]) (fun b hb => by simp [Go.Sort.grow, World.drewN, Array.getElem?_append_left hb])
  · cases hg
theorem repL_str {w : World} {ok : Nat → Prop} : ∀ {l : List ByteArray} {es : List Value}, RepL (Rep w ok .str) l es → es = l.map Value.string
  | [], _, h => h
  | n :: l, es, h => by
    obtain ⟨c, d, e, h1, h2⟩ := h
    have h1 : c = [.string n] := h1
    rw [e, h1, repL_str h2]; rfl
theorem addr_add (g j : Nat) : (⟨g, 0, none⟩ : Addr).add j = ⟨g, 0 + j, none⟩ := by unfold Addr.add; split <;> simp_all
theorem jn_ext {L : Laid} : ExtOk Tryd.prog L LProgramText.I38 := by
  refine extOk_of2 (I := LProgramText.I38) (g := fun x => if x.1.length ≤ 140737488355328 ∧ (Lib.join (x.1.map fun s => s.data.toList) x.2.1.data.toList).length ≤ 140737488355328 then some (((⟨(Lib.join (x.1.map fun s => s.data.toList) x.2.1.data.toList).toArray⟩ : ByteArray), ()), (x.1, ())) else none) (fn := Tryd.f38) (code := bd Tryd.f38) rfl Tryd.func38 (by kernel_rfl) (by kernel_rfl) ?_
  intro x r o w vals okc Fs hg hA hnd hF hok hon
  obtain ⟨l, s, u⟩ := x
  change List ByteArray at l
  change ByteArray at s
  have hA0 : ArgsR w okc [(Sh.row false .str, true), (Sh.ro .str, false)] (l, s, ()) vals Fs := hA
  have hz : ∀ (w' : World) (y : ByteArray) (ok : Nat → Prop), ShR w' ok (Sh.ro .str) y [.string y] [] := fun w' y ok => by simp [ShR, Rep]
  obtain ⟨c1, v1, F1, F2, e1, e2, h1, c2, v2, F3, F4, e3, e4, h2, e5, e6⟩ := hA
  simp only [ShR, Rep] at h1 h2
  obtain ⟨_, rfl⟩ := h2
  obtain ⟨hd, es, G1, G2, rfl, eG, hrow, hG2, hrep⟩ := h1
  have hes := repL_str (w := w) (ok := okc) hrep
  have ev : vals.toArray = #[hd, .string s] := by rw [e1, e3, e5]; rfl
  split at hg
  · rename_i hx
    have hx : l.length ≤ 140737488355328 ∧ (Lib.join (l.map fun s => s.data.toList) s.data.toList).length ≤ 140737488355328 := hx
    injection hg with hg
    injection hg with h1 h2
    subst h1
    subst h2
    obtain ⟨A, cap, ehd, hn, hlen, hc⟩ := hrow
    show Calls Tryd.prog 38 vals.toArray w _
    rw [ev, ehd]
    rcases hc with ⟨hc0, _⟩ | ⟨g, cur, te, hA1, hG1, hb, _, he⟩
    · have hl : l = [] := List.length_eq_zero_iff.1 (by omega)
      subst hl
      refine (Tryd.strings_Join_none A cap s w).mono fun e w' ⟨he, hw⟩ => ?_
      subst hw
      exact ⟨_, he, post_row rfl rfl hA0 hnd hF hok (hz _ _) rfl (KeptBut.refl _ _)⟩
    · subst hA1
      have hg : g < w.heap.size := (Array.getElem?_eq_some_iff.1 hb).1
      have hcl := cellsAt_block hb (l.length * Ty.size .str)
      rw [← he, hes] at hcl
      refine (Tryd.strings_Join g 0 cap l s w (fun j x hj => ?_) hg hx.1 hn hx.2).mono fun e w' ⟨he, hw⟩ => ?_
      · have h0 := hcl j (.string x) (by rw [List.getElem?_map, hj]; rfl)
        have hadd : (⟨g, 0, none⟩ : Addr).add j = ⟨g, 0 + j, none⟩ := addr_add g j
        rwa [hadd] at h0
      · exact ⟨_, he, post_row rfl rfl hA0 hnd hF hok (hz _ _) rfl (keptBut_below hw.os hw.tape hw.output hw.size hw.block)⟩
  · cases hg
open Go.ChangeShapes Go.WideShapes Go.ChangeAt
abbrev laidL : List (String × DataW Unit) := Rows.fnExactProgramTextRow.laid
theorem Tryd.own : ownKnob Tryd.prog.godebug = none := by kernel_rfl
theorem Tryd.laidOut : laidOutB Tryd.prog = true := by kernel_rfl
theorem gTab : Tryd.prog.globalNamed "internal/strconv.uint64pow10" = some 0 := by kernel_rfl
theorem tTab : (Tryd.prog.globals[0]?).map (·.type) = some 150 := by kernel_rfl
theorem door_met (os : Os) (args : Array Value) : laidMetH Tryd.prog laidL ((World.doorLaid Tryd.prog 400 os).forCall (fun _ _ => 0) ⟨#[], args, []⟩).memory :=
  laidMetH_of_parts3 (fuel := 8) (laidMet_of_run' 8 (by kernel_rfl) (by kernel_rfl)) (by kernel_rfl) (by kernel_rfl)
theorem tab_data : ([("internal/strconv.uint64pow10", Rows.laid_internal_strconv_uint64pow10)] : List (String × DataW Unit)) = [("internal/strconv.uint64pow10", Lib.tabData .u64 Lib.pow10Tab)] := by kernel_rfl
theorem tab_of {W : World} (h : laidMetH Tryd.prog laidL W) : Lib.TabIs Tryd.prog W "internal/strconv.uint64pow10" .u64 Lib.pow10Tab := by
  rw [MakeChecks.laidMetH_plain _ _ _ (by kernel_rfl)] at h
  have h3 : laidMet Tryd.prog [("internal/strconv.uint64pow10", Rows.laid_internal_strconv_uint64pow10)] W := h.tail.tail
  rw [tab_data] at h3
  exact Lib.tabIs_of_head gTab tTab Tryd.underlying150 Tryd.underlying22 (by kernel_rfl) (by kernel_rfl) h3
theorem tab_size {W : World} (h : Lib.TabIs Tryd.prog W "internal/strconv.uint64pow10" .u64 Lib.pow10Tab) : 0 < W.heap.size := by
  unfold Lib.TabIs World.var? at h
  rw [gTab] at h
  apply Classical.byContradiction
  intro hn
  rw [Option.bind_some, Array.getElem?_eq_none (by omega)] at h
  cases h
theorem tab_kept {W w : World} (h : laidMetH Tryd.prog laidL W) (hsz : 0 < W.heap.size) (hon : Laid.on ⟨W, fun b => b = 0⟩ w) : Lib.TabIs Tryd.prog w "internal/strconv.uint64pow10" .u64 Lib.pow10Tab := by
  have ht := tab_of h
  unfold Lib.TabIs World.var? at ht ⊢
  rw [gTab] at ht ⊢
  rw [Option.bind_some] at ht ⊢
  rw [hon.1.heap 0 hsz (by simp)]
  exact ht
theorem fnExactProgramText_law : ∀ x, DomA (LProgramText.C 5).params x → ∃ n r o, call LProgramText.T LProgramText.C n 5 x = some (r, o) ∧ IsTrue (LProgramText.C 5).res r := by
  intro x hd
  obtain ⟨x0, u⟩ := x
  obtain ⟨N, hN⟩ := Go.Cams.YtjfkgmidnjiofaaDoorLProgramText.e5 x0 hd
  exact ⟨N, _, _, hN N (Nat.le_refl _), rfl⟩
theorem fnExactProgramText_rec : (Tryd.f5.params.toList.all fun t => Tryd.prog.readableRec t && decide (t < Tryd.prog.types.size)) = true := by kernel_rfl
set_option maxRecDepth 100000 in
theorem fnExactProgramText_lifted (os : Os) (started : os.Started) (H : Type) (enc : TypeId × Value → H) :
    ReturnsInHanded {} Tryd.checked os 5 .any (fun w args => (Rows.fnExactProgramTextSpec.pre enc Tryd.prog Tryd.f5 Rows.fnExactProgramTextRow.domain false w args ∧ laidMetH Tryd.prog laidL w) ∧ sizedMet enc Tryd.prog Tryd.f5 (OpenSpec.ofChange Rows.fnExactProgramTextSpec) false w args) (Rows.fnExactProgramTextSpec.post enc Tryd.prog Tryd.f5 false true false false) := by
  refine returnsInHanded_of_change_and (C := Tryd.checked) (X := fun w _ => laidMetH Tryd.prog laidL w) (fun _ _ _ hh h => h.of_heap hh) Tryd.own started (by kernel_rfl) Tryd.func5
    (ChangeSpec.witness_shaped (enc := enc) (C := Tryd.checked) (os := os) (X := fun w _ => laidMetH Tryd.prog laidL w) false (World.doorLaid Tryd.prog 400 os) #[.agg #[.int .i16 0, .slice none 0 0]] 8 rfl (World.shaped_of_RefB (by kernel_rfl) (by kernel_rfl)) (by kernel_rfl) (by kernel_rfl) (by kernel_rfl) (door_met os _)) ?_
  intro W base args ds gs before hval hW _ hw hL _
  have hsz : 0 < W.heap.size := tab_size (tab_of hL)
  exact law_callsX LProgramText.tsOk LProgramText.insts (by kernel_rfl) Tryd.laidOut (j := 5) (by kernel_rfl) (f := 5) (fn := Tryd.f5) rfl (tb := 4) (by kernel_rfl) Tryd.underlying4 (by kernel_rfl) (fun t ht => by have := List.all_eq_true.1 fnExactProgramText_rec t ht; simp only [Bool.and_eq_true, decide_eq_true_eq] at this; exact this) rfl (fun H ds h => match ds, h with | [_], _ => rfl) fnExactProgramText_law hval hW hw (bl := fun b => b = 0) (fun b hb => by rw [hb]; exact hsz) (LProgramText.exts (fi_ext fun w hon => tab_kept hL hsz hon) jn_ext)
theorem fnExactProgramText_bare : Rows.FnExactProgramTextSaid :=
  OpenClaim.holds_of_wide 5 Tryd.f5 rfl rfl rfl rfl rfl rfl rfl ⟨rfl, rfl, rfl, rfl, rfl⟩ rfl rfl rfl rfl rfl (by kernel_rfl) Tryd.func5 (by kernel_rfl)
    (of_decide_eq_true (by kernel_rfl)) (by unfold Func.isWrapper; rw [if_neg (by decide +kernel)]; exact ⟨rfl, rfl⟩)
    (fun os started H enc _ => fnExactProgramText_lifted os started H enc)
theorem fnExactProgramText_named : Tryd.prog.funcNamed Rows.fnExactProgramTextRow.func = some 5 := by kernel_rfl
theorem fnExactProgramText_holds : Rows.FnExactProgramTextCardSaid :=
  Claim7.holds_tied_plain_at .later [] [.data, .data, .data] true (true, "fe70349e24a546d7f9cf44ed98cc458ded4291dbade35a9e7166048335620774") false
    fnExactProgramText_bare (fun _ h => by cases h) (by kernel_rfl) (fun _ h => by cases h) fnExactProgramText_row_tie rfl ⟨rfl, rfl⟩ (by kernel_rfl) rfl
    (fun f fn hf hfn => by
      obtain rfl : f = 5 := Option.some.inj (fnExactProgramText_named.symm.trans hf) |>.symm
      obtain rfl : fn = Tryd.f5 := (Option.some.inj (Tryd.func5.symm.trans hfn)).symm
      exact ⟨by kernel_rfl, fun j t ht => by
        have hm := Array.mem_of_getElem? ht
        have hall : (Tryd.f5.params.toList.all fun u => !Tryd.prog.wantsStandIn u) = true := by kernel_rfl
        exact (show Tryd.prog.wantsStandIn t = false by simpa using List.all_eq_true.1 hall t (by simpa using hm))⟩)
    (by kernel_rfl)
#print axioms fnExactProgramText_holds
end Go.Proofs.YtjfkgmidnjiofaaDoor
