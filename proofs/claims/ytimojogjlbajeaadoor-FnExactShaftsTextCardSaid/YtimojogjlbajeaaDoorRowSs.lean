/- The law FnExactShaftsText returns true for all arguments, in every run, and leaves its arguments as they were; no conditions. The library's table of powers of ten is as the program's text lays it: the card ties it. -/
import Derived.Test.YtimojogjlbajeaaDoorESs
import Derived.Test.YtimojogjlbajeaaDoorRows
import Derived.Test.YtimojogjlbajeaaDoorTie
import Derived.Test.YtimojogjlbajeaaDoorCards
import Derived.ProofKit
import Derived.LaidMore
import Derived.OpenShut
import Derived.Stop.Joined
import Derived.Stop.LaidErr
import Derived.Lib.LaidTab
import Derived.Shelf.Strings.OnBuilder
import Derived.Shelf.LaysM
import Derived.Shelf.Strconv.Itoa4
import Derived.WalkKit
namespace Go.Proofs
open Go.Shelf
def Tryd.lays156_ren : Go.Shelf.Ren := ⟨fun | 156 => 40 | 165 => 46 | 166 => 14 | 169 => 16 | 240 => 25 | 241 => 64 | 276 => 42 | 277 => 71 | n => n, fun | 31 => 73 | 9 => 9 | 3 => 3 | 4 => 4 | 0 => 0 | 20 => 20 | 72 => 40 | 76 => 43 | 70 => 37 | 37 => 38 | 75 => 42 | 127 => 63 | 164 => 76 | 5 => 5 | 80 => 46 | n => n, fun | n => n⟩
theorem Tryd.lays156 : Go.Proofs.Lays.n156 Tryd.prog Tryd.lays156_ren := {
  mixed := by kernel_rfl
  f156 := Tryd.func40.trans (congrArg some (by kernel_rfl))
  f165 := Tryd.func46.trans (congrArg some (by kernel_rfl))
  f166 := Tryd.func14.trans (congrArg some (by kernel_rfl))
  f169 := Tryd.func16.trans (congrArg some (by kernel_rfl))
  f240 := Tryd.func25.trans (congrArg some (by kernel_rfl))
  f241 := Tryd.func64.trans (congrArg some (by kernel_rfl))
  f276 := Tryd.func42.trans (congrArg some (by kernel_rfl))
  f277 := Tryd.func71.trans (congrArg some (by kernel_rfl))
  t0 := Tryd.underlying0
  a0 := Tryd.isAgg0
  z0 := Tryd.sizeOf0
  v0 := Tryd.zeroValue0
  t3 := Tryd.underlying3
  a3 := Tryd.isAgg3
  z3 := Tryd.sizeOf3
  v3 := Tryd.zeroValue3
  t4 := Tryd.underlying4
  a4 := Tryd.isAgg4
  z4 := Tryd.sizeOf4
  v4 := Tryd.zeroValue4
  t9 := Tryd.underlying9
  a9 := Tryd.isAgg9
  z9 := Tryd.sizeOf9
  v9 := Tryd.zeroValue9
  t20 := Tryd.underlying20
  a20 := Tryd.isAgg20
  z20 := Tryd.sizeOf20
  v20 := Tryd.zeroValue20
  t31 := Tryd.underlying73
  a31 := Tryd.isAgg73
  z31 := Tryd.sizeOf73
  v31 := Tryd.zeroValue73
  t37 := Tryd.underlying38
  a37 := Tryd.isAgg38
  z37 := Tryd.sizeOf38
  v37 := Tryd.zeroValue38
  t70 := Tryd.underlying37
  a70 := Tryd.isAgg37
  z70 := Tryd.sizeOf37
  v70 := Tryd.zeroValue37
  t72 := Tryd.underlying40
  a72 := Tryd.isAgg40
  z72 := Tryd.sizeOf40
  v72 := Tryd.zeroValue40
  t75 := Tryd.underlying42
  a75 := Tryd.isAgg42
  z75 := Tryd.sizeOf42
  v75 := Tryd.zeroValue42
  t76 := Tryd.underlying43
  a76 := Tryd.isAgg43
  z76 := Tryd.sizeOf43
  v76 := Tryd.zeroValue43
  t127 := Tryd.underlying63
  a127 := Tryd.isAgg63
  z127 := Tryd.sizeOf63
  v127 := Tryd.zeroValue63
  t164 := Tryd.underlying76
  a164 := Tryd.isAgg76
  z164 := Tryd.sizeOf76
  v164 := Tryd.zeroValue76 }
theorem Tryd.Builder_Extra_156 : Builder.Extra Tryd.prog Tryd.lays156_ren := {
  sizeBuilder := by kernel_rfl
  liesBuilder := by kernel_rfl
  t5 := Tryd.underlying5
  a5 := Tryd.isAgg5
  z5 := Tryd.sizeOf5
  v5 := Tryd.zeroValue5
  infoByte := by kernel_rfl
  cellsByte := by kernel_rfl
  sizeByte := by kernel_rfl
  neB5 := by decide }
open Go.RowKit in
/-- No element: the empty string; the world is as it was. (Whatever the slice's address and capacity: a nil slice too.) (LAID: no walk: one application.) -/
theorem Tryd.strings_Join_none (a : Option Addr) (c : Nat) (sep : ByteArray) (w : World) :
    Calls Tryd.prog 40 #[.slice a 0 c, .string sep] w fun e w' => e = .returned (.string ⟨#[]⟩) ∧ w' = w := Any.strings_Join_none Tryd.lays156 Tryd.Builder_Extra_156 a c sep w
open Go.RowKit in
/-- strings.Join: "Join concatenates the elements of its first argument to create a single string. The separator string sep is placed between elements in the resulting string.": HOWEVER MANY ELEMENTS. Below the heap's end the world is as it was. (LAID: no walk: one application.) -/
theorem Tryd.strings_Join (bk o c : Nat) (xs : List ByteArray) (sep : ByteArray) (w : World) (hcells : ∀ (j : Nat) x, xs[j]? = some x → w.cell? ⟨bk, o + j, none⟩ = some (.string x)) (hbk : bk < w.heap.size) (hN : xs.length ≤ 140737488355328) (hcap : xs.length ≤ c) (hlen : (Lib.join (xs.map (·.data.toList)) sep.data.toList).length ≤ 140737488355328) :
    Calls Tryd.prog 40 #[.slice (some ⟨bk, o, none⟩) xs.length c, .string sep] w fun e w' => e = .returned (.string ⟨(Lib.join (xs.map (·.data.toList)) sep.data.toList).toArray⟩) ∧ Below w.heap.size w w' := Any.strings_Join Tryd.lays156 Tryd.Builder_Extra_156 bk o c xs sep w hcells hbk hN hcap hlen
def Tryd.laysM173_ren : Go.Shelf.Ren := ⟨fun | 173 => 39 | 246 => 56 | 283 => 57 | 284 => 58 | 285 => 59 | 286 => 60 | 129 => 67 | 317 => 66 | 318 => 68 | 319 => 69 | 320 => 70 | 337 => 72 | 338 => 73 | n => n, fun | 2 => 2 | 3 => 3 | 9 => 9 | 4 => 4 | 171 => 89 | 0 => 0 | 53 => 22 | 37 => 38 | 5 => 5 | 173 => 92 | 212 => 102 | 51 => 94 | 20 => 20 | 213 => 103 | 46 => 60 | 232 => 108 | 233 => 109 | n => n, fun | 17 => 0 | 18 => 2 | 19 => 3 | n => n⟩
theorem Tryd.laysM173 : Go.Proofs.LaysM.n173 Tryd.prog Tryd.laysM173_ren := {
  mixed := by kernel_rfl
  f129 := Tryd.func67.trans (congrArg some (by kernel_rfl))
  f173 := Tryd.func39.trans (congrArg some (by kernel_rfl))
  f246 := Tryd.func56.trans (congrArg some (by kernel_rfl))
  f283 := Tryd.func57.trans (congrArg some (by kernel_rfl))
  f284 := Tryd.func58.trans (congrArg some (by kernel_rfl))
  f285 := Tryd.func59.trans (congrArg some (by kernel_rfl))
  f286 := Tryd.func60.trans (congrArg some (by kernel_rfl))
  f317 := Tryd.func66.trans (congrArg some (by kernel_rfl))
  f318 := Tryd.func68.trans (congrArg some (by kernel_rfl))
  f319 := Tryd.func69.trans (congrArg some (by kernel_rfl))
  f320 := Tryd.func70.trans (congrArg some (by kernel_rfl))
  f337 := Tryd.func72.trans (congrArg some (by kernel_rfl))
  f338 := Tryd.func73.trans (congrArg some (by kernel_rfl))
  t0 := Tryd.underlying0
  a0 := Tryd.isAgg0
  z0 := Tryd.sizeOf0
  v0 := Tryd.zeroValue0
  t2 := Tryd.underlying2
  a2 := Tryd.isAgg2
  z2 := Tryd.sizeOf2
  v2 := Tryd.zeroValue2
  t3 := Tryd.underlying3
  a3 := Tryd.isAgg3
  z3 := Tryd.sizeOf3
  v3 := Tryd.zeroValue3
  t4 := Tryd.underlying4
  a4 := Tryd.isAgg4
  z4 := Tryd.sizeOf4
  v4 := Tryd.zeroValue4
  t5 := Tryd.underlying5
  a5 := Tryd.isAgg5
  z5 := Tryd.sizeOf5
  v5 := Tryd.zeroValue5
  t9 := Tryd.underlying9
  a9 := Tryd.isAgg9
  z9 := Tryd.sizeOf9
  v9 := Tryd.zeroValue9
  t20 := Tryd.underlying20
  a20 := Tryd.isAgg20
  z20 := Tryd.sizeOf20
  v20 := Tryd.zeroValue20
  t37 := Tryd.underlying38
  a37 := Tryd.isAgg38
  z37 := Tryd.sizeOf38
  v37 := Tryd.zeroValue38
  t46 := Tryd.underlying60
  a46 := Tryd.isAgg60
  z46 := Tryd.sizeOf60
  v46 := Tryd.zeroValue60
  t51 := Tryd.underlying94
  a51 := Tryd.isAgg94
  z51 := Tryd.sizeOf94
  v51 := Tryd.zeroValue94
  t53 := Tryd.underlying22
  a53 := Tryd.isAgg22
  z53 := Tryd.sizeOf22
  v53 := Tryd.zeroValue22
  t171 := Tryd.underlying89
  a171 := Tryd.isAgg89
  z171 := Tryd.sizeOf89
  v171 := Tryd.zeroValue89
  t173 := Tryd.underlying92
  a173 := Tryd.isAgg92
  z173 := Tryd.sizeOf92
  v173 := Tryd.zeroValue92
  t212 := Tryd.underlying102
  a212 := Tryd.isAgg102
  z212 := Tryd.sizeOf102
  v212 := Tryd.zeroValue102
  t213 := Tryd.underlying103
  a213 := Tryd.isAgg103
  z213 := Tryd.sizeOf103
  t232 := Tryd.underlying108
  a232 := Tryd.isAgg108
  z232 := Tryd.sizeOf108
  v232 := Tryd.zeroValue108
  t233 := Tryd.underlying109
  a233 := Tryd.isAgg109
  z233 := Tryd.sizeOf109
  v233 := Tryd.zeroValue109
  g17 := by kernel_rfl
  g18 := by kernel_rfl
  g19 := by kernel_rfl
  i0 := by kernel_rfl
  i2 := by kernel_rfl
  i3 := by kernel_rfl
  i4 := by kernel_rfl
  i5 := by kernel_rfl
  i9 := by kernel_rfl
  i20 := by kernel_rfl
  i37 := by kernel_rfl
  i46 := by kernel_rfl
  i51 := by kernel_rfl
  i53 := by kernel_rfl
  i171 := by kernel_rfl
  i173 := by kernel_rfl
  i212 := by kernel_rfl
  i232 := by kernel_rfl
  i233 := by kernel_rfl
  m17 := by kernel_rfl
  m18 := by kernel_rfl
  m19 := by kernel_rfl }
open Go.RowKit Go.Sort Go.Lib in
/-- strconv.FormatInt: "FormatInt returns the string representation of i in the given base": AT BASE 10: i's decimal numeral, for every int64. (LAID: no walk: one application.) -/
theorem Tryd.strconv_FormatInt_10 (n : Int) (h0 : -9223372036854775808 ≤ n) (h1 : n ≤ 9223372036854775807) (w : World) (htab : Lib.TabIs Tryd.prog w "internal/strconv.uint64pow10" .u64 Lib.pow10Tab) :
    Calls Tryd.prog 39 #[.int .i64 n, .int .i64 10] w fun e w' => e = .returned (.string ⟨(Lib.itoa n).toArray⟩) ∧ ∃ k os, w' = grow (w.drewN k) os := Any.strconv_FormatInt_10 Tryd.laysM173 n h0 h1 w htab
section
open Go Go.RowKit
theorem infoByteB : (Tryd.prog.info? 5).map (fun i => (i.zero, i.size, i.bytes)) = some (some (.int .u8 0), 1, 1) := by kernel_rfl
theorem cell_setCell0 {w : World} {b : Nat} {p v q : Value} {T : TypeId} (hb : w.heap[b]? = some (.cells #[p, v] T (0, 0))) : (w.setCell ⟨b, 0, none⟩ q).heap[b]? = some (.cells #[q, v] T (0, 0)) := by
  simp [World.setCell, Array.getElem?_modify, hb]
theorem cell_setCell1 {w : World} {b : Nat} {p v q : Value} {T : TypeId} (hb : w.heap[b]? = some (.cells #[p, v] T (0, 0))) : (w.setCell ⟨b, 1, none⟩ q).heap[b]? = some (.cells #[p, q] T (0, 0)) := by
  simp [World.setCell, Array.getElem?_modify, hb]
theorem kept_setCell {w : World} {b k : Nat} {o : Nat} {q : Value} (h : k ≠ b) : (w.setCell ⟨b, o, none⟩ q).heap[k]? = w.heap[k]? := Below.heap_setCell _ _ _ _ h
/-- Nothing but the blocks of F, and new ones, has turned. -/
structure KeptF (F : List Nat) (w w' : World) : Prop where
  os : w'.os = w.os
  tape : w'.tape = w.tape
  output : w'.output = w.output
  size : w.heap.size ≤ w'.heap.size
  heap : ∀ b, b < w.heap.size → b ∉ F → w'.heap[b]? = w.heap[b]?
/-- An append of a string's bytes to a row of bytes that is owned: the row stays where it was, or lies in a new block. -/
theorem run_append_str {P : Program} (w : World) (t u ty e : TypeId) (i : TypeInfo) (ht : P.underlying t = some (.slice e)) (hu : P.underlying u = some .string) (hi : P.info? e = some i) (hz : i.zero = some (.int .u8 0)) (hsize : i.size = 1) (hby : i.bytes = 1)
    (v : Value) (n : Nat) (xs : List Value) (hown : w.ownsRow 0 e 1 v n xs) (s : ByteArray) (h63 : n + s.size ≤ maxLen) (hbytes : n + s.size ≤ 140737488355328) :
    ∃ v' w', (Builtin.append_ #[t, u] ty #[v, .string s]).run P w = .ok v' w' ∧ w'.ownsRow 0 e 1 v' (n + s.size) (xs ++ Lib.strCells s) ∧ w.grownBy w' v.ownBlock ∧ (v' = .slice none 0 0 ↔ v = .slice none 0 0 ∧ s.size = 0) ∧ (∀ k, v'.ownBlock = some k → v.ownBlock = some k ∨ w.heap.size ≤ k) := by
  obtain ⟨v', w', hr, h2, h3, h4⟩ := Lib.run_append_own_string (P := P) w 0 t u ty e i ht hu hi hz hsize hby v n xs hown s h63 hbytes (Nat.zero_le _)
  refine ⟨v', w', hr, h2, h3, h4, fun k hk => ?_⟩
  have hxl : xs.length = n := by simpa using hown.1
  rcases hown.2 with ⟨rfl, hn0⟩ | ⟨g, cap, cur, rfl, _, hg, hnc, hcm, hcs, htake⟩
  · obtain ⟨v2, w2, hr2, k2, _, _⟩ := Lib.run_append_own_string (P := P) w w.heap.size t u ty e i ht hu hi hz hsize hby (.slice none 0 0) n xs ⟨hown.1, .inl ⟨rfl, hn0⟩⟩ s h63 hbytes (Nat.le_refl _)
    rw [hr] at hr2
    injection hr2 with e1 e2
    subst e1
    rcases k2.2 with ⟨rfl, _⟩ | ⟨q, _, _, rfl, hq, _⟩
    · cases hk
    · simp only [Value.ownBlock, Option.some.injEq] at hk
      right; omega
  · by_cases hroom : n + s.size ≤ cap
    · have hcs' : cur.size = cap := by simpa using hcs
      have hr2 := Lib.run_append_room_string (P := P) w t u ty e i ht hu hi hsize g n cap cur hg s hroom (by omega)
      rw [hr] at hr2
      injection hr2 with e1 e2
      subst e1
      left
      exact hk
    · have holds : ∀ j u, xs[j]? = some u → w.cell? ((⟨g, 0, none⟩ : Addr).add j) = some u := hown.cells (g := g) rfl
      have hr2 := Lib.run_append_grow_string (P := P) w t u ty e i (.int .u8 0) ht hu hi hz ⟨g, 0, none⟩ n cap xs (by rw [hsize]; simpa using hxl) holds s (by omega) (by unfold maxLen at h63; omega) (by rw [hby]; exact growslice_fits (by omega) (by omega))
      rw [hr] at hr2
      injection hr2 with e1 e2
      subst e1
      simp only [Value.ownBlock, Option.some.injEq] at hk
      right; omega
theorem wpList_append_str {P : Program} {w : World} {ops : Array Oper} {rest : List Oper} {o : Oper} {a : Act} {Q : Exit → Act → World → Prop} (hgd : o.guard = none) (sl x : Operand) (t u : TypeId)
    (ho : o.op = .call { callee := .builtin .append, args := #[sl, x], argTypes := #[t, u] })
    (e : TypeId) (i : TypeInfo) (ht : P.underlying t = some (.slice e)) (hu : P.underlying u = some .string) (hi : P.info? e = some i) (hz : i.zero = some (.int .u8 0)) (hsize : i.size = 1) (hby : i.bytes = 1)
    (v : Value) (n : Nat) (xs : List Value) (hs : a.eval sl = v) (hown : w.ownsRow 0 e 1 v n xs) (s : ByteArray) (hx : a.eval x = .string s) (h63 : n + s.size ≤ maxLen) (hbytes : n + s.size ≤ 140737488355328)
    (h : ∀ v' w', w'.ownsRow 0 e 1 v' (n + s.size) (xs ++ Lib.strCells s) → w.grownBy w' v.ownBlock → Hid (v' = .slice none 0 0 ↔ v = .slice none 0 0 ∧ s.size = 0) → Hid (∀ k, v'.ownBlock = some k → v.ownBlock = some k ∨ w.heap.size ≤ k) → wpList P ops Q rest (a.put o.dst v') w') : wpList P ops Q (o :: rest) a w := by
  refine wpList_plain hgd fun K hK => ?_
  obtain ⟨v', w', hr, h2, h3, h4, h5⟩ := run_append_str (P := P) w t u o.type e i ht hu hi hz hsize hby v n xs hown s h63 hbytes
  unfold Oper.wp execOp
  simp only [ho, resolve, invoke, builtin, Sem.run_bind, Sem.run_pure, Result.andThen_ok, List.map_toArray, List.map_cons, List.map_nil, hs, hx, hr]
  exact hK _ _ (h v' w' h2 h3 h4 h5)
theorem bld_check (g : Nat) (p v : Value) (w : World) (hp : p = .pointer none ∨ p = .pointer (some ⟨g, 0, none⟩)) (hb : w.heap[g]? = some (.cells #[p, v] 40 (0, 0))) :
    Calls Tryd.prog 25 #[.pointer (some ⟨g, 0, none⟩)] w fun e w1 => e = .returned (.tuple #[]) ∧ (w1.heap[g]? = some (.cells #[.pointer (some ⟨g, 0, none⟩), v] 40 (0, 0)) ∧ KeptF [g] w w1) := by
  rcases hp with rfl | rfl
  · refine (Any.Builder_copyCheck_fresh (ρ := Tryd.lays156_ren) { Tryd.lays156 with } Tryd.Builder_Extra_156.toX72 g w (by rw [Lib.cell_of_heap hb]; rfl) (by simp [World.shape?, hb]; rfl) (Lib.frozen_of_heap hb 0)).mono ?_
    rintro e w1 ⟨rfl, rfl⟩
    exact ⟨rfl, cell_setCell0 hb, ⟨rfl, rfl, rfl, by simp [World.setCell], fun k _ hk => kept_setCell (by simpa using hk)⟩⟩
  · refine (Any.Builder_copyCheck_used (ρ := Tryd.lays156_ren) { Tryd.lays156 with } Tryd.Builder_Extra_156.toX72 g w (by rw [Lib.cell_of_heap hb]; rfl)).mono ?_
    rintro e w1 ⟨rfl, rfl⟩
    exact ⟨rfl, hb, ⟨rfl, rfl, rfl, Nat.le_refl _, fun _ _ _ => rfl⟩⟩
set_option maxHeartbeats 2000000 in
set_option maxRecDepth 100000 in
theorem bld_write (g : Nat) (p v : Value) (n : Nat) (bs : List Value) (s : ByteArray) (w : World) (hp : p = .pointer none ∨ p = .pointer (some ⟨g, 0, none⟩)) (hb : w.heap[g]? = some (.cells #[p, v] 40 (0, 0))) (hown : w.ownsRow 0 5 1 v n bs) (hne : v.ownBlock ≠ some g) (hlen : n + s.size ≤ 140737488355328) :
    Calls Tryd.prog 14 #[.pointer (some ⟨g, 0, none⟩), .string s] w fun e w' => e = .returned (.tuple #[.int .i64 s.size, .nilIface]) ∧ ∃ v', w'.heap[g]? = some (.cells #[.pointer (some ⟨g, 0, none⟩), v'] 40 (0, 0)) ∧ w'.ownsRow 0 5 1 v' (n + s.size) (bs ++ Lib.strCells s) ∧ (v' = .slice none 0 0 ↔ v = .slice none 0 0 ∧ s.size = 0) ∧ (∀ k, v'.ownBlock = some k → v.ownBlock = some k ∨ w.heap.size ≤ k) ∧ (∀ k, k < w.heap.size → k ≠ g → some k ≠ v.ownBlock → w'.heap[k]? = w.heap[k]?) ∧ w'.os = w.os ∧ w'.tape = w.tape ∧ w'.output = w.output ∧ w.heap.size ≤ w'.heap.size := by
  obtain ⟨i0, hi, hz0, hz1, hz2⟩ := info_parts infoByteB
  go_enter Tryd.func14, Tryd.ntmps14
  go_wp2_with (go_at_call 25; refine (bld_check g p v _ hp hb).mono ?_)
  rintro e w1 ⟨rfl, hbk, K⟩
  have hown1 : w1.ownsRow 0 5 1 v n bs := by
    refine hown.kept (row := some g) ⟨K.os, K.tape, K.output, K.size, fun k hk hk' => K.heap k hk (by simpa using fun e => hk' (by rw [e]))⟩ ?_
    exact Or.inr hne
  have c0 : w1.cell? ⟨g, 0, none⟩ = some (.pointer (some ⟨g, 0, none⟩)) := by rw [Lib.cell_of_heap hbk]; rfl
  have c1 : w1.cell? ⟨g, 1, none⟩ = some v := by rw [Lib.cell_of_heap hbk]; rfl
  go_wp2_with (at_builtin; refine wpList_append_str rfl _ _ 38 9 rfl 5 i0 Tryd.underlying38 Tryd.underlying9 hi hz0 hz1 hz2 _ _ _ rfl hown1 s rfl ?c3 ?c4 ?_)
  case c3 => unfold maxLen; omega
  case c4 => omega
  intro v' w2 hown' hgrow HN HK
  have hlt : g < w1.heap.size := (Array.getElem?_eq_some_iff.1 hbk).1
  have hb2 : w2.heap[g]? = some (.cells #[.pointer (some ⟨g, 0, none⟩), v] 40 (0, 0)) := by
    rw [hgrow.block g hlt (fun e => hne e.symm)]
    exact hbk
  have d0 : w2.cell? ⟨g, 0, none⟩ = some (.pointer (some ⟨g, 0, none⟩)) := by rw [Lib.cell_of_heap hb2]; rfl
  have d1 : w2.cell? ⟨g, 1, none⟩ = some v := by rw [Lib.cell_of_heap hb2]; rfl
  have f1 : w2.frozen? ⟨g, 1, none⟩ = false := Lib.frozen_of_heap hb2 1
  obtain ⟨ao, n', cap, rfl⟩ : ∃ ao n' cap, v' = .slice ao n' cap := by
    rcases hown'.2 with ⟨hv, _⟩ | ⟨g, cap, cur, hv, _⟩
    · exact ⟨_, _, _, hv⟩
    · exact ⟨_, _, _, hv⟩
  go_wp2
  go_ret2
  refine ⟨rfl, _, cell_setCell1 hb2, ?_, HN.out.trans (and_congr_right fun _ => ByteArray.size_eq_zero_iff.symm), fun k hk => (HK.out k hk).imp id (Nat.le_trans K.size), ?_, ?_, ?_, ?_, ?_⟩
  · have hne' := Lib.ownBlock_ne hown' hb2 (by decide)
    exact hown'.kept (row := some g) ⟨rfl, rfl, rfl, by simp [World.setCell], fun k _ hk => kept_setCell (fun e => hk (by rw [e]))⟩ (Or.inr hne')
  · intro k hk hkg hkv
    rw [kept_setCell hkg, hgrow.block k (Nat.lt_of_lt_of_le hk K.size) hkv, K.heap k hk (by simpa using hkg)]
  · exact hgrow.os.trans K.os
  · exact hgrow.tape.trans K.tape
  · exact hgrow.output.trans K.output
  · have h1 := hgrow.size
    have h2 := K.size
    simp [World.setCell]; omega
set_option maxHeartbeats 1000000 in
set_option maxRecDepth 100000 in
theorem bld_string (b g cap : Nat) (p : Value) (cur : Array Value) (l : List UInt8) (w : World) (hbk : w.heap[b]? = some (.cells #[p, .slice (some ⟨g, 0, none⟩) l.length cap] 40 (0, 0))) (hg : w.heap[g]? = some (.cells cur 5 (0, 0))) (h0 : l ≠ []) (hnc : l.length ≤ cap) (hcm : cap ≤ maxLen) (hcs : cur.size = cap) (htake : cur.toList.take l.length = Lib.byteCells l) :
    Calls Tryd.prog 16 #[.pointer (some ⟨b, 0, none⟩)] w fun e w' => e = .returned (.string ⟨l.toArray⟩) ∧ KeptF [g] w w' := by
  have hl0 : 0 < l.length := List.length_pos_iff.2 h0
  have c1 : w.drew.cell? ⟨b, 1, none⟩ = some (.slice (some ⟨g, 0, none⟩) l.length cap) := by
    have : w.drew.heap[b]? = some (.cells #[p, .slice (some ⟨g, 0, none⟩) l.length cap] 40 (0, 0)) := hbk
    rw [Lib.cell_of_heap this]; rfl
  have hSD : (Builtin.unsafeSliceData_ #[38] 63 #[.slice (some ⟨g, 0, none⟩) l.length cap]).run Tryd.prog w.drew = .ok (.pointer (some ⟨g, 0, none⟩)) w.drew :=
    Lib.run_unsafeSliceData_row _ _ _ _ _ _ (by omega)
  have hUS : (Builtin.unsafeString_ #[63, 3] 9 #[.pointer (some ⟨g, 0, none⟩), .int .i64 l.length]).run Tryd.prog w.drew = .ok (.string ⟨l.toArray⟩) (w.drew.freeze ⟨g, 0, none⟩ l.length) := by
    refine Lib.run_unsafeString_row w.drew 63 3 9 5 Tryd.underlying63 Tryd.Builder_Extra_156.cellsByte g cur.size (by have hg' : w.drew.heap[g]? = some (.cells cur 5 (0, 0)) := hg; simp [World.shape?, hg']) l h0 (by omega) (by unfold maxLen at hcm; omega) ?_
    intro j x hx
    have hg' : w.drew.heap[g]? = some (.cells cur 5 (0, 0)) := hg
    have e : (⟨g, 0, none⟩ : Addr).add j = ⟨g, j, none⟩ := by unfold Addr.add; split <;> simp_all
    rw [e, Lib.cell_of_heap hg']
    have hj : j < l.length := (List.getElem?_eq_some_iff.1 hx).1
    have h1 : (cur.toList.take l.length)[j]? = some (.int .u8 x.toNat) := by rw [htake]; simp [Lib.byteCells, hx]
    rw [List.getElem?_take_of_lt hj] at h1
    simpa using h1
  go_enter Tryd.func16, Tryd.ntmps16
  go_wp2
  go_region
  all_goals (go_wp2; go_ret)
  all_goals
    refine ⟨rfl, ?_⟩
    have hz : (w.drew.freeze ⟨g, 0, none⟩ l.length).heap.size = w.heap.size := by
      unfold World.freeze
      split
      · rfl
      · simp
    have hh : ∀ k, k ≠ g → (w.drew.freeze ⟨g, 0, none⟩ l.length).heap[k]? = w.heap[k]? := fun k hk => by
      unfold World.freeze
      split
      · rfl
      · simp only [Array.getElem?_modify]
        rw [if_neg (fun e => hk e.symm)]
        rfl
    exact ⟨by unfold World.freeze; split <;> rfl, by unfold World.freeze; split <;> rfl, by unfold World.freeze; split <;> rfl, by rw [hz]; exact Nat.le_refl _, fun k _ hk => hh k (by simpa using hk)⟩
end
end Go.Proofs
namespace Go.Proofs.YtimojogjlbajeaaDoor
open Go Go.Fw Go.Proofs Go.RowKit
theorem fi_ext {L : Laid} (hL : ∀ w, L.on w → Lib.TabIs Tryd.prog w "internal/strconv.uint64pow10" .u64 Lib.pow10Tab) : ExtOk Tryd.prog L LSs.I39 := by
  refine extOk_of (I := LSs.I39) (g := fun x => if x.2.1 = 10 ∧ -9223372036854775808 ≤ x.1 ∧ x.1 ≤ 9223372036854775807 then some (((⟨(Lib.itoa x.1).toArray⟩ : ByteArray), ()), ()) else none) (fn := Tryd.f39) (code := bd Tryd.f39) rfl Tryd.func39 (by kernel_rfl) (by kernel_rfl) ?_
  intro x r o w vals okc Fs hg hA hok hon
  obtain ⟨a, b, u⟩ := x
  change Int at a
  change Int at b
  obtain ⟨c1, v1, F1, F2, e1, e2, h1, c2, v2, F3, F4, e3, e4, h2, e5, e6⟩ := hA
  simp only [ShR, Rep] at h1 h2
  obtain ⟨_, rfl⟩ := h1
  obtain ⟨_, rfl⟩ := h2
  split at hg
  · rename_i hx
    have hx : b = 10 ∧ -9223372036854775808 ≤ a ∧ a ≤ 9223372036854775807 := hx
    obtain ⟨rfl, ha, hb⟩ := hx
    injection hg with hg
    injection hg with h1 h2
    subst h1
    subst e5
    subst e3
    subst e1
    refine (Tryd.strconv_FormatInt_10 a ha hb w (hL w hon)).mono fun e w' ⟨he, k, os, hw⟩ => ?_
    subst hw
    refine ⟨_, he, post_plain (xs := [.string ⟨(Lib.itoa a).toArray⟩]) ?_ ?_ hok ?_⟩
    · exact ⟨[.string ⟨(Lib.itoa a).toArray⟩], [], [], [], rfl, rfl, ⟨rfl, rfl⟩, rfl, rfl⟩
    · exact ⟨_, _, rfl, _, _, rfl, rfl⟩
    · exact keptBut_below rfl rfl rfl (by simp [Go.Sort.grow, World.drewN]) (fun b hb => by simp [Go.Sort.grow, World.drewN, Array.getElem?_append_left hb])
  · cases hg
theorem repL_str {w : World} {ok : Nat → Prop} : ∀ {l : List ByteArray} {es : List Value}, RepL (Rep w ok .str) l es → es = l.map Value.string
  | [], _, h => h
  | n :: l, es, h => by
    obtain ⟨c, d, e, h1, h2⟩ := h
    have h1 : c = [.string n] := h1
    rw [e, h1, repL_str h2]; rfl
theorem addr_add (g j : Nat) : (⟨g, 0, none⟩ : Addr).add j = ⟨g, 0 + j, none⟩ := by unfold Addr.add; split <;> simp_all
theorem jn_ext {L : Laid} : ExtOk Tryd.prog L LSs.I40 := by
  refine extOk_of2 (I := LSs.I40) (g := fun x => if x.1.length ≤ 140737488355328 ∧ (Lib.join (x.1.map fun s => s.data.toList) x.2.1.data.toList).length ≤ 140737488355328 then some (((⟨(Lib.join (x.1.map fun s => s.data.toList) x.2.1.data.toList).toArray⟩ : ByteArray), ()), (x.1, ())) else none) (fn := Tryd.f40) (code := bd Tryd.f40) rfl Tryd.func40 (by kernel_rfl) (by kernel_rfl) ?_
  intro x r o w vals okc Fs hg hA hnd hF hok hon
  obtain ⟨l, s, u⟩ := x
  change List ByteArray at l
  change ByteArray at s
  have hA0 : ArgsR w okc [(Sh.row false .str, true), (Sh.ro .str, false)] (l, s, ()) vals Fs := hA
  have hz : ∀ (w' : World) (y : ByteArray) (ok : Nat → Prop), ShR w' ok (Sh.ro .str) y [.string y] [] := fun w' y ok => by simp [ShR, Rep]
  obtain ⟨c1, v1, F1, F2, e1, e2, h1, c2, v2, F3, F4, e3, e4, h2, e5, e6⟩ := hA
  simp only [ShR, Rep] at h1 h2
  obtain ⟨_, rfl⟩ := h2
  obtain ⟨hd, es, G1, G2, rfl, eG, hrow, hG2, hrep⟩ := h1
  have hes := repL_str (w := w) (ok := okc) hrep
  have ev : vals.toArray = #[hd, .string s] := by rw [e1, e3, e5]; rfl
  split at hg
  · rename_i hx
    have hx : l.length ≤ 140737488355328 ∧ (Lib.join (l.map fun s => s.data.toList) s.data.toList).length ≤ 140737488355328 := hx
    injection hg with hg
    injection hg with h1 h2
    subst h1
    subst h2
    obtain ⟨A, cap, ehd, hn, hlen, hc⟩ := hrow
    show Calls Tryd.prog 40 vals.toArray w _
    rw [ev, ehd]
    rcases hc with ⟨hc0, _⟩ | ⟨g, cur, te, hA1, hG1, hb, _, he⟩
    · have hl : l = [] := List.length_eq_zero_iff.1 (by omega)
      subst hl
      refine (Tryd.strings_Join_none A cap s w).mono fun e w' ⟨he, hw⟩ => ?_
      subst hw
      exact ⟨_, he, post_row rfl rfl hA0 hnd hF hok (hz _ _) rfl (KeptBut.refl _ _)⟩
    · subst hA1
      have hg : g < w.heap.size := (Array.getElem?_eq_some_iff.1 hb).1
      have hcl := cellsAt_block hb (l.length * Ty.size .str)
      rw [← he, hes] at hcl
      refine (Tryd.strings_Join g 0 cap l s w (fun j x hj => ?_) hg hx.1 hn hx.2).mono fun e w' ⟨he, hw⟩ => ?_
      · have h0 := hcl j (.string x) (by rw [List.getElem?_map, hj]; rfl)
        have hadd : (⟨g, 0, none⟩ : Addr).add j = ⟨g, 0 + j, none⟩ := addr_add g j
        rwa [hadd] at h0
      · exact ⟨_, he, post_row rfl rfl hA0 hnd hF hok (hz _ _) rfl (keptBut_below hw.os hw.tape hw.output hw.size hw.block)⟩
  · cases hg
theorem strOwn {w : World} {g : Nat} {x : ByteArray} {v : Value} {F : List Nat} (h : (v = .slice none 0 0 ∧ x.size = 0 ∧ F = []) ∨ ∃ b cap cur, 0 < x.size ∧ v = .slice (some ⟨b, 0, none⟩) x.size cap ∧ F = [b] ∧ b ≠ g ∧ w.heap[b]? = some (.cells cur 5 (0, 0)) ∧ x.size ≤ cap ∧ cap ≤ maxLen ∧ cur.size = cap ∧ cur.toList.take x.size = x.data.toList.map (fun c => Value.int .u8 c.toNat)) :
    w.ownsRow 0 5 1 v x.size (Lib.strCells x) ∧ v.ownBlock ≠ some g ∧ (∀ k, some k = v.ownBlock → k ∈ F) := by
  have hl : (Lib.strCells x).length = x.size * 1 := by rw [Lib.strCells_length, Nat.mul_one]
  rcases h with ⟨rfl, hx, rfl⟩ | ⟨b, cap, cur, h0, rfl, rfl, hne, hb, h1, h2, h3, h4⟩
  · exact ⟨⟨hl, .inl ⟨rfl, hx⟩⟩, by simp [Value.ownBlock], by simp [Value.ownBlock]⟩
  · refine ⟨⟨hl, .inr ⟨b, cap, cur, rfl, Nat.zero_le _, hb, h1, h2, by rw [Nat.mul_one]; exact h3, by rw [Nat.mul_one, h4]; rfl⟩⟩, by simpa [Value.ownBlock] using hne, by simp [Value.ownBlock]⟩
theorem bw_ext {L : Laid} : ExtOk Tryd.prog L LSs.I14 := by
  refine extOk_of2 (I := LSs.I14) (g := fun x => if x.1.size + x.2.1.size ≤ 140737488355328 then some ((((x.2.1.size : Nat) : Int), false, ()), (x.1 ++ x.2.1, ())) else none) (fn := Tryd.f14) (code := bd Tryd.f14) rfl Tryd.func14 (by kernel_rfl) (by kernel_rfl) ?_
  intro x r o w vals okc Fs hg hA hnd hF hok hon
  obtain ⟨a, b, u⟩ := x
  change ByteArray at a
  change ByteArray at b
  obtain ⟨c1, v1, F1, F2, e1, e2, h1, c2, v2, F3, F4, e3, e4, h2, e5, e6⟩ := hA
  simp only [ShR, Rep] at h1 h2
  obtain ⟨g, F', rfl, rfl, hb⟩ := h1
  obtain ⟨rfl, rfl⟩ := h2
  have ev : vals = [.pointer (some ⟨g, 0, none⟩), .string b] := by rw [e1, e3, e5]; rfl
  subst ev
  have eF : Fs = g :: F' := by rw [e2, e4, e6]; simp
  subst eF
  split at hg
  · rename_i hx
    have hx : a.size + b.size ≤ 140737488355328 := hx
    injection hg with hg
    injection hg with hg1 hg2
    subst hg1
    subst hg2
    have hb : BldOk w 40 5 g a F' := hb
    have hlt := hb.lt
    obtain ⟨p, v, hgb, hp, hv⟩ := hb
    obtain ⟨hown, hne, hvF⟩ := strOwn hv
    refine (bld_write g p v a.size (Lib.strCells a) b w hp hgb hown hne hx).mono fun e w' ⟨he, v', k1, k2, k3, kb, k4, os, tape, out, hz⟩ => ?_
    have hsz : (a ++ b).size = a.size + b.size := ByteArray.size_append
    have hcells : Lib.strCells a ++ Lib.strCells b = (a ++ b).data.toList.map (fun c => Value.int .u8 c.toNat) := by
      unfold Lib.strCells
      rw [← List.map_append]
      congr 1
    have hnew : ∃ F'', BldOk w' 40 5 g (a ++ b) F'' ∧ ∀ k ∈ F'', k ∈ F' ∨ w.heap.size ≤ k := by
      rcases k2.2 with ⟨hv', hn0⟩ | ⟨q, cap, cur, hv', _, hq, hn, hm, hs, ht⟩
      · exact ⟨[], ⟨_, v', k1, .inr rfl, .inl ⟨hv', by rw [hsz]; exact hn0, rfl⟩⟩, by simp⟩
      · have hqg : q ≠ g := by
          rintro rfl
          rw [hq] at k1
          injection k1 with k1
          injection k1 with _ k1
          exact absurd k1 (by decide)
        have hpos : 0 < (a ++ b).size := by
          rcases Nat.eq_zero_or_pos (a ++ b).size with h0 | h0
          · rw [hsz] at h0
            have hv0 : v = .slice none 0 0 := by
              rcases hv with ⟨h, _⟩ | ⟨_, _, _, h, _⟩
              · exact h
              · omega
            have := k3.2 ⟨hv0, by omega⟩
            rw [this] at hv'
            cases hv'
          · exact h0
        refine ⟨[q], ⟨_, v', k1, .inr rfl, .inr ⟨q, cap, cur, hpos, by rw [hsz]; exact hv', rfl, hqg, hq, by rw [hsz]; exact hn, hm, by rw [hs, Nat.mul_one], by rw [← hcells, ← ht, hsz, Nat.mul_one]⟩⟩, fun k hk => ?_⟩
        rw [List.mem_singleton.1 hk]
        exact (kb q (by rw [hv']; rfl)).imp (fun h => hvF q h.symm) id
    obtain ⟨F'', hB, hsub⟩ := hnew
    have hltn := hB.lt
    have hndn := hB.nd
    refine ⟨_, he, [.int .i64 b.size, .nilIface], [], g :: F'', okc, rfl, ⟨[.int .i64 b.size], [.nilIface], [], [], rfl, rfl, ⟨rfl, rfl⟩, [.nilIface], [], [], [], rfl, rfl, ⟨rfl, .inl ⟨rfl, rfl⟩⟩, rfl, rfl⟩, ⟨[.pointer (some ⟨g, 0, none⟩)], _, g :: F'', [], rfl, by simp, ?_, _, _, rfl, rfl⟩, by simpa using hndn, fun k hk => ?_, fun k hk => ?_, ⟨os, tape, out, hz, fun k hk hn => k4 k hk (fun e => hn (by simp [e])) (fun e => hn (by simp [hvF k e]))⟩⟩
    · simp only [ShR]
      exact ⟨g, F'', rfl, rfl, hB⟩
    · have hk : k ∈ g :: F'' := by simpa using hk
      refine ⟨hltn k hk, ?_⟩
      rcases List.mem_cons.1 hk with rfl | hk
      · right; simp
      · rcases hsub k hk with h | h
        · right; simp [h]
        · left; exact h
    · have hk0 := hok k hk
      refine ⟨Nat.lt_of_lt_of_le hk0 hz, .inl hk, fun hm => ?_⟩
      have hm : k ∈ g :: F'' := by simpa using hm
      rcases List.mem_cons.1 hm with rfl | hm
      · exact (hF _ (by simp)).2 hk
      · rcases hsub k hm with h | h
        · exact (hF k (by simp [h])).2 hk
        · omega
  · cases hg
theorem bs_ext {L : Laid} : ExtOk Tryd.prog L LSs.I16 := by
  refine extOk_of2 (I := LSs.I16) (g := fun x => some ((x.1, ()), ())) (fn := Tryd.f16) (code := bd Tryd.f16) rfl Tryd.func16 (by kernel_rfl) (by kernel_rfl) ?_
  intro x r o w vals okc Fs hg hA hnd hF hok hon
  obtain ⟨a, u⟩ := x
  change ByteArray at a
  obtain ⟨c1, v1, F1, F2, e1, e2, h1, e5, e6⟩ := hA
  simp only [ShR] at h1
  obtain ⟨g, F', rfl, rfl, hb⟩ := h1
  have ev : vals = [.pointer (some ⟨g, 0, none⟩)] := by rw [e1, e5]; rfl
  subst ev
  have eF : Fs = g :: F' := by rw [e2, e6]; simp
  subst eF
  injection hg with hg
  injection hg with hg1 hg2
  subst hg1
  have hb : BldOk w 40 5 g a F' := hb
  obtain ⟨p, v, hgb, hp, hv⟩ := hb
  have fin : ∀ (e : Ending) (w' : World), e = .returned (.string a) → KeptBut (· ∈ g :: F') w w' → ∃ z, e = .returned z ∧ Post w okc (g :: F') (LSs.I16).params (LSs.I16).res (a, ()) o [.pointer (some ⟨g, 0, none⟩)] z w' := fun e w' he hk => by
    refine ⟨_, he, post_plain (xs := [.string a]) ?_ ?_ hok hk⟩
    · exact ⟨[.string a], [], [], [], rfl, rfl, ⟨rfl, rfl⟩, rfl, rfl⟩
    · exact ⟨_, _, rfl, rfl⟩
  rcases hv with ⟨rfl, hx, rfl⟩ | ⟨b, cap, cur, hpos, rfl, rfl, hne, hbb, hn, hm, hs, ht⟩
  · refine (Any.Builder_String_nil (ρ := Tryd.lays156_ren) { Tryd.lays156 with } Tryd.Builder_Extra_156 w.heap.size g p w hgb).mono fun e w' ⟨he, hB⟩ => fin e w' ?_ (keptBut_below hB.os hB.tape hB.output hB.size hB.block)
    rw [he]
    have : a = ⟨#[]⟩ := ByteArray.size_eq_zero_iff.1 hx
    rw [this]
  · have hl : a.data.toList.length = a.size := by rw [Array.length_toList]; rfl
    have hne0 : a.data.toList ≠ [] := fun e => by rw [e] at hl; simp at hl; omega
    refine (bld_string g b cap p cur a.data.toList w (by rw [hl]; exact hgb) hbb hne0 (by rw [hl]; exact hn) hm hs (by rw [hl]; exact ht)).mono fun e w' ⟨he, K⟩ => fin e w' ?_ ⟨K.os, K.tape, K.output, K.size, fun k hk hn' => K.heap k hk (fun h => hn' (by rw [List.mem_singleton.1 h]; simp))⟩
    rw [he]
open Go.ChangeShapes Go.WideShapes Go.ChangeAt
abbrev laidL : List (String × DataW Unit) := Rows.fnExactShaftsTextRow.laid
theorem Tryd.own : ownKnob Tryd.prog.godebug = none := by kernel_rfl
theorem Tryd.laidOut : laidOutB Tryd.prog = true := by kernel_rfl
theorem gTab : Tryd.prog.globalNamed "internal/strconv.uint64pow10" = some 0 := by kernel_rfl
theorem tTab : (Tryd.prog.globals[0]?).map (·.type) = some 102 := by kernel_rfl
theorem door_met (os : Os) (args : Array Value) : laidMetH Tryd.prog laidL ((World.doorLaid Tryd.prog 400 os).forCall (fun _ _ => 0) ⟨#[], args, []⟩).memory :=
  laidMetH_of_parts3 (fuel := 8) (laidMet_of_run' 8 (by kernel_rfl) (by kernel_rfl)) (by kernel_rfl) (by kernel_rfl)
theorem tab_data : ([("internal/strconv.uint64pow10", Rows.laid_internal_strconv_uint64pow10)] : List (String × DataW Unit)) = [("internal/strconv.uint64pow10", Lib.tabData .u64 Lib.pow10Tab)] := by kernel_rfl
theorem tab_of {W : World} (h : laidMetH Tryd.prog laidL W) : Lib.TabIs Tryd.prog W "internal/strconv.uint64pow10" .u64 Lib.pow10Tab := by
  rw [MakeChecks.laidMetH_plain _ _ _ (by kernel_rfl)] at h
  have h3 : laidMet Tryd.prog [("internal/strconv.uint64pow10", Rows.laid_internal_strconv_uint64pow10)] W := h.tail.tail
  rw [tab_data] at h3
  exact Lib.tabIs_of_head gTab tTab Tryd.underlying102 Tryd.underlying22 (by kernel_rfl) (by kernel_rfl) h3
theorem tab_size {W : World} (h : Lib.TabIs Tryd.prog W "internal/strconv.uint64pow10" .u64 Lib.pow10Tab) : 0 < W.heap.size := by
  unfold Lib.TabIs World.var? at h
  rw [gTab] at h
  apply Classical.byContradiction
  intro hn
  rw [Option.bind_some, Array.getElem?_eq_none (by omega)] at h
  cases h
theorem tab_kept {W w : World} (h : laidMetH Tryd.prog laidL W) (hsz : 0 < W.heap.size) (hon : Laid.on ⟨W, fun b => b = 0⟩ w) : Lib.TabIs Tryd.prog w "internal/strconv.uint64pow10" .u64 Lib.pow10Tab := by
  have ht := tab_of h
  unfold Lib.TabIs World.var? at ht ⊢
  rw [gTab] at ht ⊢
  rw [Option.bind_some] at ht ⊢
  rw [hon.1.heap 0 hsz (by simp)]
  exact ht
theorem fnExactShaftsText_law : ∀ x, DomA (LSs.C 4).params x → ∃ n r o, call LSs.T LSs.C n 4 x = some (r, o) ∧ IsTrue (LSs.C 4).res r := by
  intro x hd
  obtain ⟨x0, u⟩ := x
  obtain ⟨N, hN⟩ := Go.Cams.YtimojogjlbajeaaDoorLSs.e4 x0 hd
  exact ⟨N, _, _, hN N (Nat.le_refl _), rfl⟩
theorem fnExactShaftsText_rec : (Tryd.f4.params.toList.all fun t => Tryd.prog.readableRec t && decide (t < Tryd.prog.types.size)) = true := by kernel_rfl
set_option maxRecDepth 100000 in
theorem fnExactShaftsText_lifted (os : Os) (started : os.Started) (H : Type) (enc : TypeId × Value → H) :
    ReturnsInHanded {} Tryd.checked os 4 .any (fun w args => (Rows.fnExactShaftsTextSpec.pre enc Tryd.prog Tryd.f4 Rows.fnExactShaftsTextRow.domain false w args ∧ laidMetH Tryd.prog laidL w) ∧ sizedMet enc Tryd.prog Tryd.f4 (OpenSpec.ofChange Rows.fnExactShaftsTextSpec) false w args) (Rows.fnExactShaftsTextSpec.post enc Tryd.prog Tryd.f4 false true false false) := by
  refine returnsInHanded_of_change_and (C := Tryd.checked) (X := fun w _ => laidMetH Tryd.prog laidL w) (fun _ _ _ hh h => h.of_heap hh) Tryd.own started (by kernel_rfl) Tryd.func4
    (ChangeSpec.witness_shaped (enc := enc) (C := Tryd.checked) (os := os) (X := fun w _ => laidMetH Tryd.prog laidL w) false (World.doorLaid Tryd.prog 400 os) #[.slice none 0 0] 8 rfl (World.shaped_of_RefB (by kernel_rfl) (by kernel_rfl)) (by kernel_rfl) (by kernel_rfl) (by kernel_rfl) (door_met os _)) ?_
  intro W base args ds gs before hval hW _ hw hL _
  have hsz : 0 < W.heap.size := tab_size (tab_of hL)
  exact law_callsX LSs.tsOk LSs.insts (by kernel_rfl) Tryd.laidOut (j := 4) (by kernel_rfl) (f := 4) (fn := Tryd.f4) rfl (tb := 4) (by kernel_rfl) Tryd.underlying4 (by kernel_rfl) (fun t ht => by have := List.all_eq_true.1 fnExactShaftsText_rec t ht; simp only [Bool.and_eq_true, decide_eq_true_eq] at this; exact this) rfl (fun H ds h => match ds, h with | [_], _ => rfl) fnExactShaftsText_law hval hW hw (bl := fun b => b = 0) (fun b hb => by rw [hb]; exact hsz) (LSs.exts (fi_ext fun w hon => tab_kept hL hsz hon) jn_ext bw_ext bs_ext)
theorem fnExactShaftsText_bare : Rows.FnExactShaftsTextSaid :=
  OpenClaim.holds_of_wide 4 Tryd.f4 rfl rfl rfl rfl rfl rfl rfl ⟨rfl, rfl, rfl, rfl, rfl⟩ rfl rfl rfl rfl rfl (by kernel_rfl) Tryd.func4 (by kernel_rfl)
    (of_decide_eq_true (by kernel_rfl)) (by unfold Func.isWrapper; rw [if_neg (by decide +kernel)]; exact ⟨rfl, rfl⟩)
    (fun os started H enc _ => fnExactShaftsText_lifted os started H enc)
theorem fnExactShaftsText_named : Tryd.prog.funcNamed Rows.fnExactShaftsTextRow.func = some 4 := by kernel_rfl
theorem fnExactShaftsText_holds : Rows.FnExactShaftsTextCardSaid :=
  Claim7.holds_tied_plain_at .later [] [.data, .data, .data] true (true, "1bd2e887172789a0dc2dbfa5dad7f649cc6fa7cbbad34d7f6b8026b038069068") false
    fnExactShaftsText_bare (fun _ h => by cases h) (by kernel_rfl) (fun _ h => by cases h) fnExactShaftsText_row_tie rfl ⟨rfl, rfl⟩ (by kernel_rfl) rfl
    (fun f fn hf hfn => by
      obtain rfl : f = 4 := Option.some.inj (fnExactShaftsText_named.symm.trans hf) |>.symm
      obtain rfl : fn = Tryd.f4 := (Option.some.inj (Tryd.func4.symm.trans hfn)).symm
      exact ⟨by kernel_rfl, fun j t ht => by
        have hm := Array.mem_of_getElem? ht
        have hall : (Tryd.f4.params.toList.all fun u => !Tryd.prog.wantsStandIn u) = true := by kernel_rfl
        exact (show Tryd.prog.wantsStandIn t = false by simpa using List.all_eq_true.1 hall t (by simpa using hm))⟩)
    (by kernel_rfl)
#print axioms fnExactShaftsText_holds
end Go.Proofs.YtimojogjlbajeaaDoor
