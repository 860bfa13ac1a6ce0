/- The law FnExactPlateText returns true for all arguments, in every run, and leaves its arguments as they were; no conditions. The library's table of bits is as the program's text lays it: the card ties it. -/
import Derived.Test.YtimojogjlbajeaaDoorEPt
import Derived.Test.YtimojogjlbajeaaDoorRows
import Derived.Test.YtimojogjlbajeaaDoorTie
import Derived.Test.YtimojogjlbajeaaDoorCards
import Derived.ProofKit
import Derived.LaidMore
import Derived.OpenShut
import Derived.Stop.Joined
import Derived.Stop.LaidErr
import Derived.Lib.LaidTab
import Derived.Shelf.Strings.OnBuilder
import Derived.Shelf.LaysM
import Derived.Shelf.Strconv.Itoa4
import Derived.WalkKit
import Derived.Lib.TrailingZeros
import Derived.Shelf.Spec.TrailingZeros
import Derived.Lib.Hide
import Derived.Lib.ItoaWalk
import Derived.Lib.ItoaMem
import Derived.Lib.Builder
import Derived.Laws.IdiomStrings
import Derived.Shelf.Strings.Builder1
import Derived.Shelf.Strings.Builder2
import Derived.Shelf.Strings.BuilderF
import Derived.Shelf.Strings.BuilderK
import Derived.Shelf.Strconv.Itoa0
import Derived.Shelf.Strconv.Itoa1
import Derived.Shelf.Strconv.Itoa2
import Derived.Shelf.Strconv.Itoa3
import Derived.Shelf.Strings.Prefix
import Derived.Shelf.Bits.Mul64
import Derived.Shelf.Strings.Repeat
namespace Go.Proofs
open Go.Shelf
def Tryd.lays156_ren : Go.Shelf.Ren := ⟨fun | 156 => 40 | 165 => 46 | 166 => 14 | 169 => 16 | 240 => 25 | 241 => 64 | 276 => 42 | 277 => 71 | n => n, fun | 31 => 73 | 9 => 9 | 3 => 3 | 4 => 4 | 0 => 0 | 20 => 20 | 72 => 40 | 76 => 43 | 70 => 37 | 37 => 38 | 75 => 42 | 127 => 63 | 164 => 76 | 5 => 5 | 80 => 46 | n => n, fun | n => n⟩
theorem Tryd.lays156 : Go.Proofs.Lays.n156 Tryd.prog Tryd.lays156_ren := {
  mixed := by kernel_rfl
  f156 := Tryd.func40.trans (congrArg some (by kernel_rfl))
  f165 := Tryd.func46.trans (congrArg some (by kernel_rfl))
  f166 := Tryd.func14.trans (congrArg some (by kernel_rfl))
  f169 := Tryd.func16.trans (congrArg some (by kernel_rfl))
  f240 := Tryd.func25.trans (congrArg some (by kernel_rfl))
  f241 := Tryd.func64.trans (congrArg some (by kernel_rfl))
  f276 := Tryd.func42.trans (congrArg some (by kernel_rfl))
  f277 := Tryd.func71.trans (congrArg some (by kernel_rfl))
  t0 := Tryd.underlying0
  a0 := Tryd.isAgg0
  z0 := Tryd.sizeOf0
  v0 := Tryd.zeroValue0
  t3 := Tryd.underlying3
  a3 := Tryd.isAgg3
  z3 := Tryd.sizeOf3
  v3 := Tryd.zeroValue3
  t4 := Tryd.underlying4
  a4 := Tryd.isAgg4
  z4 := Tryd.sizeOf4
  v4 := Tryd.zeroValue4
  t9 := Tryd.underlying9
  a9 := Tryd.isAgg9
  z9 := Tryd.sizeOf9
  v9 := Tryd.zeroValue9
  t20 := Tryd.underlying20
  a20 := Tryd.isAgg20
  z20 := Tryd.sizeOf20
  v20 := Tryd.zeroValue20
  t31 := Tryd.underlying73
  a31 := Tryd.isAgg73
  z31 := Tryd.sizeOf73
  v31 := Tryd.zeroValue73
  t37 := Tryd.underlying38
  a37 := Tryd.isAgg38
  z37 := Tryd.sizeOf38
  v37 := Tryd.zeroValue38
  t70 := Tryd.underlying37
  a70 := Tryd.isAgg37
  z70 := Tryd.sizeOf37
  v70 := Tryd.zeroValue37
  t72 := Tryd.underlying40
  a72 := Tryd.isAgg40
  z72 := Tryd.sizeOf40
  v72 := Tryd.zeroValue40
  t75 := Tryd.underlying42
  a75 := Tryd.isAgg42
  z75 := Tryd.sizeOf42
  v75 := Tryd.zeroValue42
  t76 := Tryd.underlying43
  a76 := Tryd.isAgg43
  z76 := Tryd.sizeOf43
  v76 := Tryd.zeroValue43
  t127 := Tryd.underlying63
  a127 := Tryd.isAgg63
  z127 := Tryd.sizeOf63
  v127 := Tryd.zeroValue63
  t164 := Tryd.underlying76
  a164 := Tryd.isAgg76
  z164 := Tryd.sizeOf76
  v164 := Tryd.zeroValue76 }
theorem Tryd.Builder_Extra_156 : Builder.Extra Tryd.prog Tryd.lays156_ren := {
  sizeBuilder := by kernel_rfl
  liesBuilder := by kernel_rfl
  t5 := Tryd.underlying5
  a5 := Tryd.isAgg5
  z5 := Tryd.sizeOf5
  v5 := Tryd.zeroValue5
  infoByte := by kernel_rfl
  cellsByte := by kernel_rfl
  sizeByte := by kernel_rfl
  neB5 := by decide }
def Tryd.lays105_ren : Go.Shelf.Ren := ⟨fun | 105 => 27 | 212 => 44 | 99 => 45 | 165 => 46 | 166 => 14 | 170 => 47 | 169 => 16 | 263 => 61 | 264 => 62 | 206 => 63 | 240 => 25 | 241 => 64 | 276 => 42 | 277 => 71 | n => n, fun | 9 => 9 | 3 => 3 | 4 => 4 | 20 => 20 | 0 => 0 | 46 => 60 | 109 => 78 | 5 => 5 | 72 => 40 | 76 => 43 | 51 => 94 | 146 => 95 | 53 => 22 | 148 => 97 | 70 => 37 | 37 => 38 | 75 => 42 | 127 => 63 | 164 => 76 | 80 => 46 | n => n, fun | n => n⟩
theorem Tryd.lays105 : Go.Proofs.Lays.n105 Tryd.prog Tryd.lays105_ren := {
  mixed := by kernel_rfl
  f99 := Tryd.func45.trans (congrArg some (by kernel_rfl))
  f105 := Tryd.func27.trans (congrArg some (by kernel_rfl))
  f165 := Tryd.func46.trans (congrArg some (by kernel_rfl))
  f166 := Tryd.func14.trans (congrArg some (by kernel_rfl))
  f169 := Tryd.func16.trans (congrArg some (by kernel_rfl))
  f170 := Tryd.func47.trans (congrArg some (by kernel_rfl))
  f206 := Tryd.func63.trans (congrArg some (by kernel_rfl))
  f212 := Tryd.func44.trans (congrArg some (by kernel_rfl))
  f240 := Tryd.func25.trans (congrArg some (by kernel_rfl))
  f241 := Tryd.func64.trans (congrArg some (by kernel_rfl))
  f263 := Tryd.func61.trans (congrArg some (by kernel_rfl))
  f264 := Tryd.func62.trans (congrArg some (by kernel_rfl))
  f276 := Tryd.func42.trans (congrArg some (by kernel_rfl))
  f277 := Tryd.func71.trans (congrArg some (by kernel_rfl))
  t0 := Tryd.underlying0
  a0 := Tryd.isAgg0
  z0 := Tryd.sizeOf0
  v0 := Tryd.zeroValue0
  t3 := Tryd.underlying3
  a3 := Tryd.isAgg3
  z3 := Tryd.sizeOf3
  v3 := Tryd.zeroValue3
  t4 := Tryd.underlying4
  a4 := Tryd.isAgg4
  z4 := Tryd.sizeOf4
  v4 := Tryd.zeroValue4
  t5 := Tryd.underlying5
  a5 := Tryd.isAgg5
  z5 := Tryd.sizeOf5
  v5 := Tryd.zeroValue5
  t9 := Tryd.underlying9
  a9 := Tryd.isAgg9
  z9 := Tryd.sizeOf9
  v9 := Tryd.zeroValue9
  t20 := Tryd.underlying20
  a20 := Tryd.isAgg20
  z20 := Tryd.sizeOf20
  v20 := Tryd.zeroValue20
  t37 := Tryd.underlying38
  a37 := Tryd.isAgg38
  z37 := Tryd.sizeOf38
  v37 := Tryd.zeroValue38
  t46 := Tryd.underlying60
  a46 := Tryd.isAgg60
  z46 := Tryd.sizeOf60
  v46 := Tryd.zeroValue60
  t51 := Tryd.underlying94
  a51 := Tryd.isAgg94
  z51 := Tryd.sizeOf94
  v51 := Tryd.zeroValue94
  t53 := Tryd.underlying22
  a53 := Tryd.isAgg22
  z53 := Tryd.sizeOf22
  v53 := Tryd.zeroValue22
  t70 := Tryd.underlying37
  a70 := Tryd.isAgg37
  z70 := Tryd.sizeOf37
  v70 := Tryd.zeroValue37
  t72 := Tryd.underlying40
  a72 := Tryd.isAgg40
  z72 := Tryd.sizeOf40
  v72 := Tryd.zeroValue40
  t75 := Tryd.underlying42
  a75 := Tryd.isAgg42
  z75 := Tryd.sizeOf42
  v75 := Tryd.zeroValue42
  t76 := Tryd.underlying43
  a76 := Tryd.isAgg43
  z76 := Tryd.sizeOf43
  v76 := Tryd.zeroValue43
  t109 := Tryd.underlying78
  a109 := Tryd.isAgg78
  z109 := Tryd.sizeOf78
  v109 := Tryd.zeroValue78
  t127 := Tryd.underlying63
  a127 := Tryd.isAgg63
  z127 := Tryd.sizeOf63
  v127 := Tryd.zeroValue63
  t146 := Tryd.underlying95
  a146 := Tryd.isAgg95
  z146 := Tryd.sizeOf95
  v146 := Tryd.zeroValue95
  t148 := Tryd.underlying97
  a148 := Tryd.isAgg97
  z148 := Tryd.sizeOf97
  v148 := Tryd.zeroValue97
  t164 := Tryd.underlying76
  a164 := Tryd.isAgg76
  z164 := Tryd.sizeOf76
  v164 := Tryd.zeroValue76 }
theorem Tryd.Builder_Extra_105 : Builder.Extra Tryd.prog Tryd.lays105_ren := {
  sizeBuilder := by kernel_rfl
  liesBuilder := by kernel_rfl
  t5 := Tryd.underlying5
  a5 := Tryd.isAgg5
  z5 := Tryd.sizeOf5
  v5 := Tryd.zeroValue5
  infoByte := by kernel_rfl
  cellsByte := by kernel_rfl
  sizeByte := by kernel_rfl
  neB5 := by decide }
open Go.RowKit Go.Lib in
/-- **strings.Repeat: count ≥ 0, the result within one allocation: count copies of s.** (LAID: no walk: one application.) -/
theorem Tryd.strings_Repeat (s : ByteArray) (c : Nat) (w : World) (hc : c ≤ 9223372036854775807) (hlen : s.size * c ≤ 140737488355328) :
    Calls Tryd.prog 27 #[.string s, .int .i64 c] w fun e w' => e = .returned (.string ⟨(Lib.repeatL s.data.toList c).toArray⟩) ∧ Below w.heap.size w w' := Any.strings_Repeat Tryd.lays105 Tryd.Builder_Extra_105 s c w hc hlen
section
open Go Go.RowKit
theorem infoByteB : (Tryd.prog.info? 5).map (fun i => (i.zero, i.size, i.bytes)) = some (some (.int .u8 0), 1, 1) := by kernel_rfl
theorem cell_setCell0 {w : World} {b : Nat} {p v q : Value} {T : TypeId} (hb : w.heap[b]? = some (.cells #[p, v] T (0, 0))) : (w.setCell ⟨b, 0, none⟩ q).heap[b]? = some (.cells #[q, v] T (0, 0)) := by
  simp [World.setCell, Array.getElem?_modify, hb]
theorem cell_setCell1 {w : World} {b : Nat} {p v q : Value} {T : TypeId} (hb : w.heap[b]? = some (.cells #[p, v] T (0, 0))) : (w.setCell ⟨b, 1, none⟩ q).heap[b]? = some (.cells #[p, q] T (0, 0)) := by
  simp [World.setCell, Array.getElem?_modify, hb]
theorem kept_setCell {w : World} {b k : Nat} {o : Nat} {q : Value} (h : k ≠ b) : (w.setCell ⟨b, o, none⟩ q).heap[k]? = w.heap[k]? := Below.heap_setCell _ _ _ _ h
/-- Nothing but the blocks of F, and new ones, has turned. -/
structure KeptF (F : List Nat) (w w' : World) : Prop where
  os : w'.os = w.os
  tape : w'.tape = w.tape
  output : w'.output = w.output
  size : w.heap.size ≤ w'.heap.size
  heap : ∀ b, b < w.heap.size → b ∉ F → w'.heap[b]? = w.heap[b]?
/-- An append of a string's bytes to a row of bytes that is owned: the row stays where it was, or lies in a new block. -/
theorem run_append_str {P : Program} (w : World) (t u ty e : TypeId) (i : TypeInfo) (ht : P.underlying t = some (.slice e)) (hu : P.underlying u = some .string) (hi : P.info? e = some i) (hz : i.zero = some (.int .u8 0)) (hsize : i.size = 1) (hby : i.bytes = 1)
    (v : Value) (n : Nat) (xs : List Value) (hown : w.ownsRow 0 e 1 v n xs) (s : ByteArray) (h63 : n + s.size ≤ maxLen) (hbytes : n + s.size ≤ 140737488355328) :
    ∃ v' w', (Builtin.append_ #[t, u] ty #[v, .string s]).run P w = .ok v' w' ∧ w'.ownsRow 0 e 1 v' (n + s.size) (xs ++ Lib.strCells s) ∧ w.grownBy w' v.ownBlock ∧ (v' = .slice none 0 0 ↔ v = .slice none 0 0 ∧ s.size = 0) ∧ (∀ k, v'.ownBlock = some k → v.ownBlock = some k ∨ w.heap.size ≤ k) := by
  obtain ⟨v', w', hr, h2, h3, h4⟩ := Lib.run_append_own_string (P := P) w 0 t u ty e i ht hu hi hz hsize hby v n xs hown s h63 hbytes (Nat.zero_le _)
  refine ⟨v', w', hr, h2, h3, h4, fun k hk => ?_⟩
  have hxl : xs.length = n := by simpa using hown.1
  rcases hown.2 with ⟨rfl, hn0⟩ | ⟨g, cap, cur, rfl, _, hg, hnc, hcm, hcs, htake⟩
  · obtain ⟨v2, w2, hr2, k2, _, _⟩ := Lib.run_append_own_string (P := P) w w.heap.size t u ty e i ht hu hi hz hsize hby (.slice none 0 0) n xs ⟨hown.1, .inl ⟨rfl, hn0⟩⟩ s h63 hbytes (Nat.le_refl _)
    rw [hr] at hr2
    injection hr2 with e1 e2
    subst e1
    rcases k2.2 with ⟨rfl, _⟩ | ⟨q, _, _, rfl, hq, _⟩
    · cases hk
    · simp only [Value.ownBlock, Option.some.injEq] at hk
      right; omega
  · by_cases hroom : n + s.size ≤ cap
    · have hcs' : cur.size = cap := by simpa using hcs
      have hr2 := Lib.run_append_room_string (P := P) w t u ty e i ht hu hi hsize g n cap cur hg s hroom (by omega)
      rw [hr] at hr2
      injection hr2 with e1 e2
      subst e1
      left
      exact hk
    · have holds : ∀ j u, xs[j]? = some u → w.cell? ((⟨g, 0, none⟩ : Addr).add j) = some u := hown.cells (g := g) rfl
      have hr2 := Lib.run_append_grow_string (P := P) w t u ty e i (.int .u8 0) ht hu hi hz ⟨g, 0, none⟩ n cap xs (by rw [hsize]; simpa using hxl) holds s (by omega) (by unfold maxLen at h63; omega) (by rw [hby]; exact growslice_fits (by omega) (by omega))
      rw [hr] at hr2
      injection hr2 with e1 e2
      subst e1
      simp only [Value.ownBlock, Option.some.injEq] at hk
      right; omega
theorem wpList_append_str {P : Program} {w : World} {ops : Array Oper} {rest : List Oper} {o : Oper} {a : Act} {Q : Exit → Act → World → Prop} (hgd : o.guard = none) (sl x : Operand) (t u : TypeId)
    (ho : o.op = .call { callee := .builtin .append, args := #[sl, x], argTypes := #[t, u] })
    (e : TypeId) (i : TypeInfo) (ht : P.underlying t = some (.slice e)) (hu : P.underlying u = some .string) (hi : P.info? e = some i) (hz : i.zero = some (.int .u8 0)) (hsize : i.size = 1) (hby : i.bytes = 1)
    (v : Value) (n : Nat) (xs : List Value) (hs : a.eval sl = v) (hown : w.ownsRow 0 e 1 v n xs) (s : ByteArray) (hx : a.eval x = .string s) (h63 : n + s.size ≤ maxLen) (hbytes : n + s.size ≤ 140737488355328)
    (h : ∀ v' w', w'.ownsRow 0 e 1 v' (n + s.size) (xs ++ Lib.strCells s) → w.grownBy w' v.ownBlock → Hid (v' = .slice none 0 0 ↔ v = .slice none 0 0 ∧ s.size = 0) → Hid (∀ k, v'.ownBlock = some k → v.ownBlock = some k ∨ w.heap.size ≤ k) → wpList P ops Q rest (a.put o.dst v') w') : wpList P ops Q (o :: rest) a w := by
  refine wpList_plain hgd fun K hK => ?_
  obtain ⟨v', w', hr, h2, h3, h4, h5⟩ := run_append_str (P := P) w t u o.type e i ht hu hi hz hsize hby v n xs hown s h63 hbytes
  unfold Oper.wp execOp
  simp only [ho, resolve, invoke, builtin, Sem.run_bind, Sem.run_pure, Result.andThen_ok, List.map_toArray, List.map_cons, List.map_nil, hs, hx, hr]
  exact hK _ _ (h v' w' h2 h3 h4 h5)
theorem bld_check (g : Nat) (p v : Value) (w : World) (hp : p = .pointer none ∨ p = .pointer (some ⟨g, 0, none⟩)) (hb : w.heap[g]? = some (.cells #[p, v] 40 (0, 0))) :
    Calls Tryd.prog 25 #[.pointer (some ⟨g, 0, none⟩)] w fun e w1 => e = .returned (.tuple #[]) ∧ (w1.heap[g]? = some (.cells #[.pointer (some ⟨g, 0, none⟩), v] 40 (0, 0)) ∧ KeptF [g] w w1) := by
  rcases hp with rfl | rfl
  · refine (Any.Builder_copyCheck_fresh (ρ := Tryd.lays156_ren) { Tryd.lays156 with } Tryd.Builder_Extra_156.toX72 g w (by rw [Lib.cell_of_heap hb]; rfl) (by simp [World.shape?, hb]; rfl) (Lib.frozen_of_heap hb 0)).mono ?_
    rintro e w1 ⟨rfl, rfl⟩
    exact ⟨rfl, cell_setCell0 hb, ⟨rfl, rfl, rfl, by simp [World.setCell], fun k _ hk => kept_setCell (by simpa using hk)⟩⟩
  · refine (Any.Builder_copyCheck_used (ρ := Tryd.lays156_ren) { Tryd.lays156 with } Tryd.Builder_Extra_156.toX72 g w (by rw [Lib.cell_of_heap hb]; rfl)).mono ?_
    rintro e w1 ⟨rfl, rfl⟩
    exact ⟨rfl, hb, ⟨rfl, rfl, rfl, Nat.le_refl _, fun _ _ _ => rfl⟩⟩
set_option maxHeartbeats 2000000 in
set_option maxRecDepth 100000 in
theorem bld_write (g : Nat) (p v : Value) (n : Nat) (bs : List Value) (s : ByteArray) (w : World) (hp : p = .pointer none ∨ p = .pointer (some ⟨g, 0, none⟩)) (hb : w.heap[g]? = some (.cells #[p, v] 40 (0, 0))) (hown : w.ownsRow 0 5 1 v n bs) (hne : v.ownBlock ≠ some g) (hlen : n + s.size ≤ 140737488355328) :
    Calls Tryd.prog 14 #[.pointer (some ⟨g, 0, none⟩), .string s] w fun e w' => e = .returned (.tuple #[.int .i64 s.size, .nilIface]) ∧ ∃ v', w'.heap[g]? = some (.cells #[.pointer (some ⟨g, 0, none⟩), v'] 40 (0, 0)) ∧ w'.ownsRow 0 5 1 v' (n + s.size) (bs ++ Lib.strCells s) ∧ (v' = .slice none 0 0 ↔ v = .slice none 0 0 ∧ s.size = 0) ∧ (∀ k, v'.ownBlock = some k → v.ownBlock = some k ∨ w.heap.size ≤ k) ∧ (∀ k, k < w.heap.size → k ≠ g → some k ≠ v.ownBlock → w'.heap[k]? = w.heap[k]?) ∧ w'.os = w.os ∧ w'.tape = w.tape ∧ w'.output = w.output ∧ w.heap.size ≤ w'.heap.size := by
  obtain ⟨i0, hi, hz0, hz1, hz2⟩ := info_parts infoByteB
  go_enter Tryd.func14, Tryd.ntmps14
  go_wp2_with (go_at_call 25; refine (bld_check g p v _ hp hb).mono ?_)
  rintro e w1 ⟨rfl, hbk, K⟩
  have hown1 : w1.ownsRow 0 5 1 v n bs := by
    refine hown.kept (row := some g) ⟨K.os, K.tape, K.output, K.size, fun k hk hk' => K.heap k hk (by simpa using fun e => hk' (by rw [e]))⟩ ?_
    exact Or.inr hne
  have c0 : w1.cell? ⟨g, 0, none⟩ = some (.pointer (some ⟨g, 0, none⟩)) := by rw [Lib.cell_of_heap hbk]; rfl
  have c1 : w1.cell? ⟨g, 1, none⟩ = some v := by rw [Lib.cell_of_heap hbk]; rfl
  go_wp2_with (at_builtin; refine wpList_append_str rfl _ _ 38 9 rfl 5 i0 Tryd.underlying38 Tryd.underlying9 hi hz0 hz1 hz2 _ _ _ rfl hown1 s rfl ?c3 ?c4 ?_)
  case c3 => unfold maxLen; omega
  case c4 => omega
  intro v' w2 hown' hgrow HN HK
  have hlt : g < w1.heap.size := (Array.getElem?_eq_some_iff.1 hbk).1
  have hb2 : w2.heap[g]? = some (.cells #[.pointer (some ⟨g, 0, none⟩), v] 40 (0, 0)) := by
    rw [hgrow.block g hlt (fun e => hne e.symm)]
    exact hbk
  have d0 : w2.cell? ⟨g, 0, none⟩ = some (.pointer (some ⟨g, 0, none⟩)) := by rw [Lib.cell_of_heap hb2]; rfl
  have d1 : w2.cell? ⟨g, 1, none⟩ = some v := by rw [Lib.cell_of_heap hb2]; rfl
  have f1 : w2.frozen? ⟨g, 1, none⟩ = false := Lib.frozen_of_heap hb2 1
  obtain ⟨ao, n', cap, rfl⟩ : ∃ ao n' cap, v' = .slice ao n' cap := by
    rcases hown'.2 with ⟨hv, _⟩ | ⟨g, cap, cur, hv, _⟩
    · exact ⟨_, _, _, hv⟩
    · exact ⟨_, _, _, hv⟩
  go_wp2
  go_ret2
  refine ⟨rfl, _, cell_setCell1 hb2, ?_, HN.out.trans (and_congr_right fun _ => ByteArray.size_eq_zero_iff.symm), fun k hk => (HK.out k hk).imp id (Nat.le_trans K.size), ?_, ?_, ?_, ?_, ?_⟩
  · have hne' := Lib.ownBlock_ne hown' hb2 (by decide)
    exact hown'.kept (row := some g) ⟨rfl, rfl, rfl, by simp [World.setCell], fun k _ hk => kept_setCell (fun e => hk (by rw [e]))⟩ (Or.inr hne')
  · intro k hk hkg hkv
    rw [kept_setCell hkg, hgrow.block k (Nat.lt_of_lt_of_le hk K.size) hkv, K.heap k hk (by simpa using hkg)]
  · exact hgrow.os.trans K.os
  · exact hgrow.tape.trans K.tape
  · exact hgrow.output.trans K.output
  · have h1 := hgrow.size
    have h2 := K.size
    simp [World.setCell]; omega
set_option maxHeartbeats 1000000 in
set_option maxRecDepth 100000 in
theorem bld_string (b g cap : Nat) (p : Value) (cur : Array Value) (l : List UInt8) (w : World) (hbk : w.heap[b]? = some (.cells #[p, .slice (some ⟨g, 0, none⟩) l.length cap] 40 (0, 0))) (hg : w.heap[g]? = some (.cells cur 5 (0, 0))) (h0 : l ≠ []) (hnc : l.length ≤ cap) (hcm : cap ≤ maxLen) (hcs : cur.size = cap) (htake : cur.toList.take l.length = Lib.byteCells l) :
    Calls Tryd.prog 16 #[.pointer (some ⟨b, 0, none⟩)] w fun e w' => e = .returned (.string ⟨l.toArray⟩) ∧ KeptF [g] w w' := by
  have hl0 : 0 < l.length := List.length_pos_iff.2 h0
  have c1 : w.drew.cell? ⟨b, 1, none⟩ = some (.slice (some ⟨g, 0, none⟩) l.length cap) := by
    have : w.drew.heap[b]? = some (.cells #[p, .slice (some ⟨g, 0, none⟩) l.length cap] 40 (0, 0)) := hbk
    rw [Lib.cell_of_heap this]; rfl
  have hSD : (Builtin.unsafeSliceData_ #[38] 63 #[.slice (some ⟨g, 0, none⟩) l.length cap]).run Tryd.prog w.drew = .ok (.pointer (some ⟨g, 0, none⟩)) w.drew :=
    Lib.run_unsafeSliceData_row _ _ _ _ _ _ (by omega)
  have hUS : (Builtin.unsafeString_ #[63, 3] 9 #[.pointer (some ⟨g, 0, none⟩), .int .i64 l.length]).run Tryd.prog w.drew = .ok (.string ⟨l.toArray⟩) (w.drew.freeze ⟨g, 0, none⟩ l.length) := by
    refine Lib.run_unsafeString_row w.drew 63 3 9 5 Tryd.underlying63 Tryd.Builder_Extra_156.cellsByte g cur.size (by have hg' : w.drew.heap[g]? = some (.cells cur 5 (0, 0)) := hg; simp [World.shape?, hg']) l h0 (by omega) (by unfold maxLen at hcm; omega) ?_
    intro j x hx
    have hg' : w.drew.heap[g]? = some (.cells cur 5 (0, 0)) := hg
    have e : (⟨g, 0, none⟩ : Addr).add j = ⟨g, j, none⟩ := by unfold Addr.add; split <;> simp_all
    rw [e, Lib.cell_of_heap hg']
    have hj : j < l.length := (List.getElem?_eq_some_iff.1 hx).1
    have h1 : (cur.toList.take l.length)[j]? = some (.int .u8 x.toNat) := by rw [htake]; simp [Lib.byteCells, hx]
    rw [List.getElem?_take_of_lt hj] at h1
    simpa using h1
  go_enter Tryd.func16, Tryd.ntmps16
  go_wp2
  go_region
  all_goals (go_wp2; go_ret)
  all_goals
    refine ⟨rfl, ?_⟩
    have hz : (w.drew.freeze ⟨g, 0, none⟩ l.length).heap.size = w.heap.size := by
      unfold World.freeze
      split
      · rfl
      · simp
    have hh : ∀ k, k ≠ g → (w.drew.freeze ⟨g, 0, none⟩ l.length).heap[k]? = w.heap[k]? := fun k hk => by
      unfold World.freeze
      split
      · rfl
      · simp only [Array.getElem?_modify]
        rw [if_neg (fun e => hk e.symm)]
        rfl
    exact ⟨by unfold World.freeze; split <;> rfl, by unfold World.freeze; split <;> rfl, by unfold World.freeze; split <;> rfl, by rw [hz]; exact Nat.le_refl _, fun k _ hk => hh k (by simpa using hk)⟩
end
section
open Go Go.RowKit Go.Lib
open Go.Fw (hexD hd hexD_lt hexD_ge)
theorem tz_core (x k idx : Nat) (w : World) (hx0 : ((x : Int) == 0) = false)
    (key : IntKind.u64.wrap (bits BinOp.and IntKind.u64 (x : Int) (IntKind.u64.wrap (-(x : Int))) * 285870213051353865) / 288230376151711744 = (idx : Int))
    (hi : idx < 64) (hk : k < 64) (hcell : w.cell? ⟨3, idx, none⟩ = some (.int .u8 k)) :
    Calls Tryd.prog 73 #[.int .u64 x] w fun e w' => e = .returned (.int .i64 k) ∧ w' = w := by
  go_enter Tryd.func73, Tryd.ntmps73
  go_wp2_with (simp only [key])
  go_ret
  exact ⟨rfl, rfl⟩
theorem tz_zero (w : World) : Calls Tryd.prog 73 #[.int .u64 0] w fun e w' => e = .returned (.int .i64 64) ∧ w' = w := by
  go_enter Tryd.func73, Tryd.ntmps73
  go_wp2
  go_ret
  exact ⟨rfl, rfl⟩
theorem tz_calls (x : Nat) (hx : x < 18446744073709551616) (w : World) (hT : TabAt 3 Lib.deBruijn64tab w) : Calls Tryd.prog 73 #[.int .u64 x] w fun e w' => e = .returned (.int .i64 (Lib.ctz 64 x)) ∧ w' = w := by
  by_cases hx0 : x = 0
  · subst hx0
    exact tz_zero w
  · obtain ⟨hlow, hk⟩ := Lib.lowest_bit 64 x hx0 hx
    obtain ⟨hi, htab⟩ := Lib.deBruijn64_at _ hk
    have hcell := hT _ hi
    rw [htab] at hcell
    exact tz_core x _ _ w (by simp; omega) (tz64_key x _ hx hx0 hlow) hi hk hcell

theorem pow2_16 (w : World) : Calls Tryd.prog 69 #[.int .i64 16] w fun e w' => e = .returned (.bool true) ∧ w' = w := by
  go_enter Tryd.func69, Tryd.ntmps69
  go_wp2
  go_ret
  exact ⟨rfl, rfl⟩
theorem tz16 (w : World) (hT : TabAt 3 Lib.deBruijn64tab w) : Calls Tryd.prog 70 #[.int .u64 16] w fun e w' => e = .returned (.int .i64 4) ∧ w' = w := by
  go_enter Tryd.func70, Tryd.ntmps70
  go_wp2_with (first
    | (go_at_call 73; refine (tz_calls 16 (by omega) _ (by assumption)).mono ?_; rintro e w1 ⟨rfl, hw⟩; subst w1)
    | go_in)
  go_ret
  have e4 : Lib.ctz 64 16 = 4 := by decide
  exact ⟨by show Ending.returned (.int .i64 ((Lib.ctz 64 16 : Nat) : Int)) = _; rw [e4]; rfl, rfl⟩
theorem and15 {v : Nat} (h : v < 18446744073709551616) : bits BinOp.and IntKind.u64 (v : Int) 15 = ((v % 16 : Nat) : Int) := by
  show IntKind.u64.wrap ((BitVec.ofInt 64 (v : Int) &&& BitVec.ofInt 64 (15 : Int)).toNat : Int) = _
  have e1 : (BitVec.ofInt 64 (v : Int)).toNat = v := by
    rw [BitVec.toNat_ofInt]
    omega
  have e2 : (BitVec.ofInt 64 (15 : Int)).toNat = 15 := by decide
  rw [BitVec.toNat_and, e1, e2, show (15 : Nat) = 2 ^ 4 - 1 from rfl, Nat.and_two_pow_sub_one_eq_mod]
  show (((v % 2 ^ 4 : Nat) : Int)) % 18446744073709551616 = _
  omega
theorem dig_at : ∀ i, i < 16 → (⟨#[48, 49, 50, 51, 52, 53, 54, 55, 56, 57, 97, 98, 99, 100, 101, 102, 103, 104, 105, 106, 107, 108, 109, 110, 111, 112, 113, 114, 115, 116, 117, 118, 119, 120, 121, 122]⟩ : ByteArray).data.toList.getD i 0 = hd i := by decide
theorem idx_dig (i : Nat) (hi : i < 16) (w : World) : (Instr.index 9 (.string ⟨#[48, 49, 50, 51, 52, 53, 54, 55, 56, 57, 97, 98, 99, 100, 101, 102, 103, 104, 105, 106, 107, 108, 109, 110, 111, 112, 113, 114, 115, 116, 117, 118, 119, 120, 121, 122]⟩) (.int .u64 (i : Int))).run Tryd.prog w = .ok (.int .u8 ((hd i).toNat : Int)) w := by
  rw [run_index_string w 9 _ .u64 _ Tryd.underlying9, dif_pos ⟨by omega, by show (i : Int) < 36; omega⟩]
  have e : ((i : Int)).toNat = i := Int.toNat_natCast i
  simp only [e]
  rw [Lib.getD_at _ i (by show i < 36; omega), dig_at i hi]
theorem dig_get (j i : Nat) (hj : j < (⟨#[48, 49, 50, 51, 52, 53, 54, 55, 56, 57, 97, 98, 99, 100, 101, 102, 103, 104, 105, 106, 107, 108, 109, 110, 111, 112, 113, 114, 115, 116, 117, 118, 119, 120, 121, 122]⟩ : ByteArray).size) (e : j = i) (hi : i < 16) : (⟨#[48, 49, 50, 51, 52, 53, 54, 55, 56, 57, 97, 98, 99, 100, 101, 102, 103, 104, 105, 106, 107, 108, 109, 110, 111, 112, 113, 114, 115, 116, 117, 118, 119, 120, 121, 122]⟩ : ByteArray)[j]'hj = hd i := by
  subst e
  rw [Lib.getD_at _ j hj, dig_at j hi]
theorem setCell_row {w : World} {b i : Nat} {xs : Array Value} {T : TypeId} (q : Value) (hb : w.heap[b]? = some (.cells xs T (0, 0))) : (w.setCell ⟨b, i, none⟩ q).heap[b]? = some (.cells (xs.setIfInBounds i q) T (0, 0)) := by
  simp [World.setCell, Array.getElem?_modify, hb]
def fbCells (k : Nat) (ds : List UInt8) : Array Value := (List.replicate (65 - k) (Value.int .u8 0) ++ ds.map fun b => Value.int .u8 (b.toNat : Int)).toArray
theorem fb_set (k : Nat) (ds : List UInt8) (b : UInt8) (hk : k ≤ 64) (_ : ds.length = k) : (fbCells k ds).setIfInBounds (65 - k - 1) (Value.int .u8 (b.toNat : Int)) = fbCells (k + 1) (b :: ds) := by
  unfold fbCells
  apply Array.ext'
  rw [Array.toList_setIfInBounds]
  rw [show 65 - k = (65 - (k + 1)) + 1 by omega, List.replicate_succ', List.append_assoc, List.set_append_right _ _ (by simp), List.length_replicate, show 65 - (k + 1) + 1 - 1 - (65 - (k + 1)) = 0 by omega]
  rfl
theorem fb_cell {w : World} {g k : Nat} {ds : List UInt8} (hk : k ≤ 64) (h : w.heap[g]? = some (.cells (fbCells k ds) 103 (0, 0))) : w.cell? ⟨g, 65 - k - 1, none⟩ = some (.int .u8 0) ∧ w.frozen? ⟨g, 65 - k - 1, none⟩ = false := by
  refine ⟨?_, by simp [World.frozen?, h]⟩
  rw [Go.Lib.cell_of_heap h]
  unfold fbCells
  simp only [List.getElem?_toArray]
  rw [List.getElem?_append_left (by simp; omega), List.getElem?_replicate, if_pos (by omega)]
theorem tabAt_below {w w' : World} (hT : TabAt 3 Lib.deBruijn64tab w) (hB : Below w.heap.size w w') : TabAt 3 Lib.deBruijn64tab w' := fun j hj => by
  have h := hT j hj
  have hlt : 3 < w.heap.size := by
    rcases Nat.lt_or_ge 3 w.heap.size with h' | h'
    · exact h'
    · have : w.heap[3]? = none := Array.getElem?_eq_none h'
      simp [World.cell?, this] at h
  rw [hB.cell hlt]
  exact h
set_option maxHeartbeats 4000000 in
set_option maxRecDepth 100000 in
theorem fb_walk (u : Nat) (hu : u < 18446744073709551616) (w : World) (hT : TabAt 3 Lib.deBruijn64tab w) :
    Calls Tryd.prog 60 #[.slice none 0 0, .int .u64 u, .int .i64 16, .bool false, .bool false] w fun e w' => e = .returned (.tuple #[.slice none 0 0, .string ⟨(hexD u).toArray⟩]) ∧ Below w.heap.size w w' := by
  have hB0 : Hid (Below w.heap.size w (w.alloc (Obj.cells Tryd.zeroCells103 103))) := (Below.refl w.heap.size w).alloc (Nat.le_refl _) _
  have hT0 : Hid (TabAt 3 Lib.deBruijn64tab (w.alloc (Obj.cells Tryd.zeroCells103 103))) := tabAt_below hT hB0.out
  go_enter Tryd.func60, Tryd.ntmps60
  go_wp2_with (first
    | (go_at_call 69; refine (pow2_16 _).mono ?_; rintro e w1 ⟨rfl, hw⟩; subst w1)
    | (go_at_call 70; refine (tz16 _ hT0.out).mono ?_; rintro e w1 ⟨rfl, hw⟩; subst w1)
    | go_in)
  go_loopw [1, 13] (fun c1 c2 wr => ∃ (v k : Nat) (ds : List UInt8), c1 = .int .u64 v ∧ c2 = .int .i64 ((65 - k : Nat) : Int) ∧ k ≤ 15 ∧ v < 16 ^ (16 - k) ∧ ds.length = k ∧ Hid (hexD u = hexD v ++ ds) ∧ Hid (wr.heap[w.heap.size]? = some (.cells (fbCells k ds) 103 (0, 0))) ∧ Hid (Below w.heap.size w wr)) (fun c1 _ _ => (RowKit.intOf c1).toNat)
  case atStart =>
    refine ⟨u, 0, [], rfl, rfl, by omega, by simpa using hu, rfl, ?_, ?_, hB0⟩
    · show _ = _; simp
    · show _ = _
      unfold World.alloc
      simp
      rfl
  case round =>
    obtain ⟨v, k, ds, rfl, rfl, hk, hv, hds, HX, HG, HB⟩ := hrel
    have hc := (fb_cell (by omega) HG.out).1
    have hf := (fb_cell (by omega) HG.out).2
    have hv64 : v < 18446744073709551616 := Nat.lt_of_lt_of_le hv (Nat.le_trans (Nat.pow_le_pow_right (by omega) (show 16 - k ≤ 16 by omega)) (by decide))
    have ha := and15 hv64
    have hb0 : w.heap.size ≤ (⟨w.heap.size, 65 - k - 1, none⟩ : Addr).block := Nat.le_refl _
    by_cases hge : 16 ≤ v
    · go_wp2
      have hk14 : k ≤ 14 := by
        rcases Nat.lt_or_ge k 15 with h | h
        · omega
        · have e : k = 15 := by omega
          subst e
          simp at hv
          omega
      have hd' : (⟨#[48, 49, 50, 51, 52, 53, 54, 55, 56, 57, 97, 98, 99, 100, 101, 102, 103, 104, 105, 106, 107, 108, 109, 110, 111, 112, 113, 114, 115, 116, 117, 118, 119, 120, 121, 122]⟩ : ByteArray)[v % 16]'(by show v % 16 < 36; omega) = hd (v % 16) := dig_get (v % 16) (v % 16) _ rfl (by omega)
      rw [hd']
      refine ⟨⟨v / 16, k + 1, hd (v % 16) :: ds, rfl, ?_, by omega, ?_, by simp [hds], ?_, ?_, HB.out.setCell hb0 _⟩, ?_⟩
      · rw [show ((65 - k : Nat) : Int) - 1 = ((65 - (k + 1) : Nat) : Int) by omega]
      · have e : 16 ^ (16 - k) = 16 * 16 ^ (16 - (k + 1)) := by rw [show 16 - k = (16 - (k + 1)) + 1 by omega, Nat.pow_succ, Nat.mul_comm]
        rw [e] at hv
        exact Nat.div_lt_of_lt_mul hv
      · show _ = _
        rw [HX.out, hexD_ge hge]
        simp
      · show _ = _
        rw [setCell_row _ HG.out, fb_set k ds _ (by omega) hds]
      · show (((v / 16 : Nat) : Int)).toNat < ((v : Int)).toNat
        omega
    · have hvl : v < (⟨#[48, 49, 50, 51, 52, 53, 54, 55, 56, 57, 97, 98, 99, 100, 101, 102, 103, 104, 105, 106, 107, 108, 109, 110, 111, 112, 113, 114, 115, 116, 117, 118, 119, 120, 121, 122]⟩ : ByteArray).size := by show v < 36; omega
      have hdv : (⟨#[48, 49, 50, 51, 52, 53, 54, 55, 56, 57, 97, 98, 99, 100, 101, 102, 103, 104, 105, 106, 107, 108, 109, 110, 111, 112, 113, 114, 115, 116, 117, 118, 119, 120, 121, 122]⟩ : ByteArray)[v]'hvl = hd v := dig_get v v hvl rfl (by omega)
      have hal : Tryd.prog.arrayLen 103 = 65 := by simp [Program.arrayLen, Tryd.underlying103]
      have hsl : ∀ W, (Instr.sliceAt 103 (.pointer (some ⟨w.heap.size, 0, none⟩)) (some (.int .i64 (((65 - k : Nat) : Int) - 1))) none none).run Tryd.prog W = .ok (.slice (some ⟨w.heap.size, 65 - k - 1, none⟩) (k + 1) (k + 1)) W := fun W => by
        rw [run_sliceAt_array_l W 103 ⟨w.heap.size, 0, none⟩ (by simp [Program.arrayLen, Program.elem, Tryd.underlying103]) .i64 (((65 - k : Nat) : Int) - 1) (by omega) (by rw [hal]; omega)]
        go_simp
        omega
      have HG' := setCell_row (i := 65 - k - 1) (Value.int .u8 ((hd v).toNat : Int)) HG.out
      rw [fb_set k ds _ (by omega) hds] at HG'
      have hcv : (convert 38 9 (.slice (some ⟨w.heap.size, 65 - k - 1, none⟩) (k + 1) (k + 1))).run Tryd.prog (wr.setCell ⟨w.heap.size, 65 - k - 1, none⟩ (.int .u8 ((hd v).toNat : Int))) = .ok (.string ⟨(hd v :: ds).toArray⟩) (wr.setCell ⟨w.heap.size, 65 - k - 1, none⟩ (.int .u8 ((hd v).toNat : Int))) := by
        have h := run_convert_bytes_back (P := Tryd.prog) (wr.setCell ⟨w.heap.size, 65 - k - 1, none⟩ (.int .u8 ((hd v).toNat : Int))) 38 9 5 ⟨w.heap.size, 65 - k - 1, none⟩ (k + 1) (hd v :: ds) Tryd.underlying38 Tryd.underlying5 Tryd.underlying9 (fun j hj => by
          rw [Lib.add_plain, Go.Lib.cell_of_heap HG']
          unfold fbCells
          simp only [List.getElem?_toArray]
          rw [List.getElem?_append_right (by simp; omega), List.length_replicate, show 65 - k - 1 + j - (65 - (k + 1)) = j by omega, List.getElem?_map, List.getElem?_eq_getElem hj]
          rfl)
        rw [List.length_cons, hds] at h
        exact h
      go_wp2
      go_ret2
      refine ⟨?_, HB.out.setCell hb0 _⟩
      rw [HX.out, hexD_lt (by omega)]
      rfl
theorem fu_in (u : Nat) (hu : u < 18446744073709551616) (w : World) (hT : TabAt 3 Lib.deBruijn64tab w) :
    Calls Tryd.prog 43 #[.int .u64 u, .int .i64 16] w fun e w' => e = .returned (.string ⟨(hexD u).toArray⟩) ∧ Below w.heap.size w w' := by
  go_enter Tryd.func43, Tryd.ntmps43
  go_wp2_with (first
    | (go_at_call 60; refine (fb_walk u hu _ hT).mono ?_; rintro e w1 ⟨rfl, hB⟩)
    | go_in)
  go_ret
  exact ⟨rfl, hB⟩
theorem fu_calls (u : Nat) (hu : u < 18446744073709551616) (w : World) (hT : TabAt 3 Lib.deBruijn64tab w) :
    Calls Tryd.prog 26 #[.int .u64 u, .int .i64 16] w fun e w' => e = .returned (.string ⟨(hexD u).toArray⟩) ∧ Below w.heap.size w w' := by
  go_enter Tryd.func26, Tryd.ntmps26
  go_wp2_with (first
    | (go_at_call 43; refine (fu_in u hu _ hT).mono ?_; rintro e w1 ⟨rfl, hB⟩)
    | go_in)
  go_ret
  exact ⟨rfl, hB⟩
end
end Go.Proofs
namespace Go.Proofs.YtimojogjlbajeaaDoor
open Go Go.Fw Go.Proofs Go.RowKit
theorem fu_ext {L : Laid} (hL : ∀ w, L.on w → TabAt 3 Lib.deBruijn64tab w) : ExtOk Tryd.prog L LPt.I26 := by
  refine extOk_of (I := LPt.I26) (g := fun x => if 0 ≤ x.1 ∧ x.1 < 18446744073709551616 ∧ x.2.1 = 16 then some (((⟨(hexD x.1.toNat).toArray⟩ : ByteArray), ()), ()) else none) (fn := Tryd.f26) (code := bd Tryd.f26) rfl Tryd.func26 (by kernel_rfl) (by kernel_rfl) ?_
  intro x r o w vals okc Fs hg hA hok hon
  obtain ⟨a, b, u⟩ := x
  change Int at a
  change Int at b
  obtain ⟨c1, v1, F1, F2, e1, e2, h1, c2, v2, F3, F4, e3, e4, h2, e5, e6⟩ := hA
  simp only [ShR, Rep] at h1 h2
  obtain ⟨_, rfl⟩ := h1
  obtain ⟨_, rfl⟩ := h2
  split at hg
  · rename_i hx
    have hx : 0 ≤ a ∧ a < 18446744073709551616 ∧ b = 16 := hx
    obtain ⟨hx0, hx1, rfl⟩ := hx
    obtain ⟨n, rfl⟩ := Int.eq_ofNat_of_zero_le hx0
    injection hg with hg
    injection hg with h1 h2
    subst h1
    subst e5
    subst e3
    subst e1
    refine (fu_calls n (by omega) w (hL w hon)).mono fun e w' ⟨he, hB⟩ => ?_
    refine ⟨_, he, post_plain (xs := [.string ⟨(hexD n).toArray⟩]) ?_ ?_ hok (keptBut_below hB.os hB.tape hB.output hB.size hB.block)⟩
    · exact ⟨[.string ⟨(hexD n).toArray⟩], [], [], [], rfl, rfl, ⟨rfl, rfl⟩, rfl, rfl⟩
    · exact ⟨_, _, rfl, _, _, rfl, rfl⟩
  · cases hg
theorem repL48 : ∀ c : Nat, Lib.repeatL [48] c = List.replicate c 48
  | 0 => rfl
  | c + 1 => by
    have ih := repL48 c
    simp [Lib.repeatL, List.replicate_succ] at ih ⊢
    exact ih
theorem rp_ext {L : Laid} : ExtOk Tryd.prog L LPt.I27 := by
  refine extOk_of (I := LPt.I27) (g := fun x => if x.1.data = #[48] ∧ 0 ≤ x.2.1 ∧ x.2.1 ≤ 15 then some (((⟨(List.replicate x.2.1.toNat (48 : UInt8)).toArray⟩ : ByteArray), ()), ()) else none) (fn := Tryd.f27) (code := bd Tryd.f27) rfl Tryd.func27 (by kernel_rfl) (by kernel_rfl) ?_
  intro x r o w vals okc Fs hg hA hok hon
  obtain ⟨a, b, u⟩ := x
  change ByteArray at a
  change Int at b
  obtain ⟨c1, v1, F1, F2, e1, e2, h1, c2, v2, F3, F4, e3, e4, h2, e5, e6⟩ := hA
  simp only [ShR, Rep] at h1 h2
  obtain ⟨_, rfl⟩ := h1
  obtain ⟨_, rfl⟩ := h2
  split at hg
  · rename_i hx
    have hx : a.data = #[48] ∧ 0 ≤ b ∧ b ≤ 15 := hx
    obtain ⟨hx0, hx1, hx2⟩ := hx
    obtain ⟨n, rfl⟩ := Int.eq_ofNat_of_zero_le hx1
    obtain ⟨ad⟩ := a
    have hx0 : ad = #[48] := hx0
    subst hx0
    injection hg with hg
    injection hg with h1 h2
    subst h1
    subst e5
    subst e3
    subst e1
    have hsz : (⟨#[48]⟩ : ByteArray).size = 1 := rfl
    have hr := Tryd.strings_Repeat ⟨#[48]⟩ n w (by omega) (by rw [hsz]; omega)
    rw [show (⟨#[48]⟩ : ByteArray).data.toList = [48] from rfl, repL48] at hr
    refine hr.mono fun e w' ⟨he, hB⟩ => ?_
    refine ⟨_, he, post_plain (xs := [.string ⟨(List.replicate n (48 : UInt8)).toArray⟩]) ?_ ?_ hok (keptBut_below hB.os hB.tape hB.output hB.size hB.block)⟩
    · exact ⟨[.string ⟨(List.replicate n (48 : UInt8)).toArray⟩], [], [], [], rfl, rfl, ⟨rfl, rfl⟩, rfl, rfl⟩
    · exact ⟨_, _, rfl, _, _, rfl, rfl⟩
  · cases hg
theorem strOwn {w : World} {g : Nat} {x : ByteArray} {v : Value} {F : List Nat} (h : (v = .slice none 0 0 ∧ x.size = 0 ∧ F = []) ∨ ∃ b cap cur, 0 < x.size ∧ v = .slice (some ⟨b, 0, none⟩) x.size cap ∧ F = [b] ∧ b ≠ g ∧ w.heap[b]? = some (.cells cur 5 (0, 0)) ∧ x.size ≤ cap ∧ cap ≤ maxLen ∧ cur.size = cap ∧ cur.toList.take x.size = x.data.toList.map (fun c => Value.int .u8 c.toNat)) :
    w.ownsRow 0 5 1 v x.size (Lib.strCells x) ∧ v.ownBlock ≠ some g ∧ (∀ k, some k = v.ownBlock → k ∈ F) := by
  have hl : (Lib.strCells x).length = x.size * 1 := by rw [Lib.strCells_length, Nat.mul_one]
  rcases h with ⟨rfl, hx, rfl⟩ | ⟨b, cap, cur, h0, rfl, rfl, hne, hb, h1, h2, h3, h4⟩
  · exact ⟨⟨hl, .inl ⟨rfl, hx⟩⟩, by simp [Value.ownBlock], by simp [Value.ownBlock]⟩
  · refine ⟨⟨hl, .inr ⟨b, cap, cur, rfl, Nat.zero_le _, hb, h1, h2, by rw [Nat.mul_one]; exact h3, by rw [Nat.mul_one, h4]; rfl⟩⟩, by simpa [Value.ownBlock] using hne, by simp [Value.ownBlock]⟩
theorem bw_ext {L : Laid} : ExtOk Tryd.prog L LPt.I14 := by
  refine extOk_of2 (I := LPt.I14) (g := fun x => if x.1.size + x.2.1.size ≤ 140737488355328 then some ((((x.2.1.size : Nat) : Int), false, ()), (x.1 ++ x.2.1, ())) else none) (fn := Tryd.f14) (code := bd Tryd.f14) rfl Tryd.func14 (by kernel_rfl) (by kernel_rfl) ?_
  intro x r o w vals okc Fs hg hA hnd hF hok hon
  obtain ⟨a, b, u⟩ := x
  change ByteArray at a
  change ByteArray at b
  obtain ⟨c1, v1, F1, F2, e1, e2, h1, c2, v2, F3, F4, e3, e4, h2, e5, e6⟩ := hA
  simp only [ShR, Rep] at h1 h2
  obtain ⟨g, F', rfl, rfl, hb⟩ := h1
  obtain ⟨rfl, rfl⟩ := h2
  have ev : vals = [.pointer (some ⟨g, 0, none⟩), .string b] := by rw [e1, e3, e5]; rfl
  subst ev
  have eF : Fs = g :: F' := by rw [e2, e4, e6]; simp
  subst eF
  split at hg
  · rename_i hx
    have hx : a.size + b.size ≤ 140737488355328 := hx
    injection hg with hg
    injection hg with hg1 hg2
    subst hg1
    subst hg2
    have hb : BldOk w 40 5 g a F' := hb
    have hlt := hb.lt
    obtain ⟨p, v, hgb, hp, hv⟩ := hb
    obtain ⟨hown, hne, hvF⟩ := strOwn hv
    refine (bld_write g p v a.size (Lib.strCells a) b w hp hgb hown hne hx).mono fun e w' ⟨he, v', k1, k2, k3, kb, k4, os, tape, out, hz⟩ => ?_
    have hsz : (a ++ b).size = a.size + b.size := ByteArray.size_append
    have hcells : Lib.strCells a ++ Lib.strCells b = (a ++ b).data.toList.map (fun c => Value.int .u8 c.toNat) := by
      unfold Lib.strCells
      rw [← List.map_append]
      congr 1
    have hnew : ∃ F'', BldOk w' 40 5 g (a ++ b) F'' ∧ ∀ k ∈ F'', k ∈ F' ∨ w.heap.size ≤ k := by
      rcases k2.2 with ⟨hv', hn0⟩ | ⟨q, cap, cur, hv', _, hq, hn, hm, hs, ht⟩
      · exact ⟨[], ⟨_, v', k1, .inr rfl, .inl ⟨hv', by rw [hsz]; exact hn0, rfl⟩⟩, by simp⟩
      · have hqg : q ≠ g := by
          rintro rfl
          rw [hq] at k1
          injection k1 with k1
          injection k1 with _ k1
          exact absurd k1 (by decide)
        have hpos : 0 < (a ++ b).size := by
          rcases Nat.eq_zero_or_pos (a ++ b).size with h0 | h0
          · rw [hsz] at h0
            have hv0 : v = .slice none 0 0 := by
              rcases hv with ⟨h, _⟩ | ⟨_, _, _, h, _⟩
              · exact h
              · omega
            have := k3.2 ⟨hv0, by omega⟩
            rw [this] at hv'
            cases hv'
          · exact h0
        refine ⟨[q], ⟨_, v', k1, .inr rfl, .inr ⟨q, cap, cur, hpos, by rw [hsz]; exact hv', rfl, hqg, hq, by rw [hsz]; exact hn, hm, by rw [hs, Nat.mul_one], by rw [← hcells, ← ht, hsz, Nat.mul_one]⟩⟩, fun k hk => ?_⟩
        rw [List.mem_singleton.1 hk]
        exact (kb q (by rw [hv']; rfl)).imp (fun h => hvF q h.symm) id
    obtain ⟨F'', hB, hsub⟩ := hnew
    have hltn := hB.lt
    have hndn := hB.nd
    refine ⟨_, he, [.int .i64 b.size, .nilIface], [], g :: F'', okc, rfl, ⟨[.int .i64 b.size], [.nilIface], [], [], rfl, rfl, ⟨rfl, rfl⟩, [.nilIface], [], [], [], rfl, rfl, ⟨rfl, .inl ⟨rfl, rfl⟩⟩, rfl, rfl⟩, ⟨[.pointer (some ⟨g, 0, none⟩)], _, g :: F'', [], rfl, by simp, ?_, _, _, rfl, rfl⟩, by simpa using hndn, fun k hk => ?_, fun k hk => ?_, ⟨os, tape, out, hz, fun k hk hn => k4 k hk (fun e => hn (by simp [e])) (fun e => hn (by simp [hvF k e]))⟩⟩
    · simp only [ShR]
      exact ⟨g, F'', rfl, rfl, hB⟩
    · have hk : k ∈ g :: F'' := by simpa using hk
      refine ⟨hltn k hk, ?_⟩
      rcases List.mem_cons.1 hk with rfl | hk
      · right; simp
      · rcases hsub k hk with h | h
        · right; simp [h]
        · left; exact h
    · have hk0 := hok k hk
      refine ⟨Nat.lt_of_lt_of_le hk0 hz, .inl hk, fun hm => ?_⟩
      have hm : k ∈ g :: F'' := by simpa using hm
      rcases List.mem_cons.1 hm with rfl | hm
      · exact (hF _ (by simp)).2 hk
      · rcases hsub k hm with h | h
        · exact (hF k (by simp [h])).2 hk
        · omega
  · cases hg
theorem bs_ext {L : Laid} : ExtOk Tryd.prog L LPt.I16 := by
  refine extOk_of2 (I := LPt.I16) (g := fun x => some ((x.1, ()), ())) (fn := Tryd.f16) (code := bd Tryd.f16) rfl Tryd.func16 (by kernel_rfl) (by kernel_rfl) ?_
  intro x r o w vals okc Fs hg hA hnd hF hok hon
  obtain ⟨a, u⟩ := x
  change ByteArray at a
  obtain ⟨c1, v1, F1, F2, e1, e2, h1, e5, e6⟩ := hA
  simp only [ShR] at h1
  obtain ⟨g, F', rfl, rfl, hb⟩ := h1
  have ev : vals = [.pointer (some ⟨g, 0, none⟩)] := by rw [e1, e5]; rfl
  subst ev
  have eF : Fs = g :: F' := by rw [e2, e6]; simp
  subst eF
  injection hg with hg
  injection hg with hg1 hg2
  subst hg1
  have hb : BldOk w 40 5 g a F' := hb
  obtain ⟨p, v, hgb, hp, hv⟩ := hb
  have fin : ∀ (e : Ending) (w' : World), e = .returned (.string a) → KeptBut (· ∈ g :: F') w w' → ∃ z, e = .returned z ∧ Post w okc (g :: F') (LPt.I16).params (LPt.I16).res (a, ()) o [.pointer (some ⟨g, 0, none⟩)] z w' := fun e w' he hk => by
    refine ⟨_, he, post_plain (xs := [.string a]) ?_ ?_ hok hk⟩
    · exact ⟨[.string a], [], [], [], rfl, rfl, ⟨rfl, rfl⟩, rfl, rfl⟩
    · exact ⟨_, _, rfl, rfl⟩
  rcases hv with ⟨rfl, hx, rfl⟩ | ⟨b, cap, cur, hpos, rfl, rfl, hne, hbb, hn, hm, hs, ht⟩
  · refine (Any.Builder_String_nil (ρ := Tryd.lays156_ren) { Tryd.lays156 with } Tryd.Builder_Extra_156 w.heap.size g p w hgb).mono fun e w' ⟨he, hB⟩ => fin e w' ?_ (keptBut_below hB.os hB.tape hB.output hB.size hB.block)
    rw [he]
    have : a = ⟨#[]⟩ := ByteArray.size_eq_zero_iff.1 hx
    rw [this]
  · have hl : a.data.toList.length = a.size := by rw [Array.length_toList]; rfl
    have hne0 : a.data.toList ≠ [] := fun e => by rw [e] at hl; simp at hl; omega
    refine (bld_string g b cap p cur a.data.toList w (by rw [hl]; exact hgb) hbb hne0 (by rw [hl]; exact hn) hm hs (by rw [hl]; exact ht)).mono fun e w' ⟨he, K⟩ => fin e w' ?_ ⟨K.os, K.tape, K.output, K.size, fun k hk hn' => K.heap k hk (fun h => hn' (by rw [List.mem_singleton.1 h]; simp))⟩
    rw [he]
open Go.ChangeShapes Go.WideShapes Go.ChangeAt
abbrev laidL : List (String × DataW Unit) := Rows.fnExactPlateTextRow.laid
theorem Tryd.own : ownKnob Tryd.prog.godebug = none := by kernel_rfl
theorem Tryd.laidOut : laidOutB Tryd.prog = true := by kernel_rfl
theorem gTab : Tryd.prog.globalNamed "math/bits.deBruijn64tab" = some 3 := by kernel_rfl
theorem tTab : (Tryd.prog.globals[3]?).map (·.type) = some 109 := by kernel_rfl
theorem door_met (os : Os) (args : Array Value) : laidMetH Tryd.prog laidL ((World.doorLaid Tryd.prog 400 os).forCall (fun _ _ => 0) ⟨#[], args, []⟩).memory :=
  laidMetH_of_parts3 (fuel := 8) (laidMet_of_run' 8 (by kernel_rfl) (by kernel_rfl)) (by kernel_rfl) (by kernel_rfl)
theorem tab_data : ([("math/bits.deBruijn64tab", Rows.laid_math_bits_deBruijn64tab), ("internal/strconv.uint64pow10", Rows.laid_internal_strconv_uint64pow10)] : List (String × DataW Unit)) = [("math/bits.deBruijn64tab", Lib.tabData .u8 (Lib.deBruijn64tab.map fun (n : Nat) => (n : Int))), ("internal/strconv.uint64pow10", Rows.laid_internal_strconv_uint64pow10)] := by kernel_rfl
theorem tab_of {W : World} (h : laidMetH Tryd.prog laidL W) : TabAt 3 Lib.deBruijn64tab W := by
  rw [MakeChecks.laidMetH_plain _ _ _ (by kernel_rfl)] at h
  have h3 : laidMet Tryd.prog [("math/bits.deBruijn64tab", Rows.laid_math_bits_deBruijn64tab), ("internal/strconv.uint64pow10", Rows.laid_internal_strconv_uint64pow10)] W := h.tail
  rw [tab_data] at h3
  have ht : Lib.TabIs Tryd.prog W "math/bits.deBruijn64tab" .u8 (Lib.deBruijn64tab.map fun (n : Nat) => (n : Int)) := Lib.tabIs_of_head gTab tTab Tryd.underlying109 Tryd.underlying5 (by kernel_rfl) (by kernel_rfl) h3
  intro j hj
  have := ht.cell gTab j (by simpa using hj)
  rw [this]
  congr 2
  simp [List.getD_eq_getElem?_getD, hj]
theorem fnExactPlateText_law : ∀ x, DomA (LPt.C 3).params x → ∃ n r o, call LPt.T LPt.C n 3 x = some (r, o) ∧ IsTrue (LPt.C 3).res r := by
  intro x hd
  obtain ⟨x0, u⟩ := x
  obtain ⟨N, hN⟩ := Go.Cams.YtimojogjlbajeaaDoorLPt.e3 x0 hd
  exact ⟨N, _, _, hN N (Nat.le_refl _), rfl⟩
theorem fnExactPlateText_rec : (Tryd.f3.params.toList.all fun t => Tryd.prog.readableRec t && decide (t < Tryd.prog.types.size)) = true := by kernel_rfl
set_option maxRecDepth 100000 in
theorem fnExactPlateText_lifted (os : Os) (started : os.Started) (H : Type) (enc : TypeId × Value → H) :
    ReturnsInHanded {} Tryd.checked os 3 .any (fun w args => (Rows.fnExactPlateTextSpec.pre enc Tryd.prog Tryd.f3 Rows.fnExactPlateTextRow.domain false w args ∧ laidMetH Tryd.prog laidL w) ∧ sizedMet enc Tryd.prog Tryd.f3 (OpenSpec.ofChange Rows.fnExactPlateTextSpec) false w args) (Rows.fnExactPlateTextSpec.post enc Tryd.prog Tryd.f3 false true false false) := by
  refine returnsInHanded_of_change_and (C := Tryd.checked) (X := fun w _ => laidMetH Tryd.prog laidL w) (fun _ _ _ hh h => h.of_heap hh) Tryd.own started (by kernel_rfl) Tryd.func3
    (ChangeSpec.witness_shaped (enc := enc) (C := Tryd.checked) (os := os) (X := fun w _ => laidMetH Tryd.prog laidL w) false (World.doorLaid Tryd.prog 400 os) #[.agg #[.int .u64 0, .int .u64 0, .int .u64 0, .int .u64 0, .int .u64 0, .int .u64 0, .int .u64 0, .int .u64 0, .int .u64 0, .int .u64 0, .int .u64 0, .int .u64 0, .int .u64 0, .int .u64 0, .int .u64 0, .int .u64 0, .int .u64 0, .int .u64 0, .int .u64 0, .int .u64 0, .int .u64 0, .int .u64 0, .int .u64 0, .int .u64 0, .int .u64 0, .int .u64 0, .int .u64 0, .int .u64 0, .int .u64 0, .int .u64 0, .int .u64 0, .int .u64 0, .int .u64 0, .int .u64 0, .int .u64 0, .int .u64 0, .int .u64 0, .int .u64 0, .int .u64 0, .int .u64 0, .int .u64 0, .int .u64 0, .int .u64 0, .int .u64 0, .int .u64 0, .int .u64 0, .int .u64 0, .int .u64 0, .int .u64 0, .int .u64 0, .int .u64 0, .int .u64 0, .int .u64 0, .int .u64 0, .int .u64 0, .int .u64 0, .int .u64 0, .int .u64 0, .int .u64 0, .int .u64 0, .int .u64 0, .int .u64 0, .int .u64 0, .int .u64 0]] 8 rfl (World.shaped_of_RefB (by kernel_rfl) (by kernel_rfl)) (by kernel_rfl) (by kernel_rfl) (by kernel_rfl) (door_met os _)) ?_
  intro W base args ds gs before hval hW _ hw hL _
  have htab := tab_of hL
  have hsz : 3 < W.heap.size := by
    have h0 := htab 0 (by decide)
    unfold World.cell? at h0
    apply Classical.byContradiction
    intro hn
    rw [Array.getElem?_eq_none (by show W.heap.size ≤ 3; omega)] at h0
    cases h0
  refine law_callsX LPt.tsOk LPt.insts (by kernel_rfl) Tryd.laidOut (j := 3) (by kernel_rfl) (f := 3) (fn := Tryd.f3) rfl (tb := 4) (by kernel_rfl) Tryd.underlying4 (by kernel_rfl) (fun t ht => by have := List.all_eq_true.1 fnExactPlateText_rec t ht; simp only [Bool.and_eq_true, decide_eq_true_eq] at this; exact this) rfl (fun H ds h => match ds, h with | [_], _ => rfl) fnExactPlateText_law hval hW hw (bl := fun b => b = 3) (fun b hb => by rw [hb]; exact hsz) (LPt.exts (fu_ext fun w hon => ?_) rp_ext bw_ext bs_ext)
  intro j hj
  have := cellsAt_keep (w' := w) (fun i v hi => by
    have e : (Addr.add ⟨3, j, none⟩ i) = ⟨3, j, none⟩ := by
      match i, hi with
      | 0, _ => rfl
    rw [e, htab j hj]
    match i, hi with
    | 0, hi => simpa using hi) (a := ⟨3, j, none⟩) (cs := [.int .u8 (Lib.deBruijn64tab.getD j 0)]) (hon.1.heap 3 hsz (by simp))
  exact this 0 _ rfl
theorem fnExactPlateText_bare : Rows.FnExactPlateTextSaid :=
  OpenClaim.holds_of_wide 3 Tryd.f3 rfl rfl rfl rfl rfl rfl rfl ⟨rfl, rfl, rfl, rfl, rfl⟩ rfl rfl rfl rfl rfl (by kernel_rfl) Tryd.func3 (by kernel_rfl)
    (of_decide_eq_true (by kernel_rfl)) (by unfold Func.isWrapper; rw [if_neg (by decide +kernel)]; exact ⟨rfl, rfl⟩)
    (fun os started H enc _ => fnExactPlateText_lifted os started H enc)
theorem fnExactPlateText_named : Tryd.prog.funcNamed Rows.fnExactPlateTextRow.func = some 3 := by kernel_rfl
theorem fnExactPlateText_holds : Rows.FnExactPlateTextCardSaid :=
  Claim7.holds_tied_plain_at .later [] [.data, .data, .data] true (true, "1bd2e887172789a0dc2dbfa5dad7f649cc6fa7cbbad34d7f6b8026b038069068") false
    fnExactPlateText_bare (fun _ h => by cases h) (by kernel_rfl) (fun _ h => by cases h) fnExactPlateText_row_tie rfl ⟨rfl, rfl⟩ (by kernel_rfl) rfl
    (fun f fn hf hfn => by
      obtain rfl : f = 3 := Option.some.inj (fnExactPlateText_named.symm.trans hf) |>.symm
      obtain rfl : fn = Tryd.f3 := (Option.some.inj (Tryd.func3.symm.trans hfn)).symm
      exact ⟨by kernel_rfl, fun j t ht => by
        have hm := Array.mem_of_getElem? ht
        have hall : (Tryd.f3.params.toList.all fun u => !Tryd.prog.wantsStandIn u) = true := by kernel_rfl
        exact (show Tryd.prog.wantsStandIn t = false by simpa using List.all_eq_true.1 hall t (by simpa using hm))⟩)
    (by kernel_rfl)
#print axioms fnExactPlateText_holds
end Go.Proofs.YtimojogjlbajeaaDoor
