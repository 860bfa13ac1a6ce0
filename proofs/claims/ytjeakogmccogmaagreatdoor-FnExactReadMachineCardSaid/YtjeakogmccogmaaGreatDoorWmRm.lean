/- impl.ReadMachine, walked by hand: what its code answers. -/
import Derived.Test.YtjeakogmccogmaaGreatDoorERm
import Derived.Test.YtjeakogmccogmaaGreatDoorERa
import Derived.Shelf.Strings.Builder1
import Derived.Shelf.Strings.Builder2
import Derived.Shelf.Strings.OnBuilder
import Derived.Shelf.Strings.BuilderF
import Derived.Shelf.Strings.BuilderK
import Derived.Shelf.Utf8.RuneCount
import Derived.Shelf.Strconv.Itoa0
import Derived.Shelf.Strconv.Itoa1
import Derived.Shelf.LaysM
import Derived.Shelf.Strconv.Itoa2
import Derived.Shelf.Strconv.Itoa3
import Derived.Shelf.Strconv.Itoa4
import Derived.Shelf.Strconv.ParseIntEmpty
import Derived.Shelf.Strconv.Clone
import Derived.Shelf.Strconv.SyntaxError
import Derived.Shelf.LaysC
import Derived.Shelf.Strconv.ToError
import Derived.Shelf.Strconv.Lower
import Derived.Shelf.Strconv.ParseUint10
import Derived.Shelf.Strconv.ParseUint10Empty
import Derived.Shelf.Strconv.ParseUint10Any
import Derived.Shelf.Strconv.ParseInt10
import Derived.Shelf.Strconv.RangeError
import Derived.Shelf.Strconv.ToErrorRange
import Derived.Shelf.Strconv.ParseUintEmpty
import Derived.Shelf.Strconv.ParseUint10b64
import Derived.Shelf.Strconv.ParseUint10b32
import Derived.Shelf.Strconv.ParseUint10b16
import Derived.Shelf.Strconv.ParseUint10b8
import Derived.Shelf.Strconv.ParseUint10At
import Derived.Shelf.Strconv.ParseInt10At64
import Derived.Shelf.Strconv.ParseInt10At32
import Derived.Shelf.Strconv.ParseInt10At16
import Derived.Shelf.Strconv.ParseInt10At8
import Derived.Shelf.Strconv.ParseInt10All
import Derived.Shelf.Strconv.ParseIntPublic10
import Derived.Shelf.Strings.Search1
import Derived.Shelf.Strings.Search2
import Derived.Shelf.Strings.Search3
import Derived.Shelf.Strings.Cut
import Derived.Shelf.Strings.Count
import Derived.Shelf.Strings.Shaped
import Derived.Shelf.Strings.Prefix
import Derived.Shelf.Strings.Split
import Derived.Shelf.Strings.SplitShaped
import Derived.Shelf.Unicode.Decode
import Derived.Shelf.Strings.RuneCount
import Derived.Shelf.Strings.Explode
import Derived.Shelf.Bits.Mul64
import Derived.Shelf.Unicode.DecodeSlow
import Derived.Shelf.Unicode.DecodeAny
import Derived.HandedShaped
import Derived.WalkKit
import Derived.Lib.Hide
import Derived.Lib.Builder
import Derived.Lib.ConvBytes
import Derived.Lib.Strings
import Derived.Laws.IdiomStrings
namespace Go.Proofs
open Go.Shelf
def Tryz.lays145_ren : Go.Shelf.Ren := ⟨fun | 145 => 32 | 220 => 75 | 219 => 114 | 217 => 143 | 225 => 144 | 224 => 145 | 267 => 146 | 266 => 162 | 314 => 163 | n => n, fun | 9 => 9 | 4 => 4 | 59 => 65 | 3 => 3 | 5 => 5 | 46 => 156 | 146 => 180 | 51 => 179 | n => n, fun | 1 => 0 | n => n⟩
theorem Tryz.lays145 : Go.Proofs.Lays.n145 Tryz.prog Tryz.lays145_ren := {
  mixed := by kernel_rfl
  f145 := Tryz.func32.trans (congrArg some (by kernel_rfl))
  f217 := Tryz.func143.trans (congrArg some (by kernel_rfl))
  f219 := Tryz.func114.trans (congrArg some (by kernel_rfl))
  f220 := Tryz.func75.trans (congrArg some (by kernel_rfl))
  f224 := Tryz.func145.trans (congrArg some (by kernel_rfl))
  f225 := Tryz.func144.trans (congrArg some (by kernel_rfl))
  f266 := Tryz.func162.trans (congrArg some (by kernel_rfl))
  f267 := Tryz.func146.trans (congrArg some (by kernel_rfl))
  f314 := Tryz.func163.trans (congrArg some (by kernel_rfl))
  t3 := Tryz.underlying3
  a3 := Tryz.isAgg3
  z3 := Tryz.sizeOf3
  v3 := Tryz.zeroValue3
  t4 := Tryz.underlying4
  a4 := Tryz.isAgg4
  z4 := Tryz.sizeOf4
  v4 := Tryz.zeroValue4
  t5 := Tryz.underlying5
  a5 := Tryz.isAgg5
  z5 := Tryz.sizeOf5
  v5 := Tryz.zeroValue5
  t9 := Tryz.underlying9
  a9 := Tryz.isAgg9
  z9 := Tryz.sizeOf9
  v9 := Tryz.zeroValue9
  t46 := Tryz.underlying156
  a46 := Tryz.isAgg156
  z46 := Tryz.sizeOf156
  v46 := Tryz.zeroValue156
  t51 := Tryz.underlying179
  a51 := Tryz.isAgg179
  z51 := Tryz.sizeOf179
  v51 := Tryz.zeroValue179
  t59 := Tryz.underlying65
  a59 := Tryz.isAgg65
  z59 := Tryz.sizeOf65
  v59 := Tryz.zeroValue65
  t146 := Tryz.underlying180
  a146 := Tryz.isAgg180
  z146 := Tryz.sizeOf180
  v146 := Tryz.zeroValue180
  g1 := by kernel_rfl }
open Go.RowKit Go.Lib in
/-- strings.Cut: "Cut slices s around the first instance of sep, returning the text before and after sep. The found result reports whether sep appears in s. If sep does not appear in s, cut returns s, "", false.": IT RETURNS 'Lib.cut s sep'; the world is as it was but for the count of draws. (LAID: no walk: one application.) -/
theorem Tryz.strings_Cut (s sep : ByteArray) (m : Int) (w : World) (hs : s.size < 4294967281) (hm : w.cell? ⟨0, 0, none⟩ = some (.int .i64 m)) :
    Calls Tryz.prog 32 #[.string s, .string sep] w fun e w' => e = .returned (.tuple #[.string ⟨(Lib.cut s.data.toList sep.data.toList).1.toArray⟩, .string ⟨(Lib.cut s.data.toList sep.data.toList).2.1.toArray⟩, .bool (Lib.cut s.data.toList sep.data.toList).2.2]) ∧ ∃ n, w' = w.drewN n := Any.strings_Cut Tryz.lays145 s sep m w hs hm
def Tryz.lays102_ren : Go.Shelf.Ren := ⟨fun | 102 => 33 | 209 => 76 | 207 => 115 | n => n, fun | 9 => 9 | 4 => 4 | 3 => 3 | n => n, fun | n => n⟩
theorem Tryz.lays102 : Go.Proofs.Lays.n102 Tryz.prog Tryz.lays102_ren := {
  mixed := by kernel_rfl
  f102 := Tryz.func33.trans (congrArg some (by kernel_rfl))
  f207 := Tryz.func115.trans (congrArg some (by kernel_rfl))
  f209 := Tryz.func76.trans (congrArg some (by kernel_rfl))
  t3 := Tryz.underlying3
  a3 := Tryz.isAgg3
  z3 := Tryz.sizeOf3
  v3 := Tryz.zeroValue3
  t4 := Tryz.underlying4
  a4 := Tryz.isAgg4
  z4 := Tryz.sizeOf4
  v4 := Tryz.zeroValue4
  t9 := Tryz.underlying9
  a9 := Tryz.isAgg9
  z9 := Tryz.sizeOf9
  v9 := Tryz.zeroValue9 }
open Go.RowKit Go.Lib in
/-- strings.TrimSuffix: "TrimSuffix returns s without the provided trailing suffix string. If s doesn't end with suffix, s is returned unchanged.": IT RETURNS 'Lib.trimSuffix s suffix'; the world is as it was. (LAID: no walk: one application.) -/
theorem Tryz.strings_TrimSuffix (s p : ByteArray) (w : World) (hs : s.size ≤ 9223372036854775807) :
    Calls Tryz.prog 33 #[.string s, .string p] w fun e w' => e = .returned (.string ⟨(Lib.trimSuffix s.data.toList p.data.toList).toArray⟩) ∧ w' = w := Any.strings_TrimSuffix Tryz.lays102 s p w hs
def Tryz.lays147_ren : Go.Shelf.Ren := ⟨fun | 147 => 31 | 221 => 74 | 268 => 111 | 138 => 112 | 143 => 113 | 195 => 140 | 197 => 141 | 218 => 142 | 219 => 114 | 260 => 161 | 217 => 143 | 225 => 144 | 224 => 145 | 267 => 146 | 266 => 162 | 314 => 163 | n => n, fun | 9 => 9 | 3 => 3 | 31 => 57 | 4 => 4 | 0 => 0 | 105 => 175 | 21 => 21 | 5 => 5 | 46 => 156 | 119 => 207 | 139 => 210 | 138 => 209 | 146 => 180 | 51 => 179 | n => n, fun | 1 => 0 | 3 => 4 | 4 => 5 | n => n⟩
theorem Tryz.lays147 : Go.Proofs.Lays.n147 Tryz.prog Tryz.lays147_ren := {
  mixed := by kernel_rfl
  f138 := Tryz.func112.trans (congrArg some (by kernel_rfl))
  f143 := Tryz.func113.trans (congrArg some (by kernel_rfl))
  f147 := Tryz.func31.trans (congrArg some (by kernel_rfl))
  f195 := Tryz.func140.trans (congrArg some (by kernel_rfl))
  f197 := Tryz.func141.trans (congrArg some (by kernel_rfl))
  f217 := Tryz.func143.trans (congrArg some (by kernel_rfl))
  f218 := Tryz.func142.trans (congrArg some (by kernel_rfl))
  f219 := Tryz.func114.trans (congrArg some (by kernel_rfl))
  f221 := Tryz.func74.trans (congrArg some (by kernel_rfl))
  f224 := Tryz.func145.trans (congrArg some (by kernel_rfl))
  f225 := Tryz.func144.trans (congrArg some (by kernel_rfl))
  f260 := Tryz.func161.trans (congrArg some (by kernel_rfl))
  f266 := Tryz.func162.trans (congrArg some (by kernel_rfl))
  f267 := Tryz.func146.trans (congrArg some (by kernel_rfl))
  f268 := Tryz.func111.trans (congrArg some (by kernel_rfl))
  f314 := Tryz.func163.trans (congrArg some (by kernel_rfl))
  t0 := Tryz.underlying0
  a0 := Tryz.isAgg0
  z0 := Tryz.sizeOf0
  v0 := Tryz.zeroValue0
  t3 := Tryz.underlying3
  a3 := Tryz.isAgg3
  z3 := Tryz.sizeOf3
  v3 := Tryz.zeroValue3
  t4 := Tryz.underlying4
  a4 := Tryz.isAgg4
  z4 := Tryz.sizeOf4
  v4 := Tryz.zeroValue4
  t5 := Tryz.underlying5
  a5 := Tryz.isAgg5
  z5 := Tryz.sizeOf5
  v5 := Tryz.zeroValue5
  t9 := Tryz.underlying9
  a9 := Tryz.isAgg9
  z9 := Tryz.sizeOf9
  v9 := Tryz.zeroValue9
  t21 := Tryz.underlying21
  a21 := Tryz.isAgg21
  z21 := Tryz.sizeOf21
  v21 := Tryz.zeroValue21
  t31 := Tryz.underlying57
  a31 := Tryz.isAgg57
  z31 := Tryz.sizeOf57
  v31 := Tryz.zeroValue57
  t46 := Tryz.underlying156
  a46 := Tryz.isAgg156
  z46 := Tryz.sizeOf156
  v46 := Tryz.zeroValue156
  t51 := Tryz.underlying179
  a51 := Tryz.isAgg179
  z51 := Tryz.sizeOf179
  v51 := Tryz.zeroValue179
  t105 := Tryz.underlying175
  a105 := Tryz.isAgg175
  z105 := Tryz.sizeOf175
  v105 := Tryz.zeroValue175
  t119 := Tryz.underlying207
  a119 := Tryz.isAgg207
  z119 := Tryz.sizeOf207
  t138 := Tryz.underlying209
  a138 := Tryz.isAgg209
  z138 := Tryz.sizeOf209
  v138 := Tryz.zeroValue209
  t139 := Tryz.underlying210
  a139 := Tryz.isAgg210
  z139 := Tryz.sizeOf210
  v139 := Tryz.zeroValue210
  t146 := Tryz.underlying180
  a146 := Tryz.isAgg180
  z146 := Tryz.sizeOf180
  v146 := Tryz.zeroValue180
  g1 := by kernel_rfl
  g3 := by kernel_rfl
  g4 := by kernel_rfl }
open Go.RowKit Go.Lib in
/-- strings.SplitN, n > 0. (LAID: no walk: one application.) -/
theorem Tryz.strings_SplitN (s sep : ByteArray) (n : Nat) (m : Int) (w : World) (hs : s.size < 4294967281) (hm : w.cell? ⟨0, 0, none⟩ = some (.int .i64 m)) (h1 : 1 ≤ sep.size) (hn : 1 ≤ n) (hn63 : n ≤ 9223372036854775807) :
    Calls Tryz.prog 31 #[.string s, .string sep, .int .i64 n] w fun e w' =>
      e = .returned (.slice (some ⟨w.heap.size, 0, none⟩) (Lib.splitB sep 0 (min n (s.size + 1) - 1) s).length (min n (s.size + 1))) ∧ w' = w.alloc (.cells (Lib.cellsOf (Lib.splitB sep 0 (min n (s.size + 1) - 1) s) (min n (s.size + 1))) 9) := Any.strings_SplitN Tryz.lays147 (by kernel_rfl) s sep n m w hs hm h1 hn hn63
end Go.Proofs

namespace Go.Proofs.YtjeakogmccogmaaGreatDoor
section
open Go Go.Fw Go.Proofs Go.RowKit
theorem fw_calls {P : Program} {T : Nat → Option TI} {C : Nat → Inst} {L : Laid} (hT : TsOk P T) (hI : ∀ j, InstOk P (C j)) (hX : ∀ j, ExtOk P L (C j)) (hm : P.follows .mixedOrders = true) {j : Nat} (hroot : (C j).ext = none) {x : (argTy (C j).params).I} {r : (resTy (C j).res).I} {o : (outTy (C j).params).I} (hE : Evt (fun n => call T C n j x) (r, o)) {w : World} {vals : List Value} {okc : Nat → Prop} {Fs : List Nat} (hA : ArgsR w okc (C j).params x vals Fs) (hnd : Fs.Nodup) (hF : ∀ b ∈ Fs, b < w.heap.size ∧ ¬ okc b) (hok : ∀ b, okc b → b < w.heap.size) (hon : L.on w) (hbl : ∀ b ∈ Fs, ¬ L.bl b) : Calls P (C j).f vals.toArray w fun e w' => ∃ v, e = .returned v ∧ Post w okc Fs (C j).params (C j).res r o vals v w' := by
  obtain ⟨N, hN⟩ := hE
  have hent := call_sound hT hI hX hm N j x r o w vals okc Fs (hN N (Nat.le_refl _)) hA hnd hF hok hon hbl
  have hcalls := enters_calls (hI j) hroot hent
  refine Calls.mono hcalls fun e W1 he => ?_
  cases e with
  | panicked _ => exact he.elim
  | outgrown => exact he.elim
  | returned v => exact ⟨v, rfl, he⟩
/-- A row of numbers in blocks of its own. -/
def OwnRow (w : World) (hd : Value) (l : List Int) (F : List Nat) : Prop := RowOk w hd 1 l.length (l.map (Value.int .i16)) F
theorem repI {w : World} {ok : Nat → Prop} : ∀ {l : List Int} {es : List Value}, RepL (Rep w ok (.int .i16)) l es → es = l.map (Value.int .i16)
  | [], _, h => h
  | n :: l, es, h => by
    obtain ⟨c, d, e, h1, h2⟩ := h
    have h1 : c = [.int .i16 n] := h1
    rw [e, h1, repI h2]; rfl
theorem repI' {w : World} {ok : Nat → Prop} : ∀ l : List Int, RepL (Rep w ok (.int .i16)) l (l.map (Value.int .i16))
  | [] => rfl
  | n :: l => ⟨[.int .i16 n], l.map (Value.int .i16), rfl, rfl, repI' l⟩
theorem on_kept {L : Laid} {w w' : World} (h : L.on w) (k : KeptBut (fun _ => False) w w') : L.on w' := Laid.on_kept h (md := []) (k.mono fun _ _ h => h.elim) (by simp)
theorem rc_calls {L : Laid} (hX : ∀ j, ExtOk Tryz.prog L (LRa.C j)) (w : World) (hon : L.on w) (l : List UInt8) (hl : l.length ≤ 1048576) :
    Calls Tryz.prog 34 #[.string (Go.Cams.tx l)] w fun e w' => ∃ hd F, e = .returned (.tuple #[hd, .int .i64 (Go.Cams.rdC l).2]) ∧ OwnRow w' hd (Go.Cams.rdC l).1 F ∧ F.Nodup ∧ (∀ b ∈ F, w.heap.size ≤ b ∧ b < w'.heap.size) ∧ KeptBut (fun _ => False) w w' := by
  have hA : ArgsR w (fun _ => False) (LRa.C 34).params (Go.Cams.tx l, ()) [.string (Go.Cams.tx l)] [] := ⟨[.string (Go.Cams.tx l)], [], [], [], rfl, rfl, ⟨rfl, rfl⟩, rfl, rfl⟩
  refine (fw_calls LRa.tsOk LRa.insts hX (by kernel_rfl) (j := 34) rfl (Go.Cams.YtjeakogmccogmaaGreatDoorLRa.e34 l hl) hA (by simp) (by simp) (fun b h => h.elim) hon (by simp)).mono fun e w' ⟨v, he, hp⟩ => ?_
  obtain ⟨xs, Fr, Fo, ok', rfl, hR, hO, hnd, hFr, hok', hk⟩ := hp
  obtain ⟨c1, v1, F1, F2, e1, e2, h1, c2, v2, F3, F4, e3, e4, h2, e5, e6⟩ := hR
  simp only [ShR] at h1
  have h2 : F3 = [] ∧ c2 = [.int .i64 (Go.Cams.rdC l).2] := h2
  obtain ⟨rfl, rfl⟩ := h2
  obtain ⟨hd, es, G1, G2, rfl, eG, hrow, hG2, hrep⟩ := h1
  subst hG2
  have hes := repI hrep
  subst hes
  subst e6
  have eF : Fr = G1 := by rw [e2, eG, e4]; simp
  have hO : Fo = [] := by
    obtain ⟨_, _, _, h⟩ := hO
    exact h
  subst hO
  refine ⟨hd, Fr, ?_, ?_, by simpa using hnd, fun b hb => ?_, hk.mono fun b _ h => by simp at h⟩
  · rw [he, e1, e3, e5]; rfl
  · rw [eF]; exact hrow
  · have := hFr b (by simpa using hb)
    exact ⟨this.2.resolve_right (by simp), this.1⟩
theorem repM {w : World} {h0 h1 h2 : Value} {m : Go.Cams.Mch} {F0 F1 F2 : List Nat} {ok : Nat → Prop} (r0 : OwnRow w h0 m.1 F0) (r1 : OwnRow w h1 m.2.1 F1) (r2 : OwnRow w h2 m.2.2.1 F2) (hok : ∀ b ∈ F0 ++ F1 ++ F2, ok b) : Rep w ok (.pair (.slc (.int .i16)) (.pair (.slc (.int .i16)) (.pair (.slc (.int .i16)) .unit))) m [h0, h1, h2] :=
  ⟨[h0], [h1, h2], rfl, rep_of_row (t := .int .i16) r0 (fun b hb => hok b (by simp [hb])) (repI' _), [h1], [h2], rfl, rep_of_row (t := .int .i16) r1 (fun b hb => hok b (by simp [hb])) (repI' _), [h2], [], rfl, rep_of_row (t := .int .i16) r2 (fun b hb => hok b (by simp [hb])) (repI' _), rfl⟩
theorem vm_calls {L : Laid} (hX : ∀ j, ExtOk Tryz.prog L (LRa.C j)) (w : World) (hon : L.on w) {h0 h1 h2 : Value} {m : Go.Cams.Mch} (hr : Go.Cams.RngM m) {F0 F1 F2 : List Nat} (r0 : OwnRow w h0 m.1 F0) (r1 : OwnRow w h1 m.2.1 F1) (r2 : OwnRow w h2 m.2.2.1 F2) (hlt : ∀ b ∈ F0 ++ F1 ++ F2, b < w.heap.size) :
    Calls Tryz.prog 35 #[.agg #[h0, h1, h2]] w fun e w' => e = .returned (.bool (Go.Cams.okM m)) ∧ KeptBut (fun _ => False) w w' := by
  have hA : ArgsR w (fun b => b ∈ F0 ++ F1 ++ F2) (LRa.C 35).params (m, ()) [.agg #[h0, h1, h2]] [] := ⟨[h0, h1, h2], [], [], [], rfl, rfl, ⟨rfl, repM r0 r1 r2 fun b hb => hb⟩, rfl, rfl⟩
  refine (fw_calls LRa.tsOk LRa.insts hX (by kernel_rfl) (j := 35) rfl (Go.Cams.YtjeakogmccogmaaGreatDoorLRa.e35 m hr) hA (by simp) (by simp) (fun b h => hlt b h) hon (by simp)).mono fun e w' ⟨v, he, hp⟩ => ?_
  obtain ⟨xs, Fr, Fo, ok', rfl, hR, hO, hnd, hFr, hok', hk⟩ := hp
  obtain ⟨c1, v1, F1, F2, e1, e2, h1, e5, e6⟩ := hR
  have h1 : F1 = [] ∧ c1 = [.bool (Go.Cams.okM m)] := h1
  obtain ⟨rfl, rfl⟩ := h1
  refine ⟨by rw [he, e1, e5]; rfl, hk.mono fun b _ h => by simp at h⟩
theorem mt_calls {L : Laid} (hX : ∀ j, ExtOk Tryz.prog L (LRa.C j)) (w : World) (hon : L.on w) {h0 h1 h2 : Value} {m : Go.Cams.Mch} (hr : Go.Cams.RngM m) {F0 F1 F2 : List Nat} (r0 : OwnRow w h0 m.1 F0) (r1 : OwnRow w h1 m.2.1 F1) (r2 : OwnRow w h2 m.2.2.1 F2) (hlt : ∀ b ∈ F0 ++ F1 ++ F2, b < w.heap.size) :
    Calls Tryz.prog 36 #[.agg #[h0, h1, h2]] w fun e w' => e = .returned (.string (Go.Cams.mtR m)) ∧ KeptBut (fun _ => False) w w' := by
  have hA : ArgsR w (fun b => b ∈ F0 ++ F1 ++ F2) (LRa.C 36).params (m, ()) [.agg #[h0, h1, h2]] [] := ⟨[h0, h1, h2], [], [], [], rfl, rfl, ⟨rfl, repM r0 r1 r2 fun b hb => hb⟩, rfl, rfl⟩
  refine (fw_calls LRa.tsOk LRa.insts hX (by kernel_rfl) (j := 36) rfl (Go.Cams.YtjeakogmccogmaaGreatDoorLRa.e36 m hr) hA (by simp) (by simp) (fun b h => hlt b h) hon (by simp)).mono fun e w' ⟨v, he, hp⟩ => ?_
  obtain ⟨xs, Fr, Fo, ok', rfl, hR, hO, hnd, hFr, hok', hk⟩ := hp
  obtain ⟨c1, v1, F1, F2, e1, e2, h1, e5, e6⟩ := hR
  have h1 : F1 = [] ∧ c1 = [.string (Go.Cams.mtR m)] := h1
  obtain ⟨rfl, rfl⟩ := h1
  refine ⟨by rw [he, e1, e5]; rfl, hk.mono fun b _ h => by simp at h⟩
end
end Go.Proofs.YtjeakogmccogmaaGreatDoor

namespace Go.Proofs.YtjeakogmccogmaaGreatDoor
section
open Go Go.Fw Go.Proofs Go.RowKit
/-- The world in the loop: the result's cells, the three cams' headers, the parts of the text. -/
structure RmI (l : List UInt8) (w : World) (i : Nat) (wr : World) (hs : Nat → Value) (Fs : Nat → List Nat) : Prop where
  below : Below w.heap.size w wr
  lt : w.heap.size + 3 ≤ wr.heap.size
  res : wr.heap[w.heap.size]? = some (.cells #[.slice none 0 0, .slice none 0 0, .slice none 0 0] 25 (0, 0))
  arr : wr.heap[w.heap.size + 1]? = some (.cells #[hs 0, hs 1, hs 2] 63 (0, 0))
  spl : ∀ (j : Nat) (p : List UInt8), (Go.Cams.splitN3 l)[j]? = some p → wr.cell? ⟨w.heap.size + 2, j, none⟩ = some (.string (Go.Cams.tx p))
  row : ∀ k, k < 3 → OwnRow wr (hs k) (if k < i then Go.Cams.rdMc l k else []) (Fs k)
  fs : ∀ k, k < 3 → ∀ b ∈ Fs k, w.heap.size + 3 ≤ b ∧ b < wr.heap.size
  nd : (Fs 0 ++ (Fs 1 ++ Fs 2)).Nodup
theorem RmI.keep {l : List UInt8} {w : World} {i : Nat} {wr w5 : World} {hs : Nat → Value} {Fs : Nat → List Nat} (I : RmI l w i wr hs Fs) (hk : KeptBut (fun _ => False) wr w5) : RmI l w i w5 hs Fs := by
  have hh : ∀ b, b < wr.heap.size → w5.heap[b]? = wr.heap[b]? := fun b hb => hk.heap b hb (fun h => h)
  have hlt := I.lt
  have hsz := hk.size
  refine ⟨I.below.trans ((⟨hk.os, hk.tape, hk.output, hk.size, fun b hb => hh b hb⟩ : Below wr.heap.size wr w5).mono (by omega)), by omega, by rw [hh _ (by omega)]; exact I.res, by rw [hh _ (by omega)]; exact I.arr, fun j p hp => ?_, fun k hk3 => ?_, fun k hk3 b hb => ?_, I.nd⟩
  · have := I.spl j p hp
    unfold World.cell? at this ⊢
    rw [hh (w.heap.size + 2) (by omega)]
    exact this
  · exact RowOk.keep (I.row k hk3) fun b hb => hh b (I.fs k hk3 b hb).2
  · have := I.fs k hk3 b hb
    omega
theorem kept_drew (w : World) (n : Nat) : KeptBut (fun _ => False) w (w.drewN n) := ⟨rfl, rfl, rfl, Nat.le_refl _, fun _ _ _ => rfl⟩
theorem heap_set_ne {w : World} {b k o : Nat} {q : Value} (h : k ≠ b) : (w.setCell ⟨b, o, none⟩ q).heap[k]? = w.heap[k]? := by
  simp only [World.setCell]
  rw [Array.getElem?_modify, if_neg (fun e => h e.symm)]
theorem heap_set_eq {w : World} {b i : Nat} {xs : Array Value} {T : TypeId} (q : Value) (hb : w.heap[b]? = some (.cells xs T (0, 0))) : (w.setCell ⟨b, i, none⟩ q).heap[b]? = some (.cells (xs.setIfInBounds i q) T (0, 0)) := by
  simp [World.setCell, Array.getElem?_modify, hb]
theorem heap_set_size (w : World) (b o : Nat) (q : Value) : (w.setCell ⟨b, o, none⟩ q).heap.size = w.heap.size := by simp [World.setCell]
def updV (hs : Nat → Value) (i : Nat) (v : Value) : Nat → Value := fun k => if k = i then v else hs k
def updF (Fs : Nat → List Nat) (i : Nat) (v : List Nat) : Nat → List Nat := fun k => if k = i then v else Fs k
theorem RmI.put {l : List UInt8} {w : World} {i : Nat} {w5 : World} {hs : Nat → Value} {Fs : Nat → List Nat} (I : RmI l w i w5 hs Fs) (hi : i < 3) {hd : Value} {F : List Nat} (hr : OwnRow w5 hd (Go.Cams.rdMc l i) F) (hnd : F.Nodup) (hF : ∀ b ∈ F, w.heap.size + 3 ≤ b ∧ b < w5.heap.size) (hdis : ∀ k, k < 3 → ∀ b ∈ Fs k, b ∉ F) : RmI l w (i + 1) (w5.setCell ⟨w.heap.size + 1, i, none⟩ hd) (updV hs i hd) (updF Fs i F) := by
  have hlt := I.lt
  have hne : ∀ b, b ≠ w.heap.size + 1 → (w5.setCell ⟨w.heap.size + 1, i, none⟩ hd).heap[b]? = w5.heap[b]? := fun b hb => heap_set_ne hb
  have hsz := heap_set_size w5 (w.heap.size + 1) i hd
  refine ⟨I.below.setCell (by show w.heap.size ≤ w.heap.size + 1; omega) _, by rw [hsz]; exact hlt, by rw [hne _ (by omega)]; exact I.res, ?_, fun j p hp => ?_, fun k hk => ?_, fun k hk b hb => ?_, ?_⟩
  · rw [heap_set_eq hd I.arr]
    have hc : i = 0 ∨ i = 1 ∨ i = 2 := by omega
    rcases hc with rfl | rfl | rfl <;> rfl
  · have := I.spl j p hp
    unfold World.cell? at this ⊢
    rw [hne (w.heap.size + 2) (by omega)]
    exact this
  · unfold updV updF
    by_cases e : k = i
    · subst e
      rw [if_pos rfl, if_pos rfl, if_pos (by omega)]
      exact RowOk.keep hr fun b hb => hne b (by have := hF b hb; omega)
    · rw [if_neg e, if_neg e]
      have h0 := I.row k hk
      have e2 : (if k < i + 1 then Go.Cams.rdMc l k else []) = if k < i then Go.Cams.rdMc l k else [] := by
        by_cases h : k < i
        · rw [if_pos h, if_pos (by omega)]
        · rw [if_neg h, if_neg (by omega)]
      rw [e2]
      exact RowOk.keep h0 fun b hb => hne b (by have := I.fs k hk b hb; omega)
  · rw [hsz]
    unfold updF at hb
    by_cases e : k = i
    · rw [if_pos e] at hb
      exact hF b hb
    · rw [if_neg e] at hb
      exact I.fs k hk b hb
  · have n0 := hdis 0 (by omega)
    have n1 := hdis 1 (by omega)
    have n2 := hdis 2 (by omega)
    have nd := I.nd
    simp only [List.nodup_append, List.mem_append] at nd
    obtain ⟨d0, ⟨d1, d2, d12⟩, d01⟩ := nd
    have hc : i = 0 ∨ i = 1 ∨ i = 2 := by omega
    rcases hc with rfl | rfl | rfl
    · show (F ++ (Fs 1 ++ Fs 2)).Nodup
      simp only [List.nodup_append, List.mem_append]
      refine ⟨hnd, ⟨d1, d2, d12⟩, fun a ha b hb e => ?_⟩
      subst e
      rcases hb with hb | hb
      · exact n1 a hb ha
      · exact n2 a hb ha
    · show (Fs 0 ++ (F ++ Fs 2)).Nodup
      simp only [List.nodup_append, List.mem_append]
      refine ⟨d0, ⟨hnd, d2, fun a ha b hb e => ?_⟩, fun a ha b hb e => ?_⟩
      · subst e; exact n2 a hb ha
      · subst e
        rcases hb with hb | hb
        · exact n0 a ha hb
        · exact d01 a ha a (.inr hb) rfl
    · show (Fs 0 ++ (Fs 1 ++ F)).Nodup
      simp only [List.nodup_append, List.mem_append]
      refine ⟨d0, ⟨d1, hnd, fun a ha b hb e => ?_⟩, fun a ha b hb e => ?_⟩
      · subst e; exact n1 a ha hb
      · subst e
        rcases hb with hb | hb
        · exact d01 a ha a (.inl hb) rfl
        · exact n0 a ha hb
theorem nilRow (w : World) : OwnRow w (.slice none 0 0) [] [] := ⟨none, 0, rfl, Nat.le_refl _, rfl, .inl ⟨rfl, rfl⟩⟩
def nilV (_ : Nat) : Value := .slice none 0 0
def nilF (_ : Nat) : List Nat := []
theorem allocH (w : World) (o : Obj) : (w.alloc o).heap = w.heap.push o := rfl
theorem allocS (w : World) (o : Obj) : (w.alloc o).heap.size = w.heap.size + 1 := by rw [allocH]; simp
theorem RmI.start (l : List UInt8) (w : World) (cs : Array Value) (hc : ∀ (j : Nat) (p : List UInt8), (Go.Cams.splitN3 l)[j]? = some p → cs[j]? = some (.string (Go.Cams.tx p))) :
    RmI l w 0 (((w.alloc (.cells #[.slice none 0 0, .slice none 0 0, .slice none 0 0] 25)).alloc (.cells #[.slice none 0 0, .slice none 0 0, .slice none 0 0] 63)).alloc (.cells cs 9)) nilV nilF := by
  refine ⟨(((Below.refl w.heap.size w).alloc (Nat.le_refl _) _).alloc (by rw [allocS]; omega) _).alloc (by rw [allocS, allocS]; omega) _, by rw [allocS, allocS, allocS]; omega, ?_, ?_, fun j p hp => ?_, fun k _ => ?_, fun k _ b hb => by simp [nilF] at hb, by simp [nilF]⟩
  · rw [allocH, allocH, allocH, Array.getElem?_push, if_neg (by simp; omega), Array.getElem?_push, if_neg (by simp), Array.getElem?_push, if_pos rfl]
  · rw [allocH, allocH, allocH, Array.getElem?_push, if_neg (by simp), Array.getElem?_push, if_pos (by simp)]
    rfl
  · have := hc j p hp
    unfold World.cell?
    rw [allocH, allocH, allocH, Array.getElem?_push, if_pos (by simp)]
    exact this
  · rw [if_neg (by omega)]
    exact nilRow _
theorem sp_calls (l : List UInt8) (hl : l.length ≤ 4000000) (m : Int) (w : World) (hm : w.cell? ⟨0, 0, none⟩ = some (.int .i64 m)) :
    Calls Tryz.prog 31 #[.string (Go.Cams.tx l), .string ⟨#[10]⟩, .int .i64 3] w fun e w' => ∃ (N : Nat) (cs : Array Value), e = .returned (.slice (some ⟨w.heap.size, 0, none⟩) (Go.Cams.splitN3 l).length N) ∧ w' = w.alloc (.cells cs 9) ∧ (Go.Cams.splitN3 l).length ≤ N ∧ ∀ (j : Nat) (p : List UInt8), (Go.Cams.splitN3 l)[j]? = some p → cs[j]? = some (.string (Go.Cams.tx p)) := by
  have e := Go.Cams.splitN3_tx l
  have hlen := Lib.splitB_length_le (Go.Cams.tx [10]) 0 (min 3 ((Go.Cams.tx l).size + 1) - 1) (Go.Cams.tx l)
  have hsz : (Go.Cams.tx l).size = l.length := Go.Cams.tx_size l
  refine (Tryz.strings_SplitN (Go.Cams.tx l) ⟨#[10]⟩ 3 m w (by omega) hm (by decide) (by omega) (by omega)).mono fun e1 w1 ⟨he, hw⟩ => ?_
  have e2 : Lib.splitB ⟨#[10]⟩ 0 (min 3 ((Go.Cams.tx l).size + 1) - 1) (Go.Cams.tx l) = (Go.Cams.splitN3 l).map Go.Cams.tx := e
  rw [e2] at he hw
  rw [e, List.length_map] at hlen
  refine ⟨min 3 ((Go.Cams.tx l).size + 1), _, by rw [he, List.length_map], hw, by omega, fun j p hp => ?_⟩
  unfold Lib.cellsOf
  rw [List.getElem?_toArray, List.getElem?_append_left (by simpa using (List.getElem?_eq_some_iff.1 hp).1), List.getElem?_map, List.getElem?_map, hp]
  rfl
end
end Go.Proofs.YtjeakogmccogmaaGreatDoor

namespace Go.Proofs.YtjeakogmccogmaaGreatDoor
section
open Go Go.Fw Go.Proofs Go.RowKit
theorem on_below {L : Laid} {w wr : World} (h : L.on w) (hB : Below w.heap.size w wr) : L.on wr := on_kept h ⟨hB.os, hB.tape, hB.output, hB.size, fun b hb _ => hB.block b hb⟩
theorem ts_calls (p : List UInt8) (hp : p.length ≤ 4000000) (w : World) : Calls Tryz.prog 33 #[.string (Go.Cams.tx p), .string ⟨#[10]⟩] w fun e w' => e = .returned (.string (Go.Cams.tx (Lib.trimSuffix p [10]))) ∧ w' = w :=
  (Tryz.strings_TrimSuffix (Go.Cams.tx p) ⟨#[10]⟩ w (by rw [Go.Cams.tx_size]; omega)).mono fun e w' ⟨he, hw⟩ => ⟨he, hw⟩
theorem ct_calls (p : List UInt8) (hp : p.length ≤ 4000000) (m : Int) (w : World) (hm : w.cell? ⟨0, 0, none⟩ = some (.int .i64 m)) : Calls Tryz.prog 32 #[.string (Go.Cams.tx p), .string ⟨#[32]⟩] w fun e w' => e = .returned (.tuple #[.string (Go.Cams.tx (Lib.cut p [32]).1), .string (Go.Cams.tx (Lib.cut p [32]).2.1), .bool (Lib.cut p [32]).2.2]) ∧ KeptBut (fun _ => False) w w' :=
  (Tryz.strings_Cut (Go.Cams.tx p) ⟨#[32]⟩ m w (by rw [Go.Cams.tx_size]; omega) hm).mono fun e w' ⟨he, n, hw⟩ => ⟨he, by rw [hw]; exact kept_drew w n⟩
structure RmF (l : List UInt8) (w wr : World) (h0 h1 h2 : Value) (F0 F1 F2 : List Nat) : Prop where
  below : Below w.heap.size w wr
  lt : w.heap.size + 3 ≤ wr.heap.size
  res : wr.heap[w.heap.size]? = some (.cells #[.slice none 0 0, .slice none 0 0, .slice none 0 0] 25 (0, 0))
  arr : wr.heap[w.heap.size + 1]? = some (.cells #[h0, h1, h2] 63 (0, 0))
  r0 : OwnRow wr h0 (Go.Cams.rdMm l).1 F0
  r1 : OwnRow wr h1 (Go.Cams.rdMm l).2.1 F1
  r2 : OwnRow wr h2 (Go.Cams.rdMm l).2.2.1 F2
  fs : ∀ b ∈ F0 ++ F1 ++ F2, w.heap.size + 3 ≤ b ∧ b < wr.heap.size
  nd : (F0 ++ (F1 ++ F2)).Nodup
theorem RmI.fin {l : List UInt8} {w : World} {i : Nat} {wr : World} {hs : Nat → Value} {Fs : Nat → List Nat} (I : RmI l w i wr hs Fs) (hi : (Go.Cams.splitN3 l).length ≤ i) :
    ∃ A0 n0 c0 A1 n1 c1 A2 n2 c2 F0 F1 F2, RmF l w wr (.slice A0 n0 c0) (.slice A1 n1 c1) (.slice A2 n2 c2) F0 F1 F2 := by
  have e : ∀ k, (if k < i then Go.Cams.rdMc l k else []) = Go.Cams.rdMc l k := fun k => by
    by_cases h : k < i
    · rw [if_pos h]
    · rw [if_neg h]
      unfold Go.Cams.rdMc
      rw [List.getElem?_eq_none (by omega)]
  have r0 := I.row 0 (by omega)
  have r1 := I.row 1 (by omega)
  have r2 := I.row 2 (by omega)
  rw [e] at r0 r1 r2
  have h := I.arr
  have f0 := I.fs 0 (by omega)
  have f1 := I.fs 1 (by omega)
  have f2 := I.fs 2 (by omega)
  have nd := I.nd
  have q0 := r0
  have q1 := r1
  have q2 := r2
  obtain ⟨A0, c0, e0, _⟩ := r0
  obtain ⟨A1, c1, e1, _⟩ := r1
  obtain ⟨A2, c2, e2, _⟩ := r2
  rw [e0] at q0
  rw [e1] at q1
  rw [e2] at q2
  rw [e0, e1, e2] at h
  refine ⟨_, _, _, _, _, _, _, _, _, Fs 0, Fs 1, Fs 2, I.below, I.lt, I.res, h, q0, q1, q2, fun b hb => ?_, nd⟩
  simp only [List.mem_append] at hb
  rcases hb with (hb | hb) | hb
  · exact f0 b hb
  · exact f1 b hb
  · exact f2 b hb
theorem RmF.rows {l : List UInt8} {w wr w' : World} {h0 h1 h2 : Value} {F0 F1 F2 : List Nat} (J : RmF l w wr h0 h1 h2 F0 F1 F2) (hh : ∀ b, w.heap.size + 3 ≤ b → b < wr.heap.size → w'.heap[b]? = wr.heap[b]?) : OwnRow w' h0 (Go.Cams.rdMm l).1 F0 ∧ OwnRow w' h1 (Go.Cams.rdMm l).2.1 F1 ∧ OwnRow w' h2 (Go.Cams.rdMm l).2.2.1 F2 :=
  ⟨RowOk.keep J.r0 fun b hb => have h := J.fs b (by simp [hb]); hh b h.1 h.2, RowOk.keep J.r1 fun b hb => have h := J.fs b (by simp [hb]); hh b h.1 h.2, RowOk.keep J.r2 fun b hb => have h := J.fs b (by simp [hb]); hh b h.1 h.2⟩
theorem alloc_old (w : World) (o : Obj) {b : Nat} (h : b < w.heap.size) : (w.alloc o).heap[b]? = w.heap[b]? := by
  rw [allocH, Array.getElem?_push, if_neg (by omega)]
theorem RmF.vm {L : Laid} (hX : ∀ j, ExtOk Tryz.prog L (LRa.C j)) {l : List UInt8} {w wr : World} {h0 h1 h2 : Value} {F0 F1 F2 : List Nat} (J : RmF l w wr h0 h1 h2 F0 F1 F2) {o : Obj} (hon : L.on (wr.alloc o)) :
    Calls Tryz.prog 35 #[.agg #[h0, h1, h2]] (wr.alloc o) fun e w' => e = .returned (.bool (Go.Cams.okM (Go.Cams.rdMm l))) ∧ KeptBut (fun _ => False) (wr.alloc o) w' := by
  obtain ⟨r0, r1, r2⟩ := J.rows (w' := wr.alloc o) fun b _ h => alloc_old wr o h
  exact vm_calls hX _ hon (Go.Cams.rdMm_rng l) r0 r1 r2 fun b hb => by
    have := (J.fs b hb).2
    rw [allocS]; omega
theorem RmF.mt {L : Laid} (hX : ∀ j, ExtOk Tryz.prog L (LRa.C j)) {l : List UInt8} {w wr w7 : World} {h0 h1 h2 : Value} {F0 F1 F2 : List Nat} (J : RmF l w wr h0 h1 h2 F0 F1 F2) {o : Obj} (hk : KeptBut (fun _ => False) (wr.alloc o) w7) (hon : L.on w7) :
    Calls Tryz.prog 36 #[.agg #[h0, h1, h2]] w7 fun e w' => e = .returned (.string (Go.Cams.mtR (Go.Cams.rdMm l))) ∧ KeptBut (fun _ => False) w7 w' := by
  obtain ⟨r0, r1, r2⟩ := J.rows (w' := w7) fun b _ h => by rw [hk.heap b (by rw [allocS]; omega) (fun h => h)]; exact alloc_old wr o h
  exact mt_calls hX _ hon (Go.Cams.rdMm_rng l) r0 r1 r2 fun b hb => by
    have := (J.fs b hb).2
    have h2 := hk.size
    rw [allocS] at h2
    omega
def RmQ (l : List UInt8) (w : World) (e : Ending) (w' : World) : Prop := ∃ h0 h1 h2 F0 F1 F2, e = .returned (.tuple #[.agg #[h0, h1, h2], .int .i64 (Go.Cams.rdMI l).2.1]) ∧ OwnRow w' h0 (Go.Cams.rdMI l).1.1 F0 ∧ OwnRow w' h1 (Go.Cams.rdMI l).1.2.1 F1 ∧ OwnRow w' h2 (Go.Cams.rdMI l).1.2.2.1 F2 ∧ (F0 ++ (F1 ++ F2)).Nodup ∧ (∀ b ∈ F0 ++ F1 ++ F2, w.heap.size ≤ b ∧ b < w'.heap.size) ∧ Below w.heap.size w w'
theorem cells3 {w : World} {b : Nat} {h0 h1 h2 : Value} {T : TypeId} (h : w.heap[b]? = some (.cells #[h0, h1, h2] T (0, 0))) : w.cell? ⟨b, 0, none⟩ = some h0 ∧ w.cell? ⟨b, 1, none⟩ = some h1 ∧ w.cell? ⟨b, 2, none⟩ = some h2 ∧ w.frozen? ⟨b, 0, none⟩ = false ∧ w.frozen? ⟨b, 1, none⟩ = false ∧ w.frozen? ⟨b, 2, none⟩ = false := by
  simp [World.cell?, World.frozen?, h]
theorem RmF.below7 {l : List UInt8} {w wr w7 : World} {h0 h1 h2 : Value} {F0 F1 F2 : List Nat} (J : RmF l w wr h0 h1 h2 F0 F1 F2) {o : Obj} (hk : KeptBut (fun _ => False) (wr.alloc o) w7) : Below w.heap.size w w7 := by
  have h1 := J.below.trans (((Below.refl wr.heap.size wr).alloc (Nat.le_refl _) o).mono (by have := J.lt; omega))
  refine h1.trans (⟨hk.os, hk.tape, hk.output, hk.size, fun b hb => hk.heap b (by have := J.lt; rw [allocS]; omega) (fun h => h)⟩)
theorem RmF.after {l : List UInt8} {w wr w7 : World} {h0 h1 h2 : Value} {F0 F1 F2 : List Nat} (J : RmF l w wr h0 h1 h2 F0 F1 F2) (hk : KeptBut (fun _ => False) (wr.alloc (.cells #[h0, h1, h2] 25)) w7) :
    w7.heap[w.heap.size]? = some (.cells #[.slice none 0 0, .slice none 0 0, .slice none 0 0] 25 (0, 0)) ∧ w7.heap[wr.heap.size]? = some (.cells #[h0, h1, h2] 25 (0, 0)) := by
  have := J.lt
  refine ⟨by rw [hk.heap _ (by rw [allocS]; omega) (fun h => h), alloc_old _ _ (by omega)]; exact J.res, by rw [hk.heap _ (by rw [allocS]; omega) (fun h => h), allocH, Array.getElem?_push, if_pos rfl]⟩
theorem rm_ret {R : Ending → World → Prop} {a : Act} {W : World} {b : Nat} {h0 h1 h2 : Value} {c : Int} (hW : W.heap[b]? = some (.cells #[h0, h1, h2] 25 (0, 0))) (e2 : slot a 2 = .pointer (some ⟨b, 0, none⟩)) (e3 : slot a 3 = .int .i64 c) (hd : a.defers = []) (hR : R (.returned (.tuple #[.agg #[h0, h1, h2], .int .i64 c])) W) : bodyPost Tryz.prog Tryz.f7 R .ret a W := by
  obtain ⟨c0, c1, c2, _, _, _⟩ := cells3 hW
  refine bodyPost_ret (results_run (slots := [.cell 2 25, .tmp 3]) (xs := [.agg #[h0, h1, h2], .int .i64 c]) rfl ⟨⟨_, e2, run_loadVar (cs := [h0, h1, h2]) (Tryz.sizeOf25 W) (Tryz.isAgg25 W) (by simp) ?_ rfl⟩, e3.symm, trivial⟩) hd hR
  intro i v hi
  match i, hi with
  | 0, hi => cases hi; exact c0
  | 1, hi => cases hi; exact c1
  | 2, hi => cases hi; exact c2
def put3 (W : World) (b : Nat) (h0 h1 h2 : Value) : World := ((W.setCell ⟨b, 0, none⟩ h0).setCell ⟨b, 1, none⟩ h1).setCell ⟨b, 2, none⟩ h2
theorem put3_at {W : World} {b : Nat} {x0 x1 x2 : Value} (h0 h1 h2 : Value) (h : W.heap[b]? = some (.cells #[x0, x1, x2] 25 (0, 0))) : (put3 W b h0 h1 h2).heap[b]? = some (.cells #[h0, h1, h2] 25 (0, 0)) := by
  unfold put3
  rw [heap_set_eq _ (heap_set_eq _ (heap_set_eq _ h))]
  rfl
theorem put3_ne {W : World} {b k : Nat} (h0 h1 h2 : Value) (h : k ≠ b) : (put3 W b h0 h1 h2).heap[k]? = W.heap[k]? := by
  unfold put3
  rw [heap_set_ne h, heap_set_ne h, heap_set_ne h]
theorem put3_size (W : World) (b : Nat) (h0 h1 h2 : Value) : (put3 W b h0 h1 h2).heap.size = W.heap.size := by
  unfold put3
  rw [heap_set_size, heap_set_size, heap_set_size]
theorem put3_below {n b : Nat} {w W : World} (hB : Below n w W) (hb : n ≤ b) (h0 h1 h2 : Value) : Below n w (put3 W b h0 h1 h2) := ((hB.setCell hb _).setCell hb _).setCell hb _
theorem rm_bad {l : List UInt8} {w W : World} (e : Go.Cams.rdMI l = Go.Cams.errM) (hB : Below w.heap.size w W) (h0 h1 h2 : Value) (e0 : h0 = .slice none 0 0) (e1 : h1 = .slice none 0 0) (e2 : h2 = .slice none 0 0) : RmQ l w (.returned (.tuple #[.agg #[h0, h1, h2], .int .i64 5])) (put3 W w.heap.size h0 h1 h2) := by
  subst e0; subst e1; subst e2
  refine ⟨.slice none 0 0, .slice none 0 0, .slice none 0 0, [], [], [], ?_, ?_, ?_, ?_, by simp, by simp, put3_below hB (Nat.le_refl _) _ _ _⟩
  · rw [e]; rfl
  · rw [e]; exact nilRow _
  · rw [e]; exact nilRow _
  · rw [e]; exact nilRow _
theorem rm_good {l : List UInt8} {w wr W : World} {h0 h1 h2 : Value} {F0 F1 F2 : List Nat} (e : Go.Cams.rdMI l = (Go.Cams.rdMm l, 0, ())) (J : RmF l w wr h0 h1 h2 F0 F1 F2) (hk : ∀ b, b < wr.heap.size → W.heap[b]? = wr.heap[b]?) (hs : wr.heap.size ≤ W.heap.size) (hB : Below w.heap.size w W) : RmQ l w (.returned (.tuple #[.agg #[h0, h1, h2], .int .i64 0])) (put3 W w.heap.size h0 h1 h2) := by
  obtain ⟨r0, r1, r2⟩ := J.rows (w' := put3 W w.heap.size h0 h1 h2) fun b h1 h2 => by rw [put3_ne _ _ _ (by omega)]; exact hk b h2
  refine ⟨h0, h1, h2, F0, F1, F2, ?_, ?_, ?_, ?_, J.nd, fun b hb => ?_, put3_below hB (Nat.le_refl _) _ _ _⟩
  · rw [e]
  · rw [e]; exact r0
  · rw [e]; exact r1
  · rw [e]; exact r2
  · have := J.fs b hb
    rw [put3_size]
    omega
set_option maxHeartbeats 4000000 in
set_option maxRecDepth 100000 in
theorem rm_walk {L : Laid} (hX : ∀ j, ExtOk Tryz.prog L (LRa.C j)) (hM : ∀ w, L.on w → ∃ m, w.cell? ⟨0, 0, none⟩ = some (.int .i64 m)) (w : World) (hon : L.on w) (l : List UInt8) (hl : l.length ≤ 1048576) :
    Calls Tryz.prog 7 #[.string (Go.Cams.tx l)] w fun e w' => RmQ l w e w' := by
  obtain ⟨m0, hm0⟩ := hM w hon
  have h0lt : 0 < w.heap.size := World.block_lt_of_cell? w _ hm0
  have hcell : ((w.alloc (Obj.cells #[Value.slice none 0 0, Value.slice none 0 0, Value.slice none 0 0] 25)).alloc (Obj.cells #[Value.slice none 0 0, Value.slice none 0 0, Value.slice none 0 0] 63)).cell? ⟨0, 0, none⟩ = some (.int .i64 m0) := by
    have hB := ((Below.refl w.heap.size w).alloc (Nat.le_refl _) (Obj.cells #[Value.slice none 0 0, Value.slice none 0 0, Value.slice none 0 0] 25)).alloc (by rw [allocS]; omega) (Obj.cells #[Value.slice none 0 0, Value.slice none 0 0, Value.slice none 0 0] 63)
    rw [hB.cell (show (⟨0, 0, none⟩ : Addr).block < w.heap.size from h0lt)]
    exact hm0
  go_enter Tryz.func7, Tryz.ntmps7
  go_wp2_with (go_at_call 31; refine (sp_calls l (by omega) m0 _ hcell).mono ?_)
  rintro e w3 ⟨N, cs, rfl, hw3, hN, hcs⟩
  have I0 := RmI.start l w cs hcs
  rw [← hw3] at I0
  clear hw3 hcs hcell
  simp only [allocS]
  have HI : Hid (∃ hs Fs, RmI l w 0 w3 hs Fs) := ⟨nilV, nilF, I0⟩
  have h3 : (Go.Cams.splitN3 l).length ≤ 3 := by
    have e := Go.Cams.splitN3_tx l
    have hlen := Lib.splitB_length_le (Go.Cams.tx [10]) 0 (min 3 ((Go.Cams.tx l).size + 1) - 1) (Go.Cams.tx l)
    rw [e, List.length_map] at hlen
    omega
  have hwl : Hid (∀ p ∈ Go.Cams.splitN3 l, p.length ≤ l.length) := fun p hp => Go.Cams.splitK_wlen _ _ p hp
  clear I0
  go_wp2
  go_loopw [15] (fun c wr => ∃ i : Nat, c = .int .i64 i ∧ i ≤ (Go.Cams.splitN3 l).length ∧ Hid (∃ hs Fs, RmI l w i wr hs Fs)) (fun c _ => (Go.Cams.splitN3 l).length - (RowKit.intOf c).toNat)
  case atStart => exact ⟨0, rfl, Nat.zero_le _, HI⟩
  case round =>
    obtain ⟨i, rfl, hi, HJ⟩ := hrel
    clear HI
    obtain ⟨hs, Fs, J⟩ := HJ.out
    clear HJ
    have honr := on_below hon J.below
    by_cases hlt : i < (Go.Cams.splitN3 l).length
    · obtain ⟨p, hp⟩ : ∃ p, (Go.Cams.splitN3 l)[i]? = some p := ⟨_, List.getElem?_eq_getElem hlt⟩
      have hpl := hwl.out p (List.mem_of_getElem? hp)
      have hc : wr.cell? ⟨w.heap.size + 1 + 1, i, none⟩ = some (.string (Go.Cams.tx p)) := J.spl i p hp
      obtain ⟨m1, hm1⟩ := hM wr honr
      have hql : (Lib.trimSuffix p [10]).length ≤ p.length := by
        unfold Lib.trimSuffix
        split
        · exact List.length_take_le' _ _
        · exact Nat.le_refl _
      have hcl : ((Lib.cut (Lib.trimSuffix p [10]) [32]).2.1).length ≤ (Lib.trimSuffix p [10]).length := by
        unfold Lib.cut
        split
        · show (List.drop _ _).length ≤ _
          rw [List.length_drop]
          omega
        · exact Nat.zero_le _
      have HJ : Hid (RmI l w i wr hs Fs) := J
      have HP : Hid ((Go.Cams.splitN3 l)[i]? = some p) := hp
      clear J hp hwl
      go_wp2_with (first
        | (go_at_call 33; refine (ts_calls p (by omega) _).mono ?_; rintro e w4 ⟨rfl, hw⟩; subst w4)
        | (go_at_call 32; refine (ct_calls _ (by omega) m1 _ hm1).mono ?_))
      rintro e w4 ⟨rfl, hk4⟩
      have hon4 := on_kept honr hk4
      go_wp2_with (go_at_call 34; refine (rc_calls hX _ hon4 _ (by omega)).mono ?_)
      rintro e w5 ⟨hd, F, rfl, hrow, hnd, hF, hk5⟩
      have J5 := (HJ.out.keep hk4).keep hk5
      have hi3 : i < 3 := by omega
      have hca : ∃ old, w5.cell? ⟨w.heap.size + 1, i, none⟩ = some old := by
        have := J5.arr
        have hh : i = 0 ∨ i = 1 ∨ i = 2 := by omega
        rcases hh with rfl | rfl | rfl <;> simp [World.cell?, this]
      obtain ⟨old, hold⟩ := hca
      have hfr : w5.frozen? ⟨w.heap.size + 1, i, none⟩ = false := by simp [World.frozen?, J5.arr]
      have er : (Go.Cams.rdC (Lib.cut (Lib.trimSuffix p [10]) [32]).2.1).1 = Go.Cams.rdMc l i := by
        unfold Go.Cams.rdMc
        rw [HP.out]
        rfl
      rw [er] at hrow
      obtain ⟨A, cap, rfl⟩ : ∃ A cap, hd = .slice A (Go.Cams.rdMc l i).length cap := by
        obtain ⟨A, cap, h, _⟩ := hrow
        exact ⟨A, cap, h⟩
      have HJ6 : Hid (RmI l w (i + 1) (w5.setCell ⟨w.heap.size + 1, i, none⟩ (.slice A (Go.Cams.rdMc l i).length cap)) (updV hs i (.slice A (Go.Cams.rdMc l i).length cap)) (updF Fs i F)) := J5.put hi3 hrow hnd (fun b hb => by
        have h1 := hF b hb
        have h2 := HJ.out.lt
        have h3 := hk4.size
        omega) (fun k hk b hb hbF => by
        have h1 := (HJ.out.fs k hk b hb).2
        have h2 := hF b hbF
        have h3 := hk4.size
        omega)
      clear J5 hrow hF hnd hk5 hk4 HJ hon4 honr hm1 hc
      go_wp2
      case roundEnd =>
        exact ⟨⟨i + 1, by simp, hlt, _, _, HJ6.out⟩, by simp [RowKit.intOf]; omega⟩
    · have hlen : (Go.Cams.splitN3 l).length ≤ i := by omega
      obtain ⟨A0, n0, c0, A1, n1, c1, A2, n2, c2, F0, F1, F2, J2⟩ := J.fin hlen
      have HJ2 : Hid (RmF l w wr (.slice A0 n0 c0) (.slice A1 n1 c1) (.slice A2 n2 c2) F0 F1 F2) := J2
      have g0 : wr.cell? ⟨w.heap.size + 1, 0, none⟩ = some (.slice A0 n0 c0) := by simp [World.cell?, J2.arr]
      have g1 : wr.cell? ⟨w.heap.size + 1, 1, none⟩ = some (.slice A1 n1 c1) := by simp [World.cell?, J2.arr]
      have g2 : wr.cell? ⟨w.heap.size + 1, 2, none⟩ = some (.slice A2 n2 c2) := by simp [World.cell?, J2.arr]
      have hon6 : L.on (wr.alloc (Obj.cells #[Value.slice A0 n0 c0, Value.slice A1 n1 c1, Value.slice A2 n2 c2] 25)) := on_below honr (((Below.refl wr.heap.size wr).alloc (Nat.le_refl _) _))
      have HV := HJ2.out.vm hX hon6
      clear J J2
      go_wp2_with (go_at_call 35; refine HV.mono ?_)
      rintro e w7 ⟨rfl, hk7⟩
      clear HV
      have z7 := HJ2.out.after hk7
      have x7 := cells3 z7.1
      have y7 := cells3 z7.2
      obtain ⟨x1, x2, x3, x4, x5, x6⟩ := x7
      obtain ⟨y1, y2, y3, y4, y5, y6⟩ := y7
      have hon7 := on_kept hon6 hk7
      have HB7 := HJ2.out.below7 hk7
      cases hok : Go.Cams.okM (Go.Cams.rdMm l)
      case false =>
        go_wp2
        exact rm_ret (put3_at _ _ _ z7.1) rfl rfl rfl (rm_bad (if_neg (fun h => by rw [hok] at h; cases h.1)) HB7 _ _ _ rfl rfl rfl)
      case true =>
        have honm := hon7
        have HM := HJ2.out.mt hX hk7 hon7
        go_wp2_with (go_at_call 36; refine HM.mono ?_)
        rintro e w8 ⟨rfl, hk8⟩
        clear HM
        have z8 : w8.heap[w.heap.size]? = some (.cells #[.slice none 0 0, .slice none 0 0, .slice none 0 0] 25 (0, 0)) ∧ w8.heap[wr.heap.size]? = some (.cells #[.slice A0 n0 c0, .slice A1 n1 c1, .slice A2 n2 c2] 25 (0, 0)) := by
          have q1 := HJ2.out.lt
          have q2 := hk7.size
          rw [allocS] at q2
          exact ⟨by rw [hk8.heap _ (by omega) (fun h => h)]; exact z7.1, by rw [hk8.heap _ (by omega) (fun h => h)]; exact z7.2⟩
        have hk78 : KeptBut (fun _ => False) _ w8 := hk7.trans hk8 (fun _ h => h) (fun _ _ h => h)
        have HB8 := HJ2.out.below7 hk78
        have HK8 : ∀ b, b < wr.heap.size → w8.heap[b]? = wr.heap[b]? := fun b hb => by
          rw [hk78.heap b (by rw [allocS]; omega) (fun h => h)]; exact alloc_old _ _ hb
        have HS8 : wr.heap.size ≤ w8.heap.size := by
          have := hk78.size
          rw [allocS] at this
          omega
        have HT : Go.Cams.mtR (Go.Cams.rdMm l) = Go.Cams.tx l ↔ Go.Cams.machL (Go.Cams.rdMm l) = l := by
          unfold Go.Cams.mtR
          rw [if_pos hok, Go.Cams.machT_L]
          exact ⟨Go.Cams.tx_inj, fun h => by rw [h]⟩
        obtain ⟨p1, p2, p3, p4, p5, p6⟩ := cells3 z8.1
        obtain ⟨q1, q2, q3, q4, q5, q6⟩ := cells3 z8.2
        by_cases htx : Go.Cams.mtR (Go.Cams.rdMm l) = Go.Cams.tx l
        · have htb : (!(Go.Cams.mtR (Go.Cams.rdMm l)).toList == (Go.Cams.tx l).toList) = false := by simp [htx]
          go_wp2
          exact rm_ret (put3_at _ _ _ z8.1) rfl rfl rfl (rm_good (if_pos ⟨hok, HT.1 htx⟩) HJ2.out HK8 HS8 HB8)
        · have htb : (!(Go.Cams.mtR (Go.Cams.rdMm l)).toList == (Go.Cams.tx l).toList) = true := by
            have : ¬ (Go.Cams.mtR (Go.Cams.rdMm l)).toList = (Go.Cams.tx l).toList := fun h => htx (by
              obtain ⟨q, hq⟩ := Go.Cams.tx_of (Go.Cams.mtR (Go.Cams.rdMm l))
              rw [hq] at h ⊢
              rw [Go.Cams.tx_toList, Go.Cams.tx_toList] at h
              rw [h])
            simp [this]
          go_wp2
          exact rm_ret (put3_at _ _ _ z8.1) rfl rfl rfl (rm_bad (if_neg (fun h => htx (HT.2 h.2))) HB8 _ _ _ rfl rfl rfl)
end
end Go.Proofs.YtjeakogmccogmaaGreatDoor

namespace Go.Proofs.YtjeakogmccogmaaGreatDoor
section
open Go Go.Fw Go.Proofs Go.RowKit
theorem own_sh {w : World} {ok : Nat → Prop} {hd : Value} {l : List Int} {F : List Nat} (h : OwnRow w hd l F) : ShR w ok (Sh.row false (.int .i16)) l [hd] F := ⟨hd, l.map (Value.int .i16), F, [], rfl, by simp, by simp only [Ty.size]; exact h, rfl, repI' l⟩
theorem rm_ext {L : Laid} (hX : ∀ j, ExtOk Tryz.prog L (LRa.C j)) (hM : ∀ w, L.on w → ∃ m, w.cell? ⟨0, 0, none⟩ = some (.int .i64 m)) : ExtOk Tryz.prog L LRm.I7 := by
  refine extOk_of (I := LRm.I7) (g := fun x => if x.1.size ≤ 1048576 then some (((Go.Cams.rdMI x.1.data.toList).1, (Go.Cams.rdMI x.1.data.toList).2.1, ()), ()) else none) (fn := Tryz.f7) (code := bd Tryz.f7) rfl Tryz.func7 (by kernel_rfl) (by kernel_rfl) ?_
  intro x r o w vals okc Fs hg hA hok hon
  obtain ⟨a, u⟩ := x
  change ByteArray at a
  obtain ⟨l, rfl⟩ := Go.Cams.tx_of a
  obtain ⟨c1, v1, F1, F2, e1, e2, h1, e5, e6⟩ := hA
  simp only [ShR, Rep] at h1
  obtain ⟨rfl, rfl⟩ := h1
  subst e6
  have eF : Fs = [] := by rw [e2]; rfl
  subst eF
  split at hg
  · rename_i hx
    have hx : (Go.Cams.tx l).size ≤ 1048576 := hx
    rw [Go.Cams.tx_size] at hx
    injection hg with hg
    injection hg with h1 h2
    subst h1
    subst e5
    subst e1
    refine (rm_walk hX hM w hon l hx).mono fun e w' ⟨h0, h1, h2, F0, F1, F2, he, r0, r1, r2, nd, hF, hB⟩ => ?_
    refine ⟨_, he, [.agg #[h0, h1, h2], .int .i64 (Go.Cams.rdMI l).2.1], F0 ++ (F1 ++ F2), [], okc, rfl, ?_, ⟨_, _, rfl, rfl⟩, by simpa using nd, fun b hb => ?_, fun b hb => ?_, keptBut_below hB.os hB.tape hB.output hB.size (fun b hb => hB.block b hb)⟩
    · refine ⟨[h0, h1, h2], [.int .i64 (Go.Cams.rdMI l).2.1], F0 ++ (F1 ++ F2), [], rfl, by simp, ?_, [.int .i64 (Go.Cams.rdMI l).2.1], [], [], [], rfl, rfl, ⟨rfl, rfl⟩, rfl, rfl⟩
      exact ⟨[h0], [h1, h2], F0, F1 ++ F2, rfl, rfl, own_sh r0, [h1], [h2], F1, F2, rfl, rfl, own_sh r1, [h2], [], F2, [], rfl, by simp, own_sh r2, rfl, rfl⟩
    · have := hF b (by simpa using hb)
      exact ⟨this.2, .inl this.1⟩
    · have := hok b hb
      have hs := hB.size
      refine ⟨by omega, .inl hb, fun hm => ?_⟩
      have := hF b (by simpa using hm)
      omega
  · cases hg
end
end Go.Proofs.YtjeakogmccogmaaGreatDoor
