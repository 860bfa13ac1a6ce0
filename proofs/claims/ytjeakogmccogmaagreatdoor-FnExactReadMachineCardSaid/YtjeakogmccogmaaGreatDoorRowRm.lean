/- The law FnExactReadMachine returns true for all arguments, in every run, and leaves its arguments as they were; no conditions. The library's table of powers of ten is as the program's text lays it: the card ties it. -/
import Derived.Test.YtjeakogmccogmaaGreatDoorERm
import Derived.Test.YtjeakogmccogmaaGreatDoorRows
import Derived.Test.YtjeakogmccogmaaGreatDoorTie
import Derived.Test.YtjeakogmccogmaaGreatDoorCards
import Derived.ProofKit
import Derived.LaidMore
import Derived.OpenShut
import Derived.Stop.Joined
import Derived.Stop.LaidErr
import Derived.Lib.LaidTab
import Derived.Test.YtjeakogmccogmaaGreatDoorWmRm
import Derived.Shelf.Strings.Builder1
import Derived.Shelf.Strings.Builder2
import Derived.Shelf.Strings.OnBuilder
import Derived.Shelf.Strings.BuilderF
import Derived.Shelf.Strings.BuilderK
import Derived.Shelf.Utf8.RuneCount
import Derived.Shelf.Strconv.Itoa0
import Derived.Shelf.Strconv.Itoa1
import Derived.Shelf.LaysM
import Derived.Shelf.Strconv.Itoa2
import Derived.Shelf.Strconv.Itoa3
import Derived.Shelf.Strconv.Itoa4
import Derived.Shelf.Strconv.ParseIntEmpty
import Derived.Shelf.Strconv.Clone
import Derived.Shelf.Strconv.SyntaxError
import Derived.Shelf.LaysC
import Derived.Shelf.Strconv.ToError
import Derived.Shelf.Strconv.Lower
import Derived.Shelf.Strconv.ParseUint10
import Derived.Shelf.Strconv.ParseUint10Empty
import Derived.Shelf.Strconv.ParseUint10Any
import Derived.Shelf.Strconv.ParseInt10
import Derived.Shelf.Strconv.RangeError
import Derived.Shelf.Strconv.ToErrorRange
import Derived.Shelf.Strconv.ParseUintEmpty
import Derived.Shelf.Strconv.ParseUint10b64
import Derived.Shelf.Strconv.ParseUint10b32
import Derived.Shelf.Strconv.ParseUint10b16
import Derived.Shelf.Strconv.ParseUint10b8
import Derived.Shelf.Strconv.ParseUint10At
import Derived.Shelf.Strconv.ParseInt10At64
import Derived.Shelf.Strconv.ParseInt10At32
import Derived.Shelf.Strconv.ParseInt10At16
import Derived.Shelf.Strconv.ParseInt10At8
import Derived.Shelf.Strconv.ParseInt10All
import Derived.Shelf.Strconv.ParseIntPublic10
import Derived.Shelf.Strings.Search1
import Derived.Shelf.Strings.Search2
import Derived.Shelf.Strings.Search3
import Derived.Shelf.Strings.Cut
import Derived.Shelf.Strings.Count
import Derived.Shelf.Strings.Shaped
import Derived.Shelf.Strings.Prefix
import Derived.Shelf.Strings.Split
import Derived.Shelf.Strings.SplitShaped
import Derived.Shelf.Unicode.Decode
import Derived.Shelf.Strings.RuneCount
import Derived.Shelf.Strings.Explode
import Derived.Shelf.Bits.Mul64
import Derived.Shelf.Unicode.DecodeSlow
import Derived.Shelf.Unicode.DecodeAny
import Derived.HandedShaped
import Derived.Lib.LaidU8
import Derived.WalkKit
import Derived.Laws.CopyOwn
import Derived.Deep.RegionLaw
namespace Go.Proofs
open Go.Shelf
def Tryz.lays156_ren : Go.Shelf.Ren := ⟨fun | 156 => 120 | 165 => 150 | 166 => 59 | 169 => 61 | 240 => 100 | 241 => 164 | 276 => 134 | 277 => 171 | n => n, fun | 31 => 57 | 9 => 9 | 3 => 3 | 4 => 4 | 0 => 0 | 20 => 20 | 72 => 103 | 76 => 104 | 70 => 101 | 37 => 36 | 75 => 97 | 127 => 144 | 164 => 171 | 5 => 5 | 80 => 107 | n => n, fun | n => n⟩
theorem Tryz.lays156 : Go.Proofs.Lays.n156 Tryz.prog Tryz.lays156_ren := {
  mixed := by kernel_rfl
  f156 := Tryz.func120.trans (congrArg some (by kernel_rfl))
  f165 := Tryz.func150.trans (congrArg some (by kernel_rfl))
  f166 := Tryz.func59.trans (congrArg some (by kernel_rfl))
  f169 := Tryz.func61.trans (congrArg some (by kernel_rfl))
  f240 := Tryz.func100.trans (congrArg some (by kernel_rfl))
  f241 := Tryz.func164.trans (congrArg some (by kernel_rfl))
  f276 := Tryz.func134.trans (congrArg some (by kernel_rfl))
  f277 := Tryz.func171.trans (congrArg some (by kernel_rfl))
  t0 := Tryz.underlying0
  a0 := Tryz.isAgg0
  z0 := Tryz.sizeOf0
  v0 := Tryz.zeroValue0
  t3 := Tryz.underlying3
  a3 := Tryz.isAgg3
  z3 := Tryz.sizeOf3
  v3 := Tryz.zeroValue3
  t4 := Tryz.underlying4
  a4 := Tryz.isAgg4
  z4 := Tryz.sizeOf4
  v4 := Tryz.zeroValue4
  t9 := Tryz.underlying9
  a9 := Tryz.isAgg9
  z9 := Tryz.sizeOf9
  v9 := Tryz.zeroValue9
  t20 := Tryz.underlying20
  a20 := Tryz.isAgg20
  z20 := Tryz.sizeOf20
  v20 := Tryz.zeroValue20
  t31 := Tryz.underlying57
  a31 := Tryz.isAgg57
  z31 := Tryz.sizeOf57
  v31 := Tryz.zeroValue57
  t37 := Tryz.underlying36
  a37 := Tryz.isAgg36
  z37 := Tryz.sizeOf36
  v37 := Tryz.zeroValue36
  t70 := Tryz.underlying101
  a70 := Tryz.isAgg101
  z70 := Tryz.sizeOf101
  v70 := Tryz.zeroValue101
  t72 := Tryz.underlying103
  a72 := Tryz.isAgg103
  z72 := Tryz.sizeOf103
  v72 := Tryz.zeroValue103
  t75 := Tryz.underlying97
  a75 := Tryz.isAgg97
  z75 := Tryz.sizeOf97
  v75 := Tryz.zeroValue97
  t76 := Tryz.underlying104
  a76 := Tryz.isAgg104
  z76 := Tryz.sizeOf104
  v76 := Tryz.zeroValue104
  t127 := Tryz.underlying144
  a127 := Tryz.isAgg144
  z127 := Tryz.sizeOf144
  v127 := Tryz.zeroValue144
  t164 := Tryz.underlying171
  a164 := Tryz.isAgg171
  z164 := Tryz.sizeOf171
  v164 := Tryz.zeroValue171 }
theorem Tryz.Builder_Extra_156 : Builder.Extra Tryz.prog Tryz.lays156_ren := {
  sizeBuilder := by kernel_rfl
  liesBuilder := by kernel_rfl
  t5 := Tryz.underlying5
  a5 := Tryz.isAgg5
  z5 := Tryz.sizeOf5
  v5 := Tryz.zeroValue5
  infoByte := by kernel_rfl
  cellsByte := by kernel_rfl
  sizeByte := by kernel_rfl
  neB5 := by decide }
open Go.RowKit in
/-- No element: the empty string; the world is as it was. (Whatever the slice's address and capacity: a nil slice too.) (LAID: no walk: one application.) -/
theorem Tryz.strings_Join_none (a : Option Addr) (c : Nat) (sep : ByteArray) (w : World) :
    Calls Tryz.prog 120 #[.slice a 0 c, .string sep] w fun e w' => e = .returned (.string ⟨#[]⟩) ∧ w' = w := Any.strings_Join_none Tryz.lays156 Tryz.Builder_Extra_156 a c sep w
open Go.RowKit in
/-- strings.Join: "Join concatenates the elements of its first argument to create a single string. The separator string sep is placed between elements in the resulting string.": HOWEVER MANY ELEMENTS. Below the heap's end the world is as it was. (LAID: no walk: one application.) -/
theorem Tryz.strings_Join (bk o c : Nat) (xs : List ByteArray) (sep : ByteArray) (w : World) (hcells : ∀ (j : Nat) x, xs[j]? = some x → w.cell? ⟨bk, o + j, none⟩ = some (.string x)) (hbk : bk < w.heap.size) (hN : xs.length ≤ 140737488355328) (hcap : xs.length ≤ c) (hlen : (Lib.join (xs.map (·.data.toList)) sep.data.toList).length ≤ 140737488355328) :
    Calls Tryz.prog 120 #[.slice (some ⟨bk, o, none⟩) xs.length c, .string sep] w fun e w' => e = .returned (.string ⟨(Lib.join (xs.map (·.data.toList)) sep.data.toList).toArray⟩) ∧ Below w.heap.size w w' := Any.strings_Join Tryz.lays156 Tryz.Builder_Extra_156 bk o c xs sep w hcells hbk hN hcap hlen
def Tryz.laysM173_ren : Go.Shelf.Ren := ⟨fun | 173 => 101 | 246 => 135 | 283 => 157 | 284 => 158 | 285 => 159 | 286 => 160 | 129 => 167 | 317 => 166 | 318 => 168 | 319 => 169 | 320 => 170 | 337 => 172 | 338 => 173 | n => n, fun | 2 => 2 | 3 => 3 | 9 => 9 | 4 => 4 | 171 => 193 | 0 => 0 | 53 => 132 | 37 => 36 | 5 => 5 | 173 => 196 | 212 => 203 | 51 => 179 | 20 => 20 | 213 => 204 | 46 => 156 | 232 => 213 | 233 => 214 | n => n, fun | 17 => 3 | 18 => 6 | 19 => 7 | n => n⟩
theorem Tryz.laysM173 : Go.Proofs.LaysM.n173 Tryz.prog Tryz.laysM173_ren := {
  mixed := by kernel_rfl
  f129 := Tryz.func167.trans (congrArg some (by kernel_rfl))
  f173 := Tryz.func101.trans (congrArg some (by kernel_rfl))
  f246 := Tryz.func135.trans (congrArg some (by kernel_rfl))
  f283 := Tryz.func157.trans (congrArg some (by kernel_rfl))
  f284 := Tryz.func158.trans (congrArg some (by kernel_rfl))
  f285 := Tryz.func159.trans (congrArg some (by kernel_rfl))
  f286 := Tryz.func160.trans (congrArg some (by kernel_rfl))
  f317 := Tryz.func166.trans (congrArg some (by kernel_rfl))
  f318 := Tryz.func168.trans (congrArg some (by kernel_rfl))
  f319 := Tryz.func169.trans (congrArg some (by kernel_rfl))
  f320 := Tryz.func170.trans (congrArg some (by kernel_rfl))
  f337 := Tryz.func172.trans (congrArg some (by kernel_rfl))
  f338 := Tryz.func173.trans (congrArg some (by kernel_rfl))
  t0 := Tryz.underlying0
  a0 := Tryz.isAgg0
  z0 := Tryz.sizeOf0
  v0 := Tryz.zeroValue0
  t2 := Tryz.underlying2
  a2 := Tryz.isAgg2
  z2 := Tryz.sizeOf2
  v2 := Tryz.zeroValue2
  t3 := Tryz.underlying3
  a3 := Tryz.isAgg3
  z3 := Tryz.sizeOf3
  v3 := Tryz.zeroValue3
  t4 := Tryz.underlying4
  a4 := Tryz.isAgg4
  z4 := Tryz.sizeOf4
  v4 := Tryz.zeroValue4
  t5 := Tryz.underlying5
  a5 := Tryz.isAgg5
  z5 := Tryz.sizeOf5
  v5 := Tryz.zeroValue5
  t9 := Tryz.underlying9
  a9 := Tryz.isAgg9
  z9 := Tryz.sizeOf9
  v9 := Tryz.zeroValue9
  t20 := Tryz.underlying20
  a20 := Tryz.isAgg20
  z20 := Tryz.sizeOf20
  v20 := Tryz.zeroValue20
  t37 := Tryz.underlying36
  a37 := Tryz.isAgg36
  z37 := Tryz.sizeOf36
  v37 := Tryz.zeroValue36
  t46 := Tryz.underlying156
  a46 := Tryz.isAgg156
  z46 := Tryz.sizeOf156
  v46 := Tryz.zeroValue156
  t51 := Tryz.underlying179
  a51 := Tryz.isAgg179
  z51 := Tryz.sizeOf179
  v51 := Tryz.zeroValue179
  t53 := Tryz.underlying132
  a53 := Tryz.isAgg132
  z53 := Tryz.sizeOf132
  v53 := Tryz.zeroValue132
  t171 := Tryz.underlying193
  a171 := Tryz.isAgg193
  z171 := Tryz.sizeOf193
  v171 := Tryz.zeroValue193
  t173 := Tryz.underlying196
  a173 := Tryz.isAgg196
  z173 := Tryz.sizeOf196
  v173 := Tryz.zeroValue196
  t212 := Tryz.underlying203
  a212 := Tryz.isAgg203
  z212 := Tryz.sizeOf203
  v212 := Tryz.zeroValue203
  t213 := Tryz.underlying204
  a213 := Tryz.isAgg204
  z213 := Tryz.sizeOf204
  t232 := Tryz.underlying213
  a232 := Tryz.isAgg213
  z232 := Tryz.sizeOf213
  v232 := Tryz.zeroValue213
  t233 := Tryz.underlying214
  a233 := Tryz.isAgg214
  z233 := Tryz.sizeOf214
  v233 := Tryz.zeroValue214
  g17 := by kernel_rfl
  g18 := by kernel_rfl
  g19 := by kernel_rfl
  i0 := by kernel_rfl
  i2 := by kernel_rfl
  i3 := by kernel_rfl
  i4 := by kernel_rfl
  i5 := by kernel_rfl
  i9 := by kernel_rfl
  i20 := by kernel_rfl
  i37 := by kernel_rfl
  i46 := by kernel_rfl
  i51 := by kernel_rfl
  i53 := by kernel_rfl
  i171 := by kernel_rfl
  i173 := by kernel_rfl
  i212 := by kernel_rfl
  i232 := by kernel_rfl
  i233 := by kernel_rfl
  m17 := by kernel_rfl
  m18 := by kernel_rfl
  m19 := by kernel_rfl }
open Go.RowKit Go.Sort Go.Lib in
/-- strconv.FormatInt: "FormatInt returns the string representation of i in the given base": AT BASE 10: i's decimal numeral, for every int64. (LAID: no walk: one application.) -/
theorem Tryz.strconv_FormatInt_10 (n : Int) (h0 : -9223372036854775808 ≤ n) (h1 : n ≤ 9223372036854775807) (w : World) (htab : Lib.TabIs Tryz.prog w "internal/strconv.uint64pow10" .u64 Lib.pow10Tab) :
    Calls Tryz.prog 101 #[.int .i64 n, .int .i64 10] w fun e w' => e = .returned (.string ⟨(Lib.itoa n).toArray⟩) ∧ ∃ k os, w' = grow (w.drewN k) os := Any.strconv_FormatInt_10 Tryz.laysM173 n h0 h1 w htab
def Tryz.laysC174_ren : Go.Shelf.Ren := ⟨fun | 174 => 57 | 247 => 96 | 245 => 97 | 287 => 128 | 279 => 129 | 280 => 130 | 281 => 131 | 282 => 132 | 321 => 152 | 322 => 153 | 316 => 154 | 171 => 156 | 205 => 155 | 243 => 165 | 246 => 135 | 283 => 157 | 284 => 158 | 285 => 159 | 286 => 160 | 129 => 167 | 317 => 166 | 318 => 168 | 319 => 169 | 320 => 170 | 337 => 172 | 338 => 173 | n => n, fun | 9 => 9 | 3 => 3 | 2 => 2 | 75 => 97 | 85 => 98 | 4 => 4 | 167 => 164 | 5 => 5 | 53 => 132 | 175 => 165 | 46 => 156 | 168 => 167 | 37 => 36 | 0 => 0 | 210 => 190 | 21 => 21 | 127 => 144 | 145 => 201 | 143 => 199 | 171 => 193 | 173 => 196 | 212 => 203 | 51 => 179 | 20 => 20 | 213 => 204 | 232 => 213 | 233 => 214 | 80 => 107 | n => n, fun | 15 => 1 | 16 => 2 | 17 => 3 | 18 => 6 | 19 => 7 | n => n⟩
theorem Tryz.laysC174 : Go.Proofs.LaysC.n174 Tryz.prog Tryz.laysC174_ren := {
  mixed := by kernel_rfl
  f129 := Tryz.func167.trans (congrArg some (by kernel_rfl))
  f171 := Tryz.func156.trans (congrArg some (by kernel_rfl))
  f174 := Tryz.func57.trans (congrArg some (by kernel_rfl))
  f205 := Tryz.func155.trans (congrArg some (by kernel_rfl))
  f243 := Tryz.func165.trans (congrArg some (by kernel_rfl))
  f245 := Tryz.func97.trans (congrArg some (by kernel_rfl))
  f246 := Tryz.func135.trans (congrArg some (by kernel_rfl))
  f247 := Tryz.func96.trans (congrArg some (by kernel_rfl))
  f279 := Tryz.func129.trans (congrArg some (by kernel_rfl))
  f280 := Tryz.func130.trans (congrArg some (by kernel_rfl))
  f281 := Tryz.func131.trans (congrArg some (by kernel_rfl))
  f282 := Tryz.func132.trans (congrArg some (by kernel_rfl))
  f283 := Tryz.func157.trans (congrArg some (by kernel_rfl))
  f284 := Tryz.func158.trans (congrArg some (by kernel_rfl))
  f285 := Tryz.func159.trans (congrArg some (by kernel_rfl))
  f286 := Tryz.func160.trans (congrArg some (by kernel_rfl))
  f287 := Tryz.func128.trans (congrArg some (by kernel_rfl))
  f316 := Tryz.func154.trans (congrArg some (by kernel_rfl))
  f317 := Tryz.func166.trans (congrArg some (by kernel_rfl))
  f318 := Tryz.func168.trans (congrArg some (by kernel_rfl))
  f319 := Tryz.func169.trans (congrArg some (by kernel_rfl))
  f320 := Tryz.func170.trans (congrArg some (by kernel_rfl))
  f321 := Tryz.func152.trans (congrArg some (by kernel_rfl))
  f322 := Tryz.func153.trans (congrArg some (by kernel_rfl))
  f337 := Tryz.func172.trans (congrArg some (by kernel_rfl))
  f338 := Tryz.func173.trans (congrArg some (by kernel_rfl))
  t0 := Tryz.underlying0
  a0 := Tryz.isAgg0
  z0 := Tryz.sizeOf0
  v0 := Tryz.zeroValue0
  t2 := Tryz.underlying2
  a2 := Tryz.isAgg2
  z2 := Tryz.sizeOf2
  v2 := Tryz.zeroValue2
  t3 := Tryz.underlying3
  a3 := Tryz.isAgg3
  z3 := Tryz.sizeOf3
  v3 := Tryz.zeroValue3
  t4 := Tryz.underlying4
  a4 := Tryz.isAgg4
  z4 := Tryz.sizeOf4
  v4 := Tryz.zeroValue4
  t5 := Tryz.underlying5
  a5 := Tryz.isAgg5
  z5 := Tryz.sizeOf5
  v5 := Tryz.zeroValue5
  t9 := Tryz.underlying9
  a9 := Tryz.isAgg9
  z9 := Tryz.sizeOf9
  v9 := Tryz.zeroValue9
  t20 := Tryz.underlying20
  a20 := Tryz.isAgg20
  z20 := Tryz.sizeOf20
  v20 := Tryz.zeroValue20
  t21 := Tryz.underlying21
  a21 := Tryz.isAgg21
  z21 := Tryz.sizeOf21
  v21 := Tryz.zeroValue21
  t37 := Tryz.underlying36
  a37 := Tryz.isAgg36
  z37 := Tryz.sizeOf36
  v37 := Tryz.zeroValue36
  t46 := Tryz.underlying156
  a46 := Tryz.isAgg156
  z46 := Tryz.sizeOf156
  v46 := Tryz.zeroValue156
  t51 := Tryz.underlying179
  a51 := Tryz.isAgg179
  z51 := Tryz.sizeOf179
  v51 := Tryz.zeroValue179
  t53 := Tryz.underlying132
  a53 := Tryz.isAgg132
  z53 := Tryz.sizeOf132
  v53 := Tryz.zeroValue132
  t75 := Tryz.underlying97
  a75 := Tryz.isAgg97
  z75 := Tryz.sizeOf97
  v75 := Tryz.zeroValue97
  t85 := Tryz.underlying98
  a85 := Tryz.isAgg98
  z85 := Tryz.sizeOf98
  v85 := Tryz.zeroValue98
  t127 := Tryz.underlying144
  a127 := Tryz.isAgg144
  z127 := Tryz.sizeOf144
  v127 := Tryz.zeroValue144
  t143 := Tryz.underlying199
  a143 := Tryz.isAgg199
  z143 := Tryz.sizeOf199
  v143 := Tryz.zeroValue199
  t145 := Tryz.underlying201
  a145 := Tryz.isAgg201
  z145 := Tryz.sizeOf201
  v145 := Tryz.zeroValue201
  t167 := Tryz.underlying164
  a167 := Tryz.isAgg164
  z167 := Tryz.sizeOf164
  v167 := Tryz.zeroValue164
  t168 := Tryz.underlying167
  a168 := Tryz.isAgg167
  z168 := Tryz.sizeOf167
  v168 := Tryz.zeroValue167
  t171 := Tryz.underlying193
  a171 := Tryz.isAgg193
  z171 := Tryz.sizeOf193
  v171 := Tryz.zeroValue193
  t173 := Tryz.underlying196
  a173 := Tryz.isAgg196
  z173 := Tryz.sizeOf196
  v173 := Tryz.zeroValue196
  t175 := Tryz.underlying165
  a175 := Tryz.isAgg165
  z175 := Tryz.sizeOf165
  v175 := Tryz.zeroValue165
  t210 := Tryz.underlying190
  a210 := Tryz.isAgg190
  z210 := Tryz.sizeOf190
  v210 := Tryz.zeroValue190
  t212 := Tryz.underlying203
  a212 := Tryz.isAgg203
  z212 := Tryz.sizeOf203
  v212 := Tryz.zeroValue203
  t213 := Tryz.underlying204
  a213 := Tryz.isAgg204
  z213 := Tryz.sizeOf204
  t232 := Tryz.underlying213
  a232 := Tryz.isAgg213
  z232 := Tryz.sizeOf213
  v232 := Tryz.zeroValue213
  t233 := Tryz.underlying214
  a233 := Tryz.isAgg214
  z233 := Tryz.sizeOf214
  v233 := Tryz.zeroValue214
  g15 := by kernel_rfl
  g16 := by kernel_rfl
  g17 := by kernel_rfl
  g18 := by kernel_rfl
  g19 := by kernel_rfl
  t80 := Tryz.underlying107
  a80 := Tryz.isAgg107
  z80 := Tryz.sizeOf107
  v80 := Tryz.zeroValue107
  i0 := by kernel_rfl
  i2 := by kernel_rfl
  i3 := by kernel_rfl
  i4 := by kernel_rfl
  i5 := by kernel_rfl
  i9 := by kernel_rfl
  i20 := by kernel_rfl
  i21 := by kernel_rfl
  i37 := by kernel_rfl
  i46 := by kernel_rfl
  i51 := by kernel_rfl
  i53 := by kernel_rfl
  i75 := by kernel_rfl
  i80 := by kernel_rfl
  i85 := by kernel_rfl
  i127 := by kernel_rfl
  i143 := by kernel_rfl
  i145 := by kernel_rfl
  i167 := by kernel_rfl
  i168 := by kernel_rfl
  i171 := by kernel_rfl
  i173 := by kernel_rfl
  i175 := by kernel_rfl
  i210 := by kernel_rfl
  i212 := by kernel_rfl
  i232 := by kernel_rfl
  i233 := by kernel_rfl
  m15 := by kernel_rfl
  m16 := by kernel_rfl
  m17 := by kernel_rfl
  m18 := by kernel_rfl
  m19 := by kernel_rfl
  c0 := by kernel_rfl
  c2 := by kernel_rfl
  c3 := by kernel_rfl
  c4 := by kernel_rfl
  c5 := by kernel_rfl
  c9 := by kernel_rfl
  c20 := by kernel_rfl
  c21 := by kernel_rfl
  c37 := by kernel_rfl
  c46 := by kernel_rfl
  c51 := by kernel_rfl
  c53 := by kernel_rfl
  c75 := by kernel_rfl
  c80 := by kernel_rfl
  c85 := by kernel_rfl
  c127 := by kernel_rfl
  c143 := by kernel_rfl
  c145 := by kernel_rfl
  c167 := by kernel_rfl
  c168 := by kernel_rfl
  c171 := by kernel_rfl
  c173 := by kernel_rfl
  c175 := by kernel_rfl
  c210 := by kernel_rfl
  c212 := by kernel_rfl
  c213 := by kernel_rfl
  c232 := by kernel_rfl
  c233 := by kernel_rfl }
def Tryz.lays146_ren : Go.Shelf.Ren := ⟨fun | 146 => 42 | 221 => 74 | 268 => 111 | 138 => 112 | 143 => 113 | 195 => 140 | 197 => 141 | 218 => 142 | 219 => 114 | 260 => 161 | 217 => 143 | 225 => 144 | 224 => 145 | 267 => 146 | 266 => 162 | 314 => 163 | n => n, fun | 9 => 9 | 31 => 57 | 3 => 3 | 4 => 4 | 0 => 0 | 105 => 175 | 21 => 21 | 5 => 5 | 46 => 156 | 119 => 207 | 139 => 210 | 138 => 209 | 146 => 180 | 51 => 179 | n => n, fun | 1 => 0 | 3 => 4 | 4 => 5 | n => n⟩
theorem Tryz.lays146 : Go.Proofs.Lays.n146 Tryz.prog Tryz.lays146_ren := {
  mixed := by kernel_rfl
  f138 := Tryz.func112.trans (congrArg some (by kernel_rfl))
  f143 := Tryz.func113.trans (congrArg some (by kernel_rfl))
  f146 := Tryz.func42.trans (congrArg some (by kernel_rfl))
  f195 := Tryz.func140.trans (congrArg some (by kernel_rfl))
  f197 := Tryz.func141.trans (congrArg some (by kernel_rfl))
  f217 := Tryz.func143.trans (congrArg some (by kernel_rfl))
  f218 := Tryz.func142.trans (congrArg some (by kernel_rfl))
  f219 := Tryz.func114.trans (congrArg some (by kernel_rfl))
  f221 := Tryz.func74.trans (congrArg some (by kernel_rfl))
  f224 := Tryz.func145.trans (congrArg some (by kernel_rfl))
  f225 := Tryz.func144.trans (congrArg some (by kernel_rfl))
  f260 := Tryz.func161.trans (congrArg some (by kernel_rfl))
  f266 := Tryz.func162.trans (congrArg some (by kernel_rfl))
  f267 := Tryz.func146.trans (congrArg some (by kernel_rfl))
  f268 := Tryz.func111.trans (congrArg some (by kernel_rfl))
  f314 := Tryz.func163.trans (congrArg some (by kernel_rfl))
  t0 := Tryz.underlying0
  a0 := Tryz.isAgg0
  z0 := Tryz.sizeOf0
  v0 := Tryz.zeroValue0
  t3 := Tryz.underlying3
  a3 := Tryz.isAgg3
  z3 := Tryz.sizeOf3
  v3 := Tryz.zeroValue3
  t4 := Tryz.underlying4
  a4 := Tryz.isAgg4
  z4 := Tryz.sizeOf4
  v4 := Tryz.zeroValue4
  t5 := Tryz.underlying5
  a5 := Tryz.isAgg5
  z5 := Tryz.sizeOf5
  v5 := Tryz.zeroValue5
  t9 := Tryz.underlying9
  a9 := Tryz.isAgg9
  z9 := Tryz.sizeOf9
  v9 := Tryz.zeroValue9
  t21 := Tryz.underlying21
  a21 := Tryz.isAgg21
  z21 := Tryz.sizeOf21
  v21 := Tryz.zeroValue21
  t31 := Tryz.underlying57
  a31 := Tryz.isAgg57
  z31 := Tryz.sizeOf57
  v31 := Tryz.zeroValue57
  t46 := Tryz.underlying156
  a46 := Tryz.isAgg156
  z46 := Tryz.sizeOf156
  v46 := Tryz.zeroValue156
  t51 := Tryz.underlying179
  a51 := Tryz.isAgg179
  z51 := Tryz.sizeOf179
  v51 := Tryz.zeroValue179
  t105 := Tryz.underlying175
  a105 := Tryz.isAgg175
  z105 := Tryz.sizeOf175
  v105 := Tryz.zeroValue175
  t119 := Tryz.underlying207
  a119 := Tryz.isAgg207
  z119 := Tryz.sizeOf207
  t138 := Tryz.underlying209
  a138 := Tryz.isAgg209
  z138 := Tryz.sizeOf209
  v138 := Tryz.zeroValue209
  t139 := Tryz.underlying210
  a139 := Tryz.isAgg210
  z139 := Tryz.sizeOf210
  v139 := Tryz.zeroValue210
  t146 := Tryz.underlying180
  a146 := Tryz.isAgg180
  z146 := Tryz.sizeOf180
  v146 := Tryz.zeroValue180
  g1 := by kernel_rfl
  g3 := by kernel_rfl
  g4 := by kernel_rfl }
open Go.RowKit Go.Lib in
/-- strings.Split. (LAID: no walk: one application.) -/
theorem Tryz.strings_Split (s sep : ByteArray) (m : Int) (w : World) (hs : s.size < 4294967281) (hm : w.cell? ⟨0, 0, none⟩ = some (.int .i64 m)) (h1 : 1 ≤ sep.size) :
    Calls Tryz.prog 42 #[.string s, .string sep] w fun e w' =>
      e = .returned (.slice (some ⟨w.heap.size, 0, none⟩) (Lib.countB s sep + 1) (Lib.countB s sep + 1)) ∧ w' = w.alloc (.cells ((Lib.splitB sep 0 (Lib.countB s sep) s).map Value.string).toArray 9) := Any.strings_Split Tryz.lays146 (by kernel_rfl) s sep m w hs hm h1
def Tryz.lays212_ren : Go.Shelf.Ren := ⟨fun | 212 => 116 | 263 => 147 | 264 => 148 | n => n, fun | 46 => 156 | 51 => 179 | 146 => 180 | 53 => 132 | 148 => 182 | n => n, fun | n => n⟩
theorem Tryz.lays212 : Go.Proofs.Lays.n212 Tryz.prog Tryz.lays212_ren := {
  mixed := by kernel_rfl
  f212 := Tryz.func116.trans (congrArg some (by kernel_rfl))
  f263 := Tryz.func147.trans (congrArg some (by kernel_rfl))
  f264 := Tryz.func148.trans (congrArg some (by kernel_rfl))
  t46 := Tryz.underlying156
  a46 := Tryz.isAgg156
  z46 := Tryz.sizeOf156
  v46 := Tryz.zeroValue156
  t51 := Tryz.underlying179
  a51 := Tryz.isAgg179
  z51 := Tryz.sizeOf179
  v51 := Tryz.zeroValue179
  t53 := Tryz.underlying132
  a53 := Tryz.isAgg132
  z53 := Tryz.sizeOf132
  v53 := Tryz.zeroValue132
  t146 := Tryz.underlying180
  a146 := Tryz.isAgg180
  z146 := Tryz.sizeOf180
  v146 := Tryz.zeroValue180
  t148 := Tryz.underlying182
  a148 := Tryz.isAgg182
  z148 := Tryz.sizeOf182
  v148 := Tryz.zeroValue182 }
open Go.RowKit Go.Lib in
/-- math/bits.Mul: "Mul returns the full-width product of x and y": on a machine of 64 bits: Mul64's. (LAID: no walk: one application.) -/
theorem Tryz.bits_Mul (x y : Nat) (hx : x < 18446744073709551616) (hy : y < 18446744073709551616) (w : World) :
    Calls Tryz.prog 116 #[.int .u64 x, .int .u64 y] w fun e w' => e = .returned (.tuple #[.int .u64 ((x * y / 18446744073709551616 : Nat) : Int), .int .u64 ((x * y % 18446744073709551616 : Nat) : Int)]) ∧ w' = w := Any.bits_Mul Tryz.lays212 x y hx hy w
section
open Go Go.RowKit Go.Lib
theorem infoRep : (Tryz.prog.info? 52).map (fun i => (i.zero, i.size, i.bytes)) = some (some (.int .i16 0), 1, 2) := by kernel_rfl
theorem sizeRep : (Tryz.prog.info? 52).map (·.size) = some 1 := by kernel_rfl
theorem mul_one' (n : Nat) (hn : n ≤ 360) (w : World) : Calls Tryz.prog 116 #[.int .u64 1, .int .u64 n] w fun e w' => e = .returned (.tuple #[.int .u64 0, .int .u64 n]) ∧ w' = w := by
  refine (Tryz.bits_Mul 1 n (by omega) (by omega) w).mono ?_
  rintro e w' ⟨rfl, rfl⟩
  rw [show 1 * n / 18446744073709551616 = 0 by omega, show 1 * n % 18446744073709551616 = n by omega]
  exact ⟨rfl, rfl⟩
theorem made_list (z : Array Value) : ∀ k : Nat, (madeCells z (k * z.size)).toList = (List.replicate k z.toList).flatten := Go.Fw.madeCells_list z
theorem splice_rep (v z : Value) (k n j : Nat) (_ : k + j ≤ n) : splice (List.replicate k v ++ List.replicate (n - k) z) k (List.replicate j v) = List.replicate (k + j) v ++ List.replicate (n - (k + j)) z := by
  unfold splice
  rw [List.take_left' (by simp), List.length_replicate, ← List.drop_drop, List.drop_left' (by simp), List.drop_replicate, ← List.append_assoc, List.replicate_append_replicate]
  congr 2
  omega
set_option maxHeartbeats 4000000 in
set_option maxRecDepth 100000 in
theorem repeat_walk (v : Int) (a : Addr) (cap n : Nat) (hn1 : 1 ≤ n) (hn : n ≤ 360) (w : World) (hc : w.cell? a = some (.int .i16 v)) (ha : a.block < w.heap.size) :
    Calls Tryz.prog 80 #[.slice (some a) 1 cap, .int .i64 n] w fun e w' => e = .returned (.slice (some ⟨w.heap.size, 0, none⟩) n n) ∧ w'.heap[w.heap.size]? = some (.cells (List.replicate n (Value.int .i16 v)).toArray 52 (0, 0)) ∧ Below w.heap.size w w' := by
  obtain ⟨i0, hi, hz0, hz1, hz2⟩ := info_parts infoRep
  go_enter Tryz.func80, Tryz.ntmps80
  go_wp2_with (first
    | (go_at_call 116; refine (mul_one' n hn _).mono ?_; rintro e w1 ⟨rfl, hw⟩; subst w1)
    | (refine wpList_make_full _ rfl (.tmp 29) (.tmp 29) 23 rfl w.heap.size 52 i0 (.int .i16 0) 1 Tryz.underlying23 hi hz0 hz1 _ _ _ _ n rfl rfl rfl rfl (by rw [hz2]; omega) (by unfold maxLen; omega) (Nat.le_refl _) ?_)
    | go_in)
  intro w2 hown hgrow
  have hB2 : Below w.heap.size w w2 := (Below.refl w.heap.size w).grown hgrow (Nat.le_refl _) (fun k hk => by cases hk)
  have hc2 : w2.cell? a = some (.int .i16 v) := (hB2.cell ha).trans hc
  have hg2 : w2.heap[w.heap.size]? = some (.cells (List.replicate n (Value.int .i16 0)).toArray 52 (0, 0)) := by
    rcases hown.2 with ⟨h, _⟩ | ⟨g, cp, cur, h, hbg, hgg, hnc, hcm, hcs, htake⟩
    · cases h
    · have hsz : Value.cells (Value.int .i16 0) = #[Value.int .i16 0] := rfl
      injection h with h1 h2 h3
      injection h1 with h1
      injection h1 with h1
      subst h1
      rw [hgg]
      have e : cur.toList = (madeCells #[Value.int .i16 0] n).toList := by
        rw [← htake, List.take_of_length_le (by rw [Array.length_toList]; omega)]
      have e2 : (madeCells #[Value.int .i16 0] n).toList = List.replicate n (Value.int .i16 0) := by
        have := made_list #[Value.int .i16 0] n
        rw [show n * (#[Value.int .i16 0] : Array Value).size = n from Nat.mul_one n] at this
        rw [this]
        simp
      congr 2
      apply Array.ext'
      rw [e, e2]
  clear hown hgrow
  have HG2 : Hid (w2.heap[w.heap.size]? = some (.cells (List.replicate n (Value.int .i16 0)).toArray 52 (0, 0))) := hg2
  have HS : Hid (∀ (j : Nat) u, [Value.int .i16 v][j]? = some u → w2.cell? (a.add j) = some u) := by
    intro j u hj
    match j, hj with
    | 0, hj =>
      simp at hj
      subst hj
      have : a.add 0 = a := by simp [Addr.add]
      rw [this]; exact hc2
  have HB2 : Hid (Below w.heap.size w w2) := hB2
  clear hg2 hc2 hB2 hc ha
  go_wp2_with (refine wpList_copy_own rfl (.tmp 31) (.tmp 32) 23 23 rfl 52 Tryz.underlying23 sizeRep w.heap.size 0 n n a 1 cap rfl rfl (List.replicate n (Value.int .i16 0)).toArray 52 HG2.out [.int .i16 v] (by show 1 = Nat.min 1 n; have : Nat.min 1 n = 1 := Nat.min_eq_left hn1; omega) HS.out (by simp; omega) (by intro u hu; simp at hu; subst hu; rfl) ?_)
  go_loopw [8] (fun c wr => ∃ k : Nat, 1 ≤ k ∧ k ≤ n ∧ c = .int .i64 k ∧ Hid (wr.heap[w.heap.size]? = some (.cells (List.replicate k (Value.int .i16 v) ++ List.replicate (n - k) (Value.int .i16 0)).toArray 52 (0, 0))) ∧ Hid (Below w.heap.size w wr)) (fun c _ => n - (RowKit.intOf c).toNat)
  case atStart =>
    refine ⟨1, Nat.le_refl _, hn1, rfl, ?_, below_setRow HB2.out (Nat.le_refl _) _⟩
    show _ = _
    rw [setRow_heap w2 w.heap.size _ _ 52 (0, 0) HG2.out]
    congr 3
  case round =>
    obtain ⟨k, hk1, hkn, rfl, HG, HB⟩ := hrel
    by_cases hlt : k < n
    · have hm : (List.replicate (min k (n - k)) (Value.int .i16 v)).length = Nat.min k (n - k) := List.length_replicate
      have HM := (show Hid _ from hm)
      have h1 : Hid (∀ (j : Nat) u, (List.replicate (min k (n - k)) (Value.int .i16 v))[j]? = some u → wr.drew.cell? ((⟨w.heap.size, 0, none⟩ : Addr).add j) = some u) := by
        intro j u hj
        have hj' : j < min k (n - k) := by
          have := (List.getElem?_eq_some_iff.1 hj).1
          simpa using this
        rw [List.getElem?_replicate, if_pos hj'] at hj
        injection hj with hj
        subst hj
        have e : (⟨w.heap.size, 0, none⟩ : Addr).add j = ⟨w.heap.size, j, none⟩ := by unfold Addr.add; split <;> simp_all
        rw [e]
        show wr.cell? _ = _
        rw [Lib.cell_of_heap HG.out]
        simp only [List.getElem?_toArray]
        rw [List.getElem?_append_left (by simp; omega), List.getElem?_replicate, if_pos (by omega)]
      have h2 : Hid (k + (List.replicate (min k (n - k)) (Value.int .i16 v)).length ≤ (List.replicate k (Value.int .i16 v) ++ List.replicate (n - k) (Value.int .i16 0)).length) := by
        show _ ≤ _
        simp; omega
      have h3 : Hid (∀ u ∈ List.replicate (min k (n - k)) (Value.int .i16 v), u.oneCell' = true) := by
        intro u hu
        rw [(List.mem_replicate.1 hu).2]; rfl
      have h4 : Hid (wr.drew.heap[w.heap.size]? = some (.cells (List.replicate k (Value.int .i16 v) ++ List.replicate (n - k) (Value.int .i16 0)).toArray 52 (0, 0))) := HG.out
      have h5 : Hid (Below w.heap.size w wr.drew) := HB.out.drew
      clear hm
      have hwr : IntKind.i64.wrap ((k : Int) + ((min k (n - k) : Nat) : Int)) = (k : Int) + ((min k (n - k) : Nat) : Int) := by rw [IntKind.wrap_i64]; omega
      go_wp2
      go_region_law (refine step_copy_splice rfl (.tmp 41) (.tmp 44) 23 23 rfl 52 Tryz.underlying23 sizeRep (some ⟨w.heap.size, k, none⟩) (some ⟨w.heap.size, 0, none⟩) (n - k) (n - k) k n (by simp [Act.eval, Act.put]; omega) (by simp [Act.eval, Act.put]) w.heap.size k (List.replicate k (Value.int .i16 v) ++ List.replicate (n - k) (Value.int .i16 0)) 52 h4.out (List.replicate (min k (n - k)) (Value.int .i16 v)) HM.out (fun _ => ⟨rfl, _, rfl, h1.out⟩) h2.out h3.out w.heap.size w h5.out (Nat.le_refl _) ?_; intro w4 HG4 hb4; have HB4 := (show Hid _ from hb4); clear hb4)
      go_wp2
      go_roundw
      case rel =>
        refine ⟨k + min k (n - k), by omega, by omega, by omega, ?_⟩
        show _ = _
        rw [HG4.out, splice_rep _ _ _ _ _ (by omega)]
      case measure => simp [RowKit.intOf]; omega
    · have : k = n := by omega
      subst this
      go_wp2
      go_ret
      refine ⟨rfl, ?_, HB.out⟩
      have := HG.out
      simpa using this
end
end Go.Proofs
namespace Go.Proofs.YtjeakogmccogmaaGreatDoor
open Go Go.Fw Go.Proofs Go.RowKit
theorem repL_strs {w : World} {ok : Nat → Prop} : ∀ l : List ByteArray, RepL (Rep w ok .str) l (l.map Value.string)
  | [] => rfl
  | n :: l => ⟨[.string n], l.map Value.string, rfl, rfl, repL_strs l⟩
theorem sp_ext {L : Laid} (hL : ∀ w, L.on w → ∃ m, w.cell? ⟨0, 0, none⟩ = some (.int .i64 m)) : ExtOk Tryz.prog L LRa.I42 := by
  refine extOk_of (I := LRa.I42) (g := fun x => if x.1.size < 4294967281 ∧ 1 ≤ x.2.1.size then some ((Lib.splitB x.2.1 0 (Lib.countB x.1 x.2.1) x.1, ()), ()) else none) (fn := Tryz.f42) (code := bd Tryz.f42) rfl Tryz.func42 (by kernel_rfl) (by kernel_rfl) ?_
  intro x r o w vals okc Fs hg hA hok hon
  obtain ⟨a, b, u⟩ := x
  change ByteArray at a
  change ByteArray at b
  obtain ⟨c1, v1, F1, F2, e1, e2, h1, c2, v2, F3, F4, e3, e4, h2, e5, e6⟩ := hA
  simp only [ShR, Rep] at h1 h2
  obtain ⟨rfl, rfl⟩ := h1
  obtain ⟨rfl, rfl⟩ := h2
  subst e6
  split at hg
  · rename_i hx
    have hx : a.size < 4294967281 ∧ 1 ≤ b.size := hx
    injection hg with hg
    injection hg with h1 h2
    subst h1
    subst e5
    subst e3
    subst e1
    have eF : Fs = [] := by rw [e2, e4]; rfl
    subst eF
    obtain ⟨m, hm⟩ := hL w hon
    have hlen := Lib.splitB_all b hx.2 0 (Lib.countB a b) a rfl
    refine (Tryz.strings_Split a b m w hx.1 hm hx.2).mono fun e w' ⟨he, hw⟩ => ?_
    have hblk : w'.heap[w.heap.size]? = some (.cells ((Lib.splitB b 0 (Lib.countB a b) a).map Value.string).toArray 9 (0, 0)) := by rw [hw]; unfold World.alloc; simp
    have hsz : w'.heap.size = w.heap.size + 1 := by rw [hw]; unfold World.alloc; simp
    refine ⟨_, he, [.slice (some ⟨w.heap.size, 0, none⟩) (Lib.countB a b + 1) (Lib.countB a b + 1)], [w.heap.size], [], okc, rfl, ⟨_, [], [w.heap.size], [], rfl, rfl, ⟨_, (Lib.splitB b 0 (Lib.countB a b) a).map Value.string, [w.heap.size], [], rfl, rfl, ⟨some ⟨w.heap.size, 0, none⟩, Lib.countB a b + 1, by rw [hlen], by rw [hlen]; exact Nat.le_refl _, by simp [Ty.size], .inr ⟨w.heap.size, _, 9, rfl, rfl, hblk, by simp [Ty.size, hlen], by rw [List.take_of_length_le (by simp [Ty.size, hlen])]⟩⟩, rfl, repL_strs _⟩, rfl, rfl⟩, ⟨_, _, rfl, _, _, rfl, rfl⟩, by simp, fun b hb => ?_, fun b hb => ?_, ?_⟩
    · have hb : b = w.heap.size := by simpa using hb
      exact ⟨by omega, .inl (by omega)⟩
    · have := hok b hb
      exact ⟨by omega, .inl hb, by simp; omega⟩
    · rw [hw]
      exact keptBut_below rfl rfl rfl (by unfold World.alloc; simp) (fun b hb => by unfold World.alloc; simp [Array.getElem?_push, show b ≠ w.heap.size by omega])
  · cases hg
theorem cut_ext {L : Laid} (hL : ∀ w, L.on w → ∃ m, w.cell? ⟨0, 0, none⟩ = some (.int .i64 m)) : ExtOk Tryz.prog L LRa.I32 := by
  refine extOk_of (I := LRa.I32) (g := fun x => if x.1.size < 4294967281 then some (((⟨(Lib.cut x.1.data.toList x.2.1.data.toList).1.toArray⟩ : ByteArray), (⟨(Lib.cut x.1.data.toList x.2.1.data.toList).2.1.toArray⟩ : ByteArray), (Lib.cut x.1.data.toList x.2.1.data.toList).2.2, ()), ()) else none) (fn := Tryz.f32) (code := bd Tryz.f32) rfl Tryz.func32 (by kernel_rfl) (by kernel_rfl) ?_
  intro x r o w vals okc Fs hg hA hok hon
  obtain ⟨a, b, u⟩ := x
  change ByteArray at a
  change ByteArray at b
  obtain ⟨c1, v1, F1, F2, e1, e2, h1, c2, v2, F3, F4, e3, e4, h2, e5, e6⟩ := hA
  simp only [ShR, Rep] at h1 h2
  obtain ⟨_, rfl⟩ := h1
  obtain ⟨_, rfl⟩ := h2
  split at hg
  · rename_i hx
    have hx : a.size < 4294967281 := hx
    injection hg with hg
    injection hg with h1 h2
    subst h1
    subst e5
    subst e3
    subst e1
    obtain ⟨m, hm⟩ := hL w hon
    refine (Tryz.strings_Cut a b m w hx hm).mono fun e w' ⟨he, n, hw⟩ => ?_
    subst hw
    refine ⟨_, he, post_plain (xs := [.string ⟨(Lib.cut a.data.toList b.data.toList).1.toArray⟩, .string ⟨(Lib.cut a.data.toList b.data.toList).2.1.toArray⟩, .bool (Lib.cut a.data.toList b.data.toList).2.2]) ?_ ?_ hok ?_⟩
    · exact ⟨[.string ⟨(Lib.cut a.data.toList b.data.toList).1.toArray⟩], [.string ⟨(Lib.cut a.data.toList b.data.toList).2.1.toArray⟩, .bool (Lib.cut a.data.toList b.data.toList).2.2], [], [], rfl, rfl, ⟨rfl, rfl⟩, [.string ⟨(Lib.cut a.data.toList b.data.toList).2.1.toArray⟩], [.bool (Lib.cut a.data.toList b.data.toList).2.2], [], [], rfl, rfl, ⟨rfl, rfl⟩, [.bool (Lib.cut a.data.toList b.data.toList).2.2], [], [], [], rfl, rfl, ⟨rfl, rfl⟩, rfl, rfl⟩
    · exact ⟨_, _, rfl, _, _, rfl, rfl⟩
    · exact keptBut_below rfl rfl rfl (Nat.le_refl _) (fun b _ => rfl)
  · cases hg
theorem pi_ext {L : Laid} (hS : ∀ w, L.on w → ∃ ev, w.cell? ⟨1, 0, none⟩ = some ev ∧ (ev = .nilIface ∨ ∃ te pe, ev = .iface te pe)) (hR : ∀ w, L.on w → ∃ ev, w.cell? ⟨2, 0, none⟩ = some ev ∧ (ev = .nilIface ∨ ∃ te pe, ev = .iface te pe)) : ExtOk Tryz.prog L LRa.I57 := by
  refine extOk_of (I := LRa.I57) (g := fun x => if x.1.size ≤ 281474976710656 ∧ x.2.1 = 10 ∧ x.2.2.1 = 64 then (match Lib.parseIntB 64 x.1.data.toList with | .ok v => some ((v, false, ()), ()) | .range => some ((Lib.intSat 64 x.1.data.toList, true, ()), ()) | _ => some (((0 : Int), true, ()), ())) else if x.1.size ≤ 281474976710656 ∧ x.2.1 = 10 ∧ x.2.2.1 = 8 then (match Lib.parseIntB 8 x.1.data.toList with | .ok v => some ((v, false, ()), ()) | .range => some ((Lib.intSat 8 x.1.data.toList, true, ()), ()) | _ => some (((0 : Int), true, ()), ())) else none) (fn := Tryz.f57) (code := bd Tryz.f57) rfl Tryz.func57 (by kernel_rfl) (by kernel_rfl) ?_
  intro x r o w vals okc Fs hg hA hok hon
  obtain ⟨a, b, c, u⟩ := x
  change ByteArray at a
  change Int at b
  change Int at c
  obtain ⟨c1, v1, F1, F2, e1, e2, h1, c2, v2, F3, F4, e3, e4, h2, c3, v3, F5, F6, e5, e6, h3, e7, e8⟩ := hA
  simp only [ShR, Rep] at h1 h2 h3
  obtain ⟨_, rfl⟩ := h1
  obtain ⟨_, rfl⟩ := h2
  obtain ⟨_, rfl⟩ := h3
  have ev : vals = [.string a, .int .i64 b, .int .i64 c] := by rw [e1, e3, e5, e7]; rfl
  subst ev
  split at hg
  · rename_i hx
    have hx : a.size ≤ 281474976710656 ∧ b = 10 ∧ c = 64 := hx
    obtain ⟨ha, rfl, rfl⟩ := hx
    have bad : ∀ (v : Int) (e : Ending) (w' : World), (∃ N, e = .returned (.tuple #[.int .i64 v, .iface 167 (.pointer (some ⟨N, 0, none⟩))]) ∧ Below w.heap.size w w') → ∃ z, e = .returned z ∧ Post w okc Fs (LRa.I57).params (LRa.I57).res (v, true, ()) o [.string a, .int .i64 10, .int .i64 64] z w' := fun v e w' ⟨N, he, hB⟩ => by
      refine ⟨_, he, post_plain (xs := [.int .i64 v, .iface 167 (.pointer (some ⟨N, 0, none⟩))]) ?_ ?_ hok (keptBut_below hB.os hB.tape hB.output hB.size hB.block)⟩
      · exact ⟨[.int .i64 v], [.iface 167 (.pointer (some ⟨N, 0, none⟩))], [], [], rfl, rfl, ⟨rfl, rfl⟩, [.iface 167 (.pointer (some ⟨N, 0, none⟩))], [], [], [], rfl, rfl, ⟨rfl, .inr ⟨rfl, _, _, rfl⟩⟩, rfl, rfl⟩
      · exact ⟨_, _, rfl, _, _, rfl, _, _, rfl, rfl⟩
    have hg : (match Lib.parseIntB 64 a.data.toList with | .ok v => some (((v, false, ()) : Int × Bool × Unit), ()) | .range => some ((Lib.intSat 64 a.data.toList, true, ()), ()) | _ => some (((0 : Int), true, ()), ())) = some (r, o) := hg
    rcases hv : Lib.parseIntB 64 a.data.toList with v | _ | _
    · rw [hv] at hg
      injection hg with hg
      injection hg with h1 h2
      subst h1
      refine (Any.strconv_ParseInt_10_at64_ok Tryz.laysC174 a (by omega) v hv w).mono fun e w' ⟨he, hw⟩ => ?_
      refine ⟨_, he, post_plain (xs := [.int .i64 v, .nilIface]) ?_ ?_ hok ?_⟩
      · exact ⟨[.int .i64 v], [.nilIface], [], [], rfl, rfl, ⟨rfl, rfl⟩, [.nilIface], [], [], [], rfl, rfl, ⟨rfl, .inl ⟨rfl, rfl⟩⟩, rfl, rfl⟩
      · exact ⟨_, _, rfl, _, _, rfl, _, _, rfl, rfl⟩
      · rcases hw with rfl | ⟨t, rfl⟩
        · exact KeptBut.refl _ _
        · have hB := Lib.bytesWorld_below w 5 t
          exact keptBut_below hB.os hB.tape hB.output hB.size hB.block
    · rw [hv] at hg
      injection hg with hg
      injection hg with h1 h2
      subst h1
      obtain ⟨ev, h3, h4⟩ := hS w hon
      exact (Any.strconv_ParseInt_10_at64_syntax Tryz.laysC174 a ha hv ev w h3 h4).mono fun e w' ⟨N, he, _, _, hB⟩ => bad 0 e w' ⟨N, he, hB⟩
    · rw [hv] at hg
      injection hg with hg
      injection hg with h1 h2
      subst h1
      obtain ⟨ev, h3, h4⟩ := hR w hon
      exact (Any.strconv_ParseInt_10_at64_range Tryz.laysC174 a ha hv ev w h3 h4).mono fun e w' ⟨N, he, _, _, hB⟩ => bad _ e w' ⟨N, he, hB⟩
  · split at hg
    · rename_i hx
      have hx : a.size ≤ 281474976710656 ∧ b = 10 ∧ c = 8 := hx
      obtain ⟨ha, rfl, rfl⟩ := hx
      have bad : ∀ (v : Int) (e : Ending) (w' : World), (∃ N, e = .returned (.tuple #[.int .i64 v, .iface 167 (.pointer (some ⟨N, 0, none⟩))]) ∧ Below w.heap.size w w') → ∃ z, e = .returned z ∧ Post w okc Fs (LRa.I57).params (LRa.I57).res (v, true, ()) o [.string a, .int .i64 10, .int .i64 8] z w' := fun v e w' ⟨N, he, hB⟩ => by
        refine ⟨_, he, post_plain (xs := [.int .i64 v, .iface 167 (.pointer (some ⟨N, 0, none⟩))]) ?_ ?_ hok (keptBut_below hB.os hB.tape hB.output hB.size hB.block)⟩
        · exact ⟨[.int .i64 v], [.iface 167 (.pointer (some ⟨N, 0, none⟩))], [], [], rfl, rfl, ⟨rfl, rfl⟩, [.iface 167 (.pointer (some ⟨N, 0, none⟩))], [], [], [], rfl, rfl, ⟨rfl, .inr ⟨rfl, _, _, rfl⟩⟩, rfl, rfl⟩
        · exact ⟨_, _, rfl, _, _, rfl, _, _, rfl, rfl⟩
      have hg : (match Lib.parseIntB 8 a.data.toList with | .ok v => some (((v, false, ()) : Int × Bool × Unit), ()) | .range => some ((Lib.intSat 8 a.data.toList, true, ()), ()) | _ => some (((0 : Int), true, ()), ())) = some (r, o) := hg
      rcases hv : Lib.parseIntB 8 a.data.toList with v | _ | _
      · rw [hv] at hg
        injection hg with hg
        injection hg with h1 h2
        subst h1
        refine (Any.strconv_ParseInt_10_at8_ok Tryz.laysC174 a (by omega) v hv w).mono fun e w' ⟨he, hw⟩ => ?_
        refine ⟨_, he, post_plain (xs := [.int .i64 v, .nilIface]) ?_ ?_ hok ?_⟩
        · exact ⟨[.int .i64 v], [.nilIface], [], [], rfl, rfl, ⟨rfl, rfl⟩, [.nilIface], [], [], [], rfl, rfl, ⟨rfl, .inl ⟨rfl, rfl⟩⟩, rfl, rfl⟩
        · exact ⟨_, _, rfl, _, _, rfl, _, _, rfl, rfl⟩
        · rcases hw with rfl | ⟨t, rfl⟩
          · exact KeptBut.refl _ _
          · have hB := Lib.bytesWorld_below w 5 t
            exact keptBut_below hB.os hB.tape hB.output hB.size hB.block
      · rw [hv] at hg
        injection hg with hg
        injection hg with h1 h2
        subst h1
        obtain ⟨ev, h3, h4⟩ := hS w hon
        exact (Any.strconv_ParseInt_10_at8_syntax Tryz.laysC174 a ha hv ev w h3 h4).mono fun e w' ⟨N, he, _, _, hB⟩ => bad 0 e w' ⟨N, he, hB⟩
      · rw [hv] at hg
        injection hg with hg
        injection hg with h1 h2
        subst h1
        obtain ⟨ev, h3, h4⟩ := hR w hon
        exact (Any.strconv_ParseInt_10_at8_range Tryz.laysC174 a ha hv ev w h3 h4).mono fun e w' ⟨N, he, _, _, hB⟩ => bad _ e w' ⟨N, he, hB⟩
    · cases hg
theorem fi_ext {L : Laid} (hL : ∀ w, L.on w → Lib.TabIs Tryz.prog w "internal/strconv.uint64pow10" .u64 Lib.pow10Tab) : ExtOk Tryz.prog L LRa.I101 := by
  refine extOk_of (I := LRa.I101) (g := fun x => if x.2.1 = 10 ∧ -9223372036854775808 ≤ x.1 ∧ x.1 ≤ 9223372036854775807 then some (((⟨(Lib.itoa x.1).toArray⟩ : ByteArray), ()), ()) else none) (fn := Tryz.f101) (code := bd Tryz.f101) rfl Tryz.func101 (by kernel_rfl) (by kernel_rfl) ?_
  intro x r o w vals okc Fs hg hA hok hon
  obtain ⟨a, b, u⟩ := x
  change Int at a
  change Int at b
  obtain ⟨c1, v1, F1, F2, e1, e2, h1, c2, v2, F3, F4, e3, e4, h2, e5, e6⟩ := hA
  simp only [ShR, Rep] at h1 h2
  obtain ⟨_, rfl⟩ := h1
  obtain ⟨_, rfl⟩ := h2
  split at hg
  · rename_i hx
    have hx : b = 10 ∧ -9223372036854775808 ≤ a ∧ a ≤ 9223372036854775807 := hx
    obtain ⟨rfl, ha, hb⟩ := hx
    injection hg with hg
    injection hg with h1 h2
    subst h1
    subst e5
    subst e3
    subst e1
    refine (Tryz.strconv_FormatInt_10 a ha hb w (hL w hon)).mono fun e w' ⟨he, k, os, hw⟩ => ?_
    subst hw
    refine ⟨_, he, post_plain (xs := [.string ⟨(Lib.itoa a).toArray⟩]) ?_ ?_ hok ?_⟩
    · exact ⟨[.string ⟨(Lib.itoa a).toArray⟩], [], [], [], rfl, rfl, ⟨rfl, rfl⟩, rfl, rfl⟩
    · exact ⟨_, _, rfl, _, _, rfl, rfl⟩
    · exact keptBut_below rfl rfl rfl (by simp [Go.Sort.grow, World.drewN]) (fun b hb => by simp [Go.Sort.grow, World.drewN, Array.getElem?_append_left hb])
  · cases hg
theorem repL_ints {w : World} {ok : Nat → Prop} {k : IntKind} : ∀ l : List Int, RepL (Rep w ok (.int k)) l (l.map (Value.int k))
  | [] => rfl
  | n :: l => ⟨[.int k n], l.map (Value.int k), rfl, rfl, repL_ints l⟩
theorem rep_ext {L : Laid} : ExtOk Tryz.prog L LRa.I80 := by
  refine extOk_of (I := LRa.I80) (g := fun x => if x.1.length = 1 ∧ 1 ≤ x.2.1 ∧ x.2.1 ≤ 360 then some ((List.replicate x.2.1.toNat (x.1.headD 0), ()), ()) else none) (fn := Tryz.f80) (code := bd Tryz.f80) rfl Tryz.func80 (by kernel_rfl) (by kernel_rfl) ?_
  intro x r o w vals okc Fs hg hA hok hon
  obtain ⟨l, n, u⟩ := x
  change List Int at l
  change Int at n
  obtain ⟨c1, v1, F1, F2, e1, e2, h1, c2, v2, F3, F4, e3, e4, h2, e5, e6⟩ := hA
  simp only [ShR] at h1 h2
  obtain ⟨rfl, A, cap, rfl, hcap, h1⟩ := h1
  obtain ⟨rfl, h2⟩ := h2
  have h2 : c2 = [.int .i64 n] := h2
  subst h2
  split at hg
  · rename_i hx
    have hx : l.length = 1 ∧ 1 ≤ n ∧ n ≤ 360 := hx
    injection hg with hg
    injection hg with hg1 hg2
    subst hg1
    obtain ⟨hl, hn1, hn2⟩ := hx
    obtain ⟨v, rfl⟩ : ∃ v, l = [v] := by
      match l, hl with
      | [v], _ => exact ⟨v, rfl⟩
    obtain ⟨n, rfl⟩ := Int.eq_ofNat_of_zero_le (show 0 ≤ n by omega)
    rcases h1 with h1 | ⟨a, es, rfl, hoka, hlt, hcl, hrep⟩
    · cases h1
    obtain ⟨c, d, rfl, hc, hd⟩ := hrep
    have hc : c = [.int .i16 v] := hc
    subst hc
    have hcell : w.cell? a = some (.int .i16 v) := by
      have h0 := hcl 0 (.int .i16 v) rfl
      have ha : a.add 0 = a := by simp [Addr.add]
      rwa [ha] at h0
    have ev : vals = [.slice (some a) 1 cap, .int .i64 (n : Int)] := by rw [e1, e3, e5]; rfl
    subst ev
    have eF : Fs = [] := by rw [e2, e4, e6]; rfl
    subst eF
    refine (repeat_walk v a cap n (by omega) (by omega) w hcell hlt).mono fun e w' ⟨he, hblk, hB⟩ => ?_
    have hsz : w.heap.size < w'.heap.size := (Array.getElem?_eq_some_iff.1 hblk).1
    refine ⟨_, he, [.slice (some ⟨w.heap.size, 0, none⟩) n n], [w.heap.size], [], okc, rfl, ⟨_, [], [w.heap.size], [], rfl, rfl, ⟨_, (List.replicate n v).map (Value.int .i16), [w.heap.size], [], rfl, rfl, ⟨some ⟨w.heap.size, 0, none⟩, n, ?_, ?_, by simp [Ty.size], .inr ⟨w.heap.size, _, 52, rfl, rfl, hblk, by simp [Ty.size], ?_⟩⟩, rfl, repL_ints _⟩, rfl, rfl⟩, ⟨_, _, rfl, _, _, rfl, rfl⟩, by simp, fun b hb => ?_, fun b hb => ?_, keptBut_below hB.os hB.tape hB.output hB.size hB.block⟩
    · simp
    · simp
    · simp [Ty.size]
    · have hb : b = w.heap.size := by simpa using hb
      exact ⟨by omega, .inl (by omega)⟩
    · have := hok b hb
      exact ⟨by omega, .inl hb, by simp; omega⟩
  · cases hg
theorem repL_str {w : World} {ok : Nat → Prop} : ∀ {l : List ByteArray} {es : List Value}, RepL (Rep w ok .str) l es → es = l.map Value.string
  | [], _, h => h
  | n :: l, es, h => by
    obtain ⟨c, d, e, h1, h2⟩ := h
    have h1 : c = [.string n] := h1
    rw [e, h1, repL_str h2]; rfl
theorem addr_add (g j : Nat) : (⟨g, 0, none⟩ : Addr).add j = ⟨g, 0 + j, none⟩ := by unfold Addr.add; split <;> simp_all
theorem jn_ext {L : Laid} : ExtOk Tryz.prog L LRa.I120 := by
  refine extOk_of2 (I := LRa.I120) (g := fun x => if x.1.length ≤ 140737488355328 ∧ (Lib.join (x.1.map fun s => s.data.toList) x.2.1.data.toList).length ≤ 140737488355328 then some (((⟨(Lib.join (x.1.map fun s => s.data.toList) x.2.1.data.toList).toArray⟩ : ByteArray), ()), (x.1, ())) else none) (fn := Tryz.f120) (code := bd Tryz.f120) rfl Tryz.func120 (by kernel_rfl) (by kernel_rfl) ?_
  intro x r o w vals okc Fs hg hA hnd hF hok hon
  obtain ⟨l, s, u⟩ := x
  change List ByteArray at l
  change ByteArray at s
  have hA0 : ArgsR w okc [(Sh.row false .str, true), (Sh.ro .str, false)] (l, s, ()) vals Fs := hA
  have hz : ∀ (w' : World) (y : ByteArray) (ok : Nat → Prop), ShR w' ok (Sh.ro .str) y [.string y] [] := fun w' y ok => by simp [ShR, Rep]
  obtain ⟨c1, v1, F1, F2, e1, e2, h1, c2, v2, F3, F4, e3, e4, h2, e5, e6⟩ := hA
  simp only [ShR, Rep] at h1 h2
  obtain ⟨_, rfl⟩ := h2
  obtain ⟨hd, es, G1, G2, rfl, eG, hrow, hG2, hrep⟩ := h1
  have hes := repL_str (w := w) (ok := okc) hrep
  have ev : vals.toArray = #[hd, .string s] := by rw [e1, e3, e5]; rfl
  split at hg
  · rename_i hx
    have hx : l.length ≤ 140737488355328 ∧ (Lib.join (l.map fun s => s.data.toList) s.data.toList).length ≤ 140737488355328 := hx
    injection hg with hg
    injection hg with h1 h2
    subst h1
    subst h2
    obtain ⟨A, cap, ehd, hn, hlen, hc⟩ := hrow
    show Calls Tryz.prog 120 vals.toArray w _
    rw [ev, ehd]
    rcases hc with ⟨hc0, _⟩ | ⟨g, cur, te, hA1, hG1, hb, _, he⟩
    · have hl : l = [] := List.length_eq_zero_iff.1 (by omega)
      subst hl
      refine (Tryz.strings_Join_none A cap s w).mono fun e w' ⟨he, hw⟩ => ?_
      subst hw
      exact ⟨_, he, post_row rfl rfl hA0 hnd hF hok (hz _ _) rfl (KeptBut.refl _ _)⟩
    · subst hA1
      have hg : g < w.heap.size := (Array.getElem?_eq_some_iff.1 hb).1
      have hcl := cellsAt_block hb (l.length * Ty.size .str)
      rw [← he, hes] at hcl
      refine (Tryz.strings_Join g 0 cap l s w (fun j x hj => ?_) hg hx.1 hn hx.2).mono fun e w' ⟨he, hw⟩ => ?_
      · have h0 := hcl j (.string x) (by rw [List.getElem?_map, hj]; rfl)
        have hadd : (⟨g, 0, none⟩ : Addr).add j = ⟨g, 0 + j, none⟩ := addr_add g j
        rwa [hadd] at h0
      · exact ⟨_, he, post_row rfl rfl hA0 hnd hF hok (hz _ _) rfl (keptBut_below hw.os hw.tape hw.output hw.size hw.block)⟩
  · cases hg
open Go.ChangeShapes Go.WideShapes Go.ChangeAt
abbrev laidL : List (String × DataW Unit) := Rows.fnExactReadMachineRow.laid
theorem Tryz.own : ownKnob Tryz.prog.godebug = none := by kernel_rfl
theorem Tryz.laidOut : laidOutB Tryz.prog = true := by kernel_rfl
theorem gTab : Tryz.prog.globalNamed "internal/strconv.uint64pow10" = some 3 := by kernel_rfl
theorem tTab : (Tryz.prog.globals[3]?).map (·.type) = some 203 := by kernel_rfl
noncomputable def laidWorld (os : Os) : World :=
  { World.doorLaid Tryz.prog 400 os with heap := (World.doorLaid Tryz.prog 400 os).heap.modify 4 fun
    | .cells _ t frozen => .cells (Lib.firstTab.map fun z => Value.int .u8 z).toArray t frozen
    | o => o }
theorem door_met (os : Os) (args : Array Value) : laidMetH Tryz.prog laidL ((laidWorld os).forCall (fun _ _ => 0) ⟨#[], args, []⟩).memory :=
  laidMetH_of_parts3 (fuel := 8) (laidMet_of_run' 8 (by kernel_rfl) (by kernel_rfl)) (by kernel_rfl) (by kernel_rfl)
theorem tab_data : ([("internal/strconv.uint64pow10", Rows.laid_internal_strconv_uint64pow10), ("unicode/utf8.acceptRanges", Rows.laid_unicode_utf8_acceptRanges), ("strconv.ErrRange", Rows.laid_strconv_ErrRange), ("strconv.ErrSyntax", Rows.laid_strconv_ErrSyntax), ("unicode/utf8.first", Rows.laid_unicode_utf8_first)] : List (String × DataW Unit)) = [("internal/strconv.uint64pow10", Lib.tabData .u64 Lib.pow10Tab), ("unicode/utf8.acceptRanges", Rows.laid_unicode_utf8_acceptRanges), ("strconv.ErrRange", Rows.laid_strconv_ErrRange), ("strconv.ErrSyntax", Rows.laid_strconv_ErrSyntax), ("unicode/utf8.first", Rows.laid_unicode_utf8_first)] := by kernel_rfl
theorem tab_of {W : World} (h : laidMetH Tryz.prog laidL W) : Lib.TabIs Tryz.prog W "internal/strconv.uint64pow10" .u64 Lib.pow10Tab := by
  rw [MakeChecks.laidMetH_plain _ _ _ (by kernel_rfl)] at h
  have h3 : laidMet Tryz.prog [("internal/strconv.uint64pow10", Rows.laid_internal_strconv_uint64pow10), ("unicode/utf8.acceptRanges", Rows.laid_unicode_utf8_acceptRanges), ("strconv.ErrRange", Rows.laid_strconv_ErrRange), ("strconv.ErrSyntax", Rows.laid_strconv_ErrSyntax), ("unicode/utf8.first", Rows.laid_unicode_utf8_first)] W := h.tail.tail
  rw [tab_data] at h3
  exact Lib.tabIs_of_head gTab tTab Tryz.underlying203 Tryz.underlying132 (by kernel_rfl) (by kernel_rfl) h3
theorem tab_size {W : World} (h : Lib.TabIs Tryz.prog W "internal/strconv.uint64pow10" .u64 Lib.pow10Tab) : 3 < W.heap.size := by
  unfold Lib.TabIs World.var? at h
  rw [gTab] at h
  apply Classical.byContradiction
  intro hn
  rw [Option.bind_some, Array.getElem?_eq_none (by omega)] at h
  cases h
theorem tab_kept {W w : World} {bl : Nat → Prop} (hb : bl 3) (h : laidMetH Tryz.prog laidL W) (hsz : 3 < W.heap.size) (hon : Laid.on ⟨W, bl⟩ w) : Lib.TabIs Tryz.prog w "internal/strconv.uint64pow10" .u64 Lib.pow10Tab := by
  have ht := tab_of h
  unfold Lib.TabIs World.var? at ht ⊢
  rw [gTab] at ht ⊢
  rw [Option.bind_some] at ht ⊢
  rw [hon.1.heap 3 hsz (fun h => h hb)]
  exact ht
theorem size_of_cell {W : World} {b : Nat} {v : Value} (h : W.cell? ⟨b, 0, none⟩ = some v) : b < W.heap.size := by
  unfold World.cell? at h
  apply Classical.byContradiction
  intro hn
  dsimp only at h
  rw [Array.getElem?_eq_none (by omega)] at h
  cases h
theorem cell_kept {W w : World} {bl : Nat → Prop} {b : Nat} {v : Value} (hb : bl b) (h : W.cell? ⟨b, 0, none⟩ = some v) (hon : Laid.on ⟨W, bl⟩ w) : w.cell? ⟨b, 0, none⟩ = some v := by
  have hsz := size_of_cell h
  unfold World.cell? at h ⊢
  rw [hon.1.heap b hsz (fun h => h hb)]
  exact h
theorem gSyn : Tryz.prog.globalNamed "strconv.ErrSyntax" = some 1 := by kernel_rfl
theorem gRng : Tryz.prog.globalNamed "strconv.ErrRange" = some 2 := by kernel_rfl
theorem starErr : "*" ++ "errors.errorString" = "*errors.errorString" := by decide
theorem rowErr (u : TypeId) (h : Tryz.prog.typeName? 3 u = some "*errors.errorString") : u = 199 :=
  typeName_ptr_named (nm := "errors.errorString") (by rw [starErr]; kernel_rfl) (by kernel_rfl) (by decide) u (by rw [starErr]; exact h)
theorem syn_of {W : World} (h : laidMetH Tryz.prog laidL W) : ∃ a, W.cell? ⟨1, 0, none⟩ = some (.iface 199 (.pointer (some a))) := by
  rw [MakeChecks.laidMetH_plain _ _ _ (by kernel_rfl)] at h
  have h3 : laidMet Tryz.prog [("strconv.ErrSyntax", Rows.laid_strconv_ErrSyntax), ("unicode/utf8.first", Rows.laid_unicode_utf8_first)] W := h.tail.tail.tail.tail.tail
  obtain ⟨a, s, hv, _⟩ := laid_sentinel h3 gSyn (ti := 97) (by kernel_rfl) Tryz.underlying97 rowErr Tryz.underlying199 Tryz.underlying201 rfl rfl Tryz.underlying9 (by kernel_rfl) (by kernel_rfl)
  exact ⟨a, by simpa using World.var?_cell gSyn hv 0⟩
theorem rng_of {W : World} (h : laidMetH Tryz.prog laidL W) : ∃ a, W.cell? ⟨2, 0, none⟩ = some (.iface 199 (.pointer (some a))) := by
  rw [MakeChecks.laidMetH_plain _ _ _ (by kernel_rfl)] at h
  have h3 : laidMet Tryz.prog [("strconv.ErrRange", Rows.laid_strconv_ErrRange), ("strconv.ErrSyntax", Rows.laid_strconv_ErrSyntax), ("unicode/utf8.first", Rows.laid_unicode_utf8_first)] W := h.tail.tail.tail.tail
  obtain ⟨a, s, hv, _⟩ := laid_sentinel h3 gRng (ti := 97) (by kernel_rfl) Tryz.underlying97 rowErr Tryz.underlying199 Tryz.underlying201 rfl rfl Tryz.underlying9 (by kernel_rfl) (by kernel_rfl)
  exact ⟨a, by simpa using World.var?_cell gRng hv 0⟩
/-- A law whose world is shaped and holds what the row lists. -/
theorem returns_and_shaped {H : Type} {enc : TypeId × Value → H} {a : Assume} {C : Checked} {os : Os} {f : FuncId} {fn : Func} {s : ChangeSpec} {conds : List PathCond} {apart fresh handsOn again : Bool} {X : World → Array Value → Prop}
    (hX : ∀ (w w' : World) (args : Array Value), w.heap = w'.heap → X w args → X w' args)
    (own : ownKnob C.prog.godebug = none) (started : os.Started) (noInit : C.prog.inits.idxOf? f = none) (hfn : C.prog.funcs[f]? = some fn)
    (witness : ∃ (w : World) (tape : Tape) (i : Input), w.os = os ∧ (w.forCall tape i).Shaped C.prog ∧ i.vars = [] ∧ Input.okWide C.prog (w.forCall tape i) .any w.heap.size f i ∧
      ((s.pre enc C.prog fn conds apart (w.forCall tape i).memory i.args ∧ X (w.forCall tape i).memory i.args) ∧ sizedMet enc C.prog fn (OpenSpec.ofChange s) apart (w.forCall tape i).memory i.args) ∧ a.holds C.prog (lone (Frame.enter C.prog f i.args .normal) [] (w.forCall tape i)))
    (contract : ∀ (W : World) (base : Nat) (args : Array Value) (ds gs : List (DataW H)) (before : List MemPlace),
      (∀ (j : Nat) t v, fn.params[j]? = some t → args[j]? = some v → Value.okWide C.prog W .any base t v) →
      DataW.Whole enc C.prog fn.params.toList s.vars apart W args.toList ds gs before →
      conds.all (PathCond.test C.prog ⟨fn.params.toList, ds, s.plain.varTypes C.prog, gs⟩) = true →
      (DataW.weightsEach C.prog (fn.params.toList ++ s.plain.varTypes C.prog) (ds ++ gs)).all (· ≤ reachBytes) = true → X W args → W.ShapedOpen C.prog →
      Calls C.prog f args W fun e W' => ∃ v, e = .returned v ∧ s.post enc C.prog fn apart fresh handsOn again W args v W') :
    ReturnsInHanded a C os f .any (fun w args => (s.pre enc C.prog fn conds apart w args ∧ X w args) ∧ sizedMet enc C.prog fn (OpenSpec.ofChange s) apart w args) (s.post enc C.prog fn apart fresh handsOn again) := by
  refine returnsInHanded_of_calls own started noInit witness ?_
  intro w tape i _ hsh _ hok hpre _
  obtain ⟨_, _, _, fn', hfn', _, _, _, _, hval⟩ := hok
  obtain rfl : fn' = fn := Option.some.inj (hfn'.symm.trans hfn)
  obtain ⟨⟨⟨ds, gs, before, hw, hc⟩, hx⟩, hz⟩ := hpre
  refine (contract (w.forCall tape i) w.heap.size i.args ds gs before hval (DataW.Whole.of_heap (w' := w.forCall tape i) (by rfl) hw) hc (hz.weights hw) (hX _ _ _ (by rfl) hx) hsh).mono fun e W' ⟨v, he, hp⟩ => ?_
  subst he
  exact ChangeSpec.post_blind hp
theorem fnExactReadMachine_law : ∀ x, DomA (LRm.C 3).params x → ∃ n r o, call LRm.T LRm.C n 3 x = some (r, o) ∧ IsTrue (LRm.C 3).res r := by
  intro x hd
  obtain ⟨x0, u⟩ := x
  obtain ⟨N, hN⟩ := Go.Cams.YtjeakogmccogmaaGreatDoorLRm.e3 x0 hd
  exact ⟨N, _, _, hN N (Nat.le_refl _), rfl⟩
theorem fnExactReadMachine_rec : (Tryz.f3.params.toList.all fun t => Tryz.prog.readableRec t && decide (t < Tryz.prog.types.size)) = true := by kernel_rfl
set_option maxRecDepth 100000 in
theorem fnExactReadMachine_lifted (os : Os) (started : os.Started) (H : Type) (enc : TypeId × Value → H) :
    ReturnsInHanded {} Tryz.checked os 3 .any (fun w args => (Rows.fnExactReadMachineSpec.pre enc Tryz.prog Tryz.f3 Rows.fnExactReadMachineRow.domain false w args ∧ laidMetH Tryz.prog laidL w) ∧ sizedMet enc Tryz.prog Tryz.f3 (OpenSpec.ofChange Rows.fnExactReadMachineSpec) false w args) (Rows.fnExactReadMachineSpec.post enc Tryz.prog Tryz.f3 false true false false) := by
  refine returns_and_shaped (C := Tryz.checked) (X := fun w _ => laidMetH Tryz.prog laidL w) (fun _ _ _ hh h => h.of_heap hh) Tryz.own started (by kernel_rfl) Tryz.func3
    (ChangeSpec.witness_shaped (enc := enc) (C := Tryz.checked) (os := os) (X := fun w _ => laidMetH Tryz.prog laidL w) false (laidWorld os) #[.string ⟨#[]⟩] 8 rfl (World.shaped_of_RefB (by kernel_rfl) (by kernel_rfl)) (by kernel_rfl) (by kernel_rfl) (by kernel_rfl) (door_met os _)) ?_
  intro W base args ds gs before hval hW _ hw hL hsh
  have hsz : 3 < W.heap.size := tab_size (tab_of hL)
  obtain ⟨m0, hm0⟩ : ∃ m, W.cell? ⟨0, 0, none⟩ = some (.int .i64 m) := cell_of_shapedOpen_int (zero := #[.int .i64 0]) (t := 3) hsh (of_decide_eq_true (by kernel_rfl)) (by kernel_rfl) rfl (by kernel_rfl) (by kernel_rfl) Tryz.underlying3
  obtain ⟨a1, hv1⟩ := syn_of hL
  obtain ⟨a2, hv2⟩ := rng_of hL
  exact law_callsX LRm.tsOk LRm.insts (by kernel_rfl) Tryz.laidOut (j := 3) (by kernel_rfl) (f := 3) (fn := Tryz.f3) rfl (tb := 4) (by kernel_rfl) Tryz.underlying4 (by kernel_rfl) (fun t ht => by have := List.all_eq_true.1 fnExactReadMachine_rec t ht; simp only [Bool.and_eq_true, decide_eq_true_eq] at this; exact this) rfl (fun H ds h => match ds, h with | [_], _ => rfl) fnExactReadMachine_law hval hW hw (bl := fun b => b = 3 ∨ b = 0 ∨ b = 1 ∨ b = 2) (fun b hb => hb.elim (fun e => by rw [e]; exact hsz) fun hb => hb.elim (fun e => by rw [e]; exact size_of_cell hm0) fun hb => hb.elim (fun e => by rw [e]; exact size_of_cell hv1) fun e => by rw [e]; exact size_of_cell hv2) (LRm.exts (rm_ext (LRa.exts (sp_ext fun w hon => ⟨m0, cell_kept (.inr (.inl rfl)) hm0 hon⟩) (cut_ext fun w hon => ⟨m0, cell_kept (.inr (.inl rfl)) hm0 hon⟩) (pi_ext (fun w hon => ⟨_, cell_kept (.inr (.inr (.inl rfl))) hv1 hon, .inr ⟨_, _, rfl⟩⟩) (fun w hon => ⟨_, cell_kept (.inr (.inr (.inr rfl))) hv2 hon, .inr ⟨_, _, rfl⟩⟩)) (fi_ext fun w hon => tab_kept (.inl rfl) hL hsz hon) rep_ext jn_ext) (fun w hon => ⟨m0, cell_kept (.inr (.inl rfl)) hm0 hon⟩)))
theorem fnExactReadMachine_bare : Rows.FnExactReadMachineSaid :=
  OpenClaim.holds_of_wide 3 Tryz.f3 rfl rfl rfl rfl rfl rfl rfl ⟨rfl, rfl, rfl, rfl, rfl⟩ rfl rfl rfl rfl rfl (by kernel_rfl) Tryz.func3 (by kernel_rfl)
    (of_decide_eq_true (by kernel_rfl)) (by unfold Func.isWrapper; rw [if_neg (by decide +kernel)]; exact ⟨rfl, rfl⟩)
    (fun os started H enc _ => fnExactReadMachine_lifted os started H enc)
theorem fnExactReadMachine_named : Tryz.prog.funcNamed Rows.fnExactReadMachineRow.func = some 3 := by kernel_rfl
theorem fnExactReadMachine_holds : Rows.FnExactReadMachineCardSaid :=
  Claim7.holds_tied_plain_at .later [] [.data, .data, .data, .data, .sentinel, .sentinel, .pinned] true (true, "a4cc3611b082f4f073ae65fbfaa57e5b3cb4a5254a9babb5b3689b96d16f42a1") true
    fnExactReadMachine_bare (fun _ h => by cases h) (by kernel_rfl) (fun _ h => by cases h) fnExactReadMachine_row_tie rfl ⟨rfl, rfl⟩ (by kernel_rfl) rfl
    (fun f fn hf hfn => by
      obtain rfl : f = 3 := Option.some.inj (fnExactReadMachine_named.symm.trans hf) |>.symm
      obtain rfl : fn = Tryz.f3 := (Option.some.inj (Tryz.func3.symm.trans hfn)).symm
      exact ⟨by kernel_rfl, fun j t ht => by
        have hm := Array.mem_of_getElem? ht
        have hall : (Tryz.f3.params.toList.all fun u => !Tryz.prog.wantsStandIn u) = true := by kernel_rfl
        exact (show Tryz.prog.wantsStandIn t = false by simpa using List.all_eq_true.1 hall t (by simpa using hm))⟩)
    (by kernel_rfl)
#print axioms fnExactReadMachine_holds
end Go.Proofs.YtjeakogmccogmaaGreatDoor
