/- The law FnMachines returns true for all arguments, in every run, and leaves its arguments as they were; no conditions. The library's table of powers of ten is as the program's text lays it: the card ties it. -/
import Derived.Test.YtipjblnjaicbfaaGreatDoorEMq
import Derived.Test.YtipjblnjaicbfaaGreatDoorRows
import Derived.Test.YtipjblnjaicbfaaGreatDoorTie
import Derived.Test.YtipjblnjaicbfaaGreatDoorCards
import Derived.ProofKit
import Derived.LaidMore
import Derived.OpenShut
import Derived.Stop.Joined
import Derived.Stop.LaidErr
import Derived.Lib.LaidTab
import Derived.Shelf.Strings.Builder1
import Derived.Shelf.Strings.Builder2
import Derived.Shelf.Strings.OnBuilder
import Derived.Shelf.Small.Strs
import Derived.Shelf.Strings.BuilderF
import Derived.Shelf.Strings.BuilderK
import Derived.Shelf.Strconv.Itoa0
import Derived.Shelf.Strconv.Itoa1
import Derived.Shelf.LaysM
import Derived.Shelf.Strconv.Itoa2
import Derived.Shelf.Strconv.Itoa3
import Derived.Shelf.Strconv.Itoa4
import Derived.Shelf.Strconv.ParseIntEmpty
import Derived.Shelf.Strconv.Clone
import Derived.Shelf.Strconv.SyntaxError
import Derived.Shelf.LaysC
import Derived.Shelf.Strconv.ToError
import Derived.Shelf.Strconv.Lower
import Derived.Shelf.Strconv.ParseUint10
import Derived.Shelf.Strconv.ParseUint10Empty
import Derived.Shelf.Strconv.ParseUint10Any
import Derived.Shelf.Strconv.ParseInt10
import Derived.Shelf.Strconv.RangeError
import Derived.Shelf.Strconv.ToErrorRange
import Derived.Shelf.Strconv.ParseUintEmpty
import Derived.Shelf.Strconv.ParseUint10b64
import Derived.Shelf.Strconv.ParseUint10b32
import Derived.Shelf.Strconv.ParseUint10b16
import Derived.Shelf.Strconv.ParseUint10b8
import Derived.Shelf.Strconv.ParseUint10At
import Derived.Shelf.Strconv.ParseInt10At64
import Derived.Shelf.Strconv.ParseInt10At32
import Derived.Shelf.Strconv.ParseInt10At16
import Derived.Shelf.Strconv.ParseInt10At8
import Derived.Shelf.Strconv.ParseInt10All
import Derived.Shelf.Strconv.ParseIntPublic10
import Derived.Shelf.Strings.Search1
import Derived.Shelf.Strings.Search2
import Derived.Shelf.Strings.Search3
import Derived.Shelf.Strings.Cut
import Derived.Shelf.Strings.Count
import Derived.Shelf.Strings.Shaped
import Derived.Shelf.Strings.Prefix
import Derived.Shelf.Strings.Split
import Derived.Shelf.Strings.SplitShaped
import Derived.Shelf.Unicode.Decode
import Derived.Shelf.Strings.RuneCount
import Derived.Shelf.Strings.Explode
import Derived.Shelf.Bits.Mul64
import Derived.Shelf.Strings.Repeat
import Derived.Shelf.Unicode.DecodeSlow
import Derived.HandedShaped
import Derived.Lib.LaidU8
import Derived.WalkKit
import Derived.Lib.TrailingZeros
import Derived.Shelf.Spec.TrailingZeros
import Derived.Lib.Hide
import Derived.Lib.ItoaWalk
import Derived.Lib.ItoaMem
import Derived.Lib.Builder
import Derived.Lib.ConvBytes
import Derived.Lib.Strings
import Derived.Lib.AtoiErrMem
import Derived.Laws.IdiomStrings
import Derived.Laws.CopyOwn
import Derived.Deep.RegionLaw
namespace Go.Proofs
open Go.Shelf
def Tryz.lays156_ren : Go.Shelf.Ren := ⟨fun | 156 => 106 | 165 => 179 | 166 => 92 | 169 => 94 | 240 => 169 | 241 => 216 | 276 => 207 | 277 => 241 | n => n, fun | 31 => 123 | 9 => 9 | 3 => 3 | 4 => 4 | 0 => 0 | 20 => 20 | 72 => 134 | 76 => 137 | 70 => 132 | 37 => 22 | 75 => 136 | 127 => 204 | 164 => 233 | 5 => 5 | 80 => 140 | n => n, fun | n => n⟩
theorem Tryz.lays156 : Go.Proofs.Lays.n156 Tryz.prog Tryz.lays156_ren := {
  mixed := by kernel_rfl
  f156 := Tryz.func106.trans (congrArg some (by kernel_rfl))
  f165 := Tryz.func179.trans (congrArg some (by kernel_rfl))
  f166 := Tryz.func92.trans (congrArg some (by kernel_rfl))
  f169 := Tryz.func94.trans (congrArg some (by kernel_rfl))
  f240 := Tryz.func169.trans (congrArg some (by kernel_rfl))
  f241 := Tryz.func216.trans (congrArg some (by kernel_rfl))
  f276 := Tryz.func207.trans (congrArg some (by kernel_rfl))
  f277 := Tryz.func241.trans (congrArg some (by kernel_rfl))
  t0 := Tryz.underlying0
  a0 := Tryz.isAgg0
  z0 := Tryz.sizeOf0
  v0 := Tryz.zeroValue0
  t3 := Tryz.underlying3
  a3 := Tryz.isAgg3
  z3 := Tryz.sizeOf3
  v3 := Tryz.zeroValue3
  t4 := Tryz.underlying4
  a4 := Tryz.isAgg4
  z4 := Tryz.sizeOf4
  v4 := Tryz.zeroValue4
  t9 := Tryz.underlying9
  a9 := Tryz.isAgg9
  z9 := Tryz.sizeOf9
  v9 := Tryz.zeroValue9
  t20 := Tryz.underlying20
  a20 := Tryz.isAgg20
  z20 := Tryz.sizeOf20
  v20 := Tryz.zeroValue20
  t31 := Tryz.underlying123
  a31 := Tryz.isAgg123
  z31 := Tryz.sizeOf123
  v31 := Tryz.zeroValue123
  t37 := Tryz.underlying22
  a37 := Tryz.isAgg22
  z37 := Tryz.sizeOf22
  v37 := Tryz.zeroValue22
  t70 := Tryz.underlying132
  a70 := Tryz.isAgg132
  z70 := Tryz.sizeOf132
  v70 := Tryz.zeroValue132
  t72 := Tryz.underlying134
  a72 := Tryz.isAgg134
  z72 := Tryz.sizeOf134
  v72 := Tryz.zeroValue134
  t75 := Tryz.underlying136
  a75 := Tryz.isAgg136
  z75 := Tryz.sizeOf136
  v75 := Tryz.zeroValue136
  t76 := Tryz.underlying137
  a76 := Tryz.isAgg137
  z76 := Tryz.sizeOf137
  v76 := Tryz.zeroValue137
  t127 := Tryz.underlying204
  a127 := Tryz.isAgg204
  z127 := Tryz.sizeOf204
  v127 := Tryz.zeroValue204
  t164 := Tryz.underlying233
  a164 := Tryz.isAgg233
  z164 := Tryz.sizeOf233
  v164 := Tryz.zeroValue233 }
theorem Tryz.Builder_Extra_156 : Builder.Extra Tryz.prog Tryz.lays156_ren := {
  sizeBuilder := by kernel_rfl
  liesBuilder := by kernel_rfl
  t5 := Tryz.underlying5
  a5 := Tryz.isAgg5
  z5 := Tryz.sizeOf5
  v5 := Tryz.zeroValue5
  infoByte := by kernel_rfl
  cellsByte := by kernel_rfl
  sizeByte := by kernel_rfl
  neB5 := by decide }
open Go.RowKit in
/-- No element: the empty string; the world is as it was. (Whatever the slice's address and capacity: a nil slice too.) (LAID: no walk: one application.) -/
theorem Tryz.strings_Join_none (a : Option Addr) (c : Nat) (sep : ByteArray) (w : World) :
    Calls Tryz.prog 106 #[.slice a 0 c, .string sep] w fun e w' => e = .returned (.string ⟨#[]⟩) ∧ w' = w := Any.strings_Join_none Tryz.lays156 Tryz.Builder_Extra_156 a c sep w
open Go.RowKit in
/-- strings.Join: "Join concatenates the elements of its first argument to create a single string. The separator string sep is placed between elements in the resulting string.": HOWEVER MANY ELEMENTS. Below the heap's end the world is as it was. (LAID: no walk: one application.) -/
theorem Tryz.strings_Join (bk o c : Nat) (xs : List ByteArray) (sep : ByteArray) (w : World) (hcells : ∀ (j : Nat) x, xs[j]? = some x → w.cell? ⟨bk, o + j, none⟩ = some (.string x)) (hbk : bk < w.heap.size) (hN : xs.length ≤ 140737488355328) (hcap : xs.length ≤ c) (hlen : (Lib.join (xs.map (·.data.toList)) sep.data.toList).length ≤ 140737488355328) :
    Calls Tryz.prog 106 #[.slice (some ⟨bk, o, none⟩) xs.length c, .string sep] w fun e w' => e = .returned (.string ⟨(Lib.join (xs.map (·.data.toList)) sep.data.toList).toArray⟩) ∧ Below w.heap.size w w' := Any.strings_Join Tryz.lays156 Tryz.Builder_Extra_156 bk o c xs sep w hcells hbk hN hcap hlen
def Tryz.laysM173_ren : Go.Shelf.Ren := ⟨fun | 173 => 178 | 246 => 215 | 283 => 236 | 284 => 237 | 285 => 238 | 286 => 239 | 129 => 248 | 317 => 247 | 318 => 249 | 319 => 250 | 320 => 251 | 337 => 253 | 338 => 191 | n => n, fun | 2 => 2 | 3 => 3 | 9 => 9 | 4 => 4 | 171 => 256 | 0 => 0 | 53 => 29 | 37 => 22 | 5 => 5 | 173 => 258 | 212 => 267 | 51 => 244 | 20 => 20 | 213 => 268 | 46 => 195 | 232 => 279 | 233 => 237 | n => n, fun | 17 => 4 | 18 => 7 | 19 => 0 | n => n⟩
theorem Tryz.laysM173 : Go.Proofs.LaysM.n173 Tryz.prog Tryz.laysM173_ren := {
  mixed := by kernel_rfl
  f129 := Tryz.func248.trans (congrArg some (by kernel_rfl))
  f173 := Tryz.func178.trans (congrArg some (by kernel_rfl))
  f246 := Tryz.func215.trans (congrArg some (by kernel_rfl))
  f283 := Tryz.func236.trans (congrArg some (by kernel_rfl))
  f284 := Tryz.func237.trans (congrArg some (by kernel_rfl))
  f285 := Tryz.func238.trans (congrArg some (by kernel_rfl))
  f286 := Tryz.func239.trans (congrArg some (by kernel_rfl))
  f317 := Tryz.func247.trans (congrArg some (by kernel_rfl))
  f318 := Tryz.func249.trans (congrArg some (by kernel_rfl))
  f319 := Tryz.func250.trans (congrArg some (by kernel_rfl))
  f320 := Tryz.func251.trans (congrArg some (by kernel_rfl))
  f337 := Tryz.func253.trans (congrArg some (by kernel_rfl))
  f338 := Tryz.func191.trans (congrArg some (by kernel_rfl))
  t0 := Tryz.underlying0
  a0 := Tryz.isAgg0
  z0 := Tryz.sizeOf0
  v0 := Tryz.zeroValue0
  t2 := Tryz.underlying2
  a2 := Tryz.isAgg2
  z2 := Tryz.sizeOf2
  v2 := Tryz.zeroValue2
  t3 := Tryz.underlying3
  a3 := Tryz.isAgg3
  z3 := Tryz.sizeOf3
  v3 := Tryz.zeroValue3
  t4 := Tryz.underlying4
  a4 := Tryz.isAgg4
  z4 := Tryz.sizeOf4
  v4 := Tryz.zeroValue4
  t5 := Tryz.underlying5
  a5 := Tryz.isAgg5
  z5 := Tryz.sizeOf5
  v5 := Tryz.zeroValue5
  t9 := Tryz.underlying9
  a9 := Tryz.isAgg9
  z9 := Tryz.sizeOf9
  v9 := Tryz.zeroValue9
  t20 := Tryz.underlying20
  a20 := Tryz.isAgg20
  z20 := Tryz.sizeOf20
  v20 := Tryz.zeroValue20
  t37 := Tryz.underlying22
  a37 := Tryz.isAgg22
  z37 := Tryz.sizeOf22
  v37 := Tryz.zeroValue22
  t46 := Tryz.underlying195
  a46 := Tryz.isAgg195
  z46 := Tryz.sizeOf195
  v46 := Tryz.zeroValue195
  t51 := Tryz.underlying244
  a51 := Tryz.isAgg244
  z51 := Tryz.sizeOf244
  v51 := Tryz.zeroValue244
  t53 := Tryz.underlying29
  a53 := Tryz.isAgg29
  z53 := Tryz.sizeOf29
  v53 := Tryz.zeroValue29
  t171 := Tryz.underlying256
  a171 := Tryz.isAgg256
  z171 := Tryz.sizeOf256
  v171 := Tryz.zeroValue256
  t173 := Tryz.underlying258
  a173 := Tryz.isAgg258
  z173 := Tryz.sizeOf258
  v173 := Tryz.zeroValue258
  t212 := Tryz.underlying267
  a212 := Tryz.isAgg267
  z212 := Tryz.sizeOf267
  v212 := Tryz.zeroValue267
  t213 := Tryz.underlying268
  a213 := Tryz.isAgg268
  z213 := Tryz.sizeOf268
  t232 := Tryz.underlying279
  a232 := Tryz.isAgg279
  z232 := Tryz.sizeOf279
  v232 := Tryz.zeroValue279
  t233 := Tryz.underlying237
  a233 := Tryz.isAgg237
  z233 := Tryz.sizeOf237
  v233 := Tryz.zeroValue237
  g17 := by kernel_rfl
  g18 := by kernel_rfl
  g19 := by kernel_rfl
  i0 := by kernel_rfl
  i2 := by kernel_rfl
  i3 := by kernel_rfl
  i4 := by kernel_rfl
  i5 := by kernel_rfl
  i9 := by kernel_rfl
  i20 := by kernel_rfl
  i37 := by kernel_rfl
  i46 := by kernel_rfl
  i51 := by kernel_rfl
  i53 := by kernel_rfl
  i171 := by kernel_rfl
  i173 := by kernel_rfl
  i212 := by kernel_rfl
  i232 := by kernel_rfl
  i233 := by kernel_rfl
  m17 := by kernel_rfl
  m18 := by kernel_rfl
  m19 := by kernel_rfl }
open Go.RowKit Go.Sort Go.Lib in
/-- strconv.FormatInt: "FormatInt returns the string representation of i in the given base": AT BASE 10: i's decimal numeral, for every int64. (LAID: no walk: one application.) -/
theorem Tryz.strconv_FormatInt_10 (n : Int) (h0 : -9223372036854775808 ≤ n) (h1 : n ≤ 9223372036854775807) (w : World) (htab : Lib.TabIs Tryz.prog w "internal/strconv.uint64pow10" .u64 Lib.pow10Tab) :
    Calls Tryz.prog 178 #[.int .i64 n, .int .i64 10] w fun e w' => e = .returned (.string ⟨(Lib.itoa n).toArray⟩) ∧ ∃ k os, w' = grow (w.drewN k) os := Any.strconv_FormatInt_10 Tryz.laysM173 n h0 h1 w htab
def Tryz.laysC245_ren : Go.Shelf.Ren := ⟨fun | 245 => 206 | 279 => 232 | 280 => 233 | 281 => 234 | 282 => 235 | 316 => 244 | 171 => 246 | 205 => 245 | 243 => 252 | 246 => 215 | 283 => 236 | 284 => 237 | 285 => 238 | 286 => 239 | 129 => 248 | 317 => 247 | 318 => 249 | 319 => 250 | 320 => 251 | 337 => 253 | 338 => 191 | n => n, fun | 9 => 9 | 3 => 3 | 75 => 136 | 167 => 249 | 4 => 4 | 168 => 252 | 210 => 264 | 37 => 22 | 0 => 0 | 127 => 204 | 145 => 277 | 143 => 275 | 2 => 2 | 171 => 256 | 53 => 29 | 5 => 5 | 173 => 258 | 212 => 267 | 51 => 244 | 20 => 20 | 213 => 268 | 46 => 195 | 232 => 279 | 233 => 237 | 80 => 140 | n => n, fun | 15 => 2 | 16 => 3 | 17 => 4 | 18 => 7 | 19 => 0 | n => n⟩
theorem Tryz.laysC245 : Go.Proofs.LaysC.n245 Tryz.prog Tryz.laysC245_ren := {
  mixed := by kernel_rfl
  f129 := Tryz.func248.trans (congrArg some (by kernel_rfl))
  f171 := Tryz.func246.trans (congrArg some (by kernel_rfl))
  f205 := Tryz.func245.trans (congrArg some (by kernel_rfl))
  f243 := Tryz.func252.trans (congrArg some (by kernel_rfl))
  f245 := Tryz.func206.trans (congrArg some (by kernel_rfl))
  f246 := Tryz.func215.trans (congrArg some (by kernel_rfl))
  f279 := Tryz.func232.trans (congrArg some (by kernel_rfl))
  f280 := Tryz.func233.trans (congrArg some (by kernel_rfl))
  f281 := Tryz.func234.trans (congrArg some (by kernel_rfl))
  f282 := Tryz.func235.trans (congrArg some (by kernel_rfl))
  f283 := Tryz.func236.trans (congrArg some (by kernel_rfl))
  f284 := Tryz.func237.trans (congrArg some (by kernel_rfl))
  f285 := Tryz.func238.trans (congrArg some (by kernel_rfl))
  f286 := Tryz.func239.trans (congrArg some (by kernel_rfl))
  f316 := Tryz.func244.trans (congrArg some (by kernel_rfl))
  f317 := Tryz.func247.trans (congrArg some (by kernel_rfl))
  f318 := Tryz.func249.trans (congrArg some (by kernel_rfl))
  f319 := Tryz.func250.trans (congrArg some (by kernel_rfl))
  f320 := Tryz.func251.trans (congrArg some (by kernel_rfl))
  f337 := Tryz.func253.trans (congrArg some (by kernel_rfl))
  f338 := Tryz.func191.trans (congrArg some (by kernel_rfl))
  t0 := Tryz.underlying0
  a0 := Tryz.isAgg0
  z0 := Tryz.sizeOf0
  v0 := Tryz.zeroValue0
  t2 := Tryz.underlying2
  a2 := Tryz.isAgg2
  z2 := Tryz.sizeOf2
  v2 := Tryz.zeroValue2
  t3 := Tryz.underlying3
  a3 := Tryz.isAgg3
  z3 := Tryz.sizeOf3
  v3 := Tryz.zeroValue3
  t4 := Tryz.underlying4
  a4 := Tryz.isAgg4
  z4 := Tryz.sizeOf4
  v4 := Tryz.zeroValue4
  t5 := Tryz.underlying5
  a5 := Tryz.isAgg5
  z5 := Tryz.sizeOf5
  v5 := Tryz.zeroValue5
  t9 := Tryz.underlying9
  a9 := Tryz.isAgg9
  z9 := Tryz.sizeOf9
  v9 := Tryz.zeroValue9
  t20 := Tryz.underlying20
  a20 := Tryz.isAgg20
  z20 := Tryz.sizeOf20
  v20 := Tryz.zeroValue20
  t37 := Tryz.underlying22
  a37 := Tryz.isAgg22
  z37 := Tryz.sizeOf22
  v37 := Tryz.zeroValue22
  t46 := Tryz.underlying195
  a46 := Tryz.isAgg195
  z46 := Tryz.sizeOf195
  v46 := Tryz.zeroValue195
  t51 := Tryz.underlying244
  a51 := Tryz.isAgg244
  z51 := Tryz.sizeOf244
  v51 := Tryz.zeroValue244
  t53 := Tryz.underlying29
  a53 := Tryz.isAgg29
  z53 := Tryz.sizeOf29
  v53 := Tryz.zeroValue29
  t75 := Tryz.underlying136
  a75 := Tryz.isAgg136
  z75 := Tryz.sizeOf136
  v75 := Tryz.zeroValue136
  t127 := Tryz.underlying204
  a127 := Tryz.isAgg204
  z127 := Tryz.sizeOf204
  v127 := Tryz.zeroValue204
  t143 := Tryz.underlying275
  a143 := Tryz.isAgg275
  z143 := Tryz.sizeOf275
  v143 := Tryz.zeroValue275
  t145 := Tryz.underlying277
  a145 := Tryz.isAgg277
  z145 := Tryz.sizeOf277
  v145 := Tryz.zeroValue277
  t167 := Tryz.underlying249
  a167 := Tryz.isAgg249
  z167 := Tryz.sizeOf249
  v167 := Tryz.zeroValue249
  t168 := Tryz.underlying252
  a168 := Tryz.isAgg252
  z168 := Tryz.sizeOf252
  v168 := Tryz.zeroValue252
  t171 := Tryz.underlying256
  a171 := Tryz.isAgg256
  z171 := Tryz.sizeOf256
  v171 := Tryz.zeroValue256
  t173 := Tryz.underlying258
  a173 := Tryz.isAgg258
  z173 := Tryz.sizeOf258
  v173 := Tryz.zeroValue258
  t210 := Tryz.underlying264
  a210 := Tryz.isAgg264
  z210 := Tryz.sizeOf264
  v210 := Tryz.zeroValue264
  t212 := Tryz.underlying267
  a212 := Tryz.isAgg267
  z212 := Tryz.sizeOf267
  v212 := Tryz.zeroValue267
  t213 := Tryz.underlying268
  a213 := Tryz.isAgg268
  z213 := Tryz.sizeOf268
  t232 := Tryz.underlying279
  a232 := Tryz.isAgg279
  z232 := Tryz.sizeOf279
  v232 := Tryz.zeroValue279
  t233 := Tryz.underlying237
  a233 := Tryz.isAgg237
  z233 := Tryz.sizeOf237
  v233 := Tryz.zeroValue237
  g15 := by kernel_rfl
  g16 := by kernel_rfl
  g17 := by kernel_rfl
  g18 := by kernel_rfl
  g19 := by kernel_rfl
  t80 := Tryz.underlying140
  a80 := Tryz.isAgg140
  z80 := Tryz.sizeOf140
  v80 := Tryz.zeroValue140
  i0 := by kernel_rfl
  i2 := by kernel_rfl
  i3 := by kernel_rfl
  i4 := by kernel_rfl
  i5 := by kernel_rfl
  i9 := by kernel_rfl
  i20 := by kernel_rfl
  i37 := by kernel_rfl
  i46 := by kernel_rfl
  i51 := by kernel_rfl
  i53 := by kernel_rfl
  i75 := by kernel_rfl
  i80 := by kernel_rfl
  i127 := by kernel_rfl
  i143 := by kernel_rfl
  i145 := by kernel_rfl
  i167 := by kernel_rfl
  i168 := by kernel_rfl
  i171 := by kernel_rfl
  i173 := by kernel_rfl
  i210 := by kernel_rfl
  i212 := by kernel_rfl
  i232 := by kernel_rfl
  i233 := by kernel_rfl
  m15 := by kernel_rfl
  m16 := by kernel_rfl
  m17 := by kernel_rfl
  m18 := by kernel_rfl
  m19 := by kernel_rfl
  c0 := by kernel_rfl
  c2 := by kernel_rfl
  c3 := by kernel_rfl
  c4 := by kernel_rfl
  c5 := by kernel_rfl
  c9 := by kernel_rfl
  c20 := by kernel_rfl
  c37 := by kernel_rfl
  c46 := by kernel_rfl
  c51 := by kernel_rfl
  c53 := by kernel_rfl
  c75 := by kernel_rfl
  c80 := by kernel_rfl
  c127 := by kernel_rfl
  c143 := by kernel_rfl
  c145 := by kernel_rfl
  c167 := by kernel_rfl
  c168 := by kernel_rfl
  c171 := by kernel_rfl
  c173 := by kernel_rfl
  c210 := by kernel_rfl
  c212 := by kernel_rfl
  c213 := by kernel_rfl
  c232 := by kernel_rfl
  c233 := by kernel_rfl }
open Go.RowKit in
/-- strconv.toError, at the inner package's ErrSyntax: 'syntaxError(fn, s)' as an error: A *NumError IN A NEW BLOCK. (LAID: no walk: one application.) -/
theorem Tryz.strconv_toError_syntax (fn s : ByteArray) (base bits : Int) (ev : Value) (w : World) (hlim : s.size ≤ 281474976710656) (hv : w.cell? ⟨2, 0, none⟩ = some ev) (hev : ev = .nilIface ∨ ∃ te pe, ev = .iface te pe) :
    Calls Tryz.prog 206 #[.string fn, .string s, .int .i64 base, .int .i64 bits, .iface 249 (.int .i64 2)] w fun e w' => ∃ N, e = .returned (.iface 252 (.pointer (some ⟨N, 0, none⟩))) ∧ w.heap.size ≤ N ∧ w'.heap[N]? = some (.cells #[.string fn, .string s, ev] 264 (0, 0)) ∧ Below w.heap.size w w' := Any.strconv_toError_syntax Tryz.laysC245 fn s base bits ev w hlim hv hev
open Go.RowKit in
/-- strconv.toError, at the inner package's ErrRange: 'rangeError(fn, s)' as an error: A *NumError IN A NEW BLOCK. (LAID: no walk: one application.) -/
theorem Tryz.strconv_toError_range (fn s : ByteArray) (base bits : Int) (ev : Value) (w : World) (hlim : s.size ≤ 281474976710656) (hv : w.cell? ⟨3, 0, none⟩ = some ev) (hev : ev = .nilIface ∨ ∃ te pe, ev = .iface te pe) :
    Calls Tryz.prog 206 #[.string fn, .string s, .int .i64 base, .int .i64 bits, .iface 249 (.int .i64 1)] w fun e w' => ∃ N, e = .returned (.iface 252 (.pointer (some ⟨N, 0, none⟩))) ∧ w.heap.size ≤ N ∧ w'.heap[N]? = some (.cells #[.string fn, .string s, ev] 264 (0, 0)) ∧ Below w.heap.size w w' := Any.strconv_toError_range Tryz.laysC245 fn s base bits ev w hlim hv hev
def Tryz.laysC174_ren : Go.Shelf.Ren := ⟨fun | 174 => 176 | 247 => 213 | 245 => 206 | 287 => 205 | 279 => 232 | 280 => 233 | 281 => 234 | 282 => 235 | 321 => 230 | 322 => 231 | 316 => 244 | 171 => 246 | 205 => 245 | 243 => 252 | 246 => 215 | 283 => 236 | 284 => 237 | 285 => 238 | 286 => 239 | 129 => 248 | 317 => 247 | 318 => 249 | 319 => 250 | 320 => 251 | 337 => 253 | 338 => 191 | n => n, fun | 9 => 9 | 3 => 3 | 2 => 2 | 75 => 136 | 85 => 206 | 4 => 4 | 167 => 249 | 5 => 5 | 53 => 29 | 175 => 200 | 46 => 195 | 168 => 252 | 37 => 22 | 0 => 0 | 210 => 264 | 21 => 21 | 127 => 204 | 145 => 277 | 143 => 275 | 171 => 256 | 173 => 258 | 212 => 267 | 51 => 244 | 20 => 20 | 213 => 268 | 232 => 279 | 233 => 237 | 80 => 140 | n => n, fun | 15 => 2 | 16 => 3 | 17 => 4 | 18 => 7 | 19 => 0 | n => n⟩
theorem Tryz.laysC174 : Go.Proofs.LaysC.n174 Tryz.prog Tryz.laysC174_ren := {
  mixed := by kernel_rfl
  f129 := Tryz.func248.trans (congrArg some (by kernel_rfl))
  f171 := Tryz.func246.trans (congrArg some (by kernel_rfl))
  f174 := Tryz.func176.trans (congrArg some (by kernel_rfl))
  f205 := Tryz.func245.trans (congrArg some (by kernel_rfl))
  f243 := Tryz.func252.trans (congrArg some (by kernel_rfl))
  f245 := Tryz.func206.trans (congrArg some (by kernel_rfl))
  f246 := Tryz.func215.trans (congrArg some (by kernel_rfl))
  f247 := Tryz.func213.trans (congrArg some (by kernel_rfl))
  f279 := Tryz.func232.trans (congrArg some (by kernel_rfl))
  f280 := Tryz.func233.trans (congrArg some (by kernel_rfl))
  f281 := Tryz.func234.trans (congrArg some (by kernel_rfl))
  f282 := Tryz.func235.trans (congrArg some (by kernel_rfl))
  f283 := Tryz.func236.trans (congrArg some (by kernel_rfl))
  f284 := Tryz.func237.trans (congrArg some (by kernel_rfl))
  f285 := Tryz.func238.trans (congrArg some (by kernel_rfl))
  f286 := Tryz.func239.trans (congrArg some (by kernel_rfl))
  f287 := Tryz.func205.trans (congrArg some (by kernel_rfl))
  f316 := Tryz.func244.trans (congrArg some (by kernel_rfl))
  f317 := Tryz.func247.trans (congrArg some (by kernel_rfl))
  f318 := Tryz.func249.trans (congrArg some (by kernel_rfl))
  f319 := Tryz.func250.trans (congrArg some (by kernel_rfl))
  f320 := Tryz.func251.trans (congrArg some (by kernel_rfl))
  f321 := Tryz.func230.trans (congrArg some (by kernel_rfl))
  f322 := Tryz.func231.trans (congrArg some (by kernel_rfl))
  f337 := Tryz.func253.trans (congrArg some (by kernel_rfl))
  f338 := Tryz.func191.trans (congrArg some (by kernel_rfl))
  t0 := Tryz.underlying0
  a0 := Tryz.isAgg0
  z0 := Tryz.sizeOf0
  v0 := Tryz.zeroValue0
  t2 := Tryz.underlying2
  a2 := Tryz.isAgg2
  z2 := Tryz.sizeOf2
  v2 := Tryz.zeroValue2
  t3 := Tryz.underlying3
  a3 := Tryz.isAgg3
  z3 := Tryz.sizeOf3
  v3 := Tryz.zeroValue3
  t4 := Tryz.underlying4
  a4 := Tryz.isAgg4
  z4 := Tryz.sizeOf4
  v4 := Tryz.zeroValue4
  t5 := Tryz.underlying5
  a5 := Tryz.isAgg5
  z5 := Tryz.sizeOf5
  v5 := Tryz.zeroValue5
  t9 := Tryz.underlying9
  a9 := Tryz.isAgg9
  z9 := Tryz.sizeOf9
  v9 := Tryz.zeroValue9
  t20 := Tryz.underlying20
  a20 := Tryz.isAgg20
  z20 := Tryz.sizeOf20
  v20 := Tryz.zeroValue20
  t21 := Tryz.underlying21
  a21 := Tryz.isAgg21
  z21 := Tryz.sizeOf21
  v21 := Tryz.zeroValue21
  t37 := Tryz.underlying22
  a37 := Tryz.isAgg22
  z37 := Tryz.sizeOf22
  v37 := Tryz.zeroValue22
  t46 := Tryz.underlying195
  a46 := Tryz.isAgg195
  z46 := Tryz.sizeOf195
  v46 := Tryz.zeroValue195
  t51 := Tryz.underlying244
  a51 := Tryz.isAgg244
  z51 := Tryz.sizeOf244
  v51 := Tryz.zeroValue244
  t53 := Tryz.underlying29
  a53 := Tryz.isAgg29
  z53 := Tryz.sizeOf29
  v53 := Tryz.zeroValue29
  t75 := Tryz.underlying136
  a75 := Tryz.isAgg136
  z75 := Tryz.sizeOf136
  v75 := Tryz.zeroValue136
  t85 := Tryz.underlying206
  a85 := Tryz.isAgg206
  z85 := Tryz.sizeOf206
  v85 := Tryz.zeroValue206
  t127 := Tryz.underlying204
  a127 := Tryz.isAgg204
  z127 := Tryz.sizeOf204
  v127 := Tryz.zeroValue204
  t143 := Tryz.underlying275
  a143 := Tryz.isAgg275
  z143 := Tryz.sizeOf275
  v143 := Tryz.zeroValue275
  t145 := Tryz.underlying277
  a145 := Tryz.isAgg277
  z145 := Tryz.sizeOf277
  v145 := Tryz.zeroValue277
  t167 := Tryz.underlying249
  a167 := Tryz.isAgg249
  z167 := Tryz.sizeOf249
  v167 := Tryz.zeroValue249
  t168 := Tryz.underlying252
  a168 := Tryz.isAgg252
  z168 := Tryz.sizeOf252
  v168 := Tryz.zeroValue252
  t171 := Tryz.underlying256
  a171 := Tryz.isAgg256
  z171 := Tryz.sizeOf256
  v171 := Tryz.zeroValue256
  t173 := Tryz.underlying258
  a173 := Tryz.isAgg258
  z173 := Tryz.sizeOf258
  v173 := Tryz.zeroValue258
  t175 := Tryz.underlying200
  a175 := Tryz.isAgg200
  z175 := Tryz.sizeOf200
  v175 := Tryz.zeroValue200
  t210 := Tryz.underlying264
  a210 := Tryz.isAgg264
  z210 := Tryz.sizeOf264
  v210 := Tryz.zeroValue264
  t212 := Tryz.underlying267
  a212 := Tryz.isAgg267
  z212 := Tryz.sizeOf267
  v212 := Tryz.zeroValue267
  t213 := Tryz.underlying268
  a213 := Tryz.isAgg268
  z213 := Tryz.sizeOf268
  t232 := Tryz.underlying279
  a232 := Tryz.isAgg279
  z232 := Tryz.sizeOf279
  v232 := Tryz.zeroValue279
  t233 := Tryz.underlying237
  a233 := Tryz.isAgg237
  z233 := Tryz.sizeOf237
  v233 := Tryz.zeroValue237
  g15 := by kernel_rfl
  g16 := by kernel_rfl
  g17 := by kernel_rfl
  g18 := by kernel_rfl
  g19 := by kernel_rfl
  t80 := Tryz.underlying140
  a80 := Tryz.isAgg140
  z80 := Tryz.sizeOf140
  v80 := Tryz.zeroValue140
  i0 := by kernel_rfl
  i2 := by kernel_rfl
  i3 := by kernel_rfl
  i4 := by kernel_rfl
  i5 := by kernel_rfl
  i9 := by kernel_rfl
  i20 := by kernel_rfl
  i21 := by kernel_rfl
  i37 := by kernel_rfl
  i46 := by kernel_rfl
  i51 := by kernel_rfl
  i53 := by kernel_rfl
  i75 := by kernel_rfl
  i80 := by kernel_rfl
  i85 := by kernel_rfl
  i127 := by kernel_rfl
  i143 := by kernel_rfl
  i145 := by kernel_rfl
  i167 := by kernel_rfl
  i168 := by kernel_rfl
  i171 := by kernel_rfl
  i173 := by kernel_rfl
  i175 := by kernel_rfl
  i210 := by kernel_rfl
  i212 := by kernel_rfl
  i232 := by kernel_rfl
  i233 := by kernel_rfl
  m15 := by kernel_rfl
  m16 := by kernel_rfl
  m17 := by kernel_rfl
  m18 := by kernel_rfl
  m19 := by kernel_rfl
  c0 := by kernel_rfl
  c2 := by kernel_rfl
  c3 := by kernel_rfl
  c4 := by kernel_rfl
  c5 := by kernel_rfl
  c9 := by kernel_rfl
  c20 := by kernel_rfl
  c21 := by kernel_rfl
  c37 := by kernel_rfl
  c46 := by kernel_rfl
  c51 := by kernel_rfl
  c53 := by kernel_rfl
  c75 := by kernel_rfl
  c80 := by kernel_rfl
  c85 := by kernel_rfl
  c127 := by kernel_rfl
  c143 := by kernel_rfl
  c145 := by kernel_rfl
  c167 := by kernel_rfl
  c168 := by kernel_rfl
  c171 := by kernel_rfl
  c173 := by kernel_rfl
  c175 := by kernel_rfl
  c210 := by kernel_rfl
  c212 := by kernel_rfl
  c213 := by kernel_rfl
  c232 := by kernel_rfl
  c233 := by kernel_rfl }
def Tryz.lays145_ren : Go.Shelf.Ren := ⟨fun | 145 => 86 | 220 => 165 | 219 => 202 | 217 => 177 | 225 => 225 | 224 => 226 | 267 => 227 | 266 => 214 | 314 => 243 | n => n, fun | 9 => 9 | 4 => 4 | 59 => 125 | 3 => 3 | 5 => 5 | 46 => 195 | 146 => 245 | 51 => 244 | n => n, fun | 1 => 1 | n => n⟩
theorem Tryz.lays145 : Go.Proofs.Lays.n145 Tryz.prog Tryz.lays145_ren := {
  mixed := by kernel_rfl
  f145 := Tryz.func86.trans (congrArg some (by kernel_rfl))
  f217 := Tryz.func177.trans (congrArg some (by kernel_rfl))
  f219 := Tryz.func202.trans (congrArg some (by kernel_rfl))
  f220 := Tryz.func165.trans (congrArg some (by kernel_rfl))
  f224 := Tryz.func226.trans (congrArg some (by kernel_rfl))
  f225 := Tryz.func225.trans (congrArg some (by kernel_rfl))
  f266 := Tryz.func214.trans (congrArg some (by kernel_rfl))
  f267 := Tryz.func227.trans (congrArg some (by kernel_rfl))
  f314 := Tryz.func243.trans (congrArg some (by kernel_rfl))
  t3 := Tryz.underlying3
  a3 := Tryz.isAgg3
  z3 := Tryz.sizeOf3
  v3 := Tryz.zeroValue3
  t4 := Tryz.underlying4
  a4 := Tryz.isAgg4
  z4 := Tryz.sizeOf4
  v4 := Tryz.zeroValue4
  t5 := Tryz.underlying5
  a5 := Tryz.isAgg5
  z5 := Tryz.sizeOf5
  v5 := Tryz.zeroValue5
  t9 := Tryz.underlying9
  a9 := Tryz.isAgg9
  z9 := Tryz.sizeOf9
  v9 := Tryz.zeroValue9
  t46 := Tryz.underlying195
  a46 := Tryz.isAgg195
  z46 := Tryz.sizeOf195
  v46 := Tryz.zeroValue195
  t51 := Tryz.underlying244
  a51 := Tryz.isAgg244
  z51 := Tryz.sizeOf244
  v51 := Tryz.zeroValue244
  t59 := Tryz.underlying125
  a59 := Tryz.isAgg125
  z59 := Tryz.sizeOf125
  v59 := Tryz.zeroValue125
  t146 := Tryz.underlying245
  a146 := Tryz.isAgg245
  z146 := Tryz.sizeOf245
  v146 := Tryz.zeroValue245
  g1 := by kernel_rfl }
open Go.RowKit Go.Lib in
/-- strings.Cut: "Cut slices s around the first instance of sep, returning the text before and after sep. The found result reports whether sep appears in s. If sep does not appear in s, cut returns s, "", false.": IT RETURNS 'Lib.cut s sep'; the world is as it was but for the count of draws. (LAID: no walk: one application.) -/
theorem Tryz.strings_Cut (s sep : ByteArray) (m : Int) (w : World) (hs : s.size < 4294967281) (hm : w.cell? ⟨1, 0, none⟩ = some (.int .i64 m)) :
    Calls Tryz.prog 86 #[.string s, .string sep] w fun e w' => e = .returned (.tuple #[.string ⟨(Lib.cut s.data.toList sep.data.toList).1.toArray⟩, .string ⟨(Lib.cut s.data.toList sep.data.toList).2.1.toArray⟩, .bool (Lib.cut s.data.toList sep.data.toList).2.2]) ∧ ∃ n, w' = w.drewN n := Any.strings_Cut Tryz.lays145 s sep m w hs hm
def Tryz.lays102_ren : Go.Shelf.Ren := ⟨fun | 102 => 87 | 209 => 166 | 207 => 203 | n => n, fun | 9 => 9 | 4 => 4 | 3 => 3 | n => n, fun | n => n⟩
theorem Tryz.lays102 : Go.Proofs.Lays.n102 Tryz.prog Tryz.lays102_ren := {
  mixed := by kernel_rfl
  f102 := Tryz.func87.trans (congrArg some (by kernel_rfl))
  f207 := Tryz.func203.trans (congrArg some (by kernel_rfl))
  f209 := Tryz.func166.trans (congrArg some (by kernel_rfl))
  t3 := Tryz.underlying3
  a3 := Tryz.isAgg3
  z3 := Tryz.sizeOf3
  v3 := Tryz.zeroValue3
  t4 := Tryz.underlying4
  a4 := Tryz.isAgg4
  z4 := Tryz.sizeOf4
  v4 := Tryz.zeroValue4
  t9 := Tryz.underlying9
  a9 := Tryz.isAgg9
  z9 := Tryz.sizeOf9
  v9 := Tryz.zeroValue9 }
open Go.RowKit Go.Lib in
/-- strings.TrimSuffix: "TrimSuffix returns s without the provided trailing suffix string. If s doesn't end with suffix, s is returned unchanged.": IT RETURNS 'Lib.trimSuffix s suffix'; the world is as it was. (LAID: no walk: one application.) -/
theorem Tryz.strings_TrimSuffix (s p : ByteArray) (w : World) (hs : s.size ≤ 9223372036854775807) :
    Calls Tryz.prog 87 #[.string s, .string p] w fun e w' => e = .returned (.string ⟨(Lib.trimSuffix s.data.toList p.data.toList).toArray⟩) ∧ w' = w := Any.strings_TrimSuffix Tryz.lays102 s p w hs
def Tryz.lays146_ren : Go.Shelf.Ren := ⟨fun | 146 => 90 | 221 => 164 | 268 => 199 | 138 => 200 | 143 => 201 | 195 => 222 | 197 => 223 | 218 => 224 | 219 => 202 | 260 => 242 | 217 => 177 | 225 => 225 | 224 => 226 | 267 => 227 | 266 => 214 | 314 => 243 | n => n, fun | 9 => 9 | 31 => 123 | 3 => 3 | 4 => 4 | 0 => 0 | 105 => 241 | 21 => 21 | 5 => 5 | 46 => 195 | 119 => 271 | 139 => 274 | 138 => 273 | 146 => 245 | 51 => 244 | n => n, fun | 1 => 1 | 3 => 5 | 4 => 6 | n => n⟩
theorem Tryz.lays146 : Go.Proofs.Lays.n146 Tryz.prog Tryz.lays146_ren := {
  mixed := by kernel_rfl
  f138 := Tryz.func200.trans (congrArg some (by kernel_rfl))
  f143 := Tryz.func201.trans (congrArg some (by kernel_rfl))
  f146 := Tryz.func90.trans (congrArg some (by kernel_rfl))
  f195 := Tryz.func222.trans (congrArg some (by kernel_rfl))
  f197 := Tryz.func223.trans (congrArg some (by kernel_rfl))
  f217 := Tryz.func177.trans (congrArg some (by kernel_rfl))
  f218 := Tryz.func224.trans (congrArg some (by kernel_rfl))
  f219 := Tryz.func202.trans (congrArg some (by kernel_rfl))
  f221 := Tryz.func164.trans (congrArg some (by kernel_rfl))
  f224 := Tryz.func226.trans (congrArg some (by kernel_rfl))
  f225 := Tryz.func225.trans (congrArg some (by kernel_rfl))
  f260 := Tryz.func242.trans (congrArg some (by kernel_rfl))
  f266 := Tryz.func214.trans (congrArg some (by kernel_rfl))
  f267 := Tryz.func227.trans (congrArg some (by kernel_rfl))
  f268 := Tryz.func199.trans (congrArg some (by kernel_rfl))
  f314 := Tryz.func243.trans (congrArg some (by kernel_rfl))
  t0 := Tryz.underlying0
  a0 := Tryz.isAgg0
  z0 := Tryz.sizeOf0
  v0 := Tryz.zeroValue0
  t3 := Tryz.underlying3
  a3 := Tryz.isAgg3
  z3 := Tryz.sizeOf3
  v3 := Tryz.zeroValue3
  t4 := Tryz.underlying4
  a4 := Tryz.isAgg4
  z4 := Tryz.sizeOf4
  v4 := Tryz.zeroValue4
  t5 := Tryz.underlying5
  a5 := Tryz.isAgg5
  z5 := Tryz.sizeOf5
  v5 := Tryz.zeroValue5
  t9 := Tryz.underlying9
  a9 := Tryz.isAgg9
  z9 := Tryz.sizeOf9
  v9 := Tryz.zeroValue9
  t21 := Tryz.underlying21
  a21 := Tryz.isAgg21
  z21 := Tryz.sizeOf21
  v21 := Tryz.zeroValue21
  t31 := Tryz.underlying123
  a31 := Tryz.isAgg123
  z31 := Tryz.sizeOf123
  v31 := Tryz.zeroValue123
  t46 := Tryz.underlying195
  a46 := Tryz.isAgg195
  z46 := Tryz.sizeOf195
  v46 := Tryz.zeroValue195
  t51 := Tryz.underlying244
  a51 := Tryz.isAgg244
  z51 := Tryz.sizeOf244
  v51 := Tryz.zeroValue244
  t105 := Tryz.underlying241
  a105 := Tryz.isAgg241
  z105 := Tryz.sizeOf241
  v105 := Tryz.zeroValue241
  t119 := Tryz.underlying271
  a119 := Tryz.isAgg271
  z119 := Tryz.sizeOf271
  t138 := Tryz.underlying273
  a138 := Tryz.isAgg273
  z138 := Tryz.sizeOf273
  v138 := Tryz.zeroValue273
  t139 := Tryz.underlying274
  a139 := Tryz.isAgg274
  z139 := Tryz.sizeOf274
  v139 := Tryz.zeroValue274
  t146 := Tryz.underlying245
  a146 := Tryz.isAgg245
  z146 := Tryz.sizeOf245
  v146 := Tryz.zeroValue245
  g1 := by kernel_rfl
  g3 := by kernel_rfl
  g4 := by kernel_rfl }
open Go.RowKit Go.Lib in
/-- strings.Split. (LAID: no walk: one application.) -/
theorem Tryz.strings_Split (s sep : ByteArray) (m : Int) (w : World) (hs : s.size < 4294967281) (hm : w.cell? ⟨1, 0, none⟩ = some (.int .i64 m)) (h1 : 1 ≤ sep.size) :
    Calls Tryz.prog 90 #[.string s, .string sep] w fun e w' =>
      e = .returned (.slice (some ⟨w.heap.size, 0, none⟩) (Lib.countB s sep + 1) (Lib.countB s sep + 1)) ∧ w' = w.alloc (.cells ((Lib.splitB sep 0 (Lib.countB s sep) s).map Value.string).toArray 9) := Any.strings_Split Tryz.lays146 (by kernel_rfl) s sep m w hs hm h1
def Tryz.lays147_ren : Go.Shelf.Ren := ⟨fun | 147 => 85 | 221 => 164 | 268 => 199 | 138 => 200 | 143 => 201 | 195 => 222 | 197 => 223 | 218 => 224 | 219 => 202 | 260 => 242 | 217 => 177 | 225 => 225 | 224 => 226 | 267 => 227 | 266 => 214 | 314 => 243 | n => n, fun | 9 => 9 | 3 => 3 | 31 => 123 | 4 => 4 | 0 => 0 | 105 => 241 | 21 => 21 | 5 => 5 | 46 => 195 | 119 => 271 | 139 => 274 | 138 => 273 | 146 => 245 | 51 => 244 | n => n, fun | 1 => 1 | 3 => 5 | 4 => 6 | n => n⟩
theorem Tryz.lays147 : Go.Proofs.Lays.n147 Tryz.prog Tryz.lays147_ren := {
  mixed := by kernel_rfl
  f138 := Tryz.func200.trans (congrArg some (by kernel_rfl))
  f143 := Tryz.func201.trans (congrArg some (by kernel_rfl))
  f147 := Tryz.func85.trans (congrArg some (by kernel_rfl))
  f195 := Tryz.func222.trans (congrArg some (by kernel_rfl))
  f197 := Tryz.func223.trans (congrArg some (by kernel_rfl))
  f217 := Tryz.func177.trans (congrArg some (by kernel_rfl))
  f218 := Tryz.func224.trans (congrArg some (by kernel_rfl))
  f219 := Tryz.func202.trans (congrArg some (by kernel_rfl))
  f221 := Tryz.func164.trans (congrArg some (by kernel_rfl))
  f224 := Tryz.func226.trans (congrArg some (by kernel_rfl))
  f225 := Tryz.func225.trans (congrArg some (by kernel_rfl))
  f260 := Tryz.func242.trans (congrArg some (by kernel_rfl))
  f266 := Tryz.func214.trans (congrArg some (by kernel_rfl))
  f267 := Tryz.func227.trans (congrArg some (by kernel_rfl))
  f268 := Tryz.func199.trans (congrArg some (by kernel_rfl))
  f314 := Tryz.func243.trans (congrArg some (by kernel_rfl))
  t0 := Tryz.underlying0
  a0 := Tryz.isAgg0
  z0 := Tryz.sizeOf0
  v0 := Tryz.zeroValue0
  t3 := Tryz.underlying3
  a3 := Tryz.isAgg3
  z3 := Tryz.sizeOf3
  v3 := Tryz.zeroValue3
  t4 := Tryz.underlying4
  a4 := Tryz.isAgg4
  z4 := Tryz.sizeOf4
  v4 := Tryz.zeroValue4
  t5 := Tryz.underlying5
  a5 := Tryz.isAgg5
  z5 := Tryz.sizeOf5
  v5 := Tryz.zeroValue5
  t9 := Tryz.underlying9
  a9 := Tryz.isAgg9
  z9 := Tryz.sizeOf9
  v9 := Tryz.zeroValue9
  t21 := Tryz.underlying21
  a21 := Tryz.isAgg21
  z21 := Tryz.sizeOf21
  v21 := Tryz.zeroValue21
  t31 := Tryz.underlying123
  a31 := Tryz.isAgg123
  z31 := Tryz.sizeOf123
  v31 := Tryz.zeroValue123
  t46 := Tryz.underlying195
  a46 := Tryz.isAgg195
  z46 := Tryz.sizeOf195
  v46 := Tryz.zeroValue195
  t51 := Tryz.underlying244
  a51 := Tryz.isAgg244
  z51 := Tryz.sizeOf244
  v51 := Tryz.zeroValue244
  t105 := Tryz.underlying241
  a105 := Tryz.isAgg241
  z105 := Tryz.sizeOf241
  v105 := Tryz.zeroValue241
  t119 := Tryz.underlying271
  a119 := Tryz.isAgg271
  z119 := Tryz.sizeOf271
  t138 := Tryz.underlying273
  a138 := Tryz.isAgg273
  z138 := Tryz.sizeOf273
  v138 := Tryz.zeroValue273
  t139 := Tryz.underlying274
  a139 := Tryz.isAgg274
  z139 := Tryz.sizeOf274
  v139 := Tryz.zeroValue274
  t146 := Tryz.underlying245
  a146 := Tryz.isAgg245
  z146 := Tryz.sizeOf245
  v146 := Tryz.zeroValue245
  g1 := by kernel_rfl
  g3 := by kernel_rfl
  g4 := by kernel_rfl }
open Go.RowKit Go.Lib in
/-- strings.SplitN, n > 0. (LAID: no walk: one application.) -/
theorem Tryz.strings_SplitN (s sep : ByteArray) (n : Nat) (m : Int) (w : World) (hs : s.size < 4294967281) (hm : w.cell? ⟨1, 0, none⟩ = some (.int .i64 m)) (h1 : 1 ≤ sep.size) (hn : 1 ≤ n) (hn63 : n ≤ 9223372036854775807) :
    Calls Tryz.prog 85 #[.string s, .string sep, .int .i64 n] w fun e w' =>
      e = .returned (.slice (some ⟨w.heap.size, 0, none⟩) (Lib.splitB sep 0 (min n (s.size + 1) - 1) s).length (min n (s.size + 1))) ∧ w' = w.alloc (.cells (Lib.cellsOf (Lib.splitB sep 0 (min n (s.size + 1) - 1) s) (min n (s.size + 1))) 9) := Any.strings_SplitN Tryz.lays147 (by kernel_rfl) s sep n m w hs hm h1 hn hn63
def Tryz.lays212_ren : Go.Shelf.Ren := ⟨fun | 212 => 204 | 263 => 228 | 264 => 229 | n => n, fun | 46 => 195 | 51 => 244 | 146 => 245 | 53 => 29 | 148 => 247 | n => n, fun | n => n⟩
theorem Tryz.lays212 : Go.Proofs.Lays.n212 Tryz.prog Tryz.lays212_ren := {
  mixed := by kernel_rfl
  f212 := Tryz.func204.trans (congrArg some (by kernel_rfl))
  f263 := Tryz.func228.trans (congrArg some (by kernel_rfl))
  f264 := Tryz.func229.trans (congrArg some (by kernel_rfl))
  t46 := Tryz.underlying195
  a46 := Tryz.isAgg195
  z46 := Tryz.sizeOf195
  v46 := Tryz.zeroValue195
  t51 := Tryz.underlying244
  a51 := Tryz.isAgg244
  z51 := Tryz.sizeOf244
  v51 := Tryz.zeroValue244
  t53 := Tryz.underlying29
  a53 := Tryz.isAgg29
  z53 := Tryz.sizeOf29
  v53 := Tryz.zeroValue29
  t146 := Tryz.underlying245
  a146 := Tryz.isAgg245
  z146 := Tryz.sizeOf245
  v146 := Tryz.zeroValue245
  t148 := Tryz.underlying247
  a148 := Tryz.isAgg247
  z148 := Tryz.sizeOf247
  v148 := Tryz.zeroValue247 }
open Go.RowKit Go.Lib in
/-- math/bits.Mul: "Mul returns the full-width product of x and y": on a machine of 64 bits: Mul64's. (LAID: no walk: one application.) -/
theorem Tryz.bits_Mul (x y : Nat) (hx : x < 18446744073709551616) (hy : y < 18446744073709551616) (w : World) :
    Calls Tryz.prog 204 #[.int .u64 x, .int .u64 y] w fun e w' => e = .returned (.tuple #[.int .u64 ((x * y / 18446744073709551616 : Nat) : Int), .int .u64 ((x * y % 18446744073709551616 : Nat) : Int)]) ∧ w' = w := Any.bits_Mul Tryz.lays212 x y hx hy w
def Tryz.lays105_ren : Go.Shelf.Ren := ⟨fun | 105 => 171 | 212 => 204 | 99 => 209 | 165 => 179 | 166 => 92 | 170 => 210 | 169 => 94 | 263 => 228 | 264 => 229 | 206 => 240 | 240 => 169 | 241 => 216 | 276 => 207 | 277 => 241 | n => n, fun | 9 => 9 | 3 => 3 | 4 => 4 | 20 => 20 | 0 => 0 | 46 => 195 | 109 => 230 | 5 => 5 | 72 => 134 | 76 => 137 | 51 => 244 | 146 => 245 | 53 => 29 | 148 => 247 | 70 => 132 | 37 => 22 | 75 => 136 | 127 => 204 | 164 => 233 | 80 => 140 | n => n, fun | n => n⟩
theorem Tryz.lays105 : Go.Proofs.Lays.n105 Tryz.prog Tryz.lays105_ren := {
  mixed := by kernel_rfl
  f99 := Tryz.func209.trans (congrArg some (by kernel_rfl))
  f105 := Tryz.func171.trans (congrArg some (by kernel_rfl))
  f165 := Tryz.func179.trans (congrArg some (by kernel_rfl))
  f166 := Tryz.func92.trans (congrArg some (by kernel_rfl))
  f169 := Tryz.func94.trans (congrArg some (by kernel_rfl))
  f170 := Tryz.func210.trans (congrArg some (by kernel_rfl))
  f206 := Tryz.func240.trans (congrArg some (by kernel_rfl))
  f212 := Tryz.func204.trans (congrArg some (by kernel_rfl))
  f240 := Tryz.func169.trans (congrArg some (by kernel_rfl))
  f241 := Tryz.func216.trans (congrArg some (by kernel_rfl))
  f263 := Tryz.func228.trans (congrArg some (by kernel_rfl))
  f264 := Tryz.func229.trans (congrArg some (by kernel_rfl))
  f276 := Tryz.func207.trans (congrArg some (by kernel_rfl))
  f277 := Tryz.func241.trans (congrArg some (by kernel_rfl))
  t0 := Tryz.underlying0
  a0 := Tryz.isAgg0
  z0 := Tryz.sizeOf0
  v0 := Tryz.zeroValue0
  t3 := Tryz.underlying3
  a3 := Tryz.isAgg3
  z3 := Tryz.sizeOf3
  v3 := Tryz.zeroValue3
  t4 := Tryz.underlying4
  a4 := Tryz.isAgg4
  z4 := Tryz.sizeOf4
  v4 := Tryz.zeroValue4
  t5 := Tryz.underlying5
  a5 := Tryz.isAgg5
  z5 := Tryz.sizeOf5
  v5 := Tryz.zeroValue5
  t9 := Tryz.underlying9
  a9 := Tryz.isAgg9
  z9 := Tryz.sizeOf9
  v9 := Tryz.zeroValue9
  t20 := Tryz.underlying20
  a20 := Tryz.isAgg20
  z20 := Tryz.sizeOf20
  v20 := Tryz.zeroValue20
  t37 := Tryz.underlying22
  a37 := Tryz.isAgg22
  z37 := Tryz.sizeOf22
  v37 := Tryz.zeroValue22
  t46 := Tryz.underlying195
  a46 := Tryz.isAgg195
  z46 := Tryz.sizeOf195
  v46 := Tryz.zeroValue195
  t51 := Tryz.underlying244
  a51 := Tryz.isAgg244
  z51 := Tryz.sizeOf244
  v51 := Tryz.zeroValue244
  t53 := Tryz.underlying29
  a53 := Tryz.isAgg29
  z53 := Tryz.sizeOf29
  v53 := Tryz.zeroValue29
  t70 := Tryz.underlying132
  a70 := Tryz.isAgg132
  z70 := Tryz.sizeOf132
  v70 := Tryz.zeroValue132
  t72 := Tryz.underlying134
  a72 := Tryz.isAgg134
  z72 := Tryz.sizeOf134
  v72 := Tryz.zeroValue134
  t75 := Tryz.underlying136
  a75 := Tryz.isAgg136
  z75 := Tryz.sizeOf136
  v75 := Tryz.zeroValue136
  t76 := Tryz.underlying137
  a76 := Tryz.isAgg137
  z76 := Tryz.sizeOf137
  v76 := Tryz.zeroValue137
  t109 := Tryz.underlying230
  a109 := Tryz.isAgg230
  z109 := Tryz.sizeOf230
  v109 := Tryz.zeroValue230
  t127 := Tryz.underlying204
  a127 := Tryz.isAgg204
  z127 := Tryz.sizeOf204
  v127 := Tryz.zeroValue204
  t146 := Tryz.underlying245
  a146 := Tryz.isAgg245
  z146 := Tryz.sizeOf245
  v146 := Tryz.zeroValue245
  t148 := Tryz.underlying247
  a148 := Tryz.isAgg247
  z148 := Tryz.sizeOf247
  v148 := Tryz.zeroValue247
  t164 := Tryz.underlying233
  a164 := Tryz.isAgg233
  z164 := Tryz.sizeOf233
  v164 := Tryz.zeroValue233 }
theorem Tryz.Builder_Extra_105 : Builder.Extra Tryz.prog Tryz.lays105_ren := {
  sizeBuilder := by kernel_rfl
  liesBuilder := by kernel_rfl
  t5 := Tryz.underlying5
  a5 := Tryz.isAgg5
  z5 := Tryz.sizeOf5
  v5 := Tryz.zeroValue5
  infoByte := by kernel_rfl
  cellsByte := by kernel_rfl
  sizeByte := by kernel_rfl
  neB5 := by decide }
open Go.RowKit Go.Lib in
/-- **strings.Repeat: count ≥ 0, the result within one allocation: count copies of s.** (LAID: no walk: one application.) -/
theorem Tryz.strings_Repeat (s : ByteArray) (c : Nat) (w : World) (hc : c ≤ 9223372036854775807) (hlen : s.size * c ≤ 140737488355328) :
    Calls Tryz.prog 171 #[.string s, .int .i64 c] w fun e w' => e = .returned (.string ⟨(Lib.repeatL s.data.toList c).toArray⟩) ∧ Below w.heap.size w w' := Any.strings_Repeat Tryz.lays105 Tryz.Builder_Extra_105 s c w hc hlen
section
open Go Go.RowKit Go.Lib
theorem infoRep : (Tryz.prog.info? 40).map (fun i => (i.zero, i.size, i.bytes)) = some (some (.int .i16 0), 1, 2) := by kernel_rfl
theorem sizeRep : (Tryz.prog.info? 40).map (·.size) = some 1 := by kernel_rfl
theorem mul_one' (n : Nat) (hn : n ≤ 360) (w : World) : Calls Tryz.prog 204 #[.int .u64 1, .int .u64 n] w fun e w' => e = .returned (.tuple #[.int .u64 0, .int .u64 n]) ∧ w' = w := by
  refine (Tryz.bits_Mul 1 n (by omega) (by omega) w).mono ?_
  rintro e w' ⟨rfl, rfl⟩
  rw [show 1 * n / 18446744073709551616 = 0 by omega, show 1 * n % 18446744073709551616 = n by omega]
  exact ⟨rfl, rfl⟩
theorem made_list (z : Array Value) : ∀ k : Nat, (madeCells z (k * z.size)).toList = (List.replicate k z.toList).flatten := Go.Fw.madeCells_list z
theorem splice_rep (v z : Value) (k n j : Nat) (_ : k + j ≤ n) : splice (List.replicate k v ++ List.replicate (n - k) z) k (List.replicate j v) = List.replicate (k + j) v ++ List.replicate (n - (k + j)) z := by
  unfold splice
  rw [List.take_left' (by simp), List.length_replicate, ← List.drop_drop, List.drop_left' (by simp), List.drop_replicate, ← List.append_assoc, List.replicate_append_replicate]
  congr 2
  omega
set_option maxHeartbeats 4000000 in
set_option maxRecDepth 100000 in
theorem repeat_walk (v : Int) (a : Addr) (cap n : Nat) (hn1 : 1 ≤ n) (hn : n ≤ 360) (w : World) (hc : w.cell? a = some (.int .i16 v)) (ha : a.block < w.heap.size) :
    Calls Tryz.prog 167 #[.slice (some a) 1 cap, .int .i64 n] w fun e w' => e = .returned (.slice (some ⟨w.heap.size, 0, none⟩) n n) ∧ w'.heap[w.heap.size]? = some (.cells (List.replicate n (Value.int .i16 v)).toArray 40 (0, 0)) ∧ Below w.heap.size w w' := by
  obtain ⟨i0, hi, hz0, hz1, hz2⟩ := info_parts infoRep
  go_enter Tryz.func167, Tryz.ntmps167
  go_wp2_with (first
    | (go_at_call 204; refine (mul_one' n hn _).mono ?_; rintro e w1 ⟨rfl, hw⟩; subst w1)
    | (refine wpList_make_full _ rfl (.tmp 29) (.tmp 29) 25 rfl w.heap.size 40 i0 (.int .i16 0) 1 Tryz.underlying25 hi hz0 hz1 _ _ _ _ n rfl rfl rfl rfl (by rw [hz2]; omega) (by unfold maxLen; omega) (Nat.le_refl _) ?_)
    | go_in)
  intro w2 hown hgrow
  have hB2 : Below w.heap.size w w2 := (Below.refl w.heap.size w).grown hgrow (Nat.le_refl _) (fun k hk => by cases hk)
  have hc2 : w2.cell? a = some (.int .i16 v) := (hB2.cell ha).trans hc
  have hg2 : w2.heap[w.heap.size]? = some (.cells (List.replicate n (Value.int .i16 0)).toArray 40 (0, 0)) := by
    rcases hown.2 with ⟨h, _⟩ | ⟨g, cp, cur, h, hbg, hgg, hnc, hcm, hcs, htake⟩
    · cases h
    · have hsz : Value.cells (Value.int .i16 0) = #[Value.int .i16 0] := rfl
      injection h with h1 h2 h3
      injection h1 with h1
      injection h1 with h1
      subst h1
      rw [hgg]
      have e : cur.toList = (madeCells #[Value.int .i16 0] n).toList := by
        rw [← htake, List.take_of_length_le (by rw [Array.length_toList]; omega)]
      have e2 : (madeCells #[Value.int .i16 0] n).toList = List.replicate n (Value.int .i16 0) := by
        have := made_list #[Value.int .i16 0] n
        rw [show n * (#[Value.int .i16 0] : Array Value).size = n from Nat.mul_one n] at this
        rw [this]
        simp
      congr 2
      apply Array.ext'
      rw [e, e2]
  clear hown hgrow
  have HG2 : Hid (w2.heap[w.heap.size]? = some (.cells (List.replicate n (Value.int .i16 0)).toArray 40 (0, 0))) := hg2
  have HS : Hid (∀ (j : Nat) u, [Value.int .i16 v][j]? = some u → w2.cell? (a.add j) = some u) := by
    intro j u hj
    match j, hj with
    | 0, hj =>
      simp at hj
      subst hj
      have : a.add 0 = a := by simp [Addr.add]
      rw [this]; exact hc2
  have HB2 : Hid (Below w.heap.size w w2) := hB2
  clear hg2 hc2 hB2 hc ha
  go_wp2_with (refine wpList_copy_own rfl (.tmp 31) (.tmp 32) 25 25 rfl 40 Tryz.underlying25 sizeRep w.heap.size 0 n n a 1 cap rfl rfl (List.replicate n (Value.int .i16 0)).toArray 40 HG2.out [.int .i16 v] (by show 1 = Nat.min 1 n; have : Nat.min 1 n = 1 := Nat.min_eq_left hn1; omega) HS.out (by simp; omega) (by intro u hu; simp at hu; subst hu; rfl) ?_)
  go_loopw [8] (fun c wr => ∃ k : Nat, 1 ≤ k ∧ k ≤ n ∧ c = .int .i64 k ∧ Hid (wr.heap[w.heap.size]? = some (.cells (List.replicate k (Value.int .i16 v) ++ List.replicate (n - k) (Value.int .i16 0)).toArray 40 (0, 0))) ∧ Hid (Below w.heap.size w wr)) (fun c _ => n - (RowKit.intOf c).toNat)
  case atStart =>
    refine ⟨1, Nat.le_refl _, hn1, rfl, ?_, below_setRow HB2.out (Nat.le_refl _) _⟩
    show _ = _
    rw [setRow_heap w2 w.heap.size _ _ 40 (0, 0) HG2.out]
    congr 3
  case round =>
    obtain ⟨k, hk1, hkn, rfl, HG, HB⟩ := hrel
    by_cases hlt : k < n
    · have hm : (List.replicate (min k (n - k)) (Value.int .i16 v)).length = Nat.min k (n - k) := List.length_replicate
      have HM := (show Hid _ from hm)
      have h1 : Hid (∀ (j : Nat) u, (List.replicate (min k (n - k)) (Value.int .i16 v))[j]? = some u → wr.drew.cell? ((⟨w.heap.size, 0, none⟩ : Addr).add j) = some u) := by
        intro j u hj
        have hj' : j < min k (n - k) := by
          have := (List.getElem?_eq_some_iff.1 hj).1
          simpa using this
        rw [List.getElem?_replicate, if_pos hj'] at hj
        injection hj with hj
        subst hj
        have e : (⟨w.heap.size, 0, none⟩ : Addr).add j = ⟨w.heap.size, j, none⟩ := by unfold Addr.add; split <;> simp_all
        rw [e]
        show wr.cell? _ = _
        rw [Lib.cell_of_heap HG.out]
        simp only [List.getElem?_toArray]
        rw [List.getElem?_append_left (by simp; omega), List.getElem?_replicate, if_pos (by omega)]
      have h2 : Hid (k + (List.replicate (min k (n - k)) (Value.int .i16 v)).length ≤ (List.replicate k (Value.int .i16 v) ++ List.replicate (n - k) (Value.int .i16 0)).length) := by
        show _ ≤ _
        simp; omega
      have h3 : Hid (∀ u ∈ List.replicate (min k (n - k)) (Value.int .i16 v), u.oneCell' = true) := by
        intro u hu
        rw [(List.mem_replicate.1 hu).2]; rfl
      have h4 : Hid (wr.drew.heap[w.heap.size]? = some (.cells (List.replicate k (Value.int .i16 v) ++ List.replicate (n - k) (Value.int .i16 0)).toArray 40 (0, 0))) := HG.out
      have h5 : Hid (Below w.heap.size w wr.drew) := HB.out.drew
      clear hm
      have hwr : IntKind.i64.wrap ((k : Int) + ((min k (n - k) : Nat) : Int)) = (k : Int) + ((min k (n - k) : Nat) : Int) := by rw [IntKind.wrap_i64]; omega
      go_wp2
      go_region_law (refine step_copy_splice rfl (.tmp 41) (.tmp 44) 25 25 rfl 40 Tryz.underlying25 sizeRep (some ⟨w.heap.size, k, none⟩) (some ⟨w.heap.size, 0, none⟩) (n - k) (n - k) k n (by simp [Act.eval, Act.put]; omega) (by simp [Act.eval, Act.put]) w.heap.size k (List.replicate k (Value.int .i16 v) ++ List.replicate (n - k) (Value.int .i16 0)) 40 h4.out (List.replicate (min k (n - k)) (Value.int .i16 v)) HM.out (fun _ => ⟨rfl, _, rfl, h1.out⟩) h2.out h3.out w.heap.size w h5.out (Nat.le_refl _) ?_; intro w4 HG4 hb4; have HB4 := (show Hid _ from hb4); clear hb4)
      go_wp2
      go_roundw
      case rel =>
        refine ⟨k + min k (n - k), by omega, by omega, by omega, ?_⟩
        show _ = _
        rw [HG4.out, splice_rep _ _ _ _ _ (by omega)]
      case measure => simp [RowKit.intOf]; omega
    · have : k = n := by omega
      subst this
      go_wp2
      go_ret
      refine ⟨rfl, ?_, HB.out⟩
      have := HG.out
      simpa using this
end
section
open Go Go.RowKit Go.Lib
open Go.Fw (hexD hd hexD_lt hexD_ge)
theorem tz_core (x k idx : Nat) (w : World) (hx0 : ((x : Int) == 0) = false)
    (key : IntKind.u64.wrap (bits BinOp.and IntKind.u64 (x : Int) (IntKind.u64.wrap (-(x : Int))) * 285870213051353865) / 288230376151711744 = (idx : Int))
    (hi : idx < 64) (hk : k < 64) (hcell : w.cell? ⟨0, idx, none⟩ = some (.int .u8 k)) :
    Calls Tryz.prog 191 #[.int .u64 x] w fun e w' => e = .returned (.int .i64 k) ∧ w' = w := by
  go_enter Tryz.func191, Tryz.ntmps191
  go_wp2_with (simp only [key])
  go_ret
  exact ⟨rfl, rfl⟩
theorem tz_zero (w : World) : Calls Tryz.prog 191 #[.int .u64 0] w fun e w' => e = .returned (.int .i64 64) ∧ w' = w := by
  go_enter Tryz.func191, Tryz.ntmps191
  go_wp2
  go_ret
  exact ⟨rfl, rfl⟩
theorem tz_calls (x : Nat) (hx : x < 18446744073709551616) (w : World) (hT : TabAt 0 Lib.deBruijn64tab w) : Calls Tryz.prog 191 #[.int .u64 x] w fun e w' => e = .returned (.int .i64 (Lib.ctz 64 x)) ∧ w' = w := by
  by_cases hx0 : x = 0
  · subst hx0
    exact tz_zero w
  · obtain ⟨hlow, hk⟩ := Lib.lowest_bit 64 x hx0 hx
    obtain ⟨hi, htab⟩ := Lib.deBruijn64_at _ hk
    have hcell := hT _ hi
    rw [htab] at hcell
    exact tz_core x _ _ w (by simp; omega) (tz64_key x _ hx hx0 hlow) hi hk hcell

theorem pow2_16 (w : World) : Calls Tryz.prog 250 #[.int .i64 16] w fun e w' => e = .returned (.bool true) ∧ w' = w := by
  go_enter Tryz.func250, Tryz.ntmps250
  go_wp2
  go_ret
  exact ⟨rfl, rfl⟩
theorem tz16 (w : World) (hT : TabAt 0 Lib.deBruijn64tab w) : Calls Tryz.prog 251 #[.int .u64 16] w fun e w' => e = .returned (.int .i64 4) ∧ w' = w := by
  go_enter Tryz.func251, Tryz.ntmps251
  go_wp2_with (first
    | (go_at_call 191; refine (tz_calls 16 (by omega) _ (by assumption)).mono ?_; rintro e w1 ⟨rfl, hw⟩; subst w1)
    | go_in)
  go_ret
  have e4 : Lib.ctz 64 16 = 4 := by decide
  exact ⟨by show Ending.returned (.int .i64 ((Lib.ctz 64 16 : Nat) : Int)) = _; rw [e4]; rfl, rfl⟩
theorem and15 {v : Nat} (h : v < 18446744073709551616) : bits BinOp.and IntKind.u64 (v : Int) 15 = ((v % 16 : Nat) : Int) := by
  show IntKind.u64.wrap ((BitVec.ofInt 64 (v : Int) &&& BitVec.ofInt 64 (15 : Int)).toNat : Int) = _
  have e1 : (BitVec.ofInt 64 (v : Int)).toNat = v := by
    rw [BitVec.toNat_ofInt]
    omega
  have e2 : (BitVec.ofInt 64 (15 : Int)).toNat = 15 := by decide
  rw [BitVec.toNat_and, e1, e2, show (15 : Nat) = 2 ^ 4 - 1 from rfl, Nat.and_two_pow_sub_one_eq_mod]
  show (((v % 2 ^ 4 : Nat) : Int)) % 18446744073709551616 = _
  omega
theorem dig_at : ∀ i, i < 16 → (⟨#[48, 49, 50, 51, 52, 53, 54, 55, 56, 57, 97, 98, 99, 100, 101, 102, 103, 104, 105, 106, 107, 108, 109, 110, 111, 112, 113, 114, 115, 116, 117, 118, 119, 120, 121, 122]⟩ : ByteArray).data.toList.getD i 0 = hd i := by decide
theorem idx_dig (i : Nat) (hi : i < 16) (w : World) : (Instr.index 9 (.string ⟨#[48, 49, 50, 51, 52, 53, 54, 55, 56, 57, 97, 98, 99, 100, 101, 102, 103, 104, 105, 106, 107, 108, 109, 110, 111, 112, 113, 114, 115, 116, 117, 118, 119, 120, 121, 122]⟩) (.int .u64 (i : Int))).run Tryz.prog w = .ok (.int .u8 ((hd i).toNat : Int)) w := by
  rw [run_index_string w 9 _ .u64 _ Tryz.underlying9, dif_pos ⟨by omega, by show (i : Int) < 36; omega⟩]
  have e : ((i : Int)).toNat = i := Int.toNat_natCast i
  simp only [e]
  rw [Lib.getD_at _ i (by show i < 36; omega), dig_at i hi]
theorem dig_get (j i : Nat) (hj : j < (⟨#[48, 49, 50, 51, 52, 53, 54, 55, 56, 57, 97, 98, 99, 100, 101, 102, 103, 104, 105, 106, 107, 108, 109, 110, 111, 112, 113, 114, 115, 116, 117, 118, 119, 120, 121, 122]⟩ : ByteArray).size) (e : j = i) (hi : i < 16) : (⟨#[48, 49, 50, 51, 52, 53, 54, 55, 56, 57, 97, 98, 99, 100, 101, 102, 103, 104, 105, 106, 107, 108, 109, 110, 111, 112, 113, 114, 115, 116, 117, 118, 119, 120, 121, 122]⟩ : ByteArray)[j]'hj = hd i := by
  subst e
  rw [Lib.getD_at _ j hj, dig_at j hi]
theorem setCell_row {w : World} {b i : Nat} {xs : Array Value} {T : TypeId} (q : Value) (hb : w.heap[b]? = some (.cells xs T (0, 0))) : (w.setCell ⟨b, i, none⟩ q).heap[b]? = some (.cells (xs.setIfInBounds i q) T (0, 0)) := by
  simp [World.setCell, Array.getElem?_modify, hb]
def fbCells (k : Nat) (ds : List UInt8) : Array Value := (List.replicate (65 - k) (Value.int .u8 0) ++ ds.map fun b => Value.int .u8 (b.toNat : Int)).toArray
theorem fb_set (k : Nat) (ds : List UInt8) (b : UInt8) (hk : k ≤ 64) (_ : ds.length = k) : (fbCells k ds).setIfInBounds (65 - k - 1) (Value.int .u8 (b.toNat : Int)) = fbCells (k + 1) (b :: ds) := by
  unfold fbCells
  apply Array.ext'
  rw [Array.toList_setIfInBounds]
  rw [show 65 - k = (65 - (k + 1)) + 1 by omega, List.replicate_succ', List.append_assoc, List.set_append_right _ _ (by simp), List.length_replicate, show 65 - (k + 1) + 1 - 1 - (65 - (k + 1)) = 0 by omega]
  rfl
theorem fb_cell {w : World} {g k : Nat} {ds : List UInt8} (hk : k ≤ 64) (h : w.heap[g]? = some (.cells (fbCells k ds) 268 (0, 0))) : w.cell? ⟨g, 65 - k - 1, none⟩ = some (.int .u8 0) ∧ w.frozen? ⟨g, 65 - k - 1, none⟩ = false := by
  refine ⟨?_, by simp [World.frozen?, h]⟩
  rw [Go.Lib.cell_of_heap h]
  unfold fbCells
  simp only [List.getElem?_toArray]
  rw [List.getElem?_append_left (by simp; omega), List.getElem?_replicate, if_pos (by omega)]
theorem tabAt_below {w w' : World} (hT : TabAt 0 Lib.deBruijn64tab w) (hB : Below w.heap.size w w') : TabAt 0 Lib.deBruijn64tab w' := fun j hj => by
  have h := hT j hj
  have hlt : 0 < w.heap.size := by
    rcases Nat.lt_or_ge 0 w.heap.size with h' | h'
    · exact h'
    · have : w.heap[0]? = none := Array.getElem?_eq_none h'
      simp [World.cell?, this] at h
  rw [hB.cell hlt]
  exact h
set_option maxHeartbeats 4000000 in
set_option maxRecDepth 100000 in
theorem fb_walk (u : Nat) (hu : u < 18446744073709551616) (w : World) (hT : TabAt 0 Lib.deBruijn64tab w) :
    Calls Tryz.prog 239 #[.slice none 0 0, .int .u64 u, .int .i64 16, .bool false, .bool false] w fun e w' => e = .returned (.tuple #[.slice none 0 0, .string ⟨(hexD u).toArray⟩]) ∧ Below w.heap.size w w' := by
  have hB0 : Hid (Below w.heap.size w (w.alloc (Obj.cells Tryz.zeroCells268 268))) := (Below.refl w.heap.size w).alloc (Nat.le_refl _) _
  have hT0 : Hid (TabAt 0 Lib.deBruijn64tab (w.alloc (Obj.cells Tryz.zeroCells268 268))) := tabAt_below hT hB0.out
  go_enter Tryz.func239, Tryz.ntmps239
  go_wp2_with (first
    | (go_at_call 250; refine (pow2_16 _).mono ?_; rintro e w1 ⟨rfl, hw⟩; subst w1)
    | (go_at_call 251; refine (tz16 _ hT0.out).mono ?_; rintro e w1 ⟨rfl, hw⟩; subst w1)
    | go_in)
  go_loopw [1, 13] (fun c1 c2 wr => ∃ (v k : Nat) (ds : List UInt8), c1 = .int .u64 v ∧ c2 = .int .i64 ((65 - k : Nat) : Int) ∧ k ≤ 15 ∧ v < 16 ^ (16 - k) ∧ ds.length = k ∧ Hid (hexD u = hexD v ++ ds) ∧ Hid (wr.heap[w.heap.size]? = some (.cells (fbCells k ds) 268 (0, 0))) ∧ Hid (Below w.heap.size w wr)) (fun c1 _ _ => (RowKit.intOf c1).toNat)
  case atStart =>
    refine ⟨u, 0, [], rfl, rfl, by omega, by simpa using hu, rfl, ?_, ?_, hB0⟩
    · show _ = _; simp
    · show _ = _
      unfold World.alloc
      simp
      rfl
  case round =>
    obtain ⟨v, k, ds, rfl, rfl, hk, hv, hds, HX, HG, HB⟩ := hrel
    have hc := (fb_cell (by omega) HG.out).1
    have hf := (fb_cell (by omega) HG.out).2
    have hv64 : v < 18446744073709551616 := Nat.lt_of_lt_of_le hv (Nat.le_trans (Nat.pow_le_pow_right (by omega) (show 16 - k ≤ 16 by omega)) (by decide))
    have ha := and15 hv64
    have hb0 : w.heap.size ≤ (⟨w.heap.size, 65 - k - 1, none⟩ : Addr).block := Nat.le_refl _
    by_cases hge : 16 ≤ v
    · go_wp2
      have hk14 : k ≤ 14 := by
        rcases Nat.lt_or_ge k 15 with h | h
        · omega
        · have e : k = 15 := by omega
          subst e
          simp at hv
          omega
      have hd' : (⟨#[48, 49, 50, 51, 52, 53, 54, 55, 56, 57, 97, 98, 99, 100, 101, 102, 103, 104, 105, 106, 107, 108, 109, 110, 111, 112, 113, 114, 115, 116, 117, 118, 119, 120, 121, 122]⟩ : ByteArray)[v % 16]'(by show v % 16 < 36; omega) = hd (v % 16) := dig_get (v % 16) (v % 16) _ rfl (by omega)
      rw [hd']
      refine ⟨⟨v / 16, k + 1, hd (v % 16) :: ds, rfl, ?_, by omega, ?_, by simp [hds], ?_, ?_, HB.out.setCell hb0 _⟩, ?_⟩
      · rw [show ((65 - k : Nat) : Int) - 1 = ((65 - (k + 1) : Nat) : Int) by omega]
      · have e : 16 ^ (16 - k) = 16 * 16 ^ (16 - (k + 1)) := by rw [show 16 - k = (16 - (k + 1)) + 1 by omega, Nat.pow_succ, Nat.mul_comm]
        rw [e] at hv
        exact Nat.div_lt_of_lt_mul hv
      · show _ = _
        rw [HX.out, hexD_ge hge]
        simp
      · show _ = _
        rw [setCell_row _ HG.out, fb_set k ds _ (by omega) hds]
      · show (((v / 16 : Nat) : Int)).toNat < ((v : Int)).toNat
        omega
    · have hvl : v < (⟨#[48, 49, 50, 51, 52, 53, 54, 55, 56, 57, 97, 98, 99, 100, 101, 102, 103, 104, 105, 106, 107, 108, 109, 110, 111, 112, 113, 114, 115, 116, 117, 118, 119, 120, 121, 122]⟩ : ByteArray).size := by show v < 36; omega
      have hdv : (⟨#[48, 49, 50, 51, 52, 53, 54, 55, 56, 57, 97, 98, 99, 100, 101, 102, 103, 104, 105, 106, 107, 108, 109, 110, 111, 112, 113, 114, 115, 116, 117, 118, 119, 120, 121, 122]⟩ : ByteArray)[v]'hvl = hd v := dig_get v v hvl rfl (by omega)
      have hal : Tryz.prog.arrayLen 268 = 65 := by simp [Program.arrayLen, Tryz.underlying268]
      have hsl : ∀ W, (Instr.sliceAt 268 (.pointer (some ⟨w.heap.size, 0, none⟩)) (some (.int .i64 (((65 - k : Nat) : Int) - 1))) none none).run Tryz.prog W = .ok (.slice (some ⟨w.heap.size, 65 - k - 1, none⟩) (k + 1) (k + 1)) W := fun W => by
        rw [run_sliceAt_array_l W 268 ⟨w.heap.size, 0, none⟩ (by simp [Program.arrayLen, Program.elem, Tryz.underlying268]) .i64 (((65 - k : Nat) : Int) - 1) (by omega) (by rw [hal]; omega)]
        go_simp
        omega
      have HG' := setCell_row (i := 65 - k - 1) (Value.int .u8 ((hd v).toNat : Int)) HG.out
      rw [fb_set k ds _ (by omega) hds] at HG'
      have hcv : (convert 22 9 (.slice (some ⟨w.heap.size, 65 - k - 1, none⟩) (k + 1) (k + 1))).run Tryz.prog (wr.setCell ⟨w.heap.size, 65 - k - 1, none⟩ (.int .u8 ((hd v).toNat : Int))) = .ok (.string ⟨(hd v :: ds).toArray⟩) (wr.setCell ⟨w.heap.size, 65 - k - 1, none⟩ (.int .u8 ((hd v).toNat : Int))) := by
        have h := run_convert_bytes_back (P := Tryz.prog) (wr.setCell ⟨w.heap.size, 65 - k - 1, none⟩ (.int .u8 ((hd v).toNat : Int))) 22 9 5 ⟨w.heap.size, 65 - k - 1, none⟩ (k + 1) (hd v :: ds) Tryz.underlying22 Tryz.underlying5 Tryz.underlying9 (fun j hj => by
          rw [Lib.add_plain, Go.Lib.cell_of_heap HG']
          unfold fbCells
          simp only [List.getElem?_toArray]
          rw [List.getElem?_append_right (by simp; omega), List.length_replicate, show 65 - k - 1 + j - (65 - (k + 1)) = j by omega, List.getElem?_map, List.getElem?_eq_getElem hj]
          rfl)
        rw [List.length_cons, hds] at h
        exact h
      go_wp2
      go_ret2
      refine ⟨?_, HB.out.setCell hb0 _⟩
      rw [HX.out, hexD_lt (by omega)]
      rfl
theorem fu_in (u : Nat) (hu : u < 18446744073709551616) (w : World) (hT : TabAt 0 Lib.deBruijn64tab w) :
    Calls Tryz.prog 208 #[.int .u64 u, .int .i64 16] w fun e w' => e = .returned (.string ⟨(hexD u).toArray⟩) ∧ Below w.heap.size w w' := by
  go_enter Tryz.func208, Tryz.ntmps208
  go_wp2_with (first
    | (go_at_call 239; refine (fb_walk u hu _ hT).mono ?_; rintro e w1 ⟨rfl, hB⟩)
    | go_in)
  go_ret
  exact ⟨rfl, hB⟩
theorem fu_calls (u : Nat) (hu : u < 18446744073709551616) (w : World) (hT : TabAt 0 Lib.deBruijn64tab w) :
    Calls Tryz.prog 170 #[.int .u64 u, .int .i64 16] w fun e w' => e = .returned (.string ⟨(hexD u).toArray⟩) ∧ Below w.heap.size w w' := by
  go_enter Tryz.func170, Tryz.ntmps170
  go_wp2_with (first
    | (go_at_call 208; refine (fu_in u hu _ hT).mono ?_; rintro e w1 ⟨rfl, hB⟩)
    | go_in)
  go_ret
  exact ⟨rfl, hB⟩
end
section
open Go Go.RowKit
theorem infoByteB : (Tryz.prog.info? 5).map (fun i => (i.zero, i.size, i.bytes)) = some (some (.int .u8 0), 1, 1) := by kernel_rfl
theorem cell_setCell0 {w : World} {b : Nat} {p v q : Value} {T : TypeId} (hb : w.heap[b]? = some (.cells #[p, v] T (0, 0))) : (w.setCell ⟨b, 0, none⟩ q).heap[b]? = some (.cells #[q, v] T (0, 0)) := by
  simp [World.setCell, Array.getElem?_modify, hb]
theorem cell_setCell1 {w : World} {b : Nat} {p v q : Value} {T : TypeId} (hb : w.heap[b]? = some (.cells #[p, v] T (0, 0))) : (w.setCell ⟨b, 1, none⟩ q).heap[b]? = some (.cells #[p, q] T (0, 0)) := by
  simp [World.setCell, Array.getElem?_modify, hb]
theorem kept_setCell {w : World} {b k : Nat} {o : Nat} {q : Value} (h : k ≠ b) : (w.setCell ⟨b, o, none⟩ q).heap[k]? = w.heap[k]? := Below.heap_setCell _ _ _ _ h
/-- Nothing but the blocks of F, and new ones, has turned. -/
structure KeptF (F : List Nat) (w w' : World) : Prop where
  os : w'.os = w.os
  tape : w'.tape = w.tape
  output : w'.output = w.output
  size : w.heap.size ≤ w'.heap.size
  heap : ∀ b, b < w.heap.size → b ∉ F → w'.heap[b]? = w.heap[b]?
/-- An append of a string's bytes to a row of bytes that is owned: the row stays where it was, or lies in a new block. -/
theorem run_append_str {P : Program} (w : World) (t u ty e : TypeId) (i : TypeInfo) (ht : P.underlying t = some (.slice e)) (hu : P.underlying u = some .string) (hi : P.info? e = some i) (hz : i.zero = some (.int .u8 0)) (hsize : i.size = 1) (hby : i.bytes = 1)
    (v : Value) (n : Nat) (xs : List Value) (hown : w.ownsRow 0 e 1 v n xs) (s : ByteArray) (h63 : n + s.size ≤ maxLen) (hbytes : n + s.size ≤ 140737488355328) :
    ∃ v' w', (Builtin.append_ #[t, u] ty #[v, .string s]).run P w = .ok v' w' ∧ w'.ownsRow 0 e 1 v' (n + s.size) (xs ++ Lib.strCells s) ∧ w.grownBy w' v.ownBlock ∧ (v' = .slice none 0 0 ↔ v = .slice none 0 0 ∧ s.size = 0) ∧ (∀ k, v'.ownBlock = some k → v.ownBlock = some k ∨ w.heap.size ≤ k) := by
  obtain ⟨v', w', hr, h2, h3, h4⟩ := Lib.run_append_own_string (P := P) w 0 t u ty e i ht hu hi hz hsize hby v n xs hown s h63 hbytes (Nat.zero_le _)
  refine ⟨v', w', hr, h2, h3, h4, fun k hk => ?_⟩
  have hxl : xs.length = n := by simpa using hown.1
  rcases hown.2 with ⟨rfl, hn0⟩ | ⟨g, cap, cur, rfl, _, hg, hnc, hcm, hcs, htake⟩
  · obtain ⟨v2, w2, hr2, k2, _, _⟩ := Lib.run_append_own_string (P := P) w w.heap.size t u ty e i ht hu hi hz hsize hby (.slice none 0 0) n xs ⟨hown.1, .inl ⟨rfl, hn0⟩⟩ s h63 hbytes (Nat.le_refl _)
    rw [hr] at hr2
    injection hr2 with e1 e2
    subst e1
    rcases k2.2 with ⟨rfl, _⟩ | ⟨q, _, _, rfl, hq, _⟩
    · cases hk
    · simp only [Value.ownBlock, Option.some.injEq] at hk
      right; omega
  · by_cases hroom : n + s.size ≤ cap
    · have hcs' : cur.size = cap := by simpa using hcs
      have hr2 := Lib.run_append_room_string (P := P) w t u ty e i ht hu hi hsize g n cap cur hg s hroom (by omega)
      rw [hr] at hr2
      injection hr2 with e1 e2
      subst e1
      left
      exact hk
    · have holds : ∀ j u, xs[j]? = some u → w.cell? ((⟨g, 0, none⟩ : Addr).add j) = some u := hown.cells (g := g) rfl
      have hr2 := Lib.run_append_grow_string (P := P) w t u ty e i (.int .u8 0) ht hu hi hz ⟨g, 0, none⟩ n cap xs (by rw [hsize]; simpa using hxl) holds s (by omega) (by unfold maxLen at h63; omega) (by rw [hby]; exact growslice_fits (by omega) (by omega))
      rw [hr] at hr2
      injection hr2 with e1 e2
      subst e1
      simp only [Value.ownBlock, Option.some.injEq] at hk
      right; omega
theorem wpList_append_str {P : Program} {w : World} {ops : Array Oper} {rest : List Oper} {o : Oper} {a : Act} {Q : Exit → Act → World → Prop} (hgd : o.guard = none) (sl x : Operand) (t u : TypeId)
    (ho : o.op = .call { callee := .builtin .append, args := #[sl, x], argTypes := #[t, u] })
    (e : TypeId) (i : TypeInfo) (ht : P.underlying t = some (.slice e)) (hu : P.underlying u = some .string) (hi : P.info? e = some i) (hz : i.zero = some (.int .u8 0)) (hsize : i.size = 1) (hby : i.bytes = 1)
    (v : Value) (n : Nat) (xs : List Value) (hs : a.eval sl = v) (hown : w.ownsRow 0 e 1 v n xs) (s : ByteArray) (hx : a.eval x = .string s) (h63 : n + s.size ≤ maxLen) (hbytes : n + s.size ≤ 140737488355328)
    (h : ∀ v' w', w'.ownsRow 0 e 1 v' (n + s.size) (xs ++ Lib.strCells s) → w.grownBy w' v.ownBlock → Hid (v' = .slice none 0 0 ↔ v = .slice none 0 0 ∧ s.size = 0) → Hid (∀ k, v'.ownBlock = some k → v.ownBlock = some k ∨ w.heap.size ≤ k) → wpList P ops Q rest (a.put o.dst v') w') : wpList P ops Q (o :: rest) a w := by
  refine wpList_plain hgd fun K hK => ?_
  obtain ⟨v', w', hr, h2, h3, h4, h5⟩ := run_append_str (P := P) w t u o.type e i ht hu hi hz hsize hby v n xs hown s h63 hbytes
  unfold Oper.wp execOp
  simp only [ho, resolve, invoke, builtin, Sem.run_bind, Sem.run_pure, Result.andThen_ok, List.map_toArray, List.map_cons, List.map_nil, hs, hx, hr]
  exact hK _ _ (h v' w' h2 h3 h4 h5)
theorem bld_check (g : Nat) (p v : Value) (w : World) (hp : p = .pointer none ∨ p = .pointer (some ⟨g, 0, none⟩)) (hb : w.heap[g]? = some (.cells #[p, v] 134 (0, 0))) :
    Calls Tryz.prog 169 #[.pointer (some ⟨g, 0, none⟩)] w fun e w1 => e = .returned (.tuple #[]) ∧ (w1.heap[g]? = some (.cells #[.pointer (some ⟨g, 0, none⟩), v] 134 (0, 0)) ∧ KeptF [g] w w1) := by
  rcases hp with rfl | rfl
  · refine (Any.Builder_copyCheck_fresh (ρ := Tryz.lays156_ren) { Tryz.lays156 with } Tryz.Builder_Extra_156.toX72 g w (by rw [Lib.cell_of_heap hb]; rfl) (by simp [World.shape?, hb]; rfl) (Lib.frozen_of_heap hb 0)).mono ?_
    rintro e w1 ⟨rfl, rfl⟩
    exact ⟨rfl, cell_setCell0 hb, ⟨rfl, rfl, rfl, by simp [World.setCell], fun k _ hk => kept_setCell (by simpa using hk)⟩⟩
  · refine (Any.Builder_copyCheck_used (ρ := Tryz.lays156_ren) { Tryz.lays156 with } Tryz.Builder_Extra_156.toX72 g w (by rw [Lib.cell_of_heap hb]; rfl)).mono ?_
    rintro e w1 ⟨rfl, rfl⟩
    exact ⟨rfl, hb, ⟨rfl, rfl, rfl, Nat.le_refl _, fun _ _ _ => rfl⟩⟩
set_option maxHeartbeats 2000000 in
set_option maxRecDepth 100000 in
theorem bld_write (g : Nat) (p v : Value) (n : Nat) (bs : List Value) (s : ByteArray) (w : World) (hp : p = .pointer none ∨ p = .pointer (some ⟨g, 0, none⟩)) (hb : w.heap[g]? = some (.cells #[p, v] 134 (0, 0))) (hown : w.ownsRow 0 5 1 v n bs) (hne : v.ownBlock ≠ some g) (hlen : n + s.size ≤ 140737488355328) :
    Calls Tryz.prog 92 #[.pointer (some ⟨g, 0, none⟩), .string s] w fun e w' => e = .returned (.tuple #[.int .i64 s.size, .nilIface]) ∧ ∃ v', w'.heap[g]? = some (.cells #[.pointer (some ⟨g, 0, none⟩), v'] 134 (0, 0)) ∧ w'.ownsRow 0 5 1 v' (n + s.size) (bs ++ Lib.strCells s) ∧ (v' = .slice none 0 0 ↔ v = .slice none 0 0 ∧ s.size = 0) ∧ (∀ k, v'.ownBlock = some k → v.ownBlock = some k ∨ w.heap.size ≤ k) ∧ (∀ k, k < w.heap.size → k ≠ g → some k ≠ v.ownBlock → w'.heap[k]? = w.heap[k]?) ∧ w'.os = w.os ∧ w'.tape = w.tape ∧ w'.output = w.output ∧ w.heap.size ≤ w'.heap.size := by
  obtain ⟨i0, hi, hz0, hz1, hz2⟩ := info_parts infoByteB
  go_enter Tryz.func92, Tryz.ntmps92
  go_wp2_with (go_at_call 169; refine (bld_check g p v _ hp hb).mono ?_)
  rintro e w1 ⟨rfl, hbk, K⟩
  have hown1 : w1.ownsRow 0 5 1 v n bs := by
    refine hown.kept (row := some g) ⟨K.os, K.tape, K.output, K.size, fun k hk hk' => K.heap k hk (by simpa using fun e => hk' (by rw [e]))⟩ ?_
    exact Or.inr hne
  have c0 : w1.cell? ⟨g, 0, none⟩ = some (.pointer (some ⟨g, 0, none⟩)) := by rw [Lib.cell_of_heap hbk]; rfl
  have c1 : w1.cell? ⟨g, 1, none⟩ = some v := by rw [Lib.cell_of_heap hbk]; rfl
  go_wp2_with (at_builtin; refine wpList_append_str rfl _ _ 22 9 rfl 5 i0 Tryz.underlying22 Tryz.underlying9 hi hz0 hz1 hz2 _ _ _ rfl hown1 s rfl ?c3 ?c4 ?_)
  case c3 => unfold maxLen; omega
  case c4 => omega
  intro v' w2 hown' hgrow HN HK
  have hlt : g < w1.heap.size := (Array.getElem?_eq_some_iff.1 hbk).1
  have hb2 : w2.heap[g]? = some (.cells #[.pointer (some ⟨g, 0, none⟩), v] 134 (0, 0)) := by
    rw [hgrow.block g hlt (fun e => hne e.symm)]
    exact hbk
  have d0 : w2.cell? ⟨g, 0, none⟩ = some (.pointer (some ⟨g, 0, none⟩)) := by rw [Lib.cell_of_heap hb2]; rfl
  have d1 : w2.cell? ⟨g, 1, none⟩ = some v := by rw [Lib.cell_of_heap hb2]; rfl
  have f1 : w2.frozen? ⟨g, 1, none⟩ = false := Lib.frozen_of_heap hb2 1
  obtain ⟨ao, n', cap, rfl⟩ : ∃ ao n' cap, v' = .slice ao n' cap := by
    rcases hown'.2 with ⟨hv, _⟩ | ⟨g, cap, cur, hv, _⟩
    · exact ⟨_, _, _, hv⟩
    · exact ⟨_, _, _, hv⟩
  go_wp2
  go_ret2
  refine ⟨rfl, _, cell_setCell1 hb2, ?_, HN.out.trans (and_congr_right fun _ => ByteArray.size_eq_zero_iff.symm), fun k hk => (HK.out k hk).imp id (Nat.le_trans K.size), ?_, ?_, ?_, ?_, ?_⟩
  · have hne' := Lib.ownBlock_ne hown' hb2 (by decide)
    exact hown'.kept (row := some g) ⟨rfl, rfl, rfl, by simp [World.setCell], fun k _ hk => kept_setCell (fun e => hk (by rw [e]))⟩ (Or.inr hne')
  · intro k hk hkg hkv
    rw [kept_setCell hkg, hgrow.block k (Nat.lt_of_lt_of_le hk K.size) hkv, K.heap k hk (by simpa using hkg)]
  · exact hgrow.os.trans K.os
  · exact hgrow.tape.trans K.tape
  · exact hgrow.output.trans K.output
  · have h1 := hgrow.size
    have h2 := K.size
    simp [World.setCell]; omega
set_option maxHeartbeats 1000000 in
set_option maxRecDepth 100000 in
theorem bld_string (b g cap : Nat) (p : Value) (cur : Array Value) (l : List UInt8) (w : World) (hbk : w.heap[b]? = some (.cells #[p, .slice (some ⟨g, 0, none⟩) l.length cap] 134 (0, 0))) (hg : w.heap[g]? = some (.cells cur 5 (0, 0))) (h0 : l ≠ []) (hnc : l.length ≤ cap) (hcm : cap ≤ maxLen) (hcs : cur.size = cap) (htake : cur.toList.take l.length = Lib.byteCells l) :
    Calls Tryz.prog 94 #[.pointer (some ⟨b, 0, none⟩)] w fun e w' => e = .returned (.string ⟨l.toArray⟩) ∧ KeptF [g] w w' := by
  have hl0 : 0 < l.length := List.length_pos_iff.2 h0
  have c1 : w.drew.cell? ⟨b, 1, none⟩ = some (.slice (some ⟨g, 0, none⟩) l.length cap) := by
    have : w.drew.heap[b]? = some (.cells #[p, .slice (some ⟨g, 0, none⟩) l.length cap] 134 (0, 0)) := hbk
    rw [Lib.cell_of_heap this]; rfl
  have hSD : (Builtin.unsafeSliceData_ #[22] 204 #[.slice (some ⟨g, 0, none⟩) l.length cap]).run Tryz.prog w.drew = .ok (.pointer (some ⟨g, 0, none⟩)) w.drew :=
    Lib.run_unsafeSliceData_row _ _ _ _ _ _ (by omega)
  have hUS : (Builtin.unsafeString_ #[204, 3] 9 #[.pointer (some ⟨g, 0, none⟩), .int .i64 l.length]).run Tryz.prog w.drew = .ok (.string ⟨l.toArray⟩) (w.drew.freeze ⟨g, 0, none⟩ l.length) := by
    refine Lib.run_unsafeString_row w.drew 204 3 9 5 Tryz.underlying204 Tryz.Builder_Extra_156.cellsByte g cur.size (by have hg' : w.drew.heap[g]? = some (.cells cur 5 (0, 0)) := hg; simp [World.shape?, hg']) l h0 (by omega) (by unfold maxLen at hcm; omega) ?_
    intro j x hx
    have hg' : w.drew.heap[g]? = some (.cells cur 5 (0, 0)) := hg
    have e : (⟨g, 0, none⟩ : Addr).add j = ⟨g, j, none⟩ := by unfold Addr.add; split <;> simp_all
    rw [e, Lib.cell_of_heap hg']
    have hj : j < l.length := (List.getElem?_eq_some_iff.1 hx).1
    have h1 : (cur.toList.take l.length)[j]? = some (.int .u8 x.toNat) := by rw [htake]; simp [Lib.byteCells, hx]
    rw [List.getElem?_take_of_lt hj] at h1
    simpa using h1
  go_enter Tryz.func94, Tryz.ntmps94
  go_wp2
  go_region
  all_goals (go_wp2; go_ret)
  all_goals
    refine ⟨rfl, ?_⟩
    have hz : (w.drew.freeze ⟨g, 0, none⟩ l.length).heap.size = w.heap.size := by
      unfold World.freeze
      split
      · rfl
      · simp
    have hh : ∀ k, k ≠ g → (w.drew.freeze ⟨g, 0, none⟩ l.length).heap[k]? = w.heap[k]? := fun k hk => by
      unfold World.freeze
      split
      · rfl
      · simp only [Array.getElem?_modify]
        rw [if_neg (fun e => hk e.symm)]
        rfl
    exact ⟨by unfold World.freeze; split <;> rfl, by unfold World.freeze; split <;> rfl, by unfold World.freeze; split <;> rfl, by rw [hz]; exact Nat.le_refl _, fun k _ hk => hh k (by simpa using hk)⟩
end
section
open Go Go.RowKit Go.Lib
open Go.Fw (hexVal pu16 puT)
def errV (k : Nat) : Value := if k = 0 then .nilIface else .iface 249 (.int .i64 k)
def low (c : Nat) : Nat := (bits BinOp.or IntKind.u8 (c : Int) 32).toNat
theorem low_calls (c : Nat) (_ : c < 256) (w : World) : Calls Tryz.prog 230 #[.int .u8 c] w fun e w' => e = .returned (.int .u8 (low c : Int)) ∧ w' = w := by
  go_enter Tryz.func230, Tryz.ntmps230
  go_wp2
  go_ret
  refine ⟨?_, rfl⟩
  have h := bits_lo_u8 .or (c : Int) 32
  unfold low
  rw [Int.toNat_of_nonneg h]
  rfl
theorem low_tab : ∀ c, c < 256 → (if 65 ≤ c ∧ c ≤ 90 then low c = c + 32 else if 97 ≤ c ∧ c ≤ 122 then low c = c else (low c < 97 ∨ 122 < low c)) ∧ low c < 256 := by decide +kernel
set_option maxHeartbeats 4000000 in
set_option maxRecDepth 100000 in
theorem pu_in (s : ByteArray) (w : World) (h0 : s.size ≠ 0) (hmax : s.size ≤ 4294967281) :
    Calls Tryz.prog 205 #[.string s, .int .i64 16, .int .i64 64] w fun e w' => e = .returned (.tuple #[.int .u64 (pu16 s.data.toList 0).1, errV (pu16 s.data.toList 0).2]) ∧ Below w.heap.size w w' := by
  have hne : s.toList.isEmpty = false := by
    have e : s.toList = s.data.toList := Go.Lib.toList_data s
    rw [e]
    have hl : s.data.toList.length = s.size := by rw [Array.length_toList]; rfl
    cases h : s.data.toList with
    | nil => rw [h] at hl; exact absurd hl.symm h0
    | cons a r => rfl
  have hcv := Go.Lib.run_convert_string_bytes (P := Tryz.prog) w 9 22 5 s Tryz.underlying9 Tryz.underlying22 Tryz.underlying5
  have hB0 : Hid (Below w.heap.size w (bytesWorld w 5 s)) := bytesWorld_below w 5 s
  have hC0 : Hid (∀ j, j < s.size → (bytesWorld w 5 s).cell? ⟨w.heap.size, j, none⟩ = some (.int .u8 ((s.data.toList.getD j 0).toNat : Int))) := fun j hj => bytesWorld_cell w 5 s j hj
  go_enter Tryz.func205, Tryz.ntmps205
  go_wp2
  generalize bytesWorld w 5 s = w1 at hB0 hC0 ⊢
  clear hcv
  have hmx : IntKind.u64.wrap (IntKind.u64.wrap 18446744073709551616 - 1) = 18446744073709551615 := by decide
  rw [hmx]
  clear hmx
  go_loopw [12, 13, 101] (fun c0 c1 c2 wr => ∃ (n i : Nat) (a : Int), c0 = .bool false ∧ c1 = .int .u64 a ∧ Hid (a = (n : Int)) ∧ c2 = .int .i64 i ∧ n < 18446744073709551616 ∧ i ≤ s.size ∧ Hid (pu16 (s.data.toList.drop i) n = pu16 s.data.toList 0) ∧ Hid (∀ j, j < s.size → wr.cell? ⟨w.heap.size, j, none⟩ = some (.int .u8 ((s.data.toList.getD j 0).toNat : Int))) ∧ Hid (Below w.heap.size w wr)) (fun _ _ c2 _ => s.size - (RowKit.intOf c2).toNat)
  case atStart => exact ⟨0, 0, 0, rfl, rfl, rfl, rfl, by omega, by omega, rfl, hC0, hB0⟩
  case round =>
    obtain ⟨n, i, a, rfl, rfl, HA, rfl, hn, hi, HX, HC, HB⟩ := hrel
    by_cases hlt : i < s.size
    · have hc := HC.out i hlt
      have hget : s.data.toList[i]? = some (s.data.toList.getD i 0) := by
        rw [List.getD_eq_getElem?_getD, List.getElem?_eq_getElem (by simpa using hlt)]
        rfl
      have hdrop : Hid (s.data.toList.drop i = s.data.toList.getD i 0 :: s.data.toList.drop (i + 1)) := by
        show _ = _
        obtain ⟨hl, e⟩ := List.getElem?_eq_some_iff.1 hget
        rw [List.drop_eq_getElem_cons hl, e]
      generalize s.data.toList.getD i 0 = c at hc hdrop
      clear hget
      have hcb := c.toNat_lt
      have hlow := low_tab c.toNat hcb
      have hv : pu16 (s.data.toList.drop i) n = match hexVal c with
        | none => (0, 2)
        | some d => if 1152921504606846976 ≤ n then (18446744073709551615, 1) else pu16 (s.data.toList.drop (i + 1)) (n * 16 + d) := by rw [hdrop.out]; rfl
      have hX := HX.out
      rw [hv] at hX
      by_cases hA : 48 ≤ c.toNat ∧ c.toNat ≤ 57
      · have hh : hexVal c = some (c.toNat - 48) := if_pos hA
        rw [hh] at hX
        simp only at hX
        have HX2 := (show Hid _ from hX)
        have ha := HA.out
        have HD := (show Hid (hexVal c = some (c.toNat - 48)) from hh)
        obtain ⟨hd0, hd1⟩ := hA
        clear hX hv hlow hh HX hdrop h0 hne hC0 hB0
        have a0 : 0 ≤ a := by omega
        by_cases hbig : 1152921504606846976 ≤ n
        · have icut : 1152921504606846976 ≤ a := by omega
          have HE : Hid (pu16 s.data.toList 0 = (18446744073709551615, 1)) := by have e := HX2.out; rw [if_pos hbig] at e; exact e.symm
          clear hbig hn ha HX2
          go_wp2
          go_ret2
          rw [HE.out]
          exact ⟨rfl, HB.out⟩
        · have icut : a < 1152921504606846976 := by omega
          have HN : Hid (a * 16 + ((c.toNat : Int) - 48) = ((n * 16 + (c.toNat - 48) : Nat) : Int)) := by show _ = _; omega
          have HE : Hid (n * 16 + (c.toNat - 48) < 18446744073709551616 ∧ pu16 (s.data.toList.drop (i + 1)) (n * 16 + (c.toNat - 48)) = pu16 s.data.toList 0) := by have e := HX2.out; rw [if_neg hbig] at e; exact ⟨by omega, e⟩
          clear hbig hn ha HX2
          go_wp2
          refine ⟨⟨n * 16 + (c.toNat - 48), i + 1, _, rfl, rfl, HN, rfl, HE.out.1, by omega, HE.out.2, HC, HB⟩, ?_⟩
          show s.size - ((i : Int) + 1).toNat < s.size - ((i : Int)).toNat
          omega
      · have hlo := hlow.2
        have hl1 := hlow.1
        by_cases hB : (97 ≤ c.toNat ∧ c.toNat ≤ 102) ∨ (65 ≤ c.toNat ∧ c.toNat ≤ 70)
        · obtain ⟨d, hh, hd, d0, d1⟩ : ∃ d, hexVal c = some d ∧ low c.toNat = d + 87 ∧ 10 ≤ d ∧ d ≤ 15 := by
            rcases hB with h | h
            · rw [if_neg (by omega), if_pos (by omega)] at hl1
              exact ⟨c.toNat - 87, by unfold hexVal; rw [if_neg hA, if_pos h], by omega, by omega, by omega⟩
            · rw [if_pos (by omega)] at hl1
              exact ⟨c.toNat - 55, by unfold hexVal; rw [if_neg hA, if_neg (by omega), if_pos h], by omega, by omega, by omega⟩
          rw [hh] at hX
          simp only at hX
          have HX2 := (show Hid _ from hX)
          have ha := HA.out
          have a0 : 0 ≤ a := by omega
          have hlc : ∀ w, Calls Tryz.prog 230 #[.int .u8 c.toNat] w fun e w' => e = .returned (.int .u8 ((d : Int) + 87)) ∧ w' = w := fun w => by
            have h := low_calls c.toNat hcb w
            rw [hd] at h
            exact h
          have hne1 : ¬ ((c.toNat : Int) = 95) := by omega
          have hnd : ¬ (48 ≤ (c.toNat : Int) ∧ (c.toNat : Int) ≤ 57) := by omega
          have hnd2 : 57 < (c.toNat : Int) := by omega
          clear hX hv hlow hl1 hlo hh HX hdrop h0 hne hC0 hB0 hB hA hd
          by_cases hbig : 1152921504606846976 ≤ n
          · have icut : 1152921504606846976 ≤ a := by omega
            have HE : Hid (pu16 s.data.toList 0 = (18446744073709551615, 1)) := by have e := HX2.out; rw [if_pos hbig] at e; exact e.symm
            clear hbig hn ha HX2 hnd
            go_wp2_with (first
              | (go_at_call 230; refine (hlc _).mono ?_; rintro e w2 ⟨rfl, hw⟩; subst w2)
              | go_in)
            go_ret2
            rw [HE.out]
            exact ⟨rfl, HB.out⟩
          · have icut : a < 1152921504606846976 := by omega
            have HN : Hid (a * 16 + (d : Int) = ((n * 16 + d : Nat) : Int)) := by show _ = _; omega
            have HE : Hid (n * 16 + d < 18446744073709551616 ∧ pu16 (s.data.toList.drop (i + 1)) (n * 16 + d) = pu16 s.data.toList 0) := by have e := HX2.out; rw [if_neg hbig] at e; exact ⟨by omega, e⟩
            clear hbig hn ha HX2 hnd
            go_wp2_with (first
              | (go_at_call 230; refine (hlc _).mono ?_; rintro e w2 ⟨rfl, hw⟩; subst w2)
              | go_in)
            have e10 : (d : Int) + 87 - 97 + 10 = (d : Int) := by omega
            refine ⟨⟨n * 16 + d, i + 1, _, rfl, rfl, ?_, rfl, HE.out.1, by omega, HE.out.2, HC, HB⟩, ?_⟩
            · show _ = _
              rw [e10]
              exact HN.out
            · show s.size - ((i : Int) + 1).toNat < s.size - ((i : Int)).toNat
              omega
        · have hh : hexVal c = none := by unfold hexVal; rw [if_neg hA, if_neg (by omega), if_neg (by omega)]
          rw [hh] at hX
          simp only at hX
          have HE : Hid (pu16 s.data.toList 0 = (0, 2)) := hX.symm
          have hlb : low c.toNat < 97 ∨ 103 ≤ low c.toNat := by
            split at hl1
            · omega
            · split at hl1 <;> omega
          obtain ⟨y, hy⟩ : ∃ y, y = low c.toNat := ⟨_, rfl⟩
          have hlc : ∀ w, Calls Tryz.prog 230 #[.int .u8 c.toNat] w fun e w' => e = .returned (.int .u8 (y : Int)) ∧ w' = w := fun w => by
            have h := low_calls c.toNat hcb w
            rw [← hy] at h
            exact h
          rw [← hy] at hlb hlo
          clear hX hv hlow hl1 hh HX hdrop h0 hne hC0 hB0 hB hy HA hn
          rcases Nat.lt_or_ge c.toNat 48 with h48 | h48
          · clear hA
            rcases hlb with hlb | hlb
            · go_wp2_with (first
                | (go_at_call 230; refine (hlc _).mono ?_; rintro e w2 ⟨rfl, hw⟩; subst w2)
                | go_in)
              go_ret2
              rw [HE.out]
              exact ⟨rfl, HB.out⟩
            · go_wp2_with (first
                | (go_at_call 230; refine (hlc _).mono ?_; rintro e w2 ⟨rfl, hw⟩; subst w2)
                | go_in)
              all_goals go_ret2
              all_goals rw [HE.out]
              all_goals exact ⟨rfl, HB.out⟩
          · have h57 : 57 < c.toNat := by omega
            clear hA
            rcases hlb with hlb | hlb
            · go_wp2_with (first
                | (go_at_call 230; refine (hlc _).mono ?_; rintro e w2 ⟨rfl, hw⟩; subst w2)
                | go_in)
              all_goals go_ret2
              all_goals rw [HE.out]
              all_goals exact ⟨rfl, HB.out⟩
            · go_wp2_with (first
                | (go_at_call 230; refine (hlc _).mono ?_; rintro e w2 ⟨rfl, hw⟩; subst w2)
                | go_in)
              all_goals go_ret2
              all_goals rw [HE.out]
              all_goals exact ⟨rfl, HB.out⟩
    · have ha := HA.out
      have HE : Hid (pu16 s.data.toList 0 = (n, 0)) := by
        have e := HX.out
        have hl : s.data.toList.length = s.size := by rw [Array.length_toList]; rfl
        rw [List.drop_eq_nil_of_le (by omega)] at e
        exact e.symm
      subst ha
      clear HA HX hC0 hB0 h0 hne
      go_wp2
      go_ret2
      rw [HE.out]
      exact ⟨rfl, HB.out⟩
set_option maxHeartbeats 4000000 in
set_option maxRecDepth 100000 in
theorem pu_empty (w : World) : Calls Tryz.prog 205 #[.string ⟨#[]⟩, .int .i64 16, .int .i64 64] w fun e w' => e = .returned (.tuple #[.int .u64 0, errV 2]) ∧ w' = w := by
  have hne : (⟨#[]⟩ : ByteArray).toList.isEmpty = true := by rw [Go.Lib.toList_data]; rfl
  go_enter Tryz.func205, Tryz.ntmps205
  go_wp2
  go_ret2
  exact ⟨rfl, rfl⟩
theorem pu16_code : ∀ (l : List UInt8) (n : Nat), (pu16 l n).2 = 0 ∨ (pu16 l n).2 = 1 ∨ (pu16 l n).2 = 2
  | [], _ => .inl rfl
  | c :: r, n => by
    unfold pu16
    cases hexVal c with
    | none => exact .inr (.inr rfl)
    | some d =>
      simp only
      split
      · exact .inr (.inl rfl)
      · exact pu16_code r _
theorem puT_code (l : List UInt8) : (puT l).2 = 0 ∨ (puT l).2 = 1 ∨ (puT l).2 = 2 := by
  unfold puT
  split
  · exact .inr (.inr rfl)
  · exact pu16_code l 0
theorem pu_all (s : ByteArray) (w : World) (hmax : s.size ≤ 4294967281) :
    Calls Tryz.prog 205 #[.string s, .int .i64 16, .int .i64 64] w fun e w' => e = .returned (.tuple #[.int .u64 (puT s.data.toList).1, errV (puT s.data.toList).2]) ∧ Below w.heap.size w w' := by
  obtain ⟨l⟩ := s
  by_cases h0 : l.toList = []
  · have e : l = #[] := by simpa using h0
    subst e
    exact (pu_empty w).mono fun e w' ⟨he, hw⟩ => ⟨he, by subst hw; exact Below.refl _ _⟩
  · have e : puT l.toList = pu16 l.toList 0 := if_neg h0
    show Calls Tryz.prog 205 _ w fun e w' => e = .returned (.tuple #[.int .u64 (puT l.toList).1, errV (puT l.toList).2]) ∧ Below w.heap.size w w'
    rw [e]
    refine pu_in ⟨l⟩ w (fun h => h0 ?_) hmax
    have h : l.size = 0 := h
    simpa using h
set_option maxHeartbeats 4000000 in
set_option maxRecDepth 100000 in
theorem pub16 (s : ByteArray) (w : World) (hmax : s.size ≤ 4294967281) (ev1 ev2 : Value) (hv1 : w.cell? ⟨2, 0, none⟩ = some ev1) (he1 : ev1 = .nilIface ∨ ∃ te pe, ev1 = .iface te pe) (hv2 : w.cell? ⟨3, 0, none⟩ = some ev2) (he2 : ev2 = .nilIface ∨ ∃ te pe, ev2 = .iface te pe) :
    Calls Tryz.prog 168 #[.string s, .int .i64 16, .int .i64 64] w fun e w' => ∃ v, e = .returned (.tuple #[.int .u64 (puT s.data.toList).1, v]) ∧ (((puT s.data.toList).2 = 0 ∧ v = .nilIface) ∨ ((puT s.data.toList).2 ≠ 0 ∧ ∃ N, v = .iface 252 (.pointer (some ⟨N, 0, none⟩)))) ∧ Below w.heap.size w w' := by
  have hin := pu_all s w hmax
  have hk := puT_code s.data.toList
  generalize puT s.data.toList = q at hin hk ⊢
  obtain ⟨v, k⟩ := q
  simp only at hin hk ⊢
  have hG1 : 2 < w.heap.size := Lib.lt_of_cell hv1
  have hG2 : 3 < w.heap.size := Lib.lt_of_cell hv2
  rcases hk with rfl | rfl | rfl
  · have hin : Calls Tryz.prog 205 #[.string s, .int .i64 16, .int .i64 64] w fun e w' => e = .returned (.tuple #[.int .u64 v, .nilIface]) ∧ Below w.heap.size w w' := hin
    go_enter Tryz.func168, Tryz.ntmps168
    go_wp2_with (go_at_call 205; refine hin.mono ?_; rintro e W1 ⟨rfl, hB⟩)
    go_wp2
    go_ret2
    exact ⟨_, rfl, .inl ⟨by first | rfl | trivial, rfl⟩, hB⟩
  · have hin : Calls Tryz.prog 205 #[.string s, .int .i64 16, .int .i64 64] w fun e w' => e = .returned (.tuple #[.int .u64 v, .iface 249 (.int .i64 1)]) ∧ Below w.heap.size w w' := hin
    go_enter Tryz.func168, Tryz.ntmps168
    go_wp2_with (go_at_call 205; refine hin.mono ?_)
    rintro e W1 ⟨rfl, hB⟩
    have hv : W1.cell? ⟨3, 0, none⟩ = some ev2 := (hB.cell (show (⟨3, 0, none⟩ : Addr).block < w.heap.size from hG2)).trans hv2
    go_wp2_with (go_at_call 206; refine (Tryz.strconv_toError_range ⟨#[80, 97, 114, 115, 101, 85, 105, 110, 116]⟩ s 16 64 ev2 _ (by omega) ?_ he2).mono ?_)
    · exact hv
    rintro e W2 ⟨N, rfl, h1, h2, h3⟩
    go_wp2
    go_ret2
    exact ⟨_, rfl, .inr ⟨by omega, N, rfl⟩, hB.trans (h3.mono hB.size)⟩
  · have hin : Calls Tryz.prog 205 #[.string s, .int .i64 16, .int .i64 64] w fun e w' => e = .returned (.tuple #[.int .u64 v, .iface 249 (.int .i64 2)]) ∧ Below w.heap.size w w' := hin
    go_enter Tryz.func168, Tryz.ntmps168
    go_wp2_with (go_at_call 205; refine hin.mono ?_)
    rintro e W1 ⟨rfl, hB⟩
    have hv : W1.cell? ⟨2, 0, none⟩ = some ev1 := (hB.cell (show (⟨2, 0, none⟩ : Addr).block < w.heap.size from hG1)).trans hv1
    go_wp2_with (go_at_call 206; refine (Tryz.strconv_toError_syntax ⟨#[80, 97, 114, 115, 101, 85, 105, 110, 116]⟩ s 16 64 ev1 _ (by omega) ?_ he1).mono ?_)
    · exact hv
    rintro e W2 ⟨N, rfl, h1, h2, h3⟩
    go_wp2
    go_ret2
    exact ⟨_, rfl, .inr ⟨by omega, N, rfl⟩, hB.trans (h3.mono hB.size)⟩
end
end Go.Proofs
namespace Go.Proofs.YtipjblnjaicbfaaGreatDoor
open Go Go.Fw Go.Proofs Go.RowKit
theorem fi_ext {L : Laid} (hL : ∀ w, L.on w → Lib.TabIs Tryz.prog w "internal/strconv.uint64pow10" .u64 Lib.pow10Tab) : ExtOk Tryz.prog L LMq.I178 := by
  refine extOk_of (I := LMq.I178) (g := fun x => if x.2.1 = 10 ∧ -9223372036854775808 ≤ x.1 ∧ x.1 ≤ 9223372036854775807 then some (((⟨(Lib.itoa x.1).toArray⟩ : ByteArray), ()), ()) else none) (fn := Tryz.f178) (code := bd Tryz.f178) rfl Tryz.func178 (by kernel_rfl) (by kernel_rfl) ?_
  intro x r o w vals okc Fs hg hA hok hon
  obtain ⟨a, b, u⟩ := x
  change Int at a
  change Int at b
  obtain ⟨c1, v1, F1, F2, e1, e2, h1, c2, v2, F3, F4, e3, e4, h2, e5, e6⟩ := hA
  simp only [ShR, Rep] at h1 h2
  obtain ⟨_, rfl⟩ := h1
  obtain ⟨_, rfl⟩ := h2
  split at hg
  · rename_i hx
    have hx : b = 10 ∧ -9223372036854775808 ≤ a ∧ a ≤ 9223372036854775807 := hx
    obtain ⟨rfl, ha, hb⟩ := hx
    injection hg with hg
    injection hg with h1 h2
    subst h1
    subst e5
    subst e3
    subst e1
    refine (Tryz.strconv_FormatInt_10 a ha hb w (hL w hon)).mono fun e w' ⟨he, k, os, hw⟩ => ?_
    subst hw
    refine ⟨_, he, post_plain (xs := [.string ⟨(Lib.itoa a).toArray⟩]) ?_ ?_ hok ?_⟩
    · exact ⟨[.string ⟨(Lib.itoa a).toArray⟩], [], [], [], rfl, rfl, ⟨rfl, rfl⟩, rfl, rfl⟩
    · exact ⟨_, _, rfl, _, _, rfl, rfl⟩
    · exact keptBut_below rfl rfl rfl (by simp [Go.Sort.grow, World.drewN]) (fun b hb => by simp [Go.Sort.grow, World.drewN, Array.getElem?_append_left hb])
  · cases hg
theorem repL_str {w : World} {ok : Nat → Prop} : ∀ {l : List ByteArray} {es : List Value}, RepL (Rep w ok .str) l es → es = l.map Value.string
  | [], _, h => h
  | n :: l, es, h => by
    obtain ⟨c, d, e, h1, h2⟩ := h
    have h1 : c = [.string n] := h1
    rw [e, h1, repL_str h2]; rfl
theorem addr_add (g j : Nat) : (⟨g, 0, none⟩ : Addr).add j = ⟨g, 0 + j, none⟩ := by unfold Addr.add; split <;> simp_all
theorem jn_ext {L : Laid} : ExtOk Tryz.prog L LMq.I106 := by
  refine extOk_of2 (I := LMq.I106) (g := fun x => if x.1.length ≤ 140737488355328 ∧ (Lib.join (x.1.map fun s => s.data.toList) x.2.1.data.toList).length ≤ 140737488355328 then some (((⟨(Lib.join (x.1.map fun s => s.data.toList) x.2.1.data.toList).toArray⟩ : ByteArray), ()), (x.1, ())) else none) (fn := Tryz.f106) (code := bd Tryz.f106) rfl Tryz.func106 (by kernel_rfl) (by kernel_rfl) ?_
  intro x r o w vals okc Fs hg hA hnd hF hok hon
  obtain ⟨l, s, u⟩ := x
  change List ByteArray at l
  change ByteArray at s
  have hA0 : ArgsR w okc [(Sh.row false .str, true), (Sh.ro .str, false)] (l, s, ()) vals Fs := hA
  have hz : ∀ (w' : World) (y : ByteArray) (ok : Nat → Prop), ShR w' ok (Sh.ro .str) y [.string y] [] := fun w' y ok => by simp [ShR, Rep]
  obtain ⟨c1, v1, F1, F2, e1, e2, h1, c2, v2, F3, F4, e3, e4, h2, e5, e6⟩ := hA
  simp only [ShR, Rep] at h1 h2
  obtain ⟨_, rfl⟩ := h2
  obtain ⟨hd, es, G1, G2, rfl, eG, hrow, hG2, hrep⟩ := h1
  have hes := repL_str (w := w) (ok := okc) hrep
  have ev : vals.toArray = #[hd, .string s] := by rw [e1, e3, e5]; rfl
  split at hg
  · rename_i hx
    have hx : l.length ≤ 140737488355328 ∧ (Lib.join (l.map fun s => s.data.toList) s.data.toList).length ≤ 140737488355328 := hx
    injection hg with hg
    injection hg with h1 h2
    subst h1
    subst h2
    obtain ⟨A, cap, ehd, hn, hlen, hc⟩ := hrow
    show Calls Tryz.prog 106 vals.toArray w _
    rw [ev, ehd]
    rcases hc with ⟨hc0, _⟩ | ⟨g, cur, te, hA1, hG1, hb, _, he⟩
    · have hl : l = [] := List.length_eq_zero_iff.1 (by omega)
      subst hl
      refine (Tryz.strings_Join_none A cap s w).mono fun e w' ⟨he, hw⟩ => ?_
      subst hw
      exact ⟨_, he, post_row rfl rfl hA0 hnd hF hok (hz _ _) rfl (KeptBut.refl _ _)⟩
    · subst hA1
      have hg : g < w.heap.size := (Array.getElem?_eq_some_iff.1 hb).1
      have hcl := cellsAt_block hb (l.length * Ty.size .str)
      rw [← he, hes] at hcl
      refine (Tryz.strings_Join g 0 cap l s w (fun j x hj => ?_) hg hx.1 hn hx.2).mono fun e w' ⟨he, hw⟩ => ?_
      · have h0 := hcl j (.string x) (by rw [List.getElem?_map, hj]; rfl)
        have hadd : (⟨g, 0, none⟩ : Addr).add j = ⟨g, 0 + j, none⟩ := addr_add g j
        rwa [hadd] at h0
      · exact ⟨_, he, post_row rfl rfl hA0 hnd hF hok (hz _ _) rfl (keptBut_below hw.os hw.tape hw.output hw.size hw.block)⟩
  · cases hg
theorem repL_strn {w : World} {ok : Nat → Prop} : ∀ l : List ByteArray, RepL (Rep w ok .str) l (l.map Value.string)
  | [] => rfl
  | n :: l => ⟨[.string n], l.map Value.string, rfl, rfl, repL_strn l⟩
theorem cellsOf_take (l : List ByteArray) (N : Nat) : ((Lib.cellsOf l N).toList.take l.length) = l.map Value.string := by
  unfold Lib.cellsOf
  simp
theorem spn_ext {L : Laid} (hL : ∀ w, L.on w → ∃ m, w.cell? ⟨1, 0, none⟩ = some (.int .i64 m)) : ExtOk Tryz.prog L LMq.I85 := by
  refine extOk_of (I := LMq.I85) (g := fun x => if x.1.size < 4294967281 ∧ 1 ≤ x.2.1.size ∧ 1 ≤ x.2.2.1 ∧ x.2.2.1 ≤ 1000 then some ((Lib.splitB x.2.1 0 (min x.2.2.1.toNat (x.1.size + 1) - 1) x.1, ()), ()) else none) (fn := Tryz.f85) (code := bd Tryz.f85) rfl Tryz.func85 (by kernel_rfl) (by kernel_rfl) ?_
  intro x r o w vals okc Fs hg hA hok hon
  obtain ⟨a, b, k, u⟩ := x
  change ByteArray at a
  change ByteArray at b
  change Int at k
  obtain ⟨c1, v1, F1, F2, e1, e2, h1, c2, v2, F3, F4, e3, e4, h2, c3, v3, F5, F6, e5, e6, h3, e7, e8⟩ := hA
  simp only [ShR, Rep] at h1 h2 h3
  obtain ⟨rfl, rfl⟩ := h1
  obtain ⟨rfl, rfl⟩ := h2
  obtain ⟨rfl, rfl⟩ := h3
  subst e8
  split at hg
  · rename_i hx
    have hx : a.size < 4294967281 ∧ 1 ≤ b.size ∧ 1 ≤ k ∧ k ≤ 1000 := hx
    obtain ⟨hx1, hx2, hk1, hk2⟩ := hx
    injection hg with hg
    injection hg with h1 h2
    subst h1
    subst e7
    subst e5
    subst e3
    subst e1
    have eF : Fs = [] := by rw [e2, e4, e6]; rfl
    subst eF
    obtain ⟨m, hm⟩ := hL w hon
    obtain ⟨j, rfl⟩ := Int.eq_ofNat_of_zero_le (show 0 ≤ k by omega)
    have hlen := Lib.splitB_length_le b 0 (min j (a.size + 1) - 1) a
    have hcs := Lib.cellsOf_size (done := Lib.splitB b 0 (min j (a.size + 1) - 1) a) (N := min j (a.size + 1)) (by omega)
    refine (Tryz.strings_SplitN a b j m w hx1 hm hx2 (by omega) (by omega)).mono fun e w' ⟨he, hw⟩ => ?_
    show ∃ _, _
    have ej : ((j : Int)).toNat = j := rfl
    rw [ej]
    generalize Lib.splitB b 0 (min j (a.size + 1) - 1) a = l at hlen hcs he hw ⊢
    generalize hN : min j (a.size + 1) = N at hlen hcs he hw
    have hblk : w'.heap[w.heap.size]? = some (.cells (Lib.cellsOf l N) 9 (0, 0)) := by rw [hw]; unfold World.alloc; simp
    have hsz : w'.heap.size = w.heap.size + 1 := by rw [hw]; unfold World.alloc; simp
    refine ⟨_, he, [.slice (some ⟨w.heap.size, 0, none⟩) l.length N], [w.heap.size], [], okc, rfl, ⟨_, [], [w.heap.size], [], rfl, rfl, ⟨_, l.map Value.string, [w.heap.size], [], rfl, rfl, ⟨some ⟨w.heap.size, 0, none⟩, N, rfl, (show l.length ≤ N by omega), by simp [Ty.size], .inr ⟨w.heap.size, _, 9, rfl, rfl, hblk, by simp [Ty.size, hcs], by rw [← cellsOf_take l N]; simp [Ty.size]⟩⟩, rfl, repL_strn _⟩, rfl, rfl⟩, ⟨_, _, rfl, _, _, rfl, _, _, rfl, rfl⟩, by simp, fun b hb => ?_, fun b hb => ?_, ?_⟩
    · have hb : b = w.heap.size := by simpa using hb
      exact ⟨by omega, .inl (by omega)⟩
    · have := hok b hb
      exact ⟨by omega, .inl hb, by simp; omega⟩
    · rw [hw]
      exact keptBut_below rfl rfl rfl (by unfold World.alloc; simp) (fun b hb => by unfold World.alloc; simp [Array.getElem?_push, show b ≠ w.heap.size by omega])
  · cases hg
theorem ts_ext {L : Laid} : ExtOk Tryz.prog L LMq.I87 := by
  refine extOk_of (I := LMq.I87) (g := fun x => if x.1.size ≤ 4294967281 then some (((⟨(Lib.trimSuffix x.1.data.toList x.2.1.data.toList).toArray⟩ : ByteArray), ()), ()) else none) (fn := Tryz.f87) (code := bd Tryz.f87) rfl Tryz.func87 (by kernel_rfl) (by kernel_rfl) ?_
  intro x r o w vals okc Fs hg hA hok hon
  obtain ⟨a, b, u⟩ := x
  change ByteArray at a
  change ByteArray at b
  obtain ⟨c1, v1, F1, F2, e1, e2, h1, c2, v2, F3, F4, e3, e4, h2, e5, e6⟩ := hA
  simp only [ShR, Rep] at h1 h2
  obtain ⟨_, rfl⟩ := h1
  obtain ⟨_, rfl⟩ := h2
  split at hg
  · rename_i hx
    have hx : a.size ≤ 4294967281 := hx
    injection hg with hg
    injection hg with h1 h2
    subst h1
    subst e5
    subst e3
    subst e1
    refine (Tryz.strings_TrimSuffix a b w (by omega)).mono fun e w' ⟨he, hw⟩ => ?_
    subst hw
    refine ⟨_, he, post_plain (xs := [.string ⟨(Lib.trimSuffix a.data.toList b.data.toList).toArray⟩]) ?_ ?_ hok (KeptBut.refl _ _)⟩
    · exact ⟨[.string ⟨(Lib.trimSuffix a.data.toList b.data.toList).toArray⟩], [], [], [], rfl, rfl, ⟨rfl, rfl⟩, rfl, rfl⟩
    · exact ⟨_, _, rfl, _, _, rfl, rfl⟩
  · cases hg
theorem cut_ext {L : Laid} (hL : ∀ w, L.on w → ∃ m, w.cell? ⟨1, 0, none⟩ = some (.int .i64 m)) : ExtOk Tryz.prog L LMq.I86 := by
  refine extOk_of (I := LMq.I86) (g := fun x => if x.1.size < 4294967281 then some (((⟨(Lib.cut x.1.data.toList x.2.1.data.toList).1.toArray⟩ : ByteArray), (⟨(Lib.cut x.1.data.toList x.2.1.data.toList).2.1.toArray⟩ : ByteArray), (Lib.cut x.1.data.toList x.2.1.data.toList).2.2, ()), ()) else none) (fn := Tryz.f86) (code := bd Tryz.f86) rfl Tryz.func86 (by kernel_rfl) (by kernel_rfl) ?_
  intro x r o w vals okc Fs hg hA hok hon
  obtain ⟨a, b, u⟩ := x
  change ByteArray at a
  change ByteArray at b
  obtain ⟨c1, v1, F1, F2, e1, e2, h1, c2, v2, F3, F4, e3, e4, h2, e5, e6⟩ := hA
  simp only [ShR, Rep] at h1 h2
  obtain ⟨_, rfl⟩ := h1
  obtain ⟨_, rfl⟩ := h2
  split at hg
  · rename_i hx
    have hx : a.size < 4294967281 := hx
    injection hg with hg
    injection hg with h1 h2
    subst h1
    subst e5
    subst e3
    subst e1
    obtain ⟨m, hm⟩ := hL w hon
    refine (Tryz.strings_Cut a b m w hx hm).mono fun e w' ⟨he, n, hw⟩ => ?_
    subst hw
    refine ⟨_, he, post_plain (xs := [.string ⟨(Lib.cut a.data.toList b.data.toList).1.toArray⟩, .string ⟨(Lib.cut a.data.toList b.data.toList).2.1.toArray⟩, .bool (Lib.cut a.data.toList b.data.toList).2.2]) ?_ ?_ hok ?_⟩
    · exact ⟨[.string ⟨(Lib.cut a.data.toList b.data.toList).1.toArray⟩], [.string ⟨(Lib.cut a.data.toList b.data.toList).2.1.toArray⟩, .bool (Lib.cut a.data.toList b.data.toList).2.2], [], [], rfl, rfl, ⟨rfl, rfl⟩, [.string ⟨(Lib.cut a.data.toList b.data.toList).2.1.toArray⟩], [.bool (Lib.cut a.data.toList b.data.toList).2.2], [], [], rfl, rfl, ⟨rfl, rfl⟩, [.bool (Lib.cut a.data.toList b.data.toList).2.2], [], [], [], rfl, rfl, ⟨rfl, rfl⟩, rfl, rfl⟩
    · exact ⟨_, _, rfl, _, _, rfl, rfl⟩
    · exact keptBut_below rfl rfl rfl (Nat.le_refl _) (fun b _ => rfl)
  · cases hg
theorem repL_strs {w : World} {ok : Nat → Prop} : ∀ l : List ByteArray, RepL (Rep w ok .str) l (l.map Value.string)
  | [] => rfl
  | n :: l => ⟨[.string n], l.map Value.string, rfl, rfl, repL_strs l⟩
theorem sp_ext {L : Laid} (hL : ∀ w, L.on w → ∃ m, w.cell? ⟨1, 0, none⟩ = some (.int .i64 m)) : ExtOk Tryz.prog L LMq.I90 := by
  refine extOk_of (I := LMq.I90) (g := fun x => if x.1.size < 4294967281 ∧ 1 ≤ x.2.1.size then some ((Lib.splitB x.2.1 0 (Lib.countB x.1 x.2.1) x.1, ()), ()) else none) (fn := Tryz.f90) (code := bd Tryz.f90) rfl Tryz.func90 (by kernel_rfl) (by kernel_rfl) ?_
  intro x r o w vals okc Fs hg hA hok hon
  obtain ⟨a, b, u⟩ := x
  change ByteArray at a
  change ByteArray at b
  obtain ⟨c1, v1, F1, F2, e1, e2, h1, c2, v2, F3, F4, e3, e4, h2, e5, e6⟩ := hA
  simp only [ShR, Rep] at h1 h2
  obtain ⟨rfl, rfl⟩ := h1
  obtain ⟨rfl, rfl⟩ := h2
  subst e6
  split at hg
  · rename_i hx
    have hx : a.size < 4294967281 ∧ 1 ≤ b.size := hx
    injection hg with hg
    injection hg with h1 h2
    subst h1
    subst e5
    subst e3
    subst e1
    have eF : Fs = [] := by rw [e2, e4]; rfl
    subst eF
    obtain ⟨m, hm⟩ := hL w hon
    have hlen := Lib.splitB_all b hx.2 0 (Lib.countB a b) a rfl
    refine (Tryz.strings_Split a b m w hx.1 hm hx.2).mono fun e w' ⟨he, hw⟩ => ?_
    have hblk : w'.heap[w.heap.size]? = some (.cells ((Lib.splitB b 0 (Lib.countB a b) a).map Value.string).toArray 9 (0, 0)) := by rw [hw]; unfold World.alloc; simp
    have hsz : w'.heap.size = w.heap.size + 1 := by rw [hw]; unfold World.alloc; simp
    refine ⟨_, he, [.slice (some ⟨w.heap.size, 0, none⟩) (Lib.countB a b + 1) (Lib.countB a b + 1)], [w.heap.size], [], okc, rfl, ⟨_, [], [w.heap.size], [], rfl, rfl, ⟨_, (Lib.splitB b 0 (Lib.countB a b) a).map Value.string, [w.heap.size], [], rfl, rfl, ⟨some ⟨w.heap.size, 0, none⟩, Lib.countB a b + 1, by rw [hlen], by rw [hlen]; exact Nat.le_refl _, by simp [Ty.size], .inr ⟨w.heap.size, _, 9, rfl, rfl, hblk, by simp [Ty.size, hlen], by rw [List.take_of_length_le (by simp [Ty.size, hlen])]⟩⟩, rfl, repL_strs _⟩, rfl, rfl⟩, ⟨_, _, rfl, _, _, rfl, rfl⟩, by simp, fun b hb => ?_, fun b hb => ?_, ?_⟩
    · have hb : b = w.heap.size := by simpa using hb
      exact ⟨by omega, .inl (by omega)⟩
    · have := hok b hb
      exact ⟨by omega, .inl hb, by simp; omega⟩
    · rw [hw]
      exact keptBut_below rfl rfl rfl (by unfold World.alloc; simp) (fun b hb => by unfold World.alloc; simp [Array.getElem?_push, show b ≠ w.heap.size by omega])
  · cases hg
theorem pi_ext {L : Laid} (hS : ∀ w, L.on w → ∃ ev, w.cell? ⟨2, 0, none⟩ = some ev ∧ (ev = .nilIface ∨ ∃ te pe, ev = .iface te pe)) (hR : ∀ w, L.on w → ∃ ev, w.cell? ⟨3, 0, none⟩ = some ev ∧ (ev = .nilIface ∨ ∃ te pe, ev = .iface te pe)) : ExtOk Tryz.prog L LMq.I176 := by
  refine extOk_of (I := LMq.I176) (g := fun x => if x.1.size ≤ 281474976710656 ∧ x.2.1 = 10 ∧ x.2.2.1 = 64 then (match Lib.parseIntB 64 x.1.data.toList with | .ok v => some ((v, false, ()), ()) | .range => some ((Lib.intSat 64 x.1.data.toList, true, ()), ()) | _ => some (((0 : Int), true, ()), ())) else if x.1.size ≤ 281474976710656 ∧ x.2.1 = 10 ∧ x.2.2.1 = 8 then (match Lib.parseIntB 8 x.1.data.toList with | .ok v => some ((v, false, ()), ()) | .range => some ((Lib.intSat 8 x.1.data.toList, true, ()), ()) | _ => some (((0 : Int), true, ()), ())) else none) (fn := Tryz.f176) (code := bd Tryz.f176) rfl Tryz.func176 (by kernel_rfl) (by kernel_rfl) ?_
  intro x r o w vals okc Fs hg hA hok hon
  obtain ⟨a, b, c, u⟩ := x
  change ByteArray at a
  change Int at b
  change Int at c
  obtain ⟨c1, v1, F1, F2, e1, e2, h1, c2, v2, F3, F4, e3, e4, h2, c3, v3, F5, F6, e5, e6, h3, e7, e8⟩ := hA
  simp only [ShR, Rep] at h1 h2 h3
  obtain ⟨_, rfl⟩ := h1
  obtain ⟨_, rfl⟩ := h2
  obtain ⟨_, rfl⟩ := h3
  have ev : vals = [.string a, .int .i64 b, .int .i64 c] := by rw [e1, e3, e5, e7]; rfl
  subst ev
  split at hg
  · rename_i hx
    have hx : a.size ≤ 281474976710656 ∧ b = 10 ∧ c = 64 := hx
    obtain ⟨ha, rfl, rfl⟩ := hx
    have bad : ∀ (v : Int) (e : Ending) (w' : World), (∃ N, e = .returned (.tuple #[.int .i64 v, .iface 252 (.pointer (some ⟨N, 0, none⟩))]) ∧ Below w.heap.size w w') → ∃ z, e = .returned z ∧ Post w okc Fs (LMq.I176).params (LMq.I176).res (v, true, ()) o [.string a, .int .i64 10, .int .i64 64] z w' := fun v e w' ⟨N, he, hB⟩ => by
      refine ⟨_, he, post_plain (xs := [.int .i64 v, .iface 252 (.pointer (some ⟨N, 0, none⟩))]) ?_ ?_ hok (keptBut_below hB.os hB.tape hB.output hB.size hB.block)⟩
      · exact ⟨[.int .i64 v], [.iface 252 (.pointer (some ⟨N, 0, none⟩))], [], [], rfl, rfl, ⟨rfl, rfl⟩, [.iface 252 (.pointer (some ⟨N, 0, none⟩))], [], [], [], rfl, rfl, ⟨rfl, .inr ⟨rfl, _, _, rfl⟩⟩, rfl, rfl⟩
      · exact ⟨_, _, rfl, _, _, rfl, _, _, rfl, rfl⟩
    have hg : (match Lib.parseIntB 64 a.data.toList with | .ok v => some (((v, false, ()) : Int × Bool × Unit), ()) | .range => some ((Lib.intSat 64 a.data.toList, true, ()), ()) | _ => some (((0 : Int), true, ()), ())) = some (r, o) := hg
    rcases hv : Lib.parseIntB 64 a.data.toList with v | _ | _
    · rw [hv] at hg
      injection hg with hg
      injection hg with h1 h2
      subst h1
      refine (Any.strconv_ParseInt_10_at64_ok Tryz.laysC174 a (by omega) v hv w).mono fun e w' ⟨he, hw⟩ => ?_
      refine ⟨_, he, post_plain (xs := [.int .i64 v, .nilIface]) ?_ ?_ hok ?_⟩
      · exact ⟨[.int .i64 v], [.nilIface], [], [], rfl, rfl, ⟨rfl, rfl⟩, [.nilIface], [], [], [], rfl, rfl, ⟨rfl, .inl ⟨rfl, rfl⟩⟩, rfl, rfl⟩
      · exact ⟨_, _, rfl, _, _, rfl, _, _, rfl, rfl⟩
      · rcases hw with rfl | ⟨t, rfl⟩
        · exact KeptBut.refl _ _
        · have hB := Lib.bytesWorld_below w 5 t
          exact keptBut_below hB.os hB.tape hB.output hB.size hB.block
    · rw [hv] at hg
      injection hg with hg
      injection hg with h1 h2
      subst h1
      obtain ⟨ev, h3, h4⟩ := hS w hon
      exact (Any.strconv_ParseInt_10_at64_syntax Tryz.laysC174 a ha hv ev w h3 h4).mono fun e w' ⟨N, he, _, _, hB⟩ => bad 0 e w' ⟨N, he, hB⟩
    · rw [hv] at hg
      injection hg with hg
      injection hg with h1 h2
      subst h1
      obtain ⟨ev, h3, h4⟩ := hR w hon
      exact (Any.strconv_ParseInt_10_at64_range Tryz.laysC174 a ha hv ev w h3 h4).mono fun e w' ⟨N, he, _, _, hB⟩ => bad _ e w' ⟨N, he, hB⟩
  · split at hg
    · rename_i hx
      have hx : a.size ≤ 281474976710656 ∧ b = 10 ∧ c = 8 := hx
      obtain ⟨ha, rfl, rfl⟩ := hx
      have bad : ∀ (v : Int) (e : Ending) (w' : World), (∃ N, e = .returned (.tuple #[.int .i64 v, .iface 252 (.pointer (some ⟨N, 0, none⟩))]) ∧ Below w.heap.size w w') → ∃ z, e = .returned z ∧ Post w okc Fs (LMq.I176).params (LMq.I176).res (v, true, ()) o [.string a, .int .i64 10, .int .i64 8] z w' := fun v e w' ⟨N, he, hB⟩ => by
        refine ⟨_, he, post_plain (xs := [.int .i64 v, .iface 252 (.pointer (some ⟨N, 0, none⟩))]) ?_ ?_ hok (keptBut_below hB.os hB.tape hB.output hB.size hB.block)⟩
        · exact ⟨[.int .i64 v], [.iface 252 (.pointer (some ⟨N, 0, none⟩))], [], [], rfl, rfl, ⟨rfl, rfl⟩, [.iface 252 (.pointer (some ⟨N, 0, none⟩))], [], [], [], rfl, rfl, ⟨rfl, .inr ⟨rfl, _, _, rfl⟩⟩, rfl, rfl⟩
        · exact ⟨_, _, rfl, _, _, rfl, _, _, rfl, rfl⟩
      have hg : (match Lib.parseIntB 8 a.data.toList with | .ok v => some (((v, false, ()) : Int × Bool × Unit), ()) | .range => some ((Lib.intSat 8 a.data.toList, true, ()), ()) | _ => some (((0 : Int), true, ()), ())) = some (r, o) := hg
      rcases hv : Lib.parseIntB 8 a.data.toList with v | _ | _
      · rw [hv] at hg
        injection hg with hg
        injection hg with h1 h2
        subst h1
        refine (Any.strconv_ParseInt_10_at8_ok Tryz.laysC174 a (by omega) v hv w).mono fun e w' ⟨he, hw⟩ => ?_
        refine ⟨_, he, post_plain (xs := [.int .i64 v, .nilIface]) ?_ ?_ hok ?_⟩
        · exact ⟨[.int .i64 v], [.nilIface], [], [], rfl, rfl, ⟨rfl, rfl⟩, [.nilIface], [], [], [], rfl, rfl, ⟨rfl, .inl ⟨rfl, rfl⟩⟩, rfl, rfl⟩
        · exact ⟨_, _, rfl, _, _, rfl, _, _, rfl, rfl⟩
        · rcases hw with rfl | ⟨t, rfl⟩
          · exact KeptBut.refl _ _
          · have hB := Lib.bytesWorld_below w 5 t
            exact keptBut_below hB.os hB.tape hB.output hB.size hB.block
      · rw [hv] at hg
        injection hg with hg
        injection hg with h1 h2
        subst h1
        obtain ⟨ev, h3, h4⟩ := hS w hon
        exact (Any.strconv_ParseInt_10_at8_syntax Tryz.laysC174 a ha hv ev w h3 h4).mono fun e w' ⟨N, he, _, _, hB⟩ => bad 0 e w' ⟨N, he, hB⟩
      · rw [hv] at hg
        injection hg with hg
        injection hg with h1 h2
        subst h1
        obtain ⟨ev, h3, h4⟩ := hR w hon
        exact (Any.strconv_ParseInt_10_at8_range Tryz.laysC174 a ha hv ev w h3 h4).mono fun e w' ⟨N, he, _, _, hB⟩ => bad _ e w' ⟨N, he, hB⟩
    · cases hg
theorem repL_ints {w : World} {ok : Nat → Prop} {k : IntKind} : ∀ l : List Int, RepL (Rep w ok (.int k)) l (l.map (Value.int k))
  | [] => rfl
  | n :: l => ⟨[.int k n], l.map (Value.int k), rfl, rfl, repL_ints l⟩
theorem rep_ext {L : Laid} : ExtOk Tryz.prog L LMq.I167 := by
  refine extOk_of (I := LMq.I167) (g := fun x => if x.1.length = 1 ∧ 1 ≤ x.2.1 ∧ x.2.1 ≤ 360 then some ((List.replicate x.2.1.toNat (x.1.headD 0), ()), ()) else none) (fn := Tryz.f167) (code := bd Tryz.f167) rfl Tryz.func167 (by kernel_rfl) (by kernel_rfl) ?_
  intro x r o w vals okc Fs hg hA hok hon
  obtain ⟨l, n, u⟩ := x
  change List Int at l
  change Int at n
  obtain ⟨c1, v1, F1, F2, e1, e2, h1, c2, v2, F3, F4, e3, e4, h2, e5, e6⟩ := hA
  simp only [ShR] at h1 h2
  obtain ⟨rfl, A, cap, rfl, hcap, h1⟩ := h1
  obtain ⟨rfl, h2⟩ := h2
  have h2 : c2 = [.int .i64 n] := h2
  subst h2
  split at hg
  · rename_i hx
    have hx : l.length = 1 ∧ 1 ≤ n ∧ n ≤ 360 := hx
    injection hg with hg
    injection hg with hg1 hg2
    subst hg1
    obtain ⟨hl, hn1, hn2⟩ := hx
    obtain ⟨v, rfl⟩ : ∃ v, l = [v] := by
      match l, hl with
      | [v], _ => exact ⟨v, rfl⟩
    obtain ⟨n, rfl⟩ := Int.eq_ofNat_of_zero_le (show 0 ≤ n by omega)
    rcases h1 with h1 | ⟨a, es, rfl, hoka, hlt, hcl, hrep⟩
    · cases h1
    obtain ⟨c, d, rfl, hc, hd⟩ := hrep
    have hc : c = [.int .i16 v] := hc
    subst hc
    have hcell : w.cell? a = some (.int .i16 v) := by
      have h0 := hcl 0 (.int .i16 v) rfl
      have ha : a.add 0 = a := by simp [Addr.add]
      rwa [ha] at h0
    have ev : vals = [.slice (some a) 1 cap, .int .i64 (n : Int)] := by rw [e1, e3, e5]; rfl
    subst ev
    have eF : Fs = [] := by rw [e2, e4, e6]; rfl
    subst eF
    refine (repeat_walk v a cap n (by omega) (by omega) w hcell hlt).mono fun e w' ⟨he, hblk, hB⟩ => ?_
    have hsz : w.heap.size < w'.heap.size := (Array.getElem?_eq_some_iff.1 hblk).1
    refine ⟨_, he, [.slice (some ⟨w.heap.size, 0, none⟩) n n], [w.heap.size], [], okc, rfl, ⟨_, [], [w.heap.size], [], rfl, rfl, ⟨_, (List.replicate n v).map (Value.int .i16), [w.heap.size], [], rfl, rfl, ⟨some ⟨w.heap.size, 0, none⟩, n, ?_, ?_, by simp [Ty.size], .inr ⟨w.heap.size, _, 40, rfl, rfl, hblk, by simp [Ty.size], ?_⟩⟩, rfl, repL_ints _⟩, rfl, rfl⟩, ⟨_, _, rfl, _, _, rfl, rfl⟩, by simp, fun b hb => ?_, fun b hb => ?_, keptBut_below hB.os hB.tape hB.output hB.size hB.block⟩
    · simp
    · simp
    · simp [Ty.size]
    · have hb : b = w.heap.size := by simpa using hb
      exact ⟨by omega, .inl (by omega)⟩
    · have := hok b hb
      exact ⟨by omega, .inl hb, by simp; omega⟩
  · cases hg
theorem fu_ext {L : Laid} (hL : ∀ w, L.on w → TabAt 0 Lib.deBruijn64tab w) : ExtOk Tryz.prog L LMq.I170 := by
  refine extOk_of (I := LMq.I170) (g := fun x => if 0 ≤ x.1 ∧ x.1 < 18446744073709551616 ∧ x.2.1 = 16 then some (((⟨(hexD x.1.toNat).toArray⟩ : ByteArray), ()), ()) else none) (fn := Tryz.f170) (code := bd Tryz.f170) rfl Tryz.func170 (by kernel_rfl) (by kernel_rfl) ?_
  intro x r o w vals okc Fs hg hA hok hon
  obtain ⟨a, b, u⟩ := x
  change Int at a
  change Int at b
  obtain ⟨c1, v1, F1, F2, e1, e2, h1, c2, v2, F3, F4, e3, e4, h2, e5, e6⟩ := hA
  simp only [ShR, Rep] at h1 h2
  obtain ⟨_, rfl⟩ := h1
  obtain ⟨_, rfl⟩ := h2
  split at hg
  · rename_i hx
    have hx : 0 ≤ a ∧ a < 18446744073709551616 ∧ b = 16 := hx
    obtain ⟨hx0, hx1, rfl⟩ := hx
    obtain ⟨n, rfl⟩ := Int.eq_ofNat_of_zero_le hx0
    injection hg with hg
    injection hg with h1 h2
    subst h1
    subst e5
    subst e3
    subst e1
    refine (fu_calls n (by omega) w (hL w hon)).mono fun e w' ⟨he, hB⟩ => ?_
    refine ⟨_, he, post_plain (xs := [.string ⟨(hexD n).toArray⟩]) ?_ ?_ hok (keptBut_below hB.os hB.tape hB.output hB.size hB.block)⟩
    · exact ⟨[.string ⟨(hexD n).toArray⟩], [], [], [], rfl, rfl, ⟨rfl, rfl⟩, rfl, rfl⟩
    · exact ⟨_, _, rfl, _, _, rfl, rfl⟩
  · cases hg
theorem repL48 : ∀ c : Nat, Lib.repeatL [48] c = List.replicate c 48
  | 0 => rfl
  | c + 1 => by
    have ih := repL48 c
    simp [Lib.repeatL, List.replicate_succ] at ih ⊢
    exact ih
theorem rp_ext {L : Laid} : ExtOk Tryz.prog L LMq.I171 := by
  refine extOk_of (I := LMq.I171) (g := fun x => if x.1.data = #[48] ∧ 0 ≤ x.2.1 ∧ x.2.1 ≤ 15 then some (((⟨(List.replicate x.2.1.toNat (48 : UInt8)).toArray⟩ : ByteArray), ()), ()) else none) (fn := Tryz.f171) (code := bd Tryz.f171) rfl Tryz.func171 (by kernel_rfl) (by kernel_rfl) ?_
  intro x r o w vals okc Fs hg hA hok hon
  obtain ⟨a, b, u⟩ := x
  change ByteArray at a
  change Int at b
  obtain ⟨c1, v1, F1, F2, e1, e2, h1, c2, v2, F3, F4, e3, e4, h2, e5, e6⟩ := hA
  simp only [ShR, Rep] at h1 h2
  obtain ⟨_, rfl⟩ := h1
  obtain ⟨_, rfl⟩ := h2
  split at hg
  · rename_i hx
    have hx : a.data = #[48] ∧ 0 ≤ b ∧ b ≤ 15 := hx
    obtain ⟨hx0, hx1, hx2⟩ := hx
    obtain ⟨n, rfl⟩ := Int.eq_ofNat_of_zero_le hx1
    obtain ⟨ad⟩ := a
    have hx0 : ad = #[48] := hx0
    subst hx0
    injection hg with hg
    injection hg with h1 h2
    subst h1
    subst e5
    subst e3
    subst e1
    have hsz : (⟨#[48]⟩ : ByteArray).size = 1 := rfl
    have hr := Tryz.strings_Repeat ⟨#[48]⟩ n w (by omega) (by rw [hsz]; omega)
    rw [show (⟨#[48]⟩ : ByteArray).data.toList = [48] from rfl, repL48] at hr
    refine hr.mono fun e w' ⟨he, hB⟩ => ?_
    refine ⟨_, he, post_plain (xs := [.string ⟨(List.replicate n (48 : UInt8)).toArray⟩]) ?_ ?_ hok (keptBut_below hB.os hB.tape hB.output hB.size hB.block)⟩
    · exact ⟨[.string ⟨(List.replicate n (48 : UInt8)).toArray⟩], [], [], [], rfl, rfl, ⟨rfl, rfl⟩, rfl, rfl⟩
    · exact ⟨_, _, rfl, _, _, rfl, rfl⟩
  · cases hg
theorem strOwn {w : World} {g : Nat} {x : ByteArray} {v : Value} {F : List Nat} (h : (v = .slice none 0 0 ∧ x.size = 0 ∧ F = []) ∨ ∃ b cap cur, 0 < x.size ∧ v = .slice (some ⟨b, 0, none⟩) x.size cap ∧ F = [b] ∧ b ≠ g ∧ w.heap[b]? = some (.cells cur 5 (0, 0)) ∧ x.size ≤ cap ∧ cap ≤ maxLen ∧ cur.size = cap ∧ cur.toList.take x.size = x.data.toList.map (fun c => Value.int .u8 c.toNat)) :
    w.ownsRow 0 5 1 v x.size (Lib.strCells x) ∧ v.ownBlock ≠ some g ∧ (∀ k, some k = v.ownBlock → k ∈ F) := by
  have hl : (Lib.strCells x).length = x.size * 1 := by rw [Lib.strCells_length, Nat.mul_one]
  rcases h with ⟨rfl, hx, rfl⟩ | ⟨b, cap, cur, h0, rfl, rfl, hne, hb, h1, h2, h3, h4⟩
  · exact ⟨⟨hl, .inl ⟨rfl, hx⟩⟩, by simp [Value.ownBlock], by simp [Value.ownBlock]⟩
  · refine ⟨⟨hl, .inr ⟨b, cap, cur, rfl, Nat.zero_le _, hb, h1, h2, by rw [Nat.mul_one]; exact h3, by rw [Nat.mul_one, h4]; rfl⟩⟩, by simpa [Value.ownBlock] using hne, by simp [Value.ownBlock]⟩
theorem bw_ext {L : Laid} : ExtOk Tryz.prog L LMq.I92 := by
  refine extOk_of2 (I := LMq.I92) (g := fun x => if x.1.size + x.2.1.size ≤ 140737488355328 then some ((((x.2.1.size : Nat) : Int), false, ()), (x.1 ++ x.2.1, ())) else none) (fn := Tryz.f92) (code := bd Tryz.f92) rfl Tryz.func92 (by kernel_rfl) (by kernel_rfl) ?_
  intro x r o w vals okc Fs hg hA hnd hF hok hon
  obtain ⟨a, b, u⟩ := x
  change ByteArray at a
  change ByteArray at b
  obtain ⟨c1, v1, F1, F2, e1, e2, h1, c2, v2, F3, F4, e3, e4, h2, e5, e6⟩ := hA
  simp only [ShR, Rep] at h1 h2
  obtain ⟨g, F', rfl, rfl, hb⟩ := h1
  obtain ⟨rfl, rfl⟩ := h2
  have ev : vals = [.pointer (some ⟨g, 0, none⟩), .string b] := by rw [e1, e3, e5]; rfl
  subst ev
  have eF : Fs = g :: F' := by rw [e2, e4, e6]; simp
  subst eF
  split at hg
  · rename_i hx
    have hx : a.size + b.size ≤ 140737488355328 := hx
    injection hg with hg
    injection hg with hg1 hg2
    subst hg1
    subst hg2
    have hb : BldOk w 134 5 g a F' := hb
    have hlt := hb.lt
    obtain ⟨p, v, hgb, hp, hv⟩ := hb
    obtain ⟨hown, hne, hvF⟩ := strOwn hv
    refine (bld_write g p v a.size (Lib.strCells a) b w hp hgb hown hne hx).mono fun e w' ⟨he, v', k1, k2, k3, kb, k4, os, tape, out, hz⟩ => ?_
    have hsz : (a ++ b).size = a.size + b.size := ByteArray.size_append
    have hcells : Lib.strCells a ++ Lib.strCells b = (a ++ b).data.toList.map (fun c => Value.int .u8 c.toNat) := by
      unfold Lib.strCells
      rw [← List.map_append]
      congr 1
    have hnew : ∃ F'', BldOk w' 134 5 g (a ++ b) F'' ∧ ∀ k ∈ F'', k ∈ F' ∨ w.heap.size ≤ k := by
      rcases k2.2 with ⟨hv', hn0⟩ | ⟨q, cap, cur, hv', _, hq, hn, hm, hs, ht⟩
      · exact ⟨[], ⟨_, v', k1, .inr rfl, .inl ⟨hv', by rw [hsz]; exact hn0, rfl⟩⟩, by simp⟩
      · have hqg : q ≠ g := by
          rintro rfl
          rw [hq] at k1
          injection k1 with k1
          injection k1 with _ k1
          exact absurd k1 (by decide)
        have hpos : 0 < (a ++ b).size := by
          rcases Nat.eq_zero_or_pos (a ++ b).size with h0 | h0
          · rw [hsz] at h0
            have hv0 : v = .slice none 0 0 := by
              rcases hv with ⟨h, _⟩ | ⟨_, _, _, h, _⟩
              · exact h
              · omega
            have := k3.2 ⟨hv0, by omega⟩
            rw [this] at hv'
            cases hv'
          · exact h0
        refine ⟨[q], ⟨_, v', k1, .inr rfl, .inr ⟨q, cap, cur, hpos, by rw [hsz]; exact hv', rfl, hqg, hq, by rw [hsz]; exact hn, hm, by rw [hs, Nat.mul_one], by rw [← hcells, ← ht, hsz, Nat.mul_one]⟩⟩, fun k hk => ?_⟩
        rw [List.mem_singleton.1 hk]
        exact (kb q (by rw [hv']; rfl)).imp (fun h => hvF q h.symm) id
    obtain ⟨F'', hB, hsub⟩ := hnew
    have hltn := hB.lt
    have hndn := hB.nd
    refine ⟨_, he, [.int .i64 b.size, .nilIface], [], g :: F'', okc, rfl, ⟨[.int .i64 b.size], [.nilIface], [], [], rfl, rfl, ⟨rfl, rfl⟩, [.nilIface], [], [], [], rfl, rfl, ⟨rfl, .inl ⟨rfl, rfl⟩⟩, rfl, rfl⟩, ⟨[.pointer (some ⟨g, 0, none⟩)], _, g :: F'', [], rfl, by simp, ?_, _, _, rfl, rfl⟩, by simpa using hndn, fun k hk => ?_, fun k hk => ?_, ⟨os, tape, out, hz, fun k hk hn => k4 k hk (fun e => hn (by simp [e])) (fun e => hn (by simp [hvF k e]))⟩⟩
    · simp only [ShR]
      exact ⟨g, F'', rfl, rfl, hB⟩
    · have hk : k ∈ g :: F'' := by simpa using hk
      refine ⟨hltn k hk, ?_⟩
      rcases List.mem_cons.1 hk with rfl | hk
      · right; simp
      · rcases hsub k hk with h | h
        · right; simp [h]
        · left; exact h
    · have hk0 := hok k hk
      refine ⟨Nat.lt_of_lt_of_le hk0 hz, .inl hk, fun hm => ?_⟩
      have hm : k ∈ g :: F'' := by simpa using hm
      rcases List.mem_cons.1 hm with rfl | hm
      · exact (hF _ (by simp)).2 hk
      · rcases hsub k hm with h | h
        · exact (hF k (by simp [h])).2 hk
        · omega
  · cases hg
theorem bs_ext {L : Laid} : ExtOk Tryz.prog L LMq.I94 := by
  refine extOk_of2 (I := LMq.I94) (g := fun x => some ((x.1, ()), ())) (fn := Tryz.f94) (code := bd Tryz.f94) rfl Tryz.func94 (by kernel_rfl) (by kernel_rfl) ?_
  intro x r o w vals okc Fs hg hA hnd hF hok hon
  obtain ⟨a, u⟩ := x
  change ByteArray at a
  obtain ⟨c1, v1, F1, F2, e1, e2, h1, e5, e6⟩ := hA
  simp only [ShR] at h1
  obtain ⟨g, F', rfl, rfl, hb⟩ := h1
  have ev : vals = [.pointer (some ⟨g, 0, none⟩)] := by rw [e1, e5]; rfl
  subst ev
  have eF : Fs = g :: F' := by rw [e2, e6]; simp
  subst eF
  injection hg with hg
  injection hg with hg1 hg2
  subst hg1
  have hb : BldOk w 134 5 g a F' := hb
  obtain ⟨p, v, hgb, hp, hv⟩ := hb
  have fin : ∀ (e : Ending) (w' : World), e = .returned (.string a) → KeptBut (· ∈ g :: F') w w' → ∃ z, e = .returned z ∧ Post w okc (g :: F') (LMq.I94).params (LMq.I94).res (a, ()) o [.pointer (some ⟨g, 0, none⟩)] z w' := fun e w' he hk => by
    refine ⟨_, he, post_plain (xs := [.string a]) ?_ ?_ hok hk⟩
    · exact ⟨[.string a], [], [], [], rfl, rfl, ⟨rfl, rfl⟩, rfl, rfl⟩
    · exact ⟨_, _, rfl, rfl⟩
  rcases hv with ⟨rfl, hx, rfl⟩ | ⟨b, cap, cur, hpos, rfl, rfl, hne, hbb, hn, hm, hs, ht⟩
  · refine (Any.Builder_String_nil (ρ := Tryz.lays156_ren) { Tryz.lays156 with } Tryz.Builder_Extra_156 w.heap.size g p w hgb).mono fun e w' ⟨he, hB⟩ => fin e w' ?_ (keptBut_below hB.os hB.tape hB.output hB.size hB.block)
    rw [he]
    have : a = ⟨#[]⟩ := ByteArray.size_eq_zero_iff.1 hx
    rw [this]
  · have hl : a.data.toList.length = a.size := by rw [Array.length_toList]; rfl
    have hne0 : a.data.toList ≠ [] := fun e => by rw [e] at hl; simp at hl; omega
    refine (bld_string g b cap p cur a.data.toList w (by rw [hl]; exact hgb) hbb hne0 (by rw [hl]; exact hn) hm hs (by rw [hl]; exact ht)).mono fun e w' ⟨he, K⟩ => fin e w' ?_ ⟨K.os, K.tape, K.output, K.size, fun k hk hn' => K.heap k hk (fun h => hn' (by rw [List.mem_singleton.1 h]; simp))⟩
    rw [he]
theorem pu_ext {L : Laid} (hS : ∀ w, L.on w → ∃ ev, w.cell? ⟨2, 0, none⟩ = some ev ∧ (ev = .nilIface ∨ ∃ te pe, ev = .iface te pe)) (hR : ∀ w, L.on w → ∃ ev, w.cell? ⟨3, 0, none⟩ = some ev ∧ (ev = .nilIface ∨ ∃ te pe, ev = .iface te pe)) : ExtOk Tryz.prog L LMq.I168 := by
  refine extOk_of (I := LMq.I168) (g := fun x => if x.1.size ≤ 4294967281 ∧ x.2.1 = 16 ∧ x.2.2.1 = 64 then some ((((puT x.1.data.toList).1 : Int), decide ((puT x.1.data.toList).2 ≠ 0), ()), ()) else none) (fn := Tryz.f168) (code := bd Tryz.f168) rfl Tryz.func168 (by kernel_rfl) (by kernel_rfl) ?_
  intro x r o w vals okc Fs hg hA hok hon
  obtain ⟨a, b, c, u⟩ := x
  change ByteArray at a
  change Int at b
  change Int at c
  obtain ⟨c1, v1, F1, F2, e1, e2, h1, c2, v2, F3, F4, e3, e4, h2, c3, v3, F5, F6, e5, e6, h3, e7, e8⟩ := hA
  simp only [ShR, Rep] at h1 h2 h3
  obtain ⟨_, rfl⟩ := h1
  obtain ⟨_, rfl⟩ := h2
  obtain ⟨_, rfl⟩ := h3
  have ev : vals = [.string a, .int .i64 b, .int .i64 c] := by rw [e1, e3, e5, e7]; rfl
  subst ev
  split at hg
  · rename_i hx
    have hx : a.size ≤ 4294967281 ∧ b = 16 ∧ c = 64 := hx
    obtain ⟨ha, rfl, rfl⟩ := hx
    have hg : some ((((puT a.data.toList).1 : Int), decide ((puT a.data.toList).2 ≠ 0), ()), ()) = some (r, o) := hg
    injection hg with hg
    injection hg with h1 h2
    subst h1
    obtain ⟨ev1, h3, h4⟩ := hS w hon
    obtain ⟨ev2, h5, h6⟩ := hR w hon
    refine (pub16 a w ha ev1 ev2 h3 h4 h5 h6).mono fun e w' ⟨v, he, hv, hB⟩ => ?_
    rcases hv with ⟨hk, rfl⟩ | ⟨hk, N, rfl⟩
    · have hd : decide ((puT a.data.toList).2 ≠ 0) = false := by simp [hk]
      rw [hd]
      refine ⟨_, he, post_plain (xs := [.int .u64 (puT a.data.toList).1, .nilIface]) ?_ ?_ hok (keptBut_below hB.os hB.tape hB.output hB.size hB.block)⟩
      · exact ⟨[.int .u64 (puT a.data.toList).1], [.nilIface], [], [], rfl, rfl, ⟨rfl, rfl⟩, [.nilIface], [], [], [], rfl, rfl, ⟨rfl, .inl ⟨rfl, rfl⟩⟩, rfl, rfl⟩
      · exact ⟨_, _, rfl, _, _, rfl, _, _, rfl, rfl⟩
    · have hd : decide ((puT a.data.toList).2 ≠ 0) = true := by simp [hk]
      rw [hd]
      refine ⟨_, he, post_plain (xs := [.int .u64 (puT a.data.toList).1, .iface 252 (.pointer (some ⟨N, 0, none⟩))]) ?_ ?_ hok (keptBut_below hB.os hB.tape hB.output hB.size hB.block)⟩
      · exact ⟨[.int .u64 (puT a.data.toList).1], [.iface 252 (.pointer (some ⟨N, 0, none⟩))], [], [], rfl, rfl, ⟨rfl, rfl⟩, [.iface 252 (.pointer (some ⟨N, 0, none⟩))], [], [], [], rfl, rfl, ⟨rfl, .inr ⟨rfl, _, _, rfl⟩⟩, rfl, rfl⟩
      · exact ⟨_, _, rfl, _, _, rfl, _, _, rfl, rfl⟩
  · cases hg
open Go.ChangeShapes Go.WideShapes Go.ChangeAt
abbrev laidL : List (String × DataW Unit) := Rows.fnMachinesRow.laid
theorem Tryz.own : ownKnob Tryz.prog.godebug = none := by kernel_rfl
theorem Tryz.laidOut : laidOutB Tryz.prog = true := by kernel_rfl
theorem gTab : Tryz.prog.globalNamed "internal/strconv.uint64pow10" = some 4 := by kernel_rfl
theorem tTab : (Tryz.prog.globals[4]?).map (·.type) = some 267 := by kernel_rfl
noncomputable def laidWorld (os : Os) : World :=
  { World.doorLaid Tryz.prog 400 os with heap := (World.doorLaid Tryz.prog 400 os).heap.modify 5 fun
    | .cells _ t frozen => .cells (Lib.firstTab.map fun z => Value.int .u8 z).toArray t frozen
    | o => o }
theorem door_met (os : Os) (args : Array Value) : laidMetH Tryz.prog laidL ((laidWorld os).forCall (fun _ _ => 0) ⟨#[], args, []⟩).memory :=
  laidMetH_of_parts3 (fuel := 8) (laidMet_of_run' 8 (by kernel_rfl) (by kernel_rfl)) (by kernel_rfl) (by kernel_rfl)
theorem tab_data : ([("internal/strconv.uint64pow10", Rows.laid_internal_strconv_uint64pow10), ("unicode/utf8.acceptRanges", Rows.laid_unicode_utf8_acceptRanges), ("strconv.ErrRange", Rows.laid_strconv_ErrRange), ("strconv.ErrSyntax", Rows.laid_strconv_ErrSyntax), ("unicode/utf8.first", Rows.laid_unicode_utf8_first)] : List (String × DataW Unit)) = [("internal/strconv.uint64pow10", Lib.tabData .u64 Lib.pow10Tab), ("unicode/utf8.acceptRanges", Rows.laid_unicode_utf8_acceptRanges), ("strconv.ErrRange", Rows.laid_strconv_ErrRange), ("strconv.ErrSyntax", Rows.laid_strconv_ErrSyntax), ("unicode/utf8.first", Rows.laid_unicode_utf8_first)] := by kernel_rfl
theorem tab_of {W : World} (h : laidMetH Tryz.prog laidL W) : Lib.TabIs Tryz.prog W "internal/strconv.uint64pow10" .u64 Lib.pow10Tab := by
  rw [MakeChecks.laidMetH_plain _ _ _ (by kernel_rfl)] at h
  have h3 : laidMet Tryz.prog [("internal/strconv.uint64pow10", Rows.laid_internal_strconv_uint64pow10), ("unicode/utf8.acceptRanges", Rows.laid_unicode_utf8_acceptRanges), ("strconv.ErrRange", Rows.laid_strconv_ErrRange), ("strconv.ErrSyntax", Rows.laid_strconv_ErrSyntax), ("unicode/utf8.first", Rows.laid_unicode_utf8_first)] W := h.tail.tail
  rw [tab_data] at h3
  exact Lib.tabIs_of_head gTab tTab Tryz.underlying267 Tryz.underlying29 (by kernel_rfl) (by kernel_rfl) h3
theorem tab_size {W : World} (h : Lib.TabIs Tryz.prog W "internal/strconv.uint64pow10" .u64 Lib.pow10Tab) : 4 < W.heap.size := by
  unfold Lib.TabIs World.var? at h
  rw [gTab] at h
  apply Classical.byContradiction
  intro hn
  rw [Option.bind_some, Array.getElem?_eq_none (by omega)] at h
  cases h
theorem tab_kept {W w : World} {bl : Nat → Prop} (hb : bl 4) (h : laidMetH Tryz.prog laidL W) (hsz : 4 < W.heap.size) (hon : Laid.on ⟨W, bl⟩ w) : Lib.TabIs Tryz.prog w "internal/strconv.uint64pow10" .u64 Lib.pow10Tab := by
  have ht := tab_of h
  unfold Lib.TabIs World.var? at ht ⊢
  rw [gTab] at ht ⊢
  rw [Option.bind_some] at ht ⊢
  rw [hon.1.heap 4 hsz (fun h => h hb)]
  exact ht
theorem size_of_cell {W : World} {b : Nat} {v : Value} (h : W.cell? ⟨b, 0, none⟩ = some v) : b < W.heap.size := by
  unfold World.cell? at h
  apply Classical.byContradiction
  intro hn
  dsimp only at h
  rw [Array.getElem?_eq_none (by omega)] at h
  cases h
theorem cell_kept {W w : World} {bl : Nat → Prop} {b : Nat} {v : Value} (hb : bl b) (h : W.cell? ⟨b, 0, none⟩ = some v) (hon : Laid.on ⟨W, bl⟩ w) : w.cell? ⟨b, 0, none⟩ = some v := by
  have hsz := size_of_cell h
  unfold World.cell? at h ⊢
  rw [hon.1.heap b hsz (fun h => h hb)]
  exact h
theorem gTab2 : Tryz.prog.globalNamed "math/bits.deBruijn64tab" = some 0 := by kernel_rfl
theorem tTab2 : (Tryz.prog.globals[0]?).map (·.type) = some 237 := by kernel_rfl
theorem tab2_data : ([("math/bits.deBruijn64tab", Rows.laid_math_bits_deBruijn64tab), ("internal/strconv.uint64pow10", Rows.laid_internal_strconv_uint64pow10), ("unicode/utf8.acceptRanges", Rows.laid_unicode_utf8_acceptRanges), ("strconv.ErrRange", Rows.laid_strconv_ErrRange), ("strconv.ErrSyntax", Rows.laid_strconv_ErrSyntax), ("unicode/utf8.first", Rows.laid_unicode_utf8_first)] : List (String × DataW Unit)) = [("math/bits.deBruijn64tab", Lib.tabData .u8 (Lib.deBruijn64tab.map fun (n : Nat) => (n : Int))), ("internal/strconv.uint64pow10", Rows.laid_internal_strconv_uint64pow10), ("unicode/utf8.acceptRanges", Rows.laid_unicode_utf8_acceptRanges), ("strconv.ErrRange", Rows.laid_strconv_ErrRange), ("strconv.ErrSyntax", Rows.laid_strconv_ErrSyntax), ("unicode/utf8.first", Rows.laid_unicode_utf8_first)] := by kernel_rfl
theorem tab2_of {W : World} (h : laidMetH Tryz.prog laidL W) : TabAt 0 Lib.deBruijn64tab W := by
  rw [MakeChecks.laidMetH_plain _ _ _ (by kernel_rfl)] at h
  have h3 : laidMet Tryz.prog [("math/bits.deBruijn64tab", Rows.laid_math_bits_deBruijn64tab), ("internal/strconv.uint64pow10", Rows.laid_internal_strconv_uint64pow10), ("unicode/utf8.acceptRanges", Rows.laid_unicode_utf8_acceptRanges), ("strconv.ErrRange", Rows.laid_strconv_ErrRange), ("strconv.ErrSyntax", Rows.laid_strconv_ErrSyntax), ("unicode/utf8.first", Rows.laid_unicode_utf8_first)] W := h.tail
  rw [tab2_data] at h3
  have ht : Lib.TabIs Tryz.prog W "math/bits.deBruijn64tab" .u8 (Lib.deBruijn64tab.map fun (n : Nat) => (n : Int)) := Lib.tabIs_of_head gTab2 tTab2 Tryz.underlying237 Tryz.underlying5 (by kernel_rfl) (by kernel_rfl) h3
  intro j hj
  have := ht.cell gTab2 j (by simpa using hj)
  rw [this]
  congr 2
  simp [List.getD_eq_getElem?_getD, hj]
theorem tab2_size {W : World} (h : TabAt 0 Lib.deBruijn64tab W) : 0 < W.heap.size := by
  have h0 := h 0 (by decide)
  unfold World.cell? at h0
  apply Classical.byContradiction
  intro hn
  rw [Array.getElem?_eq_none (by show W.heap.size ≤ 0; omega)] at h0
  cases h0
theorem tab2_kept {W w : World} {bl : Nat → Prop} (hb : bl 0) (h : laidMetH Tryz.prog laidL W) (hsz : 0 < W.heap.size) (hon : Laid.on ⟨W, bl⟩ w) : TabAt 0 Lib.deBruijn64tab w := by
  intro j hj
  have := tab2_of h j hj
  unfold World.cell? at this ⊢
  rw [hon.1.heap 0 hsz (fun h => h hb)]
  exact this
theorem gSyn : Tryz.prog.globalNamed "strconv.ErrSyntax" = some 2 := by kernel_rfl
theorem gRng : Tryz.prog.globalNamed "strconv.ErrRange" = some 3 := by kernel_rfl
theorem starErr : "*" ++ "errors.errorString" = "*errors.errorString" := by decide
theorem rowErr (u : TypeId) (h : Tryz.prog.typeName? 3 u = some "*errors.errorString") : u = 275 :=
  typeName_ptr_named (nm := "errors.errorString") (by rw [starErr]; kernel_rfl) (by kernel_rfl) (by decide) u (by rw [starErr]; exact h)
theorem syn_of {W : World} (h : laidMetH Tryz.prog laidL W) : ∃ a, W.cell? ⟨2, 0, none⟩ = some (.iface 275 (.pointer (some a))) := by
  rw [MakeChecks.laidMetH_plain _ _ _ (by kernel_rfl)] at h
  have h3 : laidMet Tryz.prog [("strconv.ErrSyntax", Rows.laid_strconv_ErrSyntax), ("unicode/utf8.first", Rows.laid_unicode_utf8_first)] W := h.tail.tail.tail.tail.tail
  obtain ⟨a, s, hv, _⟩ := laid_sentinel h3 gSyn (ti := 136) (by kernel_rfl) Tryz.underlying136 rowErr Tryz.underlying275 Tryz.underlying277 rfl rfl Tryz.underlying9 (by kernel_rfl) (by kernel_rfl)
  exact ⟨a, by simpa using World.var?_cell gSyn hv 0⟩
theorem rng_of {W : World} (h : laidMetH Tryz.prog laidL W) : ∃ a, W.cell? ⟨3, 0, none⟩ = some (.iface 275 (.pointer (some a))) := by
  rw [MakeChecks.laidMetH_plain _ _ _ (by kernel_rfl)] at h
  have h3 : laidMet Tryz.prog [("strconv.ErrRange", Rows.laid_strconv_ErrRange), ("strconv.ErrSyntax", Rows.laid_strconv_ErrSyntax), ("unicode/utf8.first", Rows.laid_unicode_utf8_first)] W := h.tail.tail.tail.tail
  obtain ⟨a, s, hv, _⟩ := laid_sentinel h3 gRng (ti := 136) (by kernel_rfl) Tryz.underlying136 rowErr Tryz.underlying275 Tryz.underlying277 rfl rfl Tryz.underlying9 (by kernel_rfl) (by kernel_rfl)
  exact ⟨a, by simpa using World.var?_cell gRng hv 0⟩
/-- A law whose world is shaped and holds what the row lists. -/
theorem returns_and_shaped {H : Type} {enc : TypeId × Value → H} {a : Assume} {C : Checked} {os : Os} {f : FuncId} {fn : Func} {s : ChangeSpec} {conds : List PathCond} {apart fresh handsOn again : Bool} {X : World → Array Value → Prop}
    (hX : ∀ (w w' : World) (args : Array Value), w.heap = w'.heap → X w args → X w' args)
    (own : ownKnob C.prog.godebug = none) (started : os.Started) (noInit : C.prog.inits.idxOf? f = none) (hfn : C.prog.funcs[f]? = some fn)
    (witness : ∃ (w : World) (tape : Tape) (i : Input), w.os = os ∧ (w.forCall tape i).Shaped C.prog ∧ i.vars = [] ∧ Input.okWide C.prog (w.forCall tape i) .any w.heap.size f i ∧
      ((s.pre enc C.prog fn conds apart (w.forCall tape i).memory i.args ∧ X (w.forCall tape i).memory i.args) ∧ sizedMet enc C.prog fn (OpenSpec.ofChange s) apart (w.forCall tape i).memory i.args) ∧ a.holds C.prog (lone (Frame.enter C.prog f i.args .normal) [] (w.forCall tape i)))
    (contract : ∀ (W : World) (base : Nat) (args : Array Value) (ds gs : List (DataW H)) (before : List MemPlace),
      (∀ (j : Nat) t v, fn.params[j]? = some t → args[j]? = some v → Value.okWide C.prog W .any base t v) →
      DataW.Whole enc C.prog fn.params.toList s.vars apart W args.toList ds gs before →
      conds.all (PathCond.test C.prog ⟨fn.params.toList, ds, s.plain.varTypes C.prog, gs⟩) = true →
      (DataW.weightsEach C.prog (fn.params.toList ++ s.plain.varTypes C.prog) (ds ++ gs)).all (· ≤ reachBytes) = true → X W args → W.ShapedOpen C.prog →
      Calls C.prog f args W fun e W' => ∃ v, e = .returned v ∧ s.post enc C.prog fn apart fresh handsOn again W args v W') :
    ReturnsInHanded a C os f .any (fun w args => (s.pre enc C.prog fn conds apart w args ∧ X w args) ∧ sizedMet enc C.prog fn (OpenSpec.ofChange s) apart w args) (s.post enc C.prog fn apart fresh handsOn again) := by
  refine returnsInHanded_of_calls own started noInit witness ?_
  intro w tape i _ hsh _ hok hpre _
  obtain ⟨_, _, _, fn', hfn', _, _, _, _, hval⟩ := hok
  obtain rfl : fn' = fn := Option.some.inj (hfn'.symm.trans hfn)
  obtain ⟨⟨⟨ds, gs, before, hw, hc⟩, hx⟩, hz⟩ := hpre
  refine (contract (w.forCall tape i) w.heap.size i.args ds gs before hval (DataW.Whole.of_heap (w' := w.forCall tape i) (by rfl) hw) hc (hz.weights hw) (hX _ _ _ (by rfl) hx) hsh).mono fun e W' ⟨v, he, hp⟩ => ?_
  subst he
  exact ChangeSpec.post_blind hp
theorem fnMachines_law : ∀ x, DomA (LMq.C 3).params x → ∃ n r o, call LMq.T LMq.C n 3 x = some (r, o) ∧ IsTrue (LMq.C 3).res r := by
  intro x hd
  obtain ⟨x0, x1, u⟩ := x
  obtain ⟨N, hN⟩ := Go.Cams.YtipjblnjaicbfaaGreatDoorLMq.e3 x0 x1 hd
  exact ⟨N, _, _, hN N (Nat.le_refl _), rfl⟩
theorem fnMachines_rec : (Tryz.f3.params.toList.all fun t => Tryz.prog.readableRec t && decide (t < Tryz.prog.types.size)) = true := by kernel_rfl
set_option maxRecDepth 100000 in
theorem fnMachines_lifted (os : Os) (started : os.Started) (H : Type) (enc : TypeId × Value → H) :
    ReturnsInHanded {} Tryz.checked os 3 .any (fun w args => (Rows.fnMachinesSpec.pre enc Tryz.prog Tryz.f3 Rows.fnMachinesRow.domain false w args ∧ laidMetH Tryz.prog laidL w) ∧ sizedMet enc Tryz.prog Tryz.f3 (OpenSpec.ofChange Rows.fnMachinesSpec) false w args) (Rows.fnMachinesSpec.post enc Tryz.prog Tryz.f3 false true false false) := by
  refine returns_and_shaped (C := Tryz.checked) (X := fun w _ => laidMetH Tryz.prog laidL w) (fun _ _ _ hh h => h.of_heap hh) Tryz.own started (by kernel_rfl) Tryz.func3
    (ChangeSpec.witness_shaped (enc := enc) (C := Tryz.checked) (os := os) (X := fun w _ => laidMetH Tryz.prog laidL w) false (laidWorld os) #[.slice none 0 0, .slice none 0 0] 8 rfl (World.shaped_of_RefB (by kernel_rfl) (by kernel_rfl)) (by kernel_rfl) (by kernel_rfl) (by kernel_rfl) (door_met os _)) ?_
  intro W base args ds gs before hval hW _ hw hL hsh
  have hsz : 4 < W.heap.size := tab_size (tab_of hL)
  have hsz2 : 0 < W.heap.size := tab2_size (tab2_of hL)
  obtain ⟨m0, hm0⟩ : ∃ m, W.cell? ⟨1, 0, none⟩ = some (.int .i64 m) := cell_of_shapedOpen_int (zero := #[.int .i64 0]) (t := 3) hsh (of_decide_eq_true (by kernel_rfl)) (by kernel_rfl) rfl (by kernel_rfl) (by kernel_rfl) Tryz.underlying3
  obtain ⟨a1, hv1⟩ := syn_of hL
  obtain ⟨a2, hv2⟩ := rng_of hL
  exact law_callsX LMq.tsOk LMq.insts (by kernel_rfl) Tryz.laidOut (j := 3) (by kernel_rfl) (f := 3) (fn := Tryz.f3) rfl (tb := 4) (by kernel_rfl) Tryz.underlying4 (by kernel_rfl) (fun t ht => by have := List.all_eq_true.1 fnMachines_rec t ht; simp only [Bool.and_eq_true, decide_eq_true_eq] at this; exact this) rfl (fun H ds h => match ds, h with | [_, _], _ => rfl) fnMachines_law hval hW hw (bl := fun b => b = 4 ∨ b = 1 ∨ b = 2 ∨ b = 3 ∨ b = 0) (fun b hb => hb.elim (fun e => by rw [e]; exact hsz) fun hb => hb.elim (fun e => by rw [e]; exact size_of_cell hm0) fun hb => hb.elim (fun e => by rw [e]; exact size_of_cell hv1) fun hb => hb.elim (fun e => by rw [e]; exact size_of_cell hv2) fun e => by rw [e]; exact hsz2) (LMq.exts (fi_ext fun w hon => tab_kept (.inl rfl) hL hsz hon) jn_ext (spn_ext fun w hon => ⟨m0, cell_kept (.inr (.inl rfl)) hm0 hon⟩) ts_ext (cut_ext fun w hon => ⟨m0, cell_kept (.inr (.inl rfl)) hm0 hon⟩) (sp_ext fun w hon => ⟨m0, cell_kept (.inr (.inl rfl)) hm0 hon⟩) (pi_ext (fun w hon => ⟨_, cell_kept (.inr (.inr (.inl rfl))) hv1 hon, .inr ⟨_, _, rfl⟩⟩) (fun w hon => ⟨_, cell_kept (.inr (.inr (.inr (.inl rfl)))) hv2 hon, .inr ⟨_, _, rfl⟩⟩)) rep_ext (fu_ext fun w hon => tab2_kept (.inr (.inr (.inr (.inr rfl)))) hL hsz2 hon) rp_ext bw_ext bs_ext (pu_ext (fun w hon => ⟨_, cell_kept (.inr (.inr (.inl rfl))) hv1 hon, .inr ⟨_, _, rfl⟩⟩) (fun w hon => ⟨_, cell_kept (.inr (.inr (.inr (.inl rfl)))) hv2 hon, .inr ⟨_, _, rfl⟩⟩)))
theorem fnMachines_bare : Rows.FnMachinesSaid :=
  OpenClaim.holds_of_wide 3 Tryz.f3 rfl rfl rfl rfl rfl rfl rfl ⟨rfl, rfl, rfl, rfl, rfl⟩ rfl rfl rfl rfl rfl (by kernel_rfl) Tryz.func3 (by kernel_rfl)
    (of_decide_eq_true (by kernel_rfl)) (by unfold Func.isWrapper; rw [if_neg (by decide +kernel)]; exact ⟨rfl, rfl⟩)
    (fun os started H enc _ => fnMachines_lifted os started H enc)
theorem fnMachines_named : Tryz.prog.funcNamed Rows.fnMachinesRow.func = some 3 := by kernel_rfl
theorem fnMachines_holds : Rows.FnMachinesCardSaid :=
  Claim7.holds_tied_plain_at .later [] [.data, .data, .data, .data, .sentinel, .sentinel, .pinned] true (true, "852222544a5a637661edfe44e71a5d45a89e16e2f63bcbca8582ca65cb042713") true
    fnMachines_bare (fun _ h => by cases h) (by kernel_rfl) (fun _ h => by cases h) fnMachines_row_tie rfl ⟨rfl, rfl⟩ (by kernel_rfl) rfl
    (fun f fn hf hfn => by
      obtain rfl : f = 3 := Option.some.inj (fnMachines_named.symm.trans hf) |>.symm
      obtain rfl : fn = Tryz.f3 := (Option.some.inj (Tryz.func3.symm.trans hfn)).symm
      exact ⟨by kernel_rfl, fun j t ht => by
        have hm := Array.mem_of_getElem? ht
        have hall : (Tryz.f3.params.toList.all fun u => !Tryz.prog.wantsStandIn u) = true := by kernel_rfl
        exact (show Tryz.prog.wantsStandIn t = false by simpa using List.all_eq_true.1 hall t (by simpa using hm))⟩)
    (by kernel_rfl)
#print axioms fnMachines_holds
end Go.Proofs.YtipjblnjaicbfaaGreatDoor
