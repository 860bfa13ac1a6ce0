/- The law FnPrograms returns true for all arguments, in every run, and leaves its arguments as they were; no conditions. The library's table of powers of ten is as the program's text lays it: the card ties it. -/
import Derived.Test.YtipjblnjaicbfaaGreatDoorEPg
import Derived.Test.YtipjblnjaicbfaaGreatDoorRows
import Derived.Test.YtipjblnjaicbfaaGreatDoorTie
import Derived.Test.YtipjblnjaicbfaaGreatDoorCards
import Derived.ProofKit
import Derived.LaidMore
import Derived.OpenShut
import Derived.Stop.Joined
import Derived.Stop.LaidErr
import Derived.Lib.LaidTab
import Derived.Test.YtipjblnjaicbfaaGreatDoorWvPg
import Derived.Shelf.Strings.Builder1
import Derived.Shelf.Strings.Builder2
import Derived.Shelf.Strings.OnBuilder
import Derived.Shelf.Small.Strs
import Derived.Shelf.Strings.BuilderF
import Derived.Shelf.Strings.BuilderK
import Derived.Shelf.Strconv.Itoa0
import Derived.Shelf.Strconv.Itoa1
import Derived.Shelf.LaysM
import Derived.Shelf.Strconv.Itoa2
import Derived.Shelf.Strconv.Itoa3
import Derived.Shelf.Strconv.Itoa4
import Derived.Shelf.Strconv.ParseIntEmpty
import Derived.Shelf.Strconv.Clone
import Derived.Shelf.Strconv.SyntaxError
import Derived.Shelf.LaysC
import Derived.Shelf.Strconv.ToError
import Derived.Shelf.Strconv.Lower
import Derived.Shelf.Strconv.ParseUint10
import Derived.Shelf.Strconv.ParseUint10Empty
import Derived.Shelf.Strconv.ParseUint10Any
import Derived.Shelf.Strconv.ParseInt10
import Derived.Shelf.Strconv.RangeError
import Derived.Shelf.Strconv.ToErrorRange
import Derived.Shelf.Strconv.ParseUintEmpty
import Derived.Shelf.Strconv.ParseUint10b64
import Derived.Shelf.Strconv.ParseUint10b32
import Derived.Shelf.Strconv.ParseUint10b16
import Derived.Shelf.Strconv.ParseUint10b8
import Derived.Shelf.Strconv.ParseUint10At
import Derived.Shelf.Strconv.ParseInt10At64
import Derived.Shelf.Strconv.ParseInt10At32
import Derived.Shelf.Strconv.ParseInt10At16
import Derived.Shelf.Strconv.ParseInt10At8
import Derived.Shelf.Strconv.ParseInt10All
import Derived.Shelf.Strconv.ParseIntPublic10
import Derived.Shelf.Strings.Search1
import Derived.Shelf.Strings.Search2
import Derived.Shelf.Strings.Search3
import Derived.Shelf.Strings.Cut
import Derived.Shelf.Strings.Count
import Derived.Shelf.Strings.Shaped
import Derived.Shelf.Strings.Prefix
import Derived.Shelf.Strings.Split
import Derived.Shelf.Strings.SplitShaped
import Derived.Shelf.Unicode.Decode
import Derived.Shelf.Strings.RuneCount
import Derived.Shelf.Strings.Explode
import Derived.Shelf.Bits.Mul64
import Derived.Shelf.Strings.Repeat
import Derived.Shelf.Unicode.DecodeSlow
import Derived.HandedShaped
import Derived.Lib.LaidU8
import Derived.WalkKit
import Derived.Laws.CopyOwn
import Derived.Deep.RegionLaw
namespace Go.Proofs
open Go.Shelf
def Tryz.lays156_ren : Go.Shelf.Ren := ⟨fun | 156 => 106 | 165 => 179 | 166 => 92 | 169 => 94 | 240 => 169 | 241 => 216 | 276 => 207 | 277 => 241 | n => n, fun | 31 => 123 | 9 => 9 | 3 => 3 | 4 => 4 | 0 => 0 | 20 => 20 | 72 => 134 | 76 => 137 | 70 => 132 | 37 => 22 | 75 => 136 | 127 => 204 | 164 => 233 | 5 => 5 | 80 => 140 | n => n, fun | n => n⟩
theorem Tryz.lays156 : Go.Proofs.Lays.n156 Tryz.prog Tryz.lays156_ren := {
  mixed := by kernel_rfl
  f156 := Tryz.func106.trans (congrArg some (by kernel_rfl))
  f165 := Tryz.func179.trans (congrArg some (by kernel_rfl))
  f166 := Tryz.func92.trans (congrArg some (by kernel_rfl))
  f169 := Tryz.func94.trans (congrArg some (by kernel_rfl))
  f240 := Tryz.func169.trans (congrArg some (by kernel_rfl))
  f241 := Tryz.func216.trans (congrArg some (by kernel_rfl))
  f276 := Tryz.func207.trans (congrArg some (by kernel_rfl))
  f277 := Tryz.func241.trans (congrArg some (by kernel_rfl))
  t0 := Tryz.underlying0
  a0 := Tryz.isAgg0
  z0 := Tryz.sizeOf0
  v0 := Tryz.zeroValue0
  t3 := Tryz.underlying3
  a3 := Tryz.isAgg3
  z3 := Tryz.sizeOf3
  v3 := Tryz.zeroValue3
  t4 := Tryz.underlying4
  a4 := Tryz.isAgg4
  z4 := Tryz.sizeOf4
  v4 := Tryz.zeroValue4
  t9 := Tryz.underlying9
  a9 := Tryz.isAgg9
  z9 := Tryz.sizeOf9
  v9 := Tryz.zeroValue9
  t20 := Tryz.underlying20
  a20 := Tryz.isAgg20
  z20 := Tryz.sizeOf20
  v20 := Tryz.zeroValue20
  t31 := Tryz.underlying123
  a31 := Tryz.isAgg123
  z31 := Tryz.sizeOf123
  v31 := Tryz.zeroValue123
  t37 := Tryz.underlying22
  a37 := Tryz.isAgg22
  z37 := Tryz.sizeOf22
  v37 := Tryz.zeroValue22
  t70 := Tryz.underlying132
  a70 := Tryz.isAgg132
  z70 := Tryz.sizeOf132
  v70 := Tryz.zeroValue132
  t72 := Tryz.underlying134
  a72 := Tryz.isAgg134
  z72 := Tryz.sizeOf134
  v72 := Tryz.zeroValue134
  t75 := Tryz.underlying136
  a75 := Tryz.isAgg136
  z75 := Tryz.sizeOf136
  v75 := Tryz.zeroValue136
  t76 := Tryz.underlying137
  a76 := Tryz.isAgg137
  z76 := Tryz.sizeOf137
  v76 := Tryz.zeroValue137
  t127 := Tryz.underlying204
  a127 := Tryz.isAgg204
  z127 := Tryz.sizeOf204
  v127 := Tryz.zeroValue204
  t164 := Tryz.underlying233
  a164 := Tryz.isAgg233
  z164 := Tryz.sizeOf233
  v164 := Tryz.zeroValue233 }
theorem Tryz.Builder_Extra_156 : Builder.Extra Tryz.prog Tryz.lays156_ren := {
  sizeBuilder := by kernel_rfl
  liesBuilder := by kernel_rfl
  t5 := Tryz.underlying5
  a5 := Tryz.isAgg5
  z5 := Tryz.sizeOf5
  v5 := Tryz.zeroValue5
  infoByte := by kernel_rfl
  cellsByte := by kernel_rfl
  sizeByte := by kernel_rfl
  neB5 := by decide }
open Go.RowKit in
/-- No element: the empty string; the world is as it was. (Whatever the slice's address and capacity: a nil slice too.) (LAID: no walk: one application.) -/
theorem Tryz.strings_Join_none (a : Option Addr) (c : Nat) (sep : ByteArray) (w : World) :
    Calls Tryz.prog 106 #[.slice a 0 c, .string sep] w fun e w' => e = .returned (.string ⟨#[]⟩) ∧ w' = w := Any.strings_Join_none Tryz.lays156 Tryz.Builder_Extra_156 a c sep w
open Go.RowKit in
/-- strings.Join: "Join concatenates the elements of its first argument to create a single string. The separator string sep is placed between elements in the resulting string.": HOWEVER MANY ELEMENTS. Below the heap's end the world is as it was. (LAID: no walk: one application.) -/
theorem Tryz.strings_Join (bk o c : Nat) (xs : List ByteArray) (sep : ByteArray) (w : World) (hcells : ∀ (j : Nat) x, xs[j]? = some x → w.cell? ⟨bk, o + j, none⟩ = some (.string x)) (hbk : bk < w.heap.size) (hN : xs.length ≤ 140737488355328) (hcap : xs.length ≤ c) (hlen : (Lib.join (xs.map (·.data.toList)) sep.data.toList).length ≤ 140737488355328) :
    Calls Tryz.prog 106 #[.slice (some ⟨bk, o, none⟩) xs.length c, .string sep] w fun e w' => e = .returned (.string ⟨(Lib.join (xs.map (·.data.toList)) sep.data.toList).toArray⟩) ∧ Below w.heap.size w w' := Any.strings_Join Tryz.lays156 Tryz.Builder_Extra_156 bk o c xs sep w hcells hbk hN hcap hlen
def Tryz.lays137_ren : Go.Shelf.Ren := ⟨fun | 137 => 104 | 217 => 177 | 266 => 214 | n => n, fun | 9 => 9 | 5 => 5 | 3 => 3 | n => n, fun | n => n⟩
theorem Tryz.lays137 : Go.Proofs.Lays.n137 Tryz.prog Tryz.lays137_ren := {
  mixed := by kernel_rfl
  f137 := Tryz.func104.trans (congrArg some (by kernel_rfl))
  f217 := Tryz.func177.trans (congrArg some (by kernel_rfl))
  f266 := Tryz.func214.trans (congrArg some (by kernel_rfl))
  t3 := Tryz.underlying3
  a3 := Tryz.isAgg3
  z3 := Tryz.sizeOf3
  v3 := Tryz.zeroValue3
  t5 := Tryz.underlying5
  a5 := Tryz.isAgg5
  z5 := Tryz.sizeOf5
  v5 := Tryz.zeroValue5
  t9 := Tryz.underlying9
  a9 := Tryz.isAgg9
  z9 := Tryz.sizeOf9
  v9 := Tryz.zeroValue9 }
open Go.RowKit in
/-- strings.IndexByte: "IndexByte returns the index of the first instance of c in s, or -1 if c is not present in s.": IT RETURNS 'Lib.indexByte s c'; the world is as it was. (LAID: no walk: one application.) -/
theorem Tryz.strings_IndexByte (s : ByteArray) (c : Int) (w : World) :
    Calls Tryz.prog 104 #[.string s, .int .u8 c] w fun e w' => e = .returned (.int .i64 (Lib.indexByte s.data.toList c.toNat.toUInt8)) ∧ w' = w := Any.strings_IndexByte Tryz.lays137 s c w
def Tryz.laysM173_ren : Go.Shelf.Ren := ⟨fun | 173 => 178 | 246 => 215 | 283 => 236 | 284 => 237 | 285 => 238 | 286 => 239 | 129 => 248 | 317 => 247 | 318 => 249 | 319 => 250 | 320 => 251 | 337 => 253 | 338 => 191 | n => n, fun | 2 => 2 | 3 => 3 | 9 => 9 | 4 => 4 | 171 => 256 | 0 => 0 | 53 => 29 | 37 => 22 | 5 => 5 | 173 => 258 | 212 => 267 | 51 => 244 | 20 => 20 | 213 => 268 | 46 => 195 | 232 => 279 | 233 => 237 | n => n, fun | 17 => 4 | 18 => 7 | 19 => 0 | n => n⟩
theorem Tryz.laysM173 : Go.Proofs.LaysM.n173 Tryz.prog Tryz.laysM173_ren := {
  mixed := by kernel_rfl
  f129 := Tryz.func248.trans (congrArg some (by kernel_rfl))
  f173 := Tryz.func178.trans (congrArg some (by kernel_rfl))
  f246 := Tryz.func215.trans (congrArg some (by kernel_rfl))
  f283 := Tryz.func236.trans (congrArg some (by kernel_rfl))
  f284 := Tryz.func237.trans (congrArg some (by kernel_rfl))
  f285 := Tryz.func238.trans (congrArg some (by kernel_rfl))
  f286 := Tryz.func239.trans (congrArg some (by kernel_rfl))
  f317 := Tryz.func247.trans (congrArg some (by kernel_rfl))
  f318 := Tryz.func249.trans (congrArg some (by kernel_rfl))
  f319 := Tryz.func250.trans (congrArg some (by kernel_rfl))
  f320 := Tryz.func251.trans (congrArg some (by kernel_rfl))
  f337 := Tryz.func253.trans (congrArg some (by kernel_rfl))
  f338 := Tryz.func191.trans (congrArg some (by kernel_rfl))
  t0 := Tryz.underlying0
  a0 := Tryz.isAgg0
  z0 := Tryz.sizeOf0
  v0 := Tryz.zeroValue0
  t2 := Tryz.underlying2
  a2 := Tryz.isAgg2
  z2 := Tryz.sizeOf2
  v2 := Tryz.zeroValue2
  t3 := Tryz.underlying3
  a3 := Tryz.isAgg3
  z3 := Tryz.sizeOf3
  v3 := Tryz.zeroValue3
  t4 := Tryz.underlying4
  a4 := Tryz.isAgg4
  z4 := Tryz.sizeOf4
  v4 := Tryz.zeroValue4
  t5 := Tryz.underlying5
  a5 := Tryz.isAgg5
  z5 := Tryz.sizeOf5
  v5 := Tryz.zeroValue5
  t9 := Tryz.underlying9
  a9 := Tryz.isAgg9
  z9 := Tryz.sizeOf9
  v9 := Tryz.zeroValue9
  t20 := Tryz.underlying20
  a20 := Tryz.isAgg20
  z20 := Tryz.sizeOf20
  v20 := Tryz.zeroValue20
  t37 := Tryz.underlying22
  a37 := Tryz.isAgg22
  z37 := Tryz.sizeOf22
  v37 := Tryz.zeroValue22
  t46 := Tryz.underlying195
  a46 := Tryz.isAgg195
  z46 := Tryz.sizeOf195
  v46 := Tryz.zeroValue195
  t51 := Tryz.underlying244
  a51 := Tryz.isAgg244
  z51 := Tryz.sizeOf244
  v51 := Tryz.zeroValue244
  t53 := Tryz.underlying29
  a53 := Tryz.isAgg29
  z53 := Tryz.sizeOf29
  v53 := Tryz.zeroValue29
  t171 := Tryz.underlying256
  a171 := Tryz.isAgg256
  z171 := Tryz.sizeOf256
  v171 := Tryz.zeroValue256
  t173 := Tryz.underlying258
  a173 := Tryz.isAgg258
  z173 := Tryz.sizeOf258
  v173 := Tryz.zeroValue258
  t212 := Tryz.underlying267
  a212 := Tryz.isAgg267
  z212 := Tryz.sizeOf267
  v212 := Tryz.zeroValue267
  t213 := Tryz.underlying268
  a213 := Tryz.isAgg268
  z213 := Tryz.sizeOf268
  t232 := Tryz.underlying279
  a232 := Tryz.isAgg279
  z232 := Tryz.sizeOf279
  v232 := Tryz.zeroValue279
  t233 := Tryz.underlying237
  a233 := Tryz.isAgg237
  z233 := Tryz.sizeOf237
  v233 := Tryz.zeroValue237
  g17 := by kernel_rfl
  g18 := by kernel_rfl
  g19 := by kernel_rfl
  i0 := by kernel_rfl
  i2 := by kernel_rfl
  i3 := by kernel_rfl
  i4 := by kernel_rfl
  i5 := by kernel_rfl
  i9 := by kernel_rfl
  i20 := by kernel_rfl
  i37 := by kernel_rfl
  i46 := by kernel_rfl
  i51 := by kernel_rfl
  i53 := by kernel_rfl
  i171 := by kernel_rfl
  i173 := by kernel_rfl
  i212 := by kernel_rfl
  i232 := by kernel_rfl
  i233 := by kernel_rfl
  m17 := by kernel_rfl
  m18 := by kernel_rfl
  m19 := by kernel_rfl }
open Go.RowKit Go.Sort Go.Lib in
/-- strconv.FormatInt: "FormatInt returns the string representation of i in the given base": AT BASE 10: i's decimal numeral, for every int64. (LAID: no walk: one application.) -/
theorem Tryz.strconv_FormatInt_10 (n : Int) (h0 : -9223372036854775808 ≤ n) (h1 : n ≤ 9223372036854775807) (w : World) (htab : Lib.TabIs Tryz.prog w "internal/strconv.uint64pow10" .u64 Lib.pow10Tab) :
    Calls Tryz.prog 178 #[.int .i64 n, .int .i64 10] w fun e w' => e = .returned (.string ⟨(Lib.itoa n).toArray⟩) ∧ ∃ k os, w' = grow (w.drewN k) os := Any.strconv_FormatInt_10 Tryz.laysM173 n h0 h1 w htab
def Tryz.laysC174_ren : Go.Shelf.Ren := ⟨fun | 174 => 176 | 247 => 213 | 245 => 206 | 287 => 205 | 279 => 232 | 280 => 233 | 281 => 234 | 282 => 235 | 321 => 230 | 322 => 231 | 316 => 244 | 171 => 246 | 205 => 245 | 243 => 252 | 246 => 215 | 283 => 236 | 284 => 237 | 285 => 238 | 286 => 239 | 129 => 248 | 317 => 247 | 318 => 249 | 319 => 250 | 320 => 251 | 337 => 253 | 338 => 191 | n => n, fun | 9 => 9 | 3 => 3 | 2 => 2 | 75 => 136 | 85 => 206 | 4 => 4 | 167 => 249 | 5 => 5 | 53 => 29 | 175 => 200 | 46 => 195 | 168 => 252 | 37 => 22 | 0 => 0 | 210 => 264 | 21 => 21 | 127 => 204 | 145 => 277 | 143 => 275 | 171 => 256 | 173 => 258 | 212 => 267 | 51 => 244 | 20 => 20 | 213 => 268 | 232 => 279 | 233 => 237 | 80 => 140 | n => n, fun | 15 => 2 | 16 => 3 | 17 => 4 | 18 => 7 | 19 => 0 | n => n⟩
theorem Tryz.laysC174 : Go.Proofs.LaysC.n174 Tryz.prog Tryz.laysC174_ren := {
  mixed := by kernel_rfl
  f129 := Tryz.func248.trans (congrArg some (by kernel_rfl))
  f171 := Tryz.func246.trans (congrArg some (by kernel_rfl))
  f174 := Tryz.func176.trans (congrArg some (by kernel_rfl))
  f205 := Tryz.func245.trans (congrArg some (by kernel_rfl))
  f243 := Tryz.func252.trans (congrArg some (by kernel_rfl))
  f245 := Tryz.func206.trans (congrArg some (by kernel_rfl))
  f246 := Tryz.func215.trans (congrArg some (by kernel_rfl))
  f247 := Tryz.func213.trans (congrArg some (by kernel_rfl))
  f279 := Tryz.func232.trans (congrArg some (by kernel_rfl))
  f280 := Tryz.func233.trans (congrArg some (by kernel_rfl))
  f281 := Tryz.func234.trans (congrArg some (by kernel_rfl))
  f282 := Tryz.func235.trans (congrArg some (by kernel_rfl))
  f283 := Tryz.func236.trans (congrArg some (by kernel_rfl))
  f284 := Tryz.func237.trans (congrArg some (by kernel_rfl))
  f285 := Tryz.func238.trans (congrArg some (by kernel_rfl))
  f286 := Tryz.func239.trans (congrArg some (by kernel_rfl))
  f287 := Tryz.func205.trans (congrArg some (by kernel_rfl))
  f316 := Tryz.func244.trans (congrArg some (by kernel_rfl))
  f317 := Tryz.func247.trans (congrArg some (by kernel_rfl))
  f318 := Tryz.func249.trans (congrArg some (by kernel_rfl))
  f319 := Tryz.func250.trans (congrArg some (by kernel_rfl))
  f320 := Tryz.func251.trans (congrArg some (by kernel_rfl))
  f321 := Tryz.func230.trans (congrArg some (by kernel_rfl))
  f322 := Tryz.func231.trans (congrArg some (by kernel_rfl))
  f337 := Tryz.func253.trans (congrArg some (by kernel_rfl))
  f338 := Tryz.func191.trans (congrArg some (by kernel_rfl))
  t0 := Tryz.underlying0
  a0 := Tryz.isAgg0
  z0 := Tryz.sizeOf0
  v0 := Tryz.zeroValue0
  t2 := Tryz.underlying2
  a2 := Tryz.isAgg2
  z2 := Tryz.sizeOf2
  v2 := Tryz.zeroValue2
  t3 := Tryz.underlying3
  a3 := Tryz.isAgg3
  z3 := Tryz.sizeOf3
  v3 := Tryz.zeroValue3
  t4 := Tryz.underlying4
  a4 := Tryz.isAgg4
  z4 := Tryz.sizeOf4
  v4 := Tryz.zeroValue4
  t5 := Tryz.underlying5
  a5 := Tryz.isAgg5
  z5 := Tryz.sizeOf5
  v5 := Tryz.zeroValue5
  t9 := Tryz.underlying9
  a9 := Tryz.isAgg9
  z9 := Tryz.sizeOf9
  v9 := Tryz.zeroValue9
  t20 := Tryz.underlying20
  a20 := Tryz.isAgg20
  z20 := Tryz.sizeOf20
  v20 := Tryz.zeroValue20
  t21 := Tryz.underlying21
  a21 := Tryz.isAgg21
  z21 := Tryz.sizeOf21
  v21 := Tryz.zeroValue21
  t37 := Tryz.underlying22
  a37 := Tryz.isAgg22
  z37 := Tryz.sizeOf22
  v37 := Tryz.zeroValue22
  t46 := Tryz.underlying195
  a46 := Tryz.isAgg195
  z46 := Tryz.sizeOf195
  v46 := Tryz.zeroValue195
  t51 := Tryz.underlying244
  a51 := Tryz.isAgg244
  z51 := Tryz.sizeOf244
  v51 := Tryz.zeroValue244
  t53 := Tryz.underlying29
  a53 := Tryz.isAgg29
  z53 := Tryz.sizeOf29
  v53 := Tryz.zeroValue29
  t75 := Tryz.underlying136
  a75 := Tryz.isAgg136
  z75 := Tryz.sizeOf136
  v75 := Tryz.zeroValue136
  t85 := Tryz.underlying206
  a85 := Tryz.isAgg206
  z85 := Tryz.sizeOf206
  v85 := Tryz.zeroValue206
  t127 := Tryz.underlying204
  a127 := Tryz.isAgg204
  z127 := Tryz.sizeOf204
  v127 := Tryz.zeroValue204
  t143 := Tryz.underlying275
  a143 := Tryz.isAgg275
  z143 := Tryz.sizeOf275
  v143 := Tryz.zeroValue275
  t145 := Tryz.underlying277
  a145 := Tryz.isAgg277
  z145 := Tryz.sizeOf277
  v145 := Tryz.zeroValue277
  t167 := Tryz.underlying249
  a167 := Tryz.isAgg249
  z167 := Tryz.sizeOf249
  v167 := Tryz.zeroValue249
  t168 := Tryz.underlying252
  a168 := Tryz.isAgg252
  z168 := Tryz.sizeOf252
  v168 := Tryz.zeroValue252
  t171 := Tryz.underlying256
  a171 := Tryz.isAgg256
  z171 := Tryz.sizeOf256
  v171 := Tryz.zeroValue256
  t173 := Tryz.underlying258
  a173 := Tryz.isAgg258
  z173 := Tryz.sizeOf258
  v173 := Tryz.zeroValue258
  t175 := Tryz.underlying200
  a175 := Tryz.isAgg200
  z175 := Tryz.sizeOf200
  v175 := Tryz.zeroValue200
  t210 := Tryz.underlying264
  a210 := Tryz.isAgg264
  z210 := Tryz.sizeOf264
  v210 := Tryz.zeroValue264
  t212 := Tryz.underlying267
  a212 := Tryz.isAgg267
  z212 := Tryz.sizeOf267
  v212 := Tryz.zeroValue267
  t213 := Tryz.underlying268
  a213 := Tryz.isAgg268
  z213 := Tryz.sizeOf268
  t232 := Tryz.underlying279
  a232 := Tryz.isAgg279
  z232 := Tryz.sizeOf279
  v232 := Tryz.zeroValue279
  t233 := Tryz.underlying237
  a233 := Tryz.isAgg237
  z233 := Tryz.sizeOf237
  v233 := Tryz.zeroValue237
  g15 := by kernel_rfl
  g16 := by kernel_rfl
  g17 := by kernel_rfl
  g18 := by kernel_rfl
  g19 := by kernel_rfl
  t80 := Tryz.underlying140
  a80 := Tryz.isAgg140
  z80 := Tryz.sizeOf140
  v80 := Tryz.zeroValue140
  i0 := by kernel_rfl
  i2 := by kernel_rfl
  i3 := by kernel_rfl
  i4 := by kernel_rfl
  i5 := by kernel_rfl
  i9 := by kernel_rfl
  i20 := by kernel_rfl
  i21 := by kernel_rfl
  i37 := by kernel_rfl
  i46 := by kernel_rfl
  i51 := by kernel_rfl
  i53 := by kernel_rfl
  i75 := by kernel_rfl
  i80 := by kernel_rfl
  i85 := by kernel_rfl
  i127 := by kernel_rfl
  i143 := by kernel_rfl
  i145 := by kernel_rfl
  i167 := by kernel_rfl
  i168 := by kernel_rfl
  i171 := by kernel_rfl
  i173 := by kernel_rfl
  i175 := by kernel_rfl
  i210 := by kernel_rfl
  i212 := by kernel_rfl
  i232 := by kernel_rfl
  i233 := by kernel_rfl
  m15 := by kernel_rfl
  m16 := by kernel_rfl
  m17 := by kernel_rfl
  m18 := by kernel_rfl
  m19 := by kernel_rfl
  c0 := by kernel_rfl
  c2 := by kernel_rfl
  c3 := by kernel_rfl
  c4 := by kernel_rfl
  c5 := by kernel_rfl
  c9 := by kernel_rfl
  c20 := by kernel_rfl
  c21 := by kernel_rfl
  c37 := by kernel_rfl
  c46 := by kernel_rfl
  c51 := by kernel_rfl
  c53 := by kernel_rfl
  c75 := by kernel_rfl
  c80 := by kernel_rfl
  c85 := by kernel_rfl
  c127 := by kernel_rfl
  c143 := by kernel_rfl
  c145 := by kernel_rfl
  c167 := by kernel_rfl
  c168 := by kernel_rfl
  c171 := by kernel_rfl
  c173 := by kernel_rfl
  c175 := by kernel_rfl
  c210 := by kernel_rfl
  c212 := by kernel_rfl
  c213 := by kernel_rfl
  c232 := by kernel_rfl
  c233 := by kernel_rfl }
def Tryz.lays145_ren : Go.Shelf.Ren := ⟨fun | 145 => 86 | 220 => 165 | 219 => 202 | 217 => 177 | 225 => 225 | 224 => 226 | 267 => 227 | 266 => 214 | 314 => 243 | n => n, fun | 9 => 9 | 4 => 4 | 59 => 125 | 3 => 3 | 5 => 5 | 46 => 195 | 146 => 245 | 51 => 244 | n => n, fun | 1 => 1 | n => n⟩
theorem Tryz.lays145 : Go.Proofs.Lays.n145 Tryz.prog Tryz.lays145_ren := {
  mixed := by kernel_rfl
  f145 := Tryz.func86.trans (congrArg some (by kernel_rfl))
  f217 := Tryz.func177.trans (congrArg some (by kernel_rfl))
  f219 := Tryz.func202.trans (congrArg some (by kernel_rfl))
  f220 := Tryz.func165.trans (congrArg some (by kernel_rfl))
  f224 := Tryz.func226.trans (congrArg some (by kernel_rfl))
  f225 := Tryz.func225.trans (congrArg some (by kernel_rfl))
  f266 := Tryz.func214.trans (congrArg some (by kernel_rfl))
  f267 := Tryz.func227.trans (congrArg some (by kernel_rfl))
  f314 := Tryz.func243.trans (congrArg some (by kernel_rfl))
  t3 := Tryz.underlying3
  a3 := Tryz.isAgg3
  z3 := Tryz.sizeOf3
  v3 := Tryz.zeroValue3
  t4 := Tryz.underlying4
  a4 := Tryz.isAgg4
  z4 := Tryz.sizeOf4
  v4 := Tryz.zeroValue4
  t5 := Tryz.underlying5
  a5 := Tryz.isAgg5
  z5 := Tryz.sizeOf5
  v5 := Tryz.zeroValue5
  t9 := Tryz.underlying9
  a9 := Tryz.isAgg9
  z9 := Tryz.sizeOf9
  v9 := Tryz.zeroValue9
  t46 := Tryz.underlying195
  a46 := Tryz.isAgg195
  z46 := Tryz.sizeOf195
  v46 := Tryz.zeroValue195
  t51 := Tryz.underlying244
  a51 := Tryz.isAgg244
  z51 := Tryz.sizeOf244
  v51 := Tryz.zeroValue244
  t59 := Tryz.underlying125
  a59 := Tryz.isAgg125
  z59 := Tryz.sizeOf125
  v59 := Tryz.zeroValue125
  t146 := Tryz.underlying245
  a146 := Tryz.isAgg245
  z146 := Tryz.sizeOf245
  v146 := Tryz.zeroValue245
  g1 := by kernel_rfl }
open Go.RowKit Go.Lib in
/-- strings.Cut: "Cut slices s around the first instance of sep, returning the text before and after sep. The found result reports whether sep appears in s. If sep does not appear in s, cut returns s, "", false.": IT RETURNS 'Lib.cut s sep'; the world is as it was but for the count of draws. (LAID: no walk: one application.) -/
theorem Tryz.strings_Cut (s sep : ByteArray) (m : Int) (w : World) (hs : s.size < 4294967281) (hm : w.cell? ⟨1, 0, none⟩ = some (.int .i64 m)) :
    Calls Tryz.prog 86 #[.string s, .string sep] w fun e w' => e = .returned (.tuple #[.string ⟨(Lib.cut s.data.toList sep.data.toList).1.toArray⟩, .string ⟨(Lib.cut s.data.toList sep.data.toList).2.1.toArray⟩, .bool (Lib.cut s.data.toList sep.data.toList).2.2]) ∧ ∃ n, w' = w.drewN n := Any.strings_Cut Tryz.lays145 s sep m w hs hm
def Tryz.lays146_ren : Go.Shelf.Ren := ⟨fun | 146 => 90 | 221 => 164 | 268 => 199 | 138 => 200 | 143 => 201 | 195 => 222 | 197 => 223 | 218 => 224 | 219 => 202 | 260 => 242 | 217 => 177 | 225 => 225 | 224 => 226 | 267 => 227 | 266 => 214 | 314 => 243 | n => n, fun | 9 => 9 | 31 => 123 | 3 => 3 | 4 => 4 | 0 => 0 | 105 => 241 | 21 => 21 | 5 => 5 | 46 => 195 | 119 => 271 | 139 => 274 | 138 => 273 | 146 => 245 | 51 => 244 | n => n, fun | 1 => 1 | 3 => 5 | 4 => 6 | n => n⟩
theorem Tryz.lays146 : Go.Proofs.Lays.n146 Tryz.prog Tryz.lays146_ren := {
  mixed := by kernel_rfl
  f138 := Tryz.func200.trans (congrArg some (by kernel_rfl))
  f143 := Tryz.func201.trans (congrArg some (by kernel_rfl))
  f146 := Tryz.func90.trans (congrArg some (by kernel_rfl))
  f195 := Tryz.func222.trans (congrArg some (by kernel_rfl))
  f197 := Tryz.func223.trans (congrArg some (by kernel_rfl))
  f217 := Tryz.func177.trans (congrArg some (by kernel_rfl))
  f218 := Tryz.func224.trans (congrArg some (by kernel_rfl))
  f219 := Tryz.func202.trans (congrArg some (by kernel_rfl))
  f221 := Tryz.func164.trans (congrArg some (by kernel_rfl))
  f224 := Tryz.func226.trans (congrArg some (by kernel_rfl))
  f225 := Tryz.func225.trans (congrArg some (by kernel_rfl))
  f260 := Tryz.func242.trans (congrArg some (by kernel_rfl))
  f266 := Tryz.func214.trans (congrArg some (by kernel_rfl))
  f267 := Tryz.func227.trans (congrArg some (by kernel_rfl))
  f268 := Tryz.func199.trans (congrArg some (by kernel_rfl))
  f314 := Tryz.func243.trans (congrArg some (by kernel_rfl))
  t0 := Tryz.underlying0
  a0 := Tryz.isAgg0
  z0 := Tryz.sizeOf0
  v0 := Tryz.zeroValue0
  t3 := Tryz.underlying3
  a3 := Tryz.isAgg3
  z3 := Tryz.sizeOf3
  v3 := Tryz.zeroValue3
  t4 := Tryz.underlying4
  a4 := Tryz.isAgg4
  z4 := Tryz.sizeOf4
  v4 := Tryz.zeroValue4
  t5 := Tryz.underlying5
  a5 := Tryz.isAgg5
  z5 := Tryz.sizeOf5
  v5 := Tryz.zeroValue5
  t9 := Tryz.underlying9
  a9 := Tryz.isAgg9
  z9 := Tryz.sizeOf9
  v9 := Tryz.zeroValue9
  t21 := Tryz.underlying21
  a21 := Tryz.isAgg21
  z21 := Tryz.sizeOf21
  v21 := Tryz.zeroValue21
  t31 := Tryz.underlying123
  a31 := Tryz.isAgg123
  z31 := Tryz.sizeOf123
  v31 := Tryz.zeroValue123
  t46 := Tryz.underlying195
  a46 := Tryz.isAgg195
  z46 := Tryz.sizeOf195
  v46 := Tryz.zeroValue195
  t51 := Tryz.underlying244
  a51 := Tryz.isAgg244
  z51 := Tryz.sizeOf244
  v51 := Tryz.zeroValue244
  t105 := Tryz.underlying241
  a105 := Tryz.isAgg241
  z105 := Tryz.sizeOf241
  v105 := Tryz.zeroValue241
  t119 := Tryz.underlying271
  a119 := Tryz.isAgg271
  z119 := Tryz.sizeOf271
  t138 := Tryz.underlying273
  a138 := Tryz.isAgg273
  z138 := Tryz.sizeOf273
  v138 := Tryz.zeroValue273
  t139 := Tryz.underlying274
  a139 := Tryz.isAgg274
  z139 := Tryz.sizeOf274
  v139 := Tryz.zeroValue274
  t146 := Tryz.underlying245
  a146 := Tryz.isAgg245
  z146 := Tryz.sizeOf245
  v146 := Tryz.zeroValue245
  g1 := by kernel_rfl
  g3 := by kernel_rfl
  g4 := by kernel_rfl }
open Go.RowKit Go.Lib in
/-- strings.Split. (LAID: no walk: one application.) -/
theorem Tryz.strings_Split (s sep : ByteArray) (m : Int) (w : World) (hs : s.size < 4294967281) (hm : w.cell? ⟨1, 0, none⟩ = some (.int .i64 m)) (h1 : 1 ≤ sep.size) :
    Calls Tryz.prog 90 #[.string s, .string sep] w fun e w' =>
      e = .returned (.slice (some ⟨w.heap.size, 0, none⟩) (Lib.countB s sep + 1) (Lib.countB s sep + 1)) ∧ w' = w.alloc (.cells ((Lib.splitB sep 0 (Lib.countB s sep) s).map Value.string).toArray 9) := Any.strings_Split Tryz.lays146 (by kernel_rfl) s sep m w hs hm h1
end Go.Proofs
namespace Go.Proofs.YtipjblnjaicbfaaGreatDoor
open Go Go.Fw Go.Proofs Go.RowKit
theorem fi_ext {L : Laid} (hL : ∀ w, L.on w → Lib.TabIs Tryz.prog w "internal/strconv.uint64pow10" .u64 Lib.pow10Tab) : ExtOk Tryz.prog L LPg.I178 := by
  refine extOk_of (I := LPg.I178) (g := fun x => if x.2.1 = 10 ∧ -9223372036854775808 ≤ x.1 ∧ x.1 ≤ 9223372036854775807 then some (((⟨(Lib.itoa x.1).toArray⟩ : ByteArray), ()), ()) else none) (fn := Tryz.f178) (code := bd Tryz.f178) rfl Tryz.func178 (by kernel_rfl) (by kernel_rfl) ?_
  intro x r o w vals okc Fs hg hA hok hon
  obtain ⟨a, b, u⟩ := x
  change Int at a
  change Int at b
  obtain ⟨c1, v1, F1, F2, e1, e2, h1, c2, v2, F3, F4, e3, e4, h2, e5, e6⟩ := hA
  simp only [ShR, Rep] at h1 h2
  obtain ⟨_, rfl⟩ := h1
  obtain ⟨_, rfl⟩ := h2
  split at hg
  · rename_i hx
    have hx : b = 10 ∧ -9223372036854775808 ≤ a ∧ a ≤ 9223372036854775807 := hx
    obtain ⟨rfl, ha, hb⟩ := hx
    injection hg with hg
    injection hg with h1 h2
    subst h1
    subst e5
    subst e3
    subst e1
    refine (Tryz.strconv_FormatInt_10 a ha hb w (hL w hon)).mono fun e w' ⟨he, k, os, hw⟩ => ?_
    subst hw
    refine ⟨_, he, post_plain (xs := [.string ⟨(Lib.itoa a).toArray⟩]) ?_ ?_ hok ?_⟩
    · exact ⟨[.string ⟨(Lib.itoa a).toArray⟩], [], [], [], rfl, rfl, ⟨rfl, rfl⟩, rfl, rfl⟩
    · exact ⟨_, _, rfl, _, _, rfl, rfl⟩
    · exact keptBut_below rfl rfl rfl (by simp [Go.Sort.grow, World.drewN]) (fun b hb => by simp [Go.Sort.grow, World.drewN, Array.getElem?_append_left hb])
  · cases hg
theorem repL_str {w : World} {ok : Nat → Prop} : ∀ {l : List ByteArray} {es : List Value}, RepL (Rep w ok .str) l es → es = l.map Value.string
  | [], _, h => h
  | n :: l, es, h => by
    obtain ⟨c, d, e, h1, h2⟩ := h
    have h1 : c = [.string n] := h1
    rw [e, h1, repL_str h2]; rfl
theorem addr_add (g j : Nat) : (⟨g, 0, none⟩ : Addr).add j = ⟨g, 0 + j, none⟩ := by unfold Addr.add; split <;> simp_all
theorem jn_ext {L : Laid} : ExtOk Tryz.prog L LPg.I106 := by
  refine extOk_of2 (I := LPg.I106) (g := fun x => if x.1.length ≤ 140737488355328 ∧ (Lib.join (x.1.map fun s => s.data.toList) x.2.1.data.toList).length ≤ 140737488355328 then some (((⟨(Lib.join (x.1.map fun s => s.data.toList) x.2.1.data.toList).toArray⟩ : ByteArray), ()), (x.1, ())) else none) (fn := Tryz.f106) (code := bd Tryz.f106) rfl Tryz.func106 (by kernel_rfl) (by kernel_rfl) ?_
  intro x r o w vals okc Fs hg hA hnd hF hok hon
  obtain ⟨l, s, u⟩ := x
  change List ByteArray at l
  change ByteArray at s
  have hA0 : ArgsR w okc [(Sh.row false .str, true), (Sh.ro .str, false)] (l, s, ()) vals Fs := hA
  have hz : ∀ (w' : World) (y : ByteArray) (ok : Nat → Prop), ShR w' ok (Sh.ro .str) y [.string y] [] := fun w' y ok => by simp [ShR, Rep]
  obtain ⟨c1, v1, F1, F2, e1, e2, h1, c2, v2, F3, F4, e3, e4, h2, e5, e6⟩ := hA
  simp only [ShR, Rep] at h1 h2
  obtain ⟨_, rfl⟩ := h2
  obtain ⟨hd, es, G1, G2, rfl, eG, hrow, hG2, hrep⟩ := h1
  have hes := repL_str (w := w) (ok := okc) hrep
  have ev : vals.toArray = #[hd, .string s] := by rw [e1, e3, e5]; rfl
  split at hg
  · rename_i hx
    have hx : l.length ≤ 140737488355328 ∧ (Lib.join (l.map fun s => s.data.toList) s.data.toList).length ≤ 140737488355328 := hx
    injection hg with hg
    injection hg with h1 h2
    subst h1
    subst h2
    obtain ⟨A, cap, ehd, hn, hlen, hc⟩ := hrow
    show Calls Tryz.prog 106 vals.toArray w _
    rw [ev, ehd]
    rcases hc with ⟨hc0, _⟩ | ⟨g, cur, te, hA1, hG1, hb, _, he⟩
    · have hl : l = [] := List.length_eq_zero_iff.1 (by omega)
      subst hl
      refine (Tryz.strings_Join_none A cap s w).mono fun e w' ⟨he, hw⟩ => ?_
      subst hw
      exact ⟨_, he, post_row rfl rfl hA0 hnd hF hok (hz _ _) rfl (KeptBut.refl _ _)⟩
    · subst hA1
      have hg : g < w.heap.size := (Array.getElem?_eq_some_iff.1 hb).1
      have hcl := cellsAt_block hb (l.length * Ty.size .str)
      rw [← he, hes] at hcl
      refine (Tryz.strings_Join g 0 cap l s w (fun j x hj => ?_) hg hx.1 hn hx.2).mono fun e w' ⟨he, hw⟩ => ?_
      · have h0 := hcl j (.string x) (by rw [List.getElem?_map, hj]; rfl)
        have hadd : (⟨g, 0, none⟩ : Addr).add j = ⟨g, 0 + j, none⟩ := addr_add g j
        rwa [hadd] at h0
      · exact ⟨_, he, post_row rfl rfl hA0 hnd hF hok (hz _ _) rfl (keptBut_below hw.os hw.tape hw.output hw.size hw.block)⟩
  · cases hg
theorem repL_strs {w : World} {ok : Nat → Prop} : ∀ l : List ByteArray, RepL (Rep w ok .str) l (l.map Value.string)
  | [] => rfl
  | n :: l => ⟨[.string n], l.map Value.string, rfl, rfl, repL_strs l⟩
theorem sp_ext {L : Laid} (hL : ∀ w, L.on w → ∃ m, w.cell? ⟨1, 0, none⟩ = some (.int .i64 m)) : ExtOk Tryz.prog L LPg.I90 := by
  refine extOk_of (I := LPg.I90) (g := fun x => if x.1.size < 4294967281 ∧ 1 ≤ x.2.1.size then some ((Lib.splitB x.2.1 0 (Lib.countB x.1 x.2.1) x.1, ()), ()) else none) (fn := Tryz.f90) (code := bd Tryz.f90) rfl Tryz.func90 (by kernel_rfl) (by kernel_rfl) ?_
  intro x r o w vals okc Fs hg hA hok hon
  obtain ⟨a, b, u⟩ := x
  change ByteArray at a
  change ByteArray at b
  obtain ⟨c1, v1, F1, F2, e1, e2, h1, c2, v2, F3, F4, e3, e4, h2, e5, e6⟩ := hA
  simp only [ShR, Rep] at h1 h2
  obtain ⟨rfl, rfl⟩ := h1
  obtain ⟨rfl, rfl⟩ := h2
  subst e6
  split at hg
  · rename_i hx
    have hx : a.size < 4294967281 ∧ 1 ≤ b.size := hx
    injection hg with hg
    injection hg with h1 h2
    subst h1
    subst e5
    subst e3
    subst e1
    have eF : Fs = [] := by rw [e2, e4]; rfl
    subst eF
    obtain ⟨m, hm⟩ := hL w hon
    have hlen := Lib.splitB_all b hx.2 0 (Lib.countB a b) a rfl
    refine (Tryz.strings_Split a b m w hx.1 hm hx.2).mono fun e w' ⟨he, hw⟩ => ?_
    have hblk : w'.heap[w.heap.size]? = some (.cells ((Lib.splitB b 0 (Lib.countB a b) a).map Value.string).toArray 9 (0, 0)) := by rw [hw]; unfold World.alloc; simp
    have hsz : w'.heap.size = w.heap.size + 1 := by rw [hw]; unfold World.alloc; simp
    refine ⟨_, he, [.slice (some ⟨w.heap.size, 0, none⟩) (Lib.countB a b + 1) (Lib.countB a b + 1)], [w.heap.size], [], okc, rfl, ⟨_, [], [w.heap.size], [], rfl, rfl, ⟨_, (Lib.splitB b 0 (Lib.countB a b) a).map Value.string, [w.heap.size], [], rfl, rfl, ⟨some ⟨w.heap.size, 0, none⟩, Lib.countB a b + 1, by rw [hlen], by rw [hlen]; exact Nat.le_refl _, by simp [Ty.size], .inr ⟨w.heap.size, _, 9, rfl, rfl, hblk, by simp [Ty.size, hlen], by rw [List.take_of_length_le (by simp [Ty.size, hlen])]⟩⟩, rfl, repL_strs _⟩, rfl, rfl⟩, ⟨_, _, rfl, _, _, rfl, rfl⟩, by simp, fun b hb => ?_, fun b hb => ?_, ?_⟩
    · have hb : b = w.heap.size := by simpa using hb
      exact ⟨by omega, .inl (by omega)⟩
    · have := hok b hb
      exact ⟨by omega, .inl hb, by simp; omega⟩
    · rw [hw]
      exact keptBut_below rfl rfl rfl (by unfold World.alloc; simp) (fun b hb => by unfold World.alloc; simp [Array.getElem?_push, show b ≠ w.heap.size by omega])
  · cases hg
theorem pi_ext {L : Laid} (hS : ∀ w, L.on w → ∃ ev, w.cell? ⟨2, 0, none⟩ = some ev ∧ (ev = .nilIface ∨ ∃ te pe, ev = .iface te pe)) (hR : ∀ w, L.on w → ∃ ev, w.cell? ⟨3, 0, none⟩ = some ev ∧ (ev = .nilIface ∨ ∃ te pe, ev = .iface te pe)) : ExtOk Tryz.prog L LPg.I176 := by
  refine extOk_of (I := LPg.I176) (g := fun x => if x.1.size ≤ 281474976710656 ∧ x.2.1 = 10 ∧ x.2.2.1 = 64 then (match Lib.parseIntB 64 x.1.data.toList with | .ok v => some ((v, false, ()), ()) | .range => some ((Lib.intSat 64 x.1.data.toList, true, ()), ()) | _ => some (((0 : Int), true, ()), ())) else if x.1.size ≤ 281474976710656 ∧ x.2.1 = 10 ∧ x.2.2.1 = 8 then (match Lib.parseIntB 8 x.1.data.toList with | .ok v => some ((v, false, ()), ()) | .range => some ((Lib.intSat 8 x.1.data.toList, true, ()), ()) | _ => some (((0 : Int), true, ()), ())) else none) (fn := Tryz.f176) (code := bd Tryz.f176) rfl Tryz.func176 (by kernel_rfl) (by kernel_rfl) ?_
  intro x r o w vals okc Fs hg hA hok hon
  obtain ⟨a, b, c, u⟩ := x
  change ByteArray at a
  change Int at b
  change Int at c
  obtain ⟨c1, v1, F1, F2, e1, e2, h1, c2, v2, F3, F4, e3, e4, h2, c3, v3, F5, F6, e5, e6, h3, e7, e8⟩ := hA
  simp only [ShR, Rep] at h1 h2 h3
  obtain ⟨_, rfl⟩ := h1
  obtain ⟨_, rfl⟩ := h2
  obtain ⟨_, rfl⟩ := h3
  have ev : vals = [.string a, .int .i64 b, .int .i64 c] := by rw [e1, e3, e5, e7]; rfl
  subst ev
  split at hg
  · rename_i hx
    have hx : a.size ≤ 281474976710656 ∧ b = 10 ∧ c = 64 := hx
    obtain ⟨ha, rfl, rfl⟩ := hx
    have bad : ∀ (v : Int) (e : Ending) (w' : World), (∃ N, e = .returned (.tuple #[.int .i64 v, .iface 252 (.pointer (some ⟨N, 0, none⟩))]) ∧ Below w.heap.size w w') → ∃ z, e = .returned z ∧ Post w okc Fs (LPg.I176).params (LPg.I176).res (v, true, ()) o [.string a, .int .i64 10, .int .i64 64] z w' := fun v e w' ⟨N, he, hB⟩ => by
      refine ⟨_, he, post_plain (xs := [.int .i64 v, .iface 252 (.pointer (some ⟨N, 0, none⟩))]) ?_ ?_ hok (keptBut_below hB.os hB.tape hB.output hB.size hB.block)⟩
      · exact ⟨[.int .i64 v], [.iface 252 (.pointer (some ⟨N, 0, none⟩))], [], [], rfl, rfl, ⟨rfl, rfl⟩, [.iface 252 (.pointer (some ⟨N, 0, none⟩))], [], [], [], rfl, rfl, ⟨rfl, .inr ⟨rfl, _, _, rfl⟩⟩, rfl, rfl⟩
      · exact ⟨_, _, rfl, _, _, rfl, _, _, rfl, rfl⟩
    have hg : (match Lib.parseIntB 64 a.data.toList with | .ok v => some (((v, false, ()) : Int × Bool × Unit), ()) | .range => some ((Lib.intSat 64 a.data.toList, true, ()), ()) | _ => some (((0 : Int), true, ()), ())) = some (r, o) := hg
    rcases hv : Lib.parseIntB 64 a.data.toList with v | _ | _
    · rw [hv] at hg
      injection hg with hg
      injection hg with h1 h2
      subst h1
      refine (Any.strconv_ParseInt_10_at64_ok Tryz.laysC174 a (by omega) v hv w).mono fun e w' ⟨he, hw⟩ => ?_
      refine ⟨_, he, post_plain (xs := [.int .i64 v, .nilIface]) ?_ ?_ hok ?_⟩
      · exact ⟨[.int .i64 v], [.nilIface], [], [], rfl, rfl, ⟨rfl, rfl⟩, [.nilIface], [], [], [], rfl, rfl, ⟨rfl, .inl ⟨rfl, rfl⟩⟩, rfl, rfl⟩
      · exact ⟨_, _, rfl, _, _, rfl, _, _, rfl, rfl⟩
      · rcases hw with rfl | ⟨t, rfl⟩
        · exact KeptBut.refl _ _
        · have hB := Lib.bytesWorld_below w 5 t
          exact keptBut_below hB.os hB.tape hB.output hB.size hB.block
    · rw [hv] at hg
      injection hg with hg
      injection hg with h1 h2
      subst h1
      obtain ⟨ev, h3, h4⟩ := hS w hon
      exact (Any.strconv_ParseInt_10_at64_syntax Tryz.laysC174 a ha hv ev w h3 h4).mono fun e w' ⟨N, he, _, _, hB⟩ => bad 0 e w' ⟨N, he, hB⟩
    · rw [hv] at hg
      injection hg with hg
      injection hg with h1 h2
      subst h1
      obtain ⟨ev, h3, h4⟩ := hR w hon
      exact (Any.strconv_ParseInt_10_at64_range Tryz.laysC174 a ha hv ev w h3 h4).mono fun e w' ⟨N, he, _, _, hB⟩ => bad _ e w' ⟨N, he, hB⟩
  · split at hg
    · rename_i hx
      have hx : a.size ≤ 281474976710656 ∧ b = 10 ∧ c = 8 := hx
      obtain ⟨ha, rfl, rfl⟩ := hx
      have bad : ∀ (v : Int) (e : Ending) (w' : World), (∃ N, e = .returned (.tuple #[.int .i64 v, .iface 252 (.pointer (some ⟨N, 0, none⟩))]) ∧ Below w.heap.size w w') → ∃ z, e = .returned z ∧ Post w okc Fs (LPg.I176).params (LPg.I176).res (v, true, ()) o [.string a, .int .i64 10, .int .i64 8] z w' := fun v e w' ⟨N, he, hB⟩ => by
        refine ⟨_, he, post_plain (xs := [.int .i64 v, .iface 252 (.pointer (some ⟨N, 0, none⟩))]) ?_ ?_ hok (keptBut_below hB.os hB.tape hB.output hB.size hB.block)⟩
        · exact ⟨[.int .i64 v], [.iface 252 (.pointer (some ⟨N, 0, none⟩))], [], [], rfl, rfl, ⟨rfl, rfl⟩, [.iface 252 (.pointer (some ⟨N, 0, none⟩))], [], [], [], rfl, rfl, ⟨rfl, .inr ⟨rfl, _, _, rfl⟩⟩, rfl, rfl⟩
        · exact ⟨_, _, rfl, _, _, rfl, _, _, rfl, rfl⟩
      have hg : (match Lib.parseIntB 8 a.data.toList with | .ok v => some (((v, false, ()) : Int × Bool × Unit), ()) | .range => some ((Lib.intSat 8 a.data.toList, true, ()), ()) | _ => some (((0 : Int), true, ()), ())) = some (r, o) := hg
      rcases hv : Lib.parseIntB 8 a.data.toList with v | _ | _
      · rw [hv] at hg
        injection hg with hg
        injection hg with h1 h2
        subst h1
        refine (Any.strconv_ParseInt_10_at8_ok Tryz.laysC174 a (by omega) v hv w).mono fun e w' ⟨he, hw⟩ => ?_
        refine ⟨_, he, post_plain (xs := [.int .i64 v, .nilIface]) ?_ ?_ hok ?_⟩
        · exact ⟨[.int .i64 v], [.nilIface], [], [], rfl, rfl, ⟨rfl, rfl⟩, [.nilIface], [], [], [], rfl, rfl, ⟨rfl, .inl ⟨rfl, rfl⟩⟩, rfl, rfl⟩
        · exact ⟨_, _, rfl, _, _, rfl, _, _, rfl, rfl⟩
        · rcases hw with rfl | ⟨t, rfl⟩
          · exact KeptBut.refl _ _
          · have hB := Lib.bytesWorld_below w 5 t
            exact keptBut_below hB.os hB.tape hB.output hB.size hB.block
      · rw [hv] at hg
        injection hg with hg
        injection hg with h1 h2
        subst h1
        obtain ⟨ev, h3, h4⟩ := hS w hon
        exact (Any.strconv_ParseInt_10_at8_syntax Tryz.laysC174 a ha hv ev w h3 h4).mono fun e w' ⟨N, he, _, _, hB⟩ => bad 0 e w' ⟨N, he, hB⟩
      · rw [hv] at hg
        injection hg with hg
        injection hg with h1 h2
        subst h1
        obtain ⟨ev, h3, h4⟩ := hR w hon
        exact (Any.strconv_ParseInt_10_at8_range Tryz.laysC174 a ha hv ev w h3 h4).mono fun e w' ⟨N, he, _, _, hB⟩ => bad _ e w' ⟨N, he, hB⟩
    · cases hg
theorem cut_ext {L : Laid} (hL : ∀ w, L.on w → ∃ m, w.cell? ⟨1, 0, none⟩ = some (.int .i64 m)) : ExtOk Tryz.prog L LPg.I86 := by
  refine extOk_of (I := LPg.I86) (g := fun x => if x.1.size < 4294967281 then some (((⟨(Lib.cut x.1.data.toList x.2.1.data.toList).1.toArray⟩ : ByteArray), (⟨(Lib.cut x.1.data.toList x.2.1.data.toList).2.1.toArray⟩ : ByteArray), (Lib.cut x.1.data.toList x.2.1.data.toList).2.2, ()), ()) else none) (fn := Tryz.f86) (code := bd Tryz.f86) rfl Tryz.func86 (by kernel_rfl) (by kernel_rfl) ?_
  intro x r o w vals okc Fs hg hA hok hon
  obtain ⟨a, b, u⟩ := x
  change ByteArray at a
  change ByteArray at b
  obtain ⟨c1, v1, F1, F2, e1, e2, h1, c2, v2, F3, F4, e3, e4, h2, e5, e6⟩ := hA
  simp only [ShR, Rep] at h1 h2
  obtain ⟨_, rfl⟩ := h1
  obtain ⟨_, rfl⟩ := h2
  split at hg
  · rename_i hx
    have hx : a.size < 4294967281 := hx
    injection hg with hg
    injection hg with h1 h2
    subst h1
    subst e5
    subst e3
    subst e1
    obtain ⟨m, hm⟩ := hL w hon
    refine (Tryz.strings_Cut a b m w hx hm).mono fun e w' ⟨he, n, hw⟩ => ?_
    subst hw
    refine ⟨_, he, post_plain (xs := [.string ⟨(Lib.cut a.data.toList b.data.toList).1.toArray⟩, .string ⟨(Lib.cut a.data.toList b.data.toList).2.1.toArray⟩, .bool (Lib.cut a.data.toList b.data.toList).2.2]) ?_ ?_ hok ?_⟩
    · exact ⟨[.string ⟨(Lib.cut a.data.toList b.data.toList).1.toArray⟩], [.string ⟨(Lib.cut a.data.toList b.data.toList).2.1.toArray⟩, .bool (Lib.cut a.data.toList b.data.toList).2.2], [], [], rfl, rfl, ⟨rfl, rfl⟩, [.string ⟨(Lib.cut a.data.toList b.data.toList).2.1.toArray⟩], [.bool (Lib.cut a.data.toList b.data.toList).2.2], [], [], rfl, rfl, ⟨rfl, rfl⟩, [.bool (Lib.cut a.data.toList b.data.toList).2.2], [], [], [], rfl, rfl, ⟨rfl, rfl⟩, rfl, rfl⟩
    · exact ⟨_, _, rfl, _, _, rfl, rfl⟩
    · exact keptBut_below rfl rfl rfl (Nat.le_refl _) (fun b _ => rfl)
  · cases hg
theorem ib_ext {L : Laid} : ExtOk Tryz.prog L LPg.I104 := by
  refine extOk_of (I := LPg.I104) (g := fun x => if 0 ≤ x.2.1 ∧ x.2.1 < 256 then some ((Lib.indexByte x.1.data.toList x.2.1.toNat.toUInt8, ()), ()) else none) (fn := Tryz.f104) (code := bd Tryz.f104) rfl Tryz.func104 (by kernel_rfl) (by kernel_rfl) ?_
  intro x r o w vals okc Fs hg hA hok hon
  obtain ⟨a, b, u⟩ := x
  change ByteArray at a
  change Int at b
  obtain ⟨c1, v1, F1, F2, e1, e2, h1, c2, v2, F3, F4, e3, e4, h2, e5, e6⟩ := hA
  simp only [ShR, Rep] at h1 h2
  obtain ⟨_, rfl⟩ := h1
  obtain ⟨_, rfl⟩ := h2
  split at hg
  · injection hg with hg
    injection hg with h1 h2
    subst h1
    subst e5
    subst e3
    subst e1
    refine (Tryz.strings_IndexByte a b w).mono fun e w' ⟨he, hw⟩ => ?_
    subst hw
    refine ⟨_, he, post_plain (xs := [.int .i64 (Lib.indexByte a.data.toList b.toNat.toUInt8)]) ?_ ?_ hok (KeptBut.refl _ _)⟩
    · exact ⟨[.int .i64 (Lib.indexByte a.data.toList b.toNat.toUInt8)], [], [], [], rfl, rfl, ⟨rfl, rfl⟩, rfl, rfl⟩
    · exact ⟨_, _, rfl, _, _, rfl, rfl⟩
  · cases hg
open Go.ChangeShapes Go.WideShapes Go.ChangeAt
abbrev laidL : List (String × DataW Unit) := Rows.fnProgramsRow.laid
theorem Tryz.own : ownKnob Tryz.prog.godebug = none := by kernel_rfl
theorem Tryz.laidOut : laidOutB Tryz.prog = true := by kernel_rfl
theorem gTab : Tryz.prog.globalNamed "internal/strconv.uint64pow10" = some 4 := by kernel_rfl
theorem tTab : (Tryz.prog.globals[4]?).map (·.type) = some 267 := by kernel_rfl
noncomputable def laidWorld (os : Os) : World :=
  { World.doorLaid Tryz.prog 400 os with heap := (World.doorLaid Tryz.prog 400 os).heap.modify 5 fun
    | .cells _ t frozen => .cells (Lib.firstTab.map fun z => Value.int .u8 z).toArray t frozen
    | o => o }
theorem door_met (os : Os) (args : Array Value) : laidMetH Tryz.prog laidL ((laidWorld os).forCall (fun _ _ => 0) ⟨#[], args, []⟩).memory :=
  laidMetH_of_parts3 (fuel := 8) (laidMet_of_run' 8 (by kernel_rfl) (by kernel_rfl)) (by kernel_rfl) (by kernel_rfl)
theorem tab_data : ([("internal/strconv.uint64pow10", Rows.laid_internal_strconv_uint64pow10), ("unicode/utf8.acceptRanges", Rows.laid_unicode_utf8_acceptRanges), ("strconv.ErrRange", Rows.laid_strconv_ErrRange), ("strconv.ErrSyntax", Rows.laid_strconv_ErrSyntax), ("unicode/utf8.first", Rows.laid_unicode_utf8_first)] : List (String × DataW Unit)) = [("internal/strconv.uint64pow10", Lib.tabData .u64 Lib.pow10Tab), ("unicode/utf8.acceptRanges", Rows.laid_unicode_utf8_acceptRanges), ("strconv.ErrRange", Rows.laid_strconv_ErrRange), ("strconv.ErrSyntax", Rows.laid_strconv_ErrSyntax), ("unicode/utf8.first", Rows.laid_unicode_utf8_first)] := by kernel_rfl
theorem tab_of {W : World} (h : laidMetH Tryz.prog laidL W) : Lib.TabIs Tryz.prog W "internal/strconv.uint64pow10" .u64 Lib.pow10Tab := by
  rw [MakeChecks.laidMetH_plain _ _ _ (by kernel_rfl)] at h
  have h3 : laidMet Tryz.prog [("internal/strconv.uint64pow10", Rows.laid_internal_strconv_uint64pow10), ("unicode/utf8.acceptRanges", Rows.laid_unicode_utf8_acceptRanges), ("strconv.ErrRange", Rows.laid_strconv_ErrRange), ("strconv.ErrSyntax", Rows.laid_strconv_ErrSyntax), ("unicode/utf8.first", Rows.laid_unicode_utf8_first)] W := h.tail.tail
  rw [tab_data] at h3
  exact Lib.tabIs_of_head gTab tTab Tryz.underlying267 Tryz.underlying29 (by kernel_rfl) (by kernel_rfl) h3
theorem tab_size {W : World} (h : Lib.TabIs Tryz.prog W "internal/strconv.uint64pow10" .u64 Lib.pow10Tab) : 4 < W.heap.size := by
  unfold Lib.TabIs World.var? at h
  rw [gTab] at h
  apply Classical.byContradiction
  intro hn
  rw [Option.bind_some, Array.getElem?_eq_none (by omega)] at h
  cases h
theorem tab_kept {W w : World} {bl : Nat → Prop} (hb : bl 4) (h : laidMetH Tryz.prog laidL W) (hsz : 4 < W.heap.size) (hon : Laid.on ⟨W, bl⟩ w) : Lib.TabIs Tryz.prog w "internal/strconv.uint64pow10" .u64 Lib.pow10Tab := by
  have ht := tab_of h
  unfold Lib.TabIs World.var? at ht ⊢
  rw [gTab] at ht ⊢
  rw [Option.bind_some] at ht ⊢
  rw [hon.1.heap 4 hsz (fun h => h hb)]
  exact ht
theorem size_of_cell {W : World} {b : Nat} {v : Value} (h : W.cell? ⟨b, 0, none⟩ = some v) : b < W.heap.size := by
  unfold World.cell? at h
  apply Classical.byContradiction
  intro hn
  dsimp only at h
  rw [Array.getElem?_eq_none (by omega)] at h
  cases h
theorem cell_kept {W w : World} {bl : Nat → Prop} {b : Nat} {v : Value} (hb : bl b) (h : W.cell? ⟨b, 0, none⟩ = some v) (hon : Laid.on ⟨W, bl⟩ w) : w.cell? ⟨b, 0, none⟩ = some v := by
  have hsz := size_of_cell h
  unfold World.cell? at h ⊢
  rw [hon.1.heap b hsz (fun h => h hb)]
  exact h
theorem gSyn : Tryz.prog.globalNamed "strconv.ErrSyntax" = some 2 := by kernel_rfl
theorem gRng : Tryz.prog.globalNamed "strconv.ErrRange" = some 3 := by kernel_rfl
theorem starErr : "*" ++ "errors.errorString" = "*errors.errorString" := by decide
theorem rowErr (u : TypeId) (h : Tryz.prog.typeName? 3 u = some "*errors.errorString") : u = 275 :=
  typeName_ptr_named (nm := "errors.errorString") (by rw [starErr]; kernel_rfl) (by kernel_rfl) (by decide) u (by rw [starErr]; exact h)
theorem syn_of {W : World} (h : laidMetH Tryz.prog laidL W) : ∃ a, W.cell? ⟨2, 0, none⟩ = some (.iface 275 (.pointer (some a))) := by
  rw [MakeChecks.laidMetH_plain _ _ _ (by kernel_rfl)] at h
  have h3 : laidMet Tryz.prog [("strconv.ErrSyntax", Rows.laid_strconv_ErrSyntax), ("unicode/utf8.first", Rows.laid_unicode_utf8_first)] W := h.tail.tail.tail.tail.tail
  obtain ⟨a, s, hv, _⟩ := laid_sentinel h3 gSyn (ti := 136) (by kernel_rfl) Tryz.underlying136 rowErr Tryz.underlying275 Tryz.underlying277 rfl rfl Tryz.underlying9 (by kernel_rfl) (by kernel_rfl)
  exact ⟨a, by simpa using World.var?_cell gSyn hv 0⟩
theorem rng_of {W : World} (h : laidMetH Tryz.prog laidL W) : ∃ a, W.cell? ⟨3, 0, none⟩ = some (.iface 275 (.pointer (some a))) := by
  rw [MakeChecks.laidMetH_plain _ _ _ (by kernel_rfl)] at h
  have h3 : laidMet Tryz.prog [("strconv.ErrRange", Rows.laid_strconv_ErrRange), ("strconv.ErrSyntax", Rows.laid_strconv_ErrSyntax), ("unicode/utf8.first", Rows.laid_unicode_utf8_first)] W := h.tail.tail.tail.tail
  obtain ⟨a, s, hv, _⟩ := laid_sentinel h3 gRng (ti := 136) (by kernel_rfl) Tryz.underlying136 rowErr Tryz.underlying275 Tryz.underlying277 rfl rfl Tryz.underlying9 (by kernel_rfl) (by kernel_rfl)
  exact ⟨a, by simpa using World.var?_cell gRng hv 0⟩
/-- A law whose world is shaped and holds what the row lists. -/
theorem returns_and_shaped {H : Type} {enc : TypeId × Value → H} {a : Assume} {C : Checked} {os : Os} {f : FuncId} {fn : Func} {s : ChangeSpec} {conds : List PathCond} {apart fresh handsOn again : Bool} {X : World → Array Value → Prop}
    (hX : ∀ (w w' : World) (args : Array Value), w.heap = w'.heap → X w args → X w' args)
    (own : ownKnob C.prog.godebug = none) (started : os.Started) (noInit : C.prog.inits.idxOf? f = none) (hfn : C.prog.funcs[f]? = some fn)
    (witness : ∃ (w : World) (tape : Tape) (i : Input), w.os = os ∧ (w.forCall tape i).Shaped C.prog ∧ i.vars = [] ∧ Input.okWide C.prog (w.forCall tape i) .any w.heap.size f i ∧
      ((s.pre enc C.prog fn conds apart (w.forCall tape i).memory i.args ∧ X (w.forCall tape i).memory i.args) ∧ sizedMet enc C.prog fn (OpenSpec.ofChange s) apart (w.forCall tape i).memory i.args) ∧ a.holds C.prog (lone (Frame.enter C.prog f i.args .normal) [] (w.forCall tape i)))
    (contract : ∀ (W : World) (base : Nat) (args : Array Value) (ds gs : List (DataW H)) (before : List MemPlace),
      (∀ (j : Nat) t v, fn.params[j]? = some t → args[j]? = some v → Value.okWide C.prog W .any base t v) →
      DataW.Whole enc C.prog fn.params.toList s.vars apart W args.toList ds gs before →
      conds.all (PathCond.test C.prog ⟨fn.params.toList, ds, s.plain.varTypes C.prog, gs⟩) = true →
      (DataW.weightsEach C.prog (fn.params.toList ++ s.plain.varTypes C.prog) (ds ++ gs)).all (· ≤ reachBytes) = true → X W args → W.ShapedOpen C.prog →
      Calls C.prog f args W fun e W' => ∃ v, e = .returned v ∧ s.post enc C.prog fn apart fresh handsOn again W args v W') :
    ReturnsInHanded a C os f .any (fun w args => (s.pre enc C.prog fn conds apart w args ∧ X w args) ∧ sizedMet enc C.prog fn (OpenSpec.ofChange s) apart w args) (s.post enc C.prog fn apart fresh handsOn again) := by
  refine returnsInHanded_of_calls own started noInit witness ?_
  intro w tape i _ hsh _ hok hpre _
  obtain ⟨_, _, _, fn', hfn', _, _, _, _, hval⟩ := hok
  obtain rfl : fn' = fn := Option.some.inj (hfn'.symm.trans hfn)
  obtain ⟨⟨⟨ds, gs, before, hw, hc⟩, hx⟩, hz⟩ := hpre
  refine (contract (w.forCall tape i) w.heap.size i.args ds gs before hval (DataW.Whole.of_heap (w' := w.forCall tape i) (by rfl) hw) hc (hz.weights hw) (hX _ _ _ (by rfl) hx) hsh).mono fun e W' ⟨v, he, hp⟩ => ?_
  subst he
  exact ChangeSpec.post_blind hp
theorem fnPrograms_law : ∀ x, DomA (LPg.C 4).params x → ∃ n r o, call LPg.T LPg.C n 4 x = some (r, o) ∧ IsTrue (LPg.C 4).res r := by
  intro x hd
  obtain ⟨x0, x1, u⟩ := x
  obtain ⟨N, hN⟩ := Go.Cams.YtipjblnjaicbfaaGreatDoorLPg.e4 x0 x1 hd
  exact ⟨N, _, _, hN N (Nat.le_refl _), rfl⟩
theorem fnPrograms_rec : (Tryz.f4.params.toList.all fun t => Tryz.prog.readableRec t && decide (t < Tryz.prog.types.size)) = true := by kernel_rfl
set_option maxRecDepth 100000 in
theorem fnPrograms_lifted (os : Os) (started : os.Started) (H : Type) (enc : TypeId × Value → H) :
    ReturnsInHanded {} Tryz.checked os 4 .any (fun w args => (Rows.fnProgramsSpec.pre enc Tryz.prog Tryz.f4 Rows.fnProgramsRow.domain false w args ∧ laidMetH Tryz.prog laidL w) ∧ sizedMet enc Tryz.prog Tryz.f4 (OpenSpec.ofChange Rows.fnProgramsSpec) false w args) (Rows.fnProgramsSpec.post enc Tryz.prog Tryz.f4 false true false false) := by
  refine returns_and_shaped (C := Tryz.checked) (X := fun w _ => laidMetH Tryz.prog laidL w) (fun _ _ _ hh h => h.of_heap hh) Tryz.own started (by kernel_rfl) Tryz.func4
    (ChangeSpec.witness_shaped (enc := enc) (C := Tryz.checked) (os := os) (X := fun w _ => laidMetH Tryz.prog laidL w) false (laidWorld os) #[.slice none 0 0, .slice none 0 0] 8 rfl (World.shaped_of_RefB (by kernel_rfl) (by kernel_rfl)) (by kernel_rfl) (by kernel_rfl) (by kernel_rfl) (door_met os _)) ?_
  intro W base args ds gs before hval hW _ hw hL hsh
  have hsz : 4 < W.heap.size := tab_size (tab_of hL)
  obtain ⟨m0, hm0⟩ : ∃ m, W.cell? ⟨1, 0, none⟩ = some (.int .i64 m) := cell_of_shapedOpen_int (zero := #[.int .i64 0]) (t := 3) hsh (of_decide_eq_true (by kernel_rfl)) (by kernel_rfl) rfl (by kernel_rfl) (by kernel_rfl) Tryz.underlying3
  obtain ⟨a1, hv1⟩ := syn_of hL
  obtain ⟨a2, hv2⟩ := rng_of hL
  exact law_callsX LPg.tsOk LPg.insts (by kernel_rfl) Tryz.laidOut (j := 4) (by kernel_rfl) (f := 4) (fn := Tryz.f4) rfl (tb := 4) (by kernel_rfl) Tryz.underlying4 (by kernel_rfl) (fun t ht => by have := List.all_eq_true.1 fnPrograms_rec t ht; simp only [Bool.and_eq_true, decide_eq_true_eq] at this; exact this) rfl (fun H ds h => match ds, h with | [_, _], _ => rfl) fnPrograms_law hval hW hw (bl := fun b => b = 4 ∨ b = 1 ∨ b = 2 ∨ b = 3) (fun b hb => hb.elim (fun e => by rw [e]; exact hsz) fun hb => hb.elim (fun e => by rw [e]; exact size_of_cell hm0) fun hb => hb.elim (fun e => by rw [e]; exact size_of_cell hv1) fun e => by rw [e]; exact size_of_cell hv2) (LPg.exts (fi_ext fun w hon => tab_kept (.inl rfl) hL hsz hon) jn_ext (sp_ext fun w hon => ⟨m0, cell_kept (.inr (.inl rfl)) hm0 hon⟩) (pi_ext (fun w hon => ⟨_, cell_kept (.inr (.inr (.inl rfl))) hv1 hon, .inr ⟨_, _, rfl⟩⟩) (fun w hon => ⟨_, cell_kept (.inr (.inr (.inr rfl))) hv2 hon, .inr ⟨_, _, rfl⟩⟩)) (cut_ext fun w hon => ⟨m0, cell_kept (.inr (.inl rfl)) hm0 hon⟩) ib_ext rv_ext)
theorem fnPrograms_bare : Rows.FnProgramsSaid :=
  OpenClaim.holds_of_wide 4 Tryz.f4 rfl rfl rfl rfl rfl rfl rfl ⟨rfl, rfl, rfl, rfl, rfl⟩ rfl rfl rfl rfl rfl (by kernel_rfl) Tryz.func4 (by kernel_rfl)
    (of_decide_eq_true (by kernel_rfl)) (by unfold Func.isWrapper; rw [if_neg (by decide +kernel)]; exact ⟨rfl, rfl⟩)
    (fun os started H enc _ => fnPrograms_lifted os started H enc)
theorem fnPrograms_named : Tryz.prog.funcNamed Rows.fnProgramsRow.func = some 4 := by kernel_rfl
theorem fnPrograms_holds : Rows.FnProgramsCardSaid :=
  Claim7.holds_tied_plain_at .later [] [.data, .data, .data, .data, .sentinel, .sentinel, .pinned] true (true, "852222544a5a637661edfe44e71a5d45a89e16e2f63bcbca8582ca65cb042713") true
    fnPrograms_bare (fun _ h => by cases h) (by kernel_rfl) (fun _ h => by cases h) fnPrograms_row_tie rfl ⟨rfl, rfl⟩ (by kernel_rfl) rfl
    (fun f fn hf hfn => by
      obtain rfl : f = 4 := Option.some.inj (fnPrograms_named.symm.trans hf) |>.symm
      obtain rfl : fn = Tryz.f4 := (Option.some.inj (Tryz.func4.symm.trans hfn)).symm
      exact ⟨by kernel_rfl, fun j t ht => by
        have hm := Array.mem_of_getElem? ht
        have hall : (Tryz.f4.params.toList.all fun u => !Tryz.prog.wantsStandIn u) = true := by kernel_rfl
        exact (show Tryz.prog.wantsStandIn t = false by simpa using List.all_eq_true.1 hall t (by simpa using hm))⟩)
    (by kernel_rfl)
#print axioms fnPrograms_holds
end Go.Proofs.YtipjblnjaicbfaaGreatDoor
