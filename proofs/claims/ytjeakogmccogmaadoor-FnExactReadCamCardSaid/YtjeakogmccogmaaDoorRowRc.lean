/- The law FnExactReadCam returns true for all arguments, in every run, and leaves its arguments as they were; no conditions. The library's table of powers of ten is as the program's text lays it: the card ties it. -/
import Derived.Test.YtjeakogmccogmaaDoorERc
import Derived.Test.YtjeakogmccogmaaDoorRows
import Derived.Test.YtjeakogmccogmaaDoorTie
import Derived.Test.YtjeakogmccogmaaDoorCards
import Derived.ProofKit
import Derived.LaidMore
import Derived.OpenShut
import Derived.Stop.Joined
import Derived.Stop.LaidErr
import Derived.Lib.LaidTab
import Derived.Shelf.Strings.Builder1
import Derived.Shelf.Strings.Builder2
import Derived.Shelf.Strings.OnBuilder
import Derived.Shelf.Small.Strs
import Derived.Shelf.Strings.BuilderF
import Derived.Shelf.Strings.BuilderK
import Derived.Shelf.Strconv.Itoa0
import Derived.Shelf.Strconv.Itoa1
import Derived.Shelf.LaysM
import Derived.Shelf.Strconv.Itoa2
import Derived.Shelf.Strconv.Itoa3
import Derived.Shelf.Strconv.Itoa4
import Derived.Shelf.Strconv.ParseIntEmpty
import Derived.Shelf.Strconv.Clone
import Derived.Shelf.Strconv.SyntaxError
import Derived.Shelf.LaysC
import Derived.Shelf.Strconv.ToError
import Derived.Shelf.Strconv.Lower
import Derived.Shelf.Strconv.ParseUint10
import Derived.Shelf.Strconv.ParseUint10Empty
import Derived.Shelf.Strconv.ParseUint10Any
import Derived.Shelf.Strconv.ParseInt10
import Derived.Shelf.Strconv.RangeError
import Derived.Shelf.Strconv.ToErrorRange
import Derived.Shelf.Strconv.ParseUintEmpty
import Derived.Shelf.Strconv.ParseUint10b64
import Derived.Shelf.Strconv.ParseUint10b32
import Derived.Shelf.Strconv.ParseUint10b16
import Derived.Shelf.Strconv.ParseUint10b8
import Derived.Shelf.Strconv.ParseUint10At
import Derived.Shelf.Strconv.ParseInt10At64
import Derived.Shelf.Strconv.ParseInt10At32
import Derived.Shelf.Strconv.ParseInt10At16
import Derived.Shelf.Strconv.ParseInt10At8
import Derived.Shelf.Strconv.ParseInt10All
import Derived.Shelf.Strconv.ParseIntPublic10
import Derived.Shelf.Strings.Search1
import Derived.Shelf.Strings.Search2
import Derived.Shelf.Strings.Search3
import Derived.Shelf.Strings.Cut
import Derived.Shelf.Strings.Count
import Derived.Shelf.Strings.Shaped
import Derived.Shelf.Strings.Prefix
import Derived.Shelf.Strings.Split
import Derived.Shelf.Strings.SplitShaped
import Derived.Shelf.Unicode.Decode
import Derived.Shelf.Strings.RuneCount
import Derived.Shelf.Strings.Explode
import Derived.Shelf.Bits.Mul64
import Derived.Shelf.Strings.Repeat
import Derived.Shelf.Unicode.DecodeSlow
import Derived.HandedShaped
import Derived.Lib.LaidU8
import Derived.WalkKit
import Derived.Laws.CopyOwn
import Derived.Deep.RegionLaw
namespace Go.Proofs
open Go.Shelf
def Tryd.lays156_ren : Go.Shelf.Ren := ⟨fun | 156 => 57 | 165 => 82 | 166 => 46 | 169 => 48 | 240 => 73 | 241 => 102 | 276 => 94 | 277 => 113 | n => n, fun | 31 => 43 | 9 => 9 | 3 => 3 | 4 => 4 | 0 => 0 | 20 => 20 | 72 => 84 | 76 => 85 | 70 => 81 | 37 => 82 | 75 => 78 | 127 => 106 | 164 => 124 | 5 => 5 | 80 => 88 | n => n, fun | n => n⟩
theorem Tryd.lays156 : Go.Proofs.Lays.n156 Tryd.prog Tryd.lays156_ren := {
  mixed := by kernel_rfl
  f156 := Tryd.func57.trans (congrArg some (by kernel_rfl))
  f165 := Tryd.func82.trans (congrArg some (by kernel_rfl))
  f166 := Tryd.func46.trans (congrArg some (by kernel_rfl))
  f169 := Tryd.func48.trans (congrArg some (by kernel_rfl))
  f240 := Tryd.func73.trans (congrArg some (by kernel_rfl))
  f241 := Tryd.func102.trans (congrArg some (by kernel_rfl))
  f276 := Tryd.func94.trans (congrArg some (by kernel_rfl))
  f277 := Tryd.func113.trans (congrArg some (by kernel_rfl))
  t0 := Tryd.underlying0
  a0 := Tryd.isAgg0
  z0 := Tryd.sizeOf0
  v0 := Tryd.zeroValue0
  t3 := Tryd.underlying3
  a3 := Tryd.isAgg3
  z3 := Tryd.sizeOf3
  v3 := Tryd.zeroValue3
  t4 := Tryd.underlying4
  a4 := Tryd.isAgg4
  z4 := Tryd.sizeOf4
  v4 := Tryd.zeroValue4
  t9 := Tryd.underlying9
  a9 := Tryd.isAgg9
  z9 := Tryd.sizeOf9
  v9 := Tryd.zeroValue9
  t20 := Tryd.underlying20
  a20 := Tryd.isAgg20
  z20 := Tryd.sizeOf20
  v20 := Tryd.zeroValue20
  t31 := Tryd.underlying43
  a31 := Tryd.isAgg43
  z31 := Tryd.sizeOf43
  v31 := Tryd.zeroValue43
  t37 := Tryd.underlying82
  a37 := Tryd.isAgg82
  z37 := Tryd.sizeOf82
  v37 := Tryd.zeroValue82
  t70 := Tryd.underlying81
  a70 := Tryd.isAgg81
  z70 := Tryd.sizeOf81
  v70 := Tryd.zeroValue81
  t72 := Tryd.underlying84
  a72 := Tryd.isAgg84
  z72 := Tryd.sizeOf84
  v72 := Tryd.zeroValue84
  t75 := Tryd.underlying78
  a75 := Tryd.isAgg78
  z75 := Tryd.sizeOf78
  v75 := Tryd.zeroValue78
  t76 := Tryd.underlying85
  a76 := Tryd.isAgg85
  z76 := Tryd.sizeOf85
  v76 := Tryd.zeroValue85
  t127 := Tryd.underlying106
  a127 := Tryd.isAgg106
  z127 := Tryd.sizeOf106
  v127 := Tryd.zeroValue106
  t164 := Tryd.underlying124
  a164 := Tryd.isAgg124
  z164 := Tryd.sizeOf124
  v164 := Tryd.zeroValue124 }
theorem Tryd.Builder_Extra_156 : Builder.Extra Tryd.prog Tryd.lays156_ren := {
  sizeBuilder := by kernel_rfl
  liesBuilder := by kernel_rfl
  t5 := Tryd.underlying5
  a5 := Tryd.isAgg5
  z5 := Tryd.sizeOf5
  v5 := Tryd.zeroValue5
  infoByte := by kernel_rfl
  cellsByte := by kernel_rfl
  sizeByte := by kernel_rfl
  neB5 := by decide }
open Go.RowKit in
/-- No element: the empty string; the world is as it was. (Whatever the slice's address and capacity: a nil slice too.) (LAID: no walk: one application.) -/
theorem Tryd.strings_Join_none (a : Option Addr) (c : Nat) (sep : ByteArray) (w : World) :
    Calls Tryd.prog 57 #[.slice a 0 c, .string sep] w fun e w' => e = .returned (.string ⟨#[]⟩) ∧ w' = w := Any.strings_Join_none Tryd.lays156 Tryd.Builder_Extra_156 a c sep w
open Go.RowKit in
/-- strings.Join: "Join concatenates the elements of its first argument to create a single string. The separator string sep is placed between elements in the resulting string.": HOWEVER MANY ELEMENTS. Below the heap's end the world is as it was. (LAID: no walk: one application.) -/
theorem Tryd.strings_Join (bk o c : Nat) (xs : List ByteArray) (sep : ByteArray) (w : World) (hcells : ∀ (j : Nat) x, xs[j]? = some x → w.cell? ⟨bk, o + j, none⟩ = some (.string x)) (hbk : bk < w.heap.size) (hN : xs.length ≤ 140737488355328) (hcap : xs.length ≤ c) (hlen : (Lib.join (xs.map (·.data.toList)) sep.data.toList).length ≤ 140737488355328) :
    Calls Tryd.prog 57 #[.slice (some ⟨bk, o, none⟩) xs.length c, .string sep] w fun e w' => e = .returned (.string ⟨(Lib.join (xs.map (·.data.toList)) sep.data.toList).toArray⟩) ∧ Below w.heap.size w w' := Any.strings_Join Tryd.lays156 Tryd.Builder_Extra_156 bk o c xs sep w hcells hbk hN hcap hlen
def Tryd.laysM173_ren : Go.Shelf.Ren := ⟨fun | 173 => 78 | 246 => 101 | 283 => 107 | 284 => 108 | 285 => 109 | 286 => 110 | 129 => 116 | 317 => 115 | 318 => 117 | 319 => 118 | 320 => 119 | 337 => 120 | 338 => 121 | n => n, fun | 2 => 2 | 3 => 3 | 9 => 9 | 4 => 4 | 171 => 134 | 0 => 0 | 53 => 22 | 37 => 82 | 5 => 5 | 173 => 137 | 212 => 149 | 51 => 108 | 20 => 20 | 213 => 150 | 46 => 75 | 232 => 154 | 233 => 155 | n => n, fun | 17 => 5 | 18 => 6 | 19 => 7 | n => n⟩
theorem Tryd.laysM173 : Go.Proofs.LaysM.n173 Tryd.prog Tryd.laysM173_ren := {
  mixed := by kernel_rfl
  f129 := Tryd.func116.trans (congrArg some (by kernel_rfl))
  f173 := Tryd.func78.trans (congrArg some (by kernel_rfl))
  f246 := Tryd.func101.trans (congrArg some (by kernel_rfl))
  f283 := Tryd.func107.trans (congrArg some (by kernel_rfl))
  f284 := Tryd.func108.trans (congrArg some (by kernel_rfl))
  f285 := Tryd.func109.trans (congrArg some (by kernel_rfl))
  f286 := Tryd.func110.trans (congrArg some (by kernel_rfl))
  f317 := Tryd.func115.trans (congrArg some (by kernel_rfl))
  f318 := Tryd.func117.trans (congrArg some (by kernel_rfl))
  f319 := Tryd.func118.trans (congrArg some (by kernel_rfl))
  f320 := Tryd.func119.trans (congrArg some (by kernel_rfl))
  f337 := Tryd.func120.trans (congrArg some (by kernel_rfl))
  f338 := Tryd.func121.trans (congrArg some (by kernel_rfl))
  t0 := Tryd.underlying0
  a0 := Tryd.isAgg0
  z0 := Tryd.sizeOf0
  v0 := Tryd.zeroValue0
  t2 := Tryd.underlying2
  a2 := Tryd.isAgg2
  z2 := Tryd.sizeOf2
  v2 := Tryd.zeroValue2
  t3 := Tryd.underlying3
  a3 := Tryd.isAgg3
  z3 := Tryd.sizeOf3
  v3 := Tryd.zeroValue3
  t4 := Tryd.underlying4
  a4 := Tryd.isAgg4
  z4 := Tryd.sizeOf4
  v4 := Tryd.zeroValue4
  t5 := Tryd.underlying5
  a5 := Tryd.isAgg5
  z5 := Tryd.sizeOf5
  v5 := Tryd.zeroValue5
  t9 := Tryd.underlying9
  a9 := Tryd.isAgg9
  z9 := Tryd.sizeOf9
  v9 := Tryd.zeroValue9
  t20 := Tryd.underlying20
  a20 := Tryd.isAgg20
  z20 := Tryd.sizeOf20
  v20 := Tryd.zeroValue20
  t37 := Tryd.underlying82
  a37 := Tryd.isAgg82
  z37 := Tryd.sizeOf82
  v37 := Tryd.zeroValue82
  t46 := Tryd.underlying75
  a46 := Tryd.isAgg75
  z46 := Tryd.sizeOf75
  v46 := Tryd.zeroValue75
  t51 := Tryd.underlying108
  a51 := Tryd.isAgg108
  z51 := Tryd.sizeOf108
  v51 := Tryd.zeroValue108
  t53 := Tryd.underlying22
  a53 := Tryd.isAgg22
  z53 := Tryd.sizeOf22
  v53 := Tryd.zeroValue22
  t171 := Tryd.underlying134
  a171 := Tryd.isAgg134
  z171 := Tryd.sizeOf134
  v171 := Tryd.zeroValue134
  t173 := Tryd.underlying137
  a173 := Tryd.isAgg137
  z173 := Tryd.sizeOf137
  v173 := Tryd.zeroValue137
  t212 := Tryd.underlying149
  a212 := Tryd.isAgg149
  z212 := Tryd.sizeOf149
  v212 := Tryd.zeroValue149
  t213 := Tryd.underlying150
  a213 := Tryd.isAgg150
  z213 := Tryd.sizeOf150
  t232 := Tryd.underlying154
  a232 := Tryd.isAgg154
  z232 := Tryd.sizeOf154
  v232 := Tryd.zeroValue154
  t233 := Tryd.underlying155
  a233 := Tryd.isAgg155
  z233 := Tryd.sizeOf155
  v233 := Tryd.zeroValue155
  g17 := by kernel_rfl
  g18 := by kernel_rfl
  g19 := by kernel_rfl
  i0 := by kernel_rfl
  i2 := by kernel_rfl
  i3 := by kernel_rfl
  i4 := by kernel_rfl
  i5 := by kernel_rfl
  i9 := by kernel_rfl
  i20 := by kernel_rfl
  i37 := by kernel_rfl
  i46 := by kernel_rfl
  i51 := by kernel_rfl
  i53 := by kernel_rfl
  i171 := by kernel_rfl
  i173 := by kernel_rfl
  i212 := by kernel_rfl
  i232 := by kernel_rfl
  i233 := by kernel_rfl
  m17 := by kernel_rfl
  m18 := by kernel_rfl
  m19 := by kernel_rfl }
open Go.RowKit Go.Sort Go.Lib in
/-- strconv.FormatInt: "FormatInt returns the string representation of i in the given base": AT BASE 10: i's decimal numeral, for every int64. (LAID: no walk: one application.) -/
theorem Tryd.strconv_FormatInt_10 (n : Int) (h0 : -9223372036854775808 ≤ n) (h1 : n ≤ 9223372036854775807) (w : World) (htab : Lib.TabIs Tryd.prog w "internal/strconv.uint64pow10" .u64 Lib.pow10Tab) :
    Calls Tryd.prog 78 #[.int .i64 n, .int .i64 10] w fun e w' => e = .returned (.string ⟨(Lib.itoa n).toArray⟩) ∧ ∃ k os, w' = grow (w.drewN k) os := Any.strconv_FormatInt_10 Tryd.laysM173 n h0 h1 w htab
def Tryd.laysC174_ren : Go.Shelf.Ren := ⟨fun | 174 => 51 | 247 => 77 | 245 => 72 | 287 => 71 | 279 => 90 | 280 => 91 | 281 => 92 | 282 => 93 | 321 => 88 | 322 => 89 | 316 => 104 | 171 => 106 | 205 => 105 | 243 => 114 | 246 => 101 | 283 => 107 | 284 => 108 | 285 => 109 | 286 => 110 | 129 => 116 | 317 => 115 | 318 => 117 | 319 => 118 | 320 => 119 | 337 => 120 | 338 => 121 | n => n, fun | 9 => 9 | 3 => 3 | 2 => 2 | 75 => 78 | 85 => 89 | 4 => 4 | 167 => 119 | 5 => 5 | 53 => 22 | 175 => 79 | 46 => 75 | 168 => 121 | 37 => 82 | 0 => 0 | 210 => 131 | 21 => 21 | 127 => 106 | 145 => 147 | 143 => 145 | 171 => 134 | 173 => 137 | 212 => 149 | 51 => 108 | 20 => 20 | 213 => 150 | 232 => 154 | 233 => 155 | 80 => 88 | n => n, fun | 15 => 1 | 16 => 2 | 17 => 5 | 18 => 6 | 19 => 7 | n => n⟩
theorem Tryd.laysC174 : Go.Proofs.LaysC.n174 Tryd.prog Tryd.laysC174_ren := {
  mixed := by kernel_rfl
  f129 := Tryd.func116.trans (congrArg some (by kernel_rfl))
  f171 := Tryd.func106.trans (congrArg some (by kernel_rfl))
  f174 := Tryd.func51.trans (congrArg some (by kernel_rfl))
  f205 := Tryd.func105.trans (congrArg some (by kernel_rfl))
  f243 := Tryd.func114.trans (congrArg some (by kernel_rfl))
  f245 := Tryd.func72.trans (congrArg some (by kernel_rfl))
  f246 := Tryd.func101.trans (congrArg some (by kernel_rfl))
  f247 := Tryd.func77.trans (congrArg some (by kernel_rfl))
  f279 := Tryd.func90.trans (congrArg some (by kernel_rfl))
  f280 := Tryd.func91.trans (congrArg some (by kernel_rfl))
  f281 := Tryd.func92.trans (congrArg some (by kernel_rfl))
  f282 := Tryd.func93.trans (congrArg some (by kernel_rfl))
  f283 := Tryd.func107.trans (congrArg some (by kernel_rfl))
  f284 := Tryd.func108.trans (congrArg some (by kernel_rfl))
  f285 := Tryd.func109.trans (congrArg some (by kernel_rfl))
  f286 := Tryd.func110.trans (congrArg some (by kernel_rfl))
  f287 := Tryd.func71.trans (congrArg some (by kernel_rfl))
  f316 := Tryd.func104.trans (congrArg some (by kernel_rfl))
  f317 := Tryd.func115.trans (congrArg some (by kernel_rfl))
  f318 := Tryd.func117.trans (congrArg some (by kernel_rfl))
  f319 := Tryd.func118.trans (congrArg some (by kernel_rfl))
  f320 := Tryd.func119.trans (congrArg some (by kernel_rfl))
  f321 := Tryd.func88.trans (congrArg some (by kernel_rfl))
  f322 := Tryd.func89.trans (congrArg some (by kernel_rfl))
  f337 := Tryd.func120.trans (congrArg some (by kernel_rfl))
  f338 := Tryd.func121.trans (congrArg some (by kernel_rfl))
  t0 := Tryd.underlying0
  a0 := Tryd.isAgg0
  z0 := Tryd.sizeOf0
  v0 := Tryd.zeroValue0
  t2 := Tryd.underlying2
  a2 := Tryd.isAgg2
  z2 := Tryd.sizeOf2
  v2 := Tryd.zeroValue2
  t3 := Tryd.underlying3
  a3 := Tryd.isAgg3
  z3 := Tryd.sizeOf3
  v3 := Tryd.zeroValue3
  t4 := Tryd.underlying4
  a4 := Tryd.isAgg4
  z4 := Tryd.sizeOf4
  v4 := Tryd.zeroValue4
  t5 := Tryd.underlying5
  a5 := Tryd.isAgg5
  z5 := Tryd.sizeOf5
  v5 := Tryd.zeroValue5
  t9 := Tryd.underlying9
  a9 := Tryd.isAgg9
  z9 := Tryd.sizeOf9
  v9 := Tryd.zeroValue9
  t20 := Tryd.underlying20
  a20 := Tryd.isAgg20
  z20 := Tryd.sizeOf20
  v20 := Tryd.zeroValue20
  t21 := Tryd.underlying21
  a21 := Tryd.isAgg21
  z21 := Tryd.sizeOf21
  v21 := Tryd.zeroValue21
  t37 := Tryd.underlying82
  a37 := Tryd.isAgg82
  z37 := Tryd.sizeOf82
  v37 := Tryd.zeroValue82
  t46 := Tryd.underlying75
  a46 := Tryd.isAgg75
  z46 := Tryd.sizeOf75
  v46 := Tryd.zeroValue75
  t51 := Tryd.underlying108
  a51 := Tryd.isAgg108
  z51 := Tryd.sizeOf108
  v51 := Tryd.zeroValue108
  t53 := Tryd.underlying22
  a53 := Tryd.isAgg22
  z53 := Tryd.sizeOf22
  v53 := Tryd.zeroValue22
  t75 := Tryd.underlying78
  a75 := Tryd.isAgg78
  z75 := Tryd.sizeOf78
  v75 := Tryd.zeroValue78
  t85 := Tryd.underlying89
  a85 := Tryd.isAgg89
  z85 := Tryd.sizeOf89
  v85 := Tryd.zeroValue89
  t127 := Tryd.underlying106
  a127 := Tryd.isAgg106
  z127 := Tryd.sizeOf106
  v127 := Tryd.zeroValue106
  t143 := Tryd.underlying145
  a143 := Tryd.isAgg145
  z143 := Tryd.sizeOf145
  v143 := Tryd.zeroValue145
  t145 := Tryd.underlying147
  a145 := Tryd.isAgg147
  z145 := Tryd.sizeOf147
  v145 := Tryd.zeroValue147
  t167 := Tryd.underlying119
  a167 := Tryd.isAgg119
  z167 := Tryd.sizeOf119
  v167 := Tryd.zeroValue119
  t168 := Tryd.underlying121
  a168 := Tryd.isAgg121
  z168 := Tryd.sizeOf121
  v168 := Tryd.zeroValue121
  t171 := Tryd.underlying134
  a171 := Tryd.isAgg134
  z171 := Tryd.sizeOf134
  v171 := Tryd.zeroValue134
  t173 := Tryd.underlying137
  a173 := Tryd.isAgg137
  z173 := Tryd.sizeOf137
  v173 := Tryd.zeroValue137
  t175 := Tryd.underlying79
  a175 := Tryd.isAgg79
  z175 := Tryd.sizeOf79
  v175 := Tryd.zeroValue79
  t210 := Tryd.underlying131
  a210 := Tryd.isAgg131
  z210 := Tryd.sizeOf131
  v210 := Tryd.zeroValue131
  t212 := Tryd.underlying149
  a212 := Tryd.isAgg149
  z212 := Tryd.sizeOf149
  v212 := Tryd.zeroValue149
  t213 := Tryd.underlying150
  a213 := Tryd.isAgg150
  z213 := Tryd.sizeOf150
  t232 := Tryd.underlying154
  a232 := Tryd.isAgg154
  z232 := Tryd.sizeOf154
  v232 := Tryd.zeroValue154
  t233 := Tryd.underlying155
  a233 := Tryd.isAgg155
  z233 := Tryd.sizeOf155
  v233 := Tryd.zeroValue155
  g15 := by kernel_rfl
  g16 := by kernel_rfl
  g17 := by kernel_rfl
  g18 := by kernel_rfl
  g19 := by kernel_rfl
  t80 := Tryd.underlying88
  a80 := Tryd.isAgg88
  z80 := Tryd.sizeOf88
  v80 := Tryd.zeroValue88
  i0 := by kernel_rfl
  i2 := by kernel_rfl
  i3 := by kernel_rfl
  i4 := by kernel_rfl
  i5 := by kernel_rfl
  i9 := by kernel_rfl
  i20 := by kernel_rfl
  i21 := by kernel_rfl
  i37 := by kernel_rfl
  i46 := by kernel_rfl
  i51 := by kernel_rfl
  i53 := by kernel_rfl
  i75 := by kernel_rfl
  i80 := by kernel_rfl
  i85 := by kernel_rfl
  i127 := by kernel_rfl
  i143 := by kernel_rfl
  i145 := by kernel_rfl
  i167 := by kernel_rfl
  i168 := by kernel_rfl
  i171 := by kernel_rfl
  i173 := by kernel_rfl
  i175 := by kernel_rfl
  i210 := by kernel_rfl
  i212 := by kernel_rfl
  i232 := by kernel_rfl
  i233 := by kernel_rfl
  m15 := by kernel_rfl
  m16 := by kernel_rfl
  m17 := by kernel_rfl
  m18 := by kernel_rfl
  m19 := by kernel_rfl
  c0 := by kernel_rfl
  c2 := by kernel_rfl
  c3 := by kernel_rfl
  c4 := by kernel_rfl
  c5 := by kernel_rfl
  c9 := by kernel_rfl
  c20 := by kernel_rfl
  c21 := by kernel_rfl
  c37 := by kernel_rfl
  c46 := by kernel_rfl
  c51 := by kernel_rfl
  c53 := by kernel_rfl
  c75 := by kernel_rfl
  c80 := by kernel_rfl
  c85 := by kernel_rfl
  c127 := by kernel_rfl
  c143 := by kernel_rfl
  c145 := by kernel_rfl
  c167 := by kernel_rfl
  c168 := by kernel_rfl
  c171 := by kernel_rfl
  c173 := by kernel_rfl
  c175 := by kernel_rfl
  c210 := by kernel_rfl
  c212 := by kernel_rfl
  c213 := by kernel_rfl
  c232 := by kernel_rfl
  c233 := by kernel_rfl }
def Tryd.lays145_ren : Go.Shelf.Ren := ⟨fun | 145 => 25 | 220 => 50 | 219 => 76 | 217 => 62 | 225 => 98 | 224 => 99 | 267 => 100 | 266 => 83 | 314 => 112 | n => n, fun | 9 => 9 | 4 => 4 | 59 => 52 | 3 => 3 | 5 => 5 | 46 => 75 | 146 => 109 | 51 => 108 | n => n, fun | 1 => 0 | n => n⟩
theorem Tryd.lays145 : Go.Proofs.Lays.n145 Tryd.prog Tryd.lays145_ren := {
  mixed := by kernel_rfl
  f145 := Tryd.func25.trans (congrArg some (by kernel_rfl))
  f217 := Tryd.func62.trans (congrArg some (by kernel_rfl))
  f219 := Tryd.func76.trans (congrArg some (by kernel_rfl))
  f220 := Tryd.func50.trans (congrArg some (by kernel_rfl))
  f224 := Tryd.func99.trans (congrArg some (by kernel_rfl))
  f225 := Tryd.func98.trans (congrArg some (by kernel_rfl))
  f266 := Tryd.func83.trans (congrArg some (by kernel_rfl))
  f267 := Tryd.func100.trans (congrArg some (by kernel_rfl))
  f314 := Tryd.func112.trans (congrArg some (by kernel_rfl))
  t3 := Tryd.underlying3
  a3 := Tryd.isAgg3
  z3 := Tryd.sizeOf3
  v3 := Tryd.zeroValue3
  t4 := Tryd.underlying4
  a4 := Tryd.isAgg4
  z4 := Tryd.sizeOf4
  v4 := Tryd.zeroValue4
  t5 := Tryd.underlying5
  a5 := Tryd.isAgg5
  z5 := Tryd.sizeOf5
  v5 := Tryd.zeroValue5
  t9 := Tryd.underlying9
  a9 := Tryd.isAgg9
  z9 := Tryd.sizeOf9
  v9 := Tryd.zeroValue9
  t46 := Tryd.underlying75
  a46 := Tryd.isAgg75
  z46 := Tryd.sizeOf75
  v46 := Tryd.zeroValue75
  t51 := Tryd.underlying108
  a51 := Tryd.isAgg108
  z51 := Tryd.sizeOf108
  v51 := Tryd.zeroValue108
  t59 := Tryd.underlying52
  a59 := Tryd.isAgg52
  z59 := Tryd.sizeOf52
  v59 := Tryd.zeroValue52
  t146 := Tryd.underlying109
  a146 := Tryd.isAgg109
  z146 := Tryd.sizeOf109
  v146 := Tryd.zeroValue109
  g1 := by kernel_rfl }
open Go.RowKit Go.Lib in
/-- strings.Cut: "Cut slices s around the first instance of sep, returning the text before and after sep. The found result reports whether sep appears in s. If sep does not appear in s, cut returns s, "", false.": IT RETURNS 'Lib.cut s sep'; the world is as it was but for the count of draws. (LAID: no walk: one application.) -/
theorem Tryd.strings_Cut (s sep : ByteArray) (m : Int) (w : World) (hs : s.size < 4294967281) (hm : w.cell? ⟨0, 0, none⟩ = some (.int .i64 m)) :
    Calls Tryd.prog 25 #[.string s, .string sep] w fun e w' => e = .returned (.tuple #[.string ⟨(Lib.cut s.data.toList sep.data.toList).1.toArray⟩, .string ⟨(Lib.cut s.data.toList sep.data.toList).2.1.toArray⟩, .bool (Lib.cut s.data.toList sep.data.toList).2.2]) ∧ ∃ n, w' = w.drewN n := Any.strings_Cut Tryd.lays145 s sep m w hs hm
def Tryd.lays146_ren : Go.Shelf.Ren := ⟨fun | 146 => 21 | 221 => 44 | 268 => 68 | 138 => 69 | 143 => 70 | 195 => 85 | 197 => 86 | 218 => 87 | 219 => 76 | 260 => 103 | 217 => 62 | 225 => 98 | 224 => 99 | 267 => 100 | 266 => 83 | 314 => 112 | n => n, fun | 9 => 9 | 31 => 43 | 3 => 3 | 4 => 4 | 0 => 0 | 105 => 117 | 21 => 21 | 5 => 5 | 46 => 75 | 119 => 141 | 139 => 144 | 138 => 143 | 146 => 109 | 51 => 108 | n => n, fun | 1 => 0 | 3 => 3 | 4 => 4 | n => n⟩
theorem Tryd.lays146 : Go.Proofs.Lays.n146 Tryd.prog Tryd.lays146_ren := {
  mixed := by kernel_rfl
  f138 := Tryd.func69.trans (congrArg some (by kernel_rfl))
  f143 := Tryd.func70.trans (congrArg some (by kernel_rfl))
  f146 := Tryd.func21.trans (congrArg some (by kernel_rfl))
  f195 := Tryd.func85.trans (congrArg some (by kernel_rfl))
  f197 := Tryd.func86.trans (congrArg some (by kernel_rfl))
  f217 := Tryd.func62.trans (congrArg some (by kernel_rfl))
  f218 := Tryd.func87.trans (congrArg some (by kernel_rfl))
  f219 := Tryd.func76.trans (congrArg some (by kernel_rfl))
  f221 := Tryd.func44.trans (congrArg some (by kernel_rfl))
  f224 := Tryd.func99.trans (congrArg some (by kernel_rfl))
  f225 := Tryd.func98.trans (congrArg some (by kernel_rfl))
  f260 := Tryd.func103.trans (congrArg some (by kernel_rfl))
  f266 := Tryd.func83.trans (congrArg some (by kernel_rfl))
  f267 := Tryd.func100.trans (congrArg some (by kernel_rfl))
  f268 := Tryd.func68.trans (congrArg some (by kernel_rfl))
  f314 := Tryd.func112.trans (congrArg some (by kernel_rfl))
  t0 := Tryd.underlying0
  a0 := Tryd.isAgg0
  z0 := Tryd.sizeOf0
  v0 := Tryd.zeroValue0
  t3 := Tryd.underlying3
  a3 := Tryd.isAgg3
  z3 := Tryd.sizeOf3
  v3 := Tryd.zeroValue3
  t4 := Tryd.underlying4
  a4 := Tryd.isAgg4
  z4 := Tryd.sizeOf4
  v4 := Tryd.zeroValue4
  t5 := Tryd.underlying5
  a5 := Tryd.isAgg5
  z5 := Tryd.sizeOf5
  v5 := Tryd.zeroValue5
  t9 := Tryd.underlying9
  a9 := Tryd.isAgg9
  z9 := Tryd.sizeOf9
  v9 := Tryd.zeroValue9
  t21 := Tryd.underlying21
  a21 := Tryd.isAgg21
  z21 := Tryd.sizeOf21
  v21 := Tryd.zeroValue21
  t31 := Tryd.underlying43
  a31 := Tryd.isAgg43
  z31 := Tryd.sizeOf43
  v31 := Tryd.zeroValue43
  t46 := Tryd.underlying75
  a46 := Tryd.isAgg75
  z46 := Tryd.sizeOf75
  v46 := Tryd.zeroValue75
  t51 := Tryd.underlying108
  a51 := Tryd.isAgg108
  z51 := Tryd.sizeOf108
  v51 := Tryd.zeroValue108
  t105 := Tryd.underlying117
  a105 := Tryd.isAgg117
  z105 := Tryd.sizeOf117
  v105 := Tryd.zeroValue117
  t119 := Tryd.underlying141
  a119 := Tryd.isAgg141
  z119 := Tryd.sizeOf141
  t138 := Tryd.underlying143
  a138 := Tryd.isAgg143
  z138 := Tryd.sizeOf143
  v138 := Tryd.zeroValue143
  t139 := Tryd.underlying144
  a139 := Tryd.isAgg144
  z139 := Tryd.sizeOf144
  v139 := Tryd.zeroValue144
  t146 := Tryd.underlying109
  a146 := Tryd.isAgg109
  z146 := Tryd.sizeOf109
  v146 := Tryd.zeroValue109
  g1 := by kernel_rfl
  g3 := by kernel_rfl
  g4 := by kernel_rfl }
open Go.RowKit Go.Lib in
/-- strings.Split. (LAID: no walk: one application.) -/
theorem Tryd.strings_Split (s sep : ByteArray) (m : Int) (w : World) (hs : s.size < 4294967281) (hm : w.cell? ⟨0, 0, none⟩ = some (.int .i64 m)) (h1 : 1 ≤ sep.size) :
    Calls Tryd.prog 21 #[.string s, .string sep] w fun e w' =>
      e = .returned (.slice (some ⟨w.heap.size, 0, none⟩) (Lib.countB s sep + 1) (Lib.countB s sep + 1)) ∧ w' = w.alloc (.cells ((Lib.splitB sep 0 (Lib.countB s sep) s).map Value.string).toArray 9) := Any.strings_Split Tryd.lays146 (by kernel_rfl) s sep m w hs hm h1
def Tryd.lays212_ren : Go.Shelf.Ren := ⟨fun | 212 => 53 | 263 => 79 | 264 => 80 | n => n, fun | 46 => 75 | 51 => 108 | 146 => 109 | 53 => 22 | 148 => 111 | n => n, fun | n => n⟩
theorem Tryd.lays212 : Go.Proofs.Lays.n212 Tryd.prog Tryd.lays212_ren := {
  mixed := by kernel_rfl
  f212 := Tryd.func53.trans (congrArg some (by kernel_rfl))
  f263 := Tryd.func79.trans (congrArg some (by kernel_rfl))
  f264 := Tryd.func80.trans (congrArg some (by kernel_rfl))
  t46 := Tryd.underlying75
  a46 := Tryd.isAgg75
  z46 := Tryd.sizeOf75
  v46 := Tryd.zeroValue75
  t51 := Tryd.underlying108
  a51 := Tryd.isAgg108
  z51 := Tryd.sizeOf108
  v51 := Tryd.zeroValue108
  t53 := Tryd.underlying22
  a53 := Tryd.isAgg22
  z53 := Tryd.sizeOf22
  v53 := Tryd.zeroValue22
  t146 := Tryd.underlying109
  a146 := Tryd.isAgg109
  z146 := Tryd.sizeOf109
  v146 := Tryd.zeroValue109
  t148 := Tryd.underlying111
  a148 := Tryd.isAgg111
  z148 := Tryd.sizeOf111
  v148 := Tryd.zeroValue111 }
open Go.RowKit Go.Lib in
/-- math/bits.Mul: "Mul returns the full-width product of x and y": on a machine of 64 bits: Mul64's. (LAID: no walk: one application.) -/
theorem Tryd.bits_Mul (x y : Nat) (hx : x < 18446744073709551616) (hy : y < 18446744073709551616) (w : World) :
    Calls Tryd.prog 53 #[.int .u64 x, .int .u64 y] w fun e w' => e = .returned (.tuple #[.int .u64 ((x * y / 18446744073709551616 : Nat) : Int), .int .u64 ((x * y % 18446744073709551616 : Nat) : Int)]) ∧ w' = w := Any.bits_Mul Tryd.lays212 x y hx hy w
section
open Go Go.RowKit Go.Lib
theorem infoRep : (Tryd.prog.info? 35).map (fun i => (i.zero, i.size, i.bytes)) = some (some (.int .i16 0), 1, 2) := by kernel_rfl
theorem sizeRep : (Tryd.prog.info? 35).map (·.size) = some 1 := by kernel_rfl
theorem mul_one' (n : Nat) (hn : n ≤ 360) (w : World) : Calls Tryd.prog 53 #[.int .u64 1, .int .u64 n] w fun e w' => e = .returned (.tuple #[.int .u64 0, .int .u64 n]) ∧ w' = w := by
  refine (Tryd.bits_Mul 1 n (by omega) (by omega) w).mono ?_
  rintro e w' ⟨rfl, rfl⟩
  rw [show 1 * n / 18446744073709551616 = 0 by omega, show 1 * n % 18446744073709551616 = n by omega]
  exact ⟨rfl, rfl⟩
theorem made_list (z : Array Value) : ∀ k : Nat, (madeCells z (k * z.size)).toList = (List.replicate k z.toList).flatten := Go.Fw.madeCells_list z
theorem splice_rep (v z : Value) (k n j : Nat) (hk : k + j ≤ n) : splice (List.replicate k v ++ List.replicate (n - k) z) k (List.replicate j v) = List.replicate (k + j) v ++ List.replicate (n - (k + j)) z := by
  unfold splice
  rw [List.take_left' (by simp), List.length_replicate, ← List.drop_drop, List.drop_left' (by simp), List.drop_replicate, ← List.append_assoc, List.replicate_append_replicate]
  congr 2
  omega
set_option maxHeartbeats 4000000 in
set_option maxRecDepth 100000 in
theorem repeat_walk (v : Int) (a : Addr) (cap n : Nat) (hn1 : 1 ≤ n) (hn : n ≤ 360) (w : World) (hc : w.cell? a = some (.int .i16 v)) (ha : a.block < w.heap.size) :
    Calls Tryd.prog 30 #[.slice (some a) 1 cap, .int .i64 n] w fun e w' => e = .returned (.slice (some ⟨w.heap.size, 0, none⟩) n n) ∧ w'.heap[w.heap.size]? = some (.cells (List.replicate n (Value.int .i16 v)).toArray 35 (0, 0)) ∧ Below w.heap.size w w' := by
  obtain ⟨i0, hi, hz0, hz1, hz2⟩ := info_parts infoRep
  go_enter Tryd.func30, Tryd.ntmps30
  go_wp2_with (first
    | (go_at_call 53; refine (mul_one' n hn _).mono ?_; rintro e w1 ⟨rfl, hw⟩; subst w1)
    | (refine wpList_make_full _ rfl (.tmp 29) (.tmp 29) 30 rfl w.heap.size 35 i0 (.int .i16 0) 1 Tryd.underlying30 hi hz0 hz1 _ _ _ _ n rfl rfl rfl rfl (by rw [hz2]; omega) (by unfold maxLen; omega) (Nat.le_refl _) ?_)
    | go_in)
  intro w2 hown hgrow
  have hB2 : Below w.heap.size w w2 := (Below.refl w.heap.size w).grown hgrow (Nat.le_refl _) (fun k hk => by cases hk)
  have hc2 : w2.cell? a = some (.int .i16 v) := (hB2.cell ha).trans hc
  have hg2 : w2.heap[w.heap.size]? = some (.cells (List.replicate n (Value.int .i16 0)).toArray 35 (0, 0)) := by
    rcases hown.2 with ⟨h, _⟩ | ⟨g, cp, cur, h, hbg, hgg, hnc, hcm, hcs, htake⟩
    · cases h
    · have hsz : Value.cells (Value.int .i16 0) = #[Value.int .i16 0] := rfl
      injection h with h1 h2 h3
      injection h1 with h1
      injection h1 with h1
      subst h1
      rw [hgg]
      have e : cur.toList = (madeCells #[Value.int .i16 0] n).toList := by
        rw [← htake, List.take_of_length_le (by rw [Array.length_toList]; omega)]
      have e2 : (madeCells #[Value.int .i16 0] n).toList = List.replicate n (Value.int .i16 0) := by
        have := made_list #[Value.int .i16 0] n
        rw [show n * (#[Value.int .i16 0] : Array Value).size = n from Nat.mul_one n] at this
        rw [this]
        simp
      congr 2
      apply Array.ext'
      rw [e, e2]
  clear hown hgrow
  have HG2 : Hid (w2.heap[w.heap.size]? = some (.cells (List.replicate n (Value.int .i16 0)).toArray 35 (0, 0))) := hg2
  have HS : Hid (∀ (j : Nat) u, [Value.int .i16 v][j]? = some u → w2.cell? (a.add j) = some u) := by
    intro j u hj
    match j, hj with
    | 0, hj =>
      simp at hj
      subst hj
      have : a.add 0 = a := by simp [Addr.add]
      rw [this]; exact hc2
  have HB2 : Hid (Below w.heap.size w w2) := hB2
  clear hg2 hc2 hB2 hc ha
  go_wp2_with (refine wpList_copy_own rfl (.tmp 31) (.tmp 32) 30 30 rfl 35 Tryd.underlying30 sizeRep w.heap.size 0 n n a 1 cap rfl rfl (List.replicate n (Value.int .i16 0)).toArray 35 HG2.out [.int .i16 v] (by show 1 = Nat.min 1 n; have : Nat.min 1 n = 1 := Nat.min_eq_left hn1; omega) HS.out (by simp; omega) (by intro u hu; simp at hu; subst hu; rfl) ?_)
  go_loopw [8] (fun c wr => ∃ k : Nat, 1 ≤ k ∧ k ≤ n ∧ c = .int .i64 k ∧ Hid (wr.heap[w.heap.size]? = some (.cells (List.replicate k (Value.int .i16 v) ++ List.replicate (n - k) (Value.int .i16 0)).toArray 35 (0, 0))) ∧ Hid (Below w.heap.size w wr)) (fun c _ => n - (RowKit.intOf c).toNat)
  case atStart =>
    refine ⟨1, Nat.le_refl _, hn1, rfl, ?_, below_setRow HB2.out (Nat.le_refl _) _⟩
    show _ = _
    rw [setRow_heap w2 w.heap.size _ _ 35 (0, 0) HG2.out]
    congr 3
  case round =>
    obtain ⟨k, hk1, hkn, rfl, HG, HB⟩ := hrel
    by_cases hlt : k < n
    · have hm : (List.replicate (min k (n - k)) (Value.int .i16 v)).length = Nat.min k (n - k) := List.length_replicate
      have HM := (show Hid _ from hm)
      have h1 : Hid (∀ (j : Nat) u, (List.replicate (min k (n - k)) (Value.int .i16 v))[j]? = some u → wr.drew.cell? ((⟨w.heap.size, 0, none⟩ : Addr).add j) = some u) := by
        intro j u hj
        have hj' : j < min k (n - k) := by
          have := (List.getElem?_eq_some_iff.1 hj).1
          simpa using this
        rw [List.getElem?_replicate, if_pos hj'] at hj
        injection hj with hj
        subst hj
        have e : (⟨w.heap.size, 0, none⟩ : Addr).add j = ⟨w.heap.size, j, none⟩ := by unfold Addr.add; split <;> simp_all
        rw [e]
        show wr.cell? _ = _
        rw [Lib.cell_of_heap HG.out]
        simp only [List.getElem?_toArray]
        rw [List.getElem?_append_left (by simp; omega), List.getElem?_replicate, if_pos (by omega)]
      have h2 : Hid (k + (List.replicate (min k (n - k)) (Value.int .i16 v)).length ≤ (List.replicate k (Value.int .i16 v) ++ List.replicate (n - k) (Value.int .i16 0)).length) := by
        show _ ≤ _
        simp; omega
      have h3 : Hid (∀ u ∈ List.replicate (min k (n - k)) (Value.int .i16 v), u.oneCell' = true) := by
        intro u hu
        rw [(List.mem_replicate.1 hu).2]; rfl
      have h4 : Hid (wr.drew.heap[w.heap.size]? = some (.cells (List.replicate k (Value.int .i16 v) ++ List.replicate (n - k) (Value.int .i16 0)).toArray 35 (0, 0))) := HG.out
      have h5 : Hid (Below w.heap.size w wr.drew) := HB.out.drew
      clear hm
      have hwr : IntKind.i64.wrap ((k : Int) + ((min k (n - k) : Nat) : Int)) = (k : Int) + ((min k (n - k) : Nat) : Int) := by rw [IntKind.wrap_i64]; omega
      go_wp2
      go_region_law (refine step_copy_splice rfl (.tmp 41) (.tmp 44) 30 30 rfl 35 Tryd.underlying30 sizeRep (some ⟨w.heap.size, k, none⟩) (some ⟨w.heap.size, 0, none⟩) (n - k) (n - k) k n (by simp [Act.eval, Act.put]; omega) (by simp [Act.eval, Act.put]) w.heap.size k (List.replicate k (Value.int .i16 v) ++ List.replicate (n - k) (Value.int .i16 0)) 35 h4.out (List.replicate (min k (n - k)) (Value.int .i16 v)) HM.out (fun _ => ⟨rfl, _, rfl, h1.out⟩) h2.out h3.out w.heap.size w h5.out (Nat.le_refl _) ?_; intro w4 HG4 hb4; have HB4 := (show Hid _ from hb4); clear hb4)
      go_wp2
      go_roundw
      case rel =>
        refine ⟨k + min k (n - k), by omega, by omega, by omega, ?_⟩
        show _ = _
        rw [HG4.out, splice_rep _ _ _ _ _ (by omega)]
      case measure => simp [RowKit.intOf]; omega
    · have : k = n := by omega
      subst this
      go_wp2
      go_ret
      refine ⟨rfl, ?_, HB.out⟩
      have := HG.out
      simpa using this
end
end Go.Proofs
namespace Go.Proofs.YtjeakogmccogmaaDoor
open Go Go.Fw Go.Proofs Go.RowKit
theorem repL_strs {w : World} {ok : Nat → Prop} : ∀ l : List ByteArray, RepL (Rep w ok .str) l (l.map Value.string)
  | [] => rfl
  | n :: l => ⟨[.string n], l.map Value.string, rfl, rfl, repL_strs l⟩
theorem sp_ext {L : Laid} (hL : ∀ w, L.on w → ∃ m, w.cell? ⟨0, 0, none⟩ = some (.int .i64 m)) : ExtOk Tryd.prog L LRc.I21 := by
  refine extOk_of (I := LRc.I21) (g := fun x => if x.1.size < 4294967281 ∧ 1 ≤ x.2.1.size then some ((Lib.splitB x.2.1 0 (Lib.countB x.1 x.2.1) x.1, ()), ()) else none) (fn := Tryd.f21) (code := bd Tryd.f21) rfl Tryd.func21 (by kernel_rfl) (by kernel_rfl) ?_
  intro x r o w vals okc Fs hg hA hok hon
  obtain ⟨a, b, u⟩ := x
  change ByteArray at a
  change ByteArray at b
  obtain ⟨c1, v1, F1, F2, e1, e2, h1, c2, v2, F3, F4, e3, e4, h2, e5, e6⟩ := hA
  simp only [ShR, Rep] at h1 h2
  obtain ⟨rfl, rfl⟩ := h1
  obtain ⟨rfl, rfl⟩ := h2
  subst e6
  split at hg
  · rename_i hx
    have hx : a.size < 4294967281 ∧ 1 ≤ b.size := hx
    injection hg with hg
    injection hg with h1 h2
    subst h1
    subst e5
    subst e3
    subst e1
    have eF : Fs = [] := by rw [e2, e4]; rfl
    subst eF
    obtain ⟨m, hm⟩ := hL w hon
    have hlen := Lib.splitB_all b hx.2 0 (Lib.countB a b) a rfl
    refine (Tryd.strings_Split a b m w hx.1 hm hx.2).mono fun e w' ⟨he, hw⟩ => ?_
    have hblk : w'.heap[w.heap.size]? = some (.cells ((Lib.splitB b 0 (Lib.countB a b) a).map Value.string).toArray 9 (0, 0)) := by rw [hw]; unfold World.alloc; simp
    have hsz : w'.heap.size = w.heap.size + 1 := by rw [hw]; unfold World.alloc; simp
    refine ⟨_, he, [.slice (some ⟨w.heap.size, 0, none⟩) (Lib.countB a b + 1) (Lib.countB a b + 1)], [w.heap.size], [], okc, rfl, ⟨_, [], [w.heap.size], [], rfl, rfl, ⟨_, (Lib.splitB b 0 (Lib.countB a b) a).map Value.string, [w.heap.size], [], rfl, rfl, ⟨some ⟨w.heap.size, 0, none⟩, Lib.countB a b + 1, by rw [hlen], by rw [hlen]; exact Nat.le_refl _, by simp [Ty.size], .inr ⟨w.heap.size, _, 9, rfl, rfl, hblk, by simp [Ty.size, hlen], by rw [List.take_of_length_le (by simp [Ty.size, hlen])]⟩⟩, rfl, repL_strs _⟩, rfl, rfl⟩, ⟨_, _, rfl, _, _, rfl, rfl⟩, by simp, fun b hb => ?_, fun b hb => ?_, ?_⟩
    · have hb : b = w.heap.size := by simpa using hb
      exact ⟨by omega, .inl (by omega)⟩
    · have := hok b hb
      exact ⟨by omega, .inl hb, by simp; omega⟩
    · rw [hw]
      exact keptBut_below rfl rfl rfl (by unfold World.alloc; simp) (fun b hb => by unfold World.alloc; simp [Array.getElem?_push, show b ≠ w.heap.size by omega])
  · cases hg
theorem cut_ext {L : Laid} (hL : ∀ w, L.on w → ∃ m, w.cell? ⟨0, 0, none⟩ = some (.int .i64 m)) : ExtOk Tryd.prog L LRc.I25 := by
  refine extOk_of (I := LRc.I25) (g := fun x => if x.1.size < 4294967281 then some (((⟨(Lib.cut x.1.data.toList x.2.1.data.toList).1.toArray⟩ : ByteArray), (⟨(Lib.cut x.1.data.toList x.2.1.data.toList).2.1.toArray⟩ : ByteArray), (Lib.cut x.1.data.toList x.2.1.data.toList).2.2, ()), ()) else none) (fn := Tryd.f25) (code := bd Tryd.f25) rfl Tryd.func25 (by kernel_rfl) (by kernel_rfl) ?_
  intro x r o w vals okc Fs hg hA hok hon
  obtain ⟨a, b, u⟩ := x
  change ByteArray at a
  change ByteArray at b
  obtain ⟨c1, v1, F1, F2, e1, e2, h1, c2, v2, F3, F4, e3, e4, h2, e5, e6⟩ := hA
  simp only [ShR, Rep] at h1 h2
  obtain ⟨_, rfl⟩ := h1
  obtain ⟨_, rfl⟩ := h2
  split at hg
  · rename_i hx
    have hx : a.size < 4294967281 := hx
    injection hg with hg
    injection hg with h1 h2
    subst h1
    subst e5
    subst e3
    subst e1
    obtain ⟨m, hm⟩ := hL w hon
    refine (Tryd.strings_Cut a b m w hx hm).mono fun e w' ⟨he, n, hw⟩ => ?_
    subst hw
    refine ⟨_, he, post_plain (xs := [.string ⟨(Lib.cut a.data.toList b.data.toList).1.toArray⟩, .string ⟨(Lib.cut a.data.toList b.data.toList).2.1.toArray⟩, .bool (Lib.cut a.data.toList b.data.toList).2.2]) ?_ ?_ hok ?_⟩
    · exact ⟨[.string ⟨(Lib.cut a.data.toList b.data.toList).1.toArray⟩], [.string ⟨(Lib.cut a.data.toList b.data.toList).2.1.toArray⟩, .bool (Lib.cut a.data.toList b.data.toList).2.2], [], [], rfl, rfl, ⟨rfl, rfl⟩, [.string ⟨(Lib.cut a.data.toList b.data.toList).2.1.toArray⟩], [.bool (Lib.cut a.data.toList b.data.toList).2.2], [], [], rfl, rfl, ⟨rfl, rfl⟩, [.bool (Lib.cut a.data.toList b.data.toList).2.2], [], [], [], rfl, rfl, ⟨rfl, rfl⟩, rfl, rfl⟩
    · exact ⟨_, _, rfl, _, _, rfl, rfl⟩
    · exact keptBut_below rfl rfl rfl (Nat.le_refl _) (fun b _ => rfl)
  · cases hg
theorem pi_ext {L : Laid} (hS : ∀ w, L.on w → ∃ ev, w.cell? ⟨1, 0, none⟩ = some ev ∧ (ev = .nilIface ∨ ∃ te pe, ev = .iface te pe)) (hR : ∀ w, L.on w → ∃ ev, w.cell? ⟨2, 0, none⟩ = some ev ∧ (ev = .nilIface ∨ ∃ te pe, ev = .iface te pe)) : ExtOk Tryd.prog L LRc.I51 := by
  refine extOk_of (I := LRc.I51) (g := fun x => if x.1.size ≤ 281474976710656 ∧ x.2.1 = 10 ∧ x.2.2.1 = 64 then (match Lib.parseIntB 64 x.1.data.toList with | .ok v => some ((v, false, ()), ()) | .range => some ((Lib.intSat 64 x.1.data.toList, true, ()), ()) | _ => some (((0 : Int), true, ()), ())) else none) (fn := Tryd.f51) (code := bd Tryd.f51) rfl Tryd.func51 (by kernel_rfl) (by kernel_rfl) ?_
  intro x r o w vals okc Fs hg hA hok hon
  obtain ⟨a, b, c, u⟩ := x
  change ByteArray at a
  change Int at b
  change Int at c
  obtain ⟨c1, v1, F1, F2, e1, e2, h1, c2, v2, F3, F4, e3, e4, h2, c3, v3, F5, F6, e5, e6, h3, e7, e8⟩ := hA
  simp only [ShR, Rep] at h1 h2 h3
  obtain ⟨_, rfl⟩ := h1
  obtain ⟨_, rfl⟩ := h2
  obtain ⟨_, rfl⟩ := h3
  have ev : vals = [.string a, .int .i64 b, .int .i64 c] := by rw [e1, e3, e5, e7]; rfl
  subst ev
  split at hg
  · rename_i hx
    have hx : a.size ≤ 281474976710656 ∧ b = 10 ∧ c = 64 := hx
    obtain ⟨ha, rfl, rfl⟩ := hx
    have bad : ∀ (v : Int) (e : Ending) (w' : World), (∃ N, e = .returned (.tuple #[.int .i64 v, .iface 121 (.pointer (some ⟨N, 0, none⟩))]) ∧ Below w.heap.size w w') → ∃ z, e = .returned z ∧ Post w okc Fs (LRc.I51).params (LRc.I51).res (v, true, ()) o [.string a, .int .i64 10, .int .i64 64] z w' := fun v e w' ⟨N, he, hB⟩ => by
      refine ⟨_, he, post_plain (xs := [.int .i64 v, .iface 121 (.pointer (some ⟨N, 0, none⟩))]) ?_ ?_ hok (keptBut_below hB.os hB.tape hB.output hB.size hB.block)⟩
      · exact ⟨[.int .i64 v], [.iface 121 (.pointer (some ⟨N, 0, none⟩))], [], [], rfl, rfl, ⟨rfl, rfl⟩, [.iface 121 (.pointer (some ⟨N, 0, none⟩))], [], [], [], rfl, rfl, ⟨rfl, .inr ⟨rfl, _, _, rfl⟩⟩, rfl, rfl⟩
      · exact ⟨_, _, rfl, _, _, rfl, _, _, rfl, rfl⟩
    have hg : (match Lib.parseIntB 64 a.data.toList with | .ok v => some (((v, false, ()) : Int × Bool × Unit), ()) | .range => some ((Lib.intSat 64 a.data.toList, true, ()), ()) | _ => some (((0 : Int), true, ()), ())) = some (r, o) := hg
    rcases hv : Lib.parseIntB 64 a.data.toList with v | _ | _
    · rw [hv] at hg
      injection hg with hg
      injection hg with h1 h2
      subst h1
      refine (Any.strconv_ParseInt_10_at64_ok Tryd.laysC174 a (by omega) v hv w).mono fun e w' ⟨he, hw⟩ => ?_
      refine ⟨_, he, post_plain (xs := [.int .i64 v, .nilIface]) ?_ ?_ hok ?_⟩
      · exact ⟨[.int .i64 v], [.nilIface], [], [], rfl, rfl, ⟨rfl, rfl⟩, [.nilIface], [], [], [], rfl, rfl, ⟨rfl, .inl ⟨rfl, rfl⟩⟩, rfl, rfl⟩
      · exact ⟨_, _, rfl, _, _, rfl, _, _, rfl, rfl⟩
      · rcases hw with rfl | ⟨t, rfl⟩
        · exact KeptBut.refl _ _
        · have hB := Lib.bytesWorld_below w 5 t
          exact keptBut_below hB.os hB.tape hB.output hB.size hB.block
    · rw [hv] at hg
      injection hg with hg
      injection hg with h1 h2
      subst h1
      obtain ⟨ev, h3, h4⟩ := hS w hon
      exact (Any.strconv_ParseInt_10_at64_syntax Tryd.laysC174 a ha hv ev w h3 h4).mono fun e w' ⟨N, he, _, _, hB⟩ => bad 0 e w' ⟨N, he, hB⟩
    · rw [hv] at hg
      injection hg with hg
      injection hg with h1 h2
      subst h1
      obtain ⟨ev, h3, h4⟩ := hR w hon
      exact (Any.strconv_ParseInt_10_at64_range Tryd.laysC174 a ha hv ev w h3 h4).mono fun e w' ⟨N, he, _, _, hB⟩ => bad _ e w' ⟨N, he, hB⟩
  · cases hg
theorem fi_ext {L : Laid} (hL : ∀ w, L.on w → Lib.TabIs Tryd.prog w "internal/strconv.uint64pow10" .u64 Lib.pow10Tab) : ExtOk Tryd.prog L LRc.I78 := by
  refine extOk_of (I := LRc.I78) (g := fun x => if x.2.1 = 10 ∧ -9223372036854775808 ≤ x.1 ∧ x.1 ≤ 9223372036854775807 then some (((⟨(Lib.itoa x.1).toArray⟩ : ByteArray), ()), ()) else none) (fn := Tryd.f78) (code := bd Tryd.f78) rfl Tryd.func78 (by kernel_rfl) (by kernel_rfl) ?_
  intro x r o w vals okc Fs hg hA hok hon
  obtain ⟨a, b, u⟩ := x
  change Int at a
  change Int at b
  obtain ⟨c1, v1, F1, F2, e1, e2, h1, c2, v2, F3, F4, e3, e4, h2, e5, e6⟩ := hA
  simp only [ShR, Rep] at h1 h2
  obtain ⟨_, rfl⟩ := h1
  obtain ⟨_, rfl⟩ := h2
  split at hg
  · rename_i hx
    have hx : b = 10 ∧ -9223372036854775808 ≤ a ∧ a ≤ 9223372036854775807 := hx
    obtain ⟨rfl, ha, hb⟩ := hx
    injection hg with hg
    injection hg with h1 h2
    subst h1
    subst e5
    subst e3
    subst e1
    refine (Tryd.strconv_FormatInt_10 a ha hb w (hL w hon)).mono fun e w' ⟨he, k, os, hw⟩ => ?_
    subst hw
    refine ⟨_, he, post_plain (xs := [.string ⟨(Lib.itoa a).toArray⟩]) ?_ ?_ hok ?_⟩
    · exact ⟨[.string ⟨(Lib.itoa a).toArray⟩], [], [], [], rfl, rfl, ⟨rfl, rfl⟩, rfl, rfl⟩
    · exact ⟨_, _, rfl, _, _, rfl, rfl⟩
    · exact keptBut_below rfl rfl rfl (by simp [Go.Sort.grow, World.drewN]) (fun b hb => by simp [Go.Sort.grow, World.drewN, Array.getElem?_append_left hb])
  · cases hg
theorem repL_ints {w : World} {ok : Nat → Prop} {k : IntKind} : ∀ l : List Int, RepL (Rep w ok (.int k)) l (l.map (Value.int k))
  | [] => rfl
  | n :: l => ⟨[.int k n], l.map (Value.int k), rfl, rfl, repL_ints l⟩
theorem rep_ext {L : Laid} : ExtOk Tryd.prog L LRc.I30 := by
  refine extOk_of (I := LRc.I30) (g := fun x => if x.1.length = 1 ∧ 1 ≤ x.2.1 ∧ x.2.1 ≤ 360 then some ((List.replicate x.2.1.toNat (x.1.headD 0), ()), ()) else none) (fn := Tryd.f30) (code := bd Tryd.f30) rfl Tryd.func30 (by kernel_rfl) (by kernel_rfl) ?_
  intro x r o w vals okc Fs hg hA hok hon
  obtain ⟨l, n, u⟩ := x
  change List Int at l
  change Int at n
  obtain ⟨c1, v1, F1, F2, e1, e2, h1, c2, v2, F3, F4, e3, e4, h2, e5, e6⟩ := hA
  simp only [ShR] at h1 h2
  obtain ⟨rfl, A, cap, rfl, hcap, h1⟩ := h1
  obtain ⟨rfl, h2⟩ := h2
  have h2 : c2 = [.int .i64 n] := h2
  subst h2
  split at hg
  · rename_i hx
    have hx : l.length = 1 ∧ 1 ≤ n ∧ n ≤ 360 := hx
    injection hg with hg
    injection hg with hg1 hg2
    subst hg1
    obtain ⟨hl, hn1, hn2⟩ := hx
    obtain ⟨v, rfl⟩ : ∃ v, l = [v] := by
      match l, hl with
      | [v], _ => exact ⟨v, rfl⟩
    obtain ⟨n, rfl⟩ := Int.eq_ofNat_of_zero_le (show 0 ≤ n by omega)
    rcases h1 with h1 | ⟨a, es, rfl, hoka, hlt, hcl, hrep⟩
    · cases h1
    obtain ⟨c, d, rfl, hc, hd⟩ := hrep
    have hc : c = [.int .i16 v] := hc
    subst hc
    have hcell : w.cell? a = some (.int .i16 v) := by
      have h0 := hcl 0 (.int .i16 v) rfl
      have ha : a.add 0 = a := by simp [Addr.add]
      rwa [ha] at h0
    have ev : vals = [.slice (some a) 1 cap, .int .i64 (n : Int)] := by rw [e1, e3, e5]; rfl
    subst ev
    have eF : Fs = [] := by rw [e2, e4, e6]; rfl
    subst eF
    refine (repeat_walk v a cap n (by omega) (by omega) w hcell hlt).mono fun e w' ⟨he, hblk, hB⟩ => ?_
    have hsz : w.heap.size < w'.heap.size := (Array.getElem?_eq_some_iff.1 hblk).1
    refine ⟨_, he, [.slice (some ⟨w.heap.size, 0, none⟩) n n], [w.heap.size], [], okc, rfl, ⟨_, [], [w.heap.size], [], rfl, rfl, ⟨_, (List.replicate n v).map (Value.int .i16), [w.heap.size], [], rfl, rfl, ⟨some ⟨w.heap.size, 0, none⟩, n, ?_, ?_, by simp [Ty.size], .inr ⟨w.heap.size, _, 35, rfl, rfl, hblk, by simp [Ty.size], ?_⟩⟩, rfl, repL_ints _⟩, rfl, rfl⟩, ⟨_, _, rfl, _, _, rfl, rfl⟩, by simp, fun b hb => ?_, fun b hb => ?_, keptBut_below hB.os hB.tape hB.output hB.size hB.block⟩
    · simp
    · simp
    · simp [Ty.size]
    · have hb : b = w.heap.size := by simpa using hb
      exact ⟨by omega, .inl (by omega)⟩
    · have := hok b hb
      exact ⟨by omega, .inl hb, by simp; omega⟩
  · cases hg
theorem repL_str {w : World} {ok : Nat → Prop} : ∀ {l : List ByteArray} {es : List Value}, RepL (Rep w ok .str) l es → es = l.map Value.string
  | [], _, h => h
  | n :: l, es, h => by
    obtain ⟨c, d, e, h1, h2⟩ := h
    have h1 : c = [.string n] := h1
    rw [e, h1, repL_str h2]; rfl
theorem addr_add (g j : Nat) : (⟨g, 0, none⟩ : Addr).add j = ⟨g, 0 + j, none⟩ := by unfold Addr.add; split <;> simp_all
theorem jn_ext {L : Laid} : ExtOk Tryd.prog L LRc.I57 := by
  refine extOk_of2 (I := LRc.I57) (g := fun x => if x.1.length ≤ 140737488355328 ∧ (Lib.join (x.1.map fun s => s.data.toList) x.2.1.data.toList).length ≤ 140737488355328 then some (((⟨(Lib.join (x.1.map fun s => s.data.toList) x.2.1.data.toList).toArray⟩ : ByteArray), ()), (x.1, ())) else none) (fn := Tryd.f57) (code := bd Tryd.f57) rfl Tryd.func57 (by kernel_rfl) (by kernel_rfl) ?_
  intro x r o w vals okc Fs hg hA hnd hF hok hon
  obtain ⟨l, s, u⟩ := x
  change List ByteArray at l
  change ByteArray at s
  have hA0 : ArgsR w okc [(Sh.row false .str, true), (Sh.ro .str, false)] (l, s, ()) vals Fs := hA
  have hz : ∀ (w' : World) (y : ByteArray) (ok : Nat → Prop), ShR w' ok (Sh.ro .str) y [.string y] [] := fun w' y ok => by simp [ShR, Rep]
  obtain ⟨c1, v1, F1, F2, e1, e2, h1, c2, v2, F3, F4, e3, e4, h2, e5, e6⟩ := hA
  simp only [ShR, Rep] at h1 h2
  obtain ⟨_, rfl⟩ := h2
  obtain ⟨hd, es, G1, G2, rfl, eG, hrow, hG2, hrep⟩ := h1
  have hes := repL_str (w := w) (ok := okc) hrep
  have ev : vals.toArray = #[hd, .string s] := by rw [e1, e3, e5]; rfl
  split at hg
  · rename_i hx
    have hx : l.length ≤ 140737488355328 ∧ (Lib.join (l.map fun s => s.data.toList) s.data.toList).length ≤ 140737488355328 := hx
    injection hg with hg
    injection hg with h1 h2
    subst h1
    subst h2
    obtain ⟨A, cap, ehd, hn, hlen, hc⟩ := hrow
    show Calls Tryd.prog 57 vals.toArray w _
    rw [ev, ehd]
    rcases hc with ⟨hc0, _⟩ | ⟨g, cur, te, hA1, hG1, hb, _, he⟩
    · have hl : l = [] := List.length_eq_zero_iff.1 (by omega)
      subst hl
      refine (Tryd.strings_Join_none A cap s w).mono fun e w' ⟨he, hw⟩ => ?_
      subst hw
      exact ⟨_, he, post_row rfl rfl hA0 hnd hF hok (hz _ _) rfl (KeptBut.refl _ _)⟩
    · subst hA1
      have hg : g < w.heap.size := (Array.getElem?_eq_some_iff.1 hb).1
      have hcl := cellsAt_block hb (l.length * Ty.size .str)
      rw [← he, hes] at hcl
      refine (Tryd.strings_Join g 0 cap l s w (fun j x hj => ?_) hg hx.1 hn hx.2).mono fun e w' ⟨he, hw⟩ => ?_
      · have h0 := hcl j (.string x) (by rw [List.getElem?_map, hj]; rfl)
        have hadd : (⟨g, 0, none⟩ : Addr).add j = ⟨g, 0 + j, none⟩ := addr_add g j
        rwa [hadd] at h0
      · exact ⟨_, he, post_row rfl rfl hA0 hnd hF hok (hz _ _) rfl (keptBut_below hw.os hw.tape hw.output hw.size hw.block)⟩
  · cases hg
open Go.ChangeShapes Go.WideShapes Go.ChangeAt
abbrev laidL : List (String × DataW Unit) := Rows.fnExactReadCamRow.laid
theorem Tryd.own : ownKnob Tryd.prog.godebug = none := by kernel_rfl
theorem Tryd.laidOut : laidOutB Tryd.prog = true := by kernel_rfl
theorem gTab : Tryd.prog.globalNamed "internal/strconv.uint64pow10" = some 5 := by kernel_rfl
theorem tTab : (Tryd.prog.globals[5]?).map (·.type) = some 149 := by kernel_rfl
noncomputable def laidWorld (os : Os) : World :=
  { World.doorLaid Tryd.prog 400 os with heap := (World.doorLaid Tryd.prog 400 os).heap.modify 3 fun
    | .cells _ t frozen => .cells (Lib.firstTab.map fun z => Value.int .u8 z).toArray t frozen
    | o => o }
theorem door_met (os : Os) (args : Array Value) : laidMetH Tryd.prog laidL ((laidWorld os).forCall (fun _ _ => 0) ⟨#[], args, []⟩).memory :=
  laidMetH_of_parts3 (fuel := 8) (laidMet_of_run' 8 (by kernel_rfl) (by kernel_rfl)) (by kernel_rfl) (by kernel_rfl)
theorem tab_data : ([("internal/strconv.uint64pow10", Rows.laid_internal_strconv_uint64pow10), ("unicode/utf8.acceptRanges", Rows.laid_unicode_utf8_acceptRanges), ("strconv.ErrRange", Rows.laid_strconv_ErrRange), ("strconv.ErrSyntax", Rows.laid_strconv_ErrSyntax), ("unicode/utf8.first", Rows.laid_unicode_utf8_first)] : List (String × DataW Unit)) = [("internal/strconv.uint64pow10", Lib.tabData .u64 Lib.pow10Tab), ("unicode/utf8.acceptRanges", Rows.laid_unicode_utf8_acceptRanges), ("strconv.ErrRange", Rows.laid_strconv_ErrRange), ("strconv.ErrSyntax", Rows.laid_strconv_ErrSyntax), ("unicode/utf8.first", Rows.laid_unicode_utf8_first)] := by kernel_rfl
theorem tab_of {W : World} (h : laidMetH Tryd.prog laidL W) : Lib.TabIs Tryd.prog W "internal/strconv.uint64pow10" .u64 Lib.pow10Tab := by
  rw [MakeChecks.laidMetH_plain _ _ _ (by kernel_rfl)] at h
  have h3 : laidMet Tryd.prog [("internal/strconv.uint64pow10", Rows.laid_internal_strconv_uint64pow10), ("unicode/utf8.acceptRanges", Rows.laid_unicode_utf8_acceptRanges), ("strconv.ErrRange", Rows.laid_strconv_ErrRange), ("strconv.ErrSyntax", Rows.laid_strconv_ErrSyntax), ("unicode/utf8.first", Rows.laid_unicode_utf8_first)] W := h.tail.tail
  rw [tab_data] at h3
  exact Lib.tabIs_of_head gTab tTab Tryd.underlying149 Tryd.underlying22 (by kernel_rfl) (by kernel_rfl) h3
theorem tab_size {W : World} (h : Lib.TabIs Tryd.prog W "internal/strconv.uint64pow10" .u64 Lib.pow10Tab) : 5 < W.heap.size := by
  unfold Lib.TabIs World.var? at h
  rw [gTab] at h
  apply Classical.byContradiction
  intro hn
  rw [Option.bind_some, Array.getElem?_eq_none (by omega)] at h
  cases h
theorem tab_kept {W w : World} {bl : Nat → Prop} (hb : bl 5) (h : laidMetH Tryd.prog laidL W) (hsz : 5 < W.heap.size) (hon : Laid.on ⟨W, bl⟩ w) : Lib.TabIs Tryd.prog w "internal/strconv.uint64pow10" .u64 Lib.pow10Tab := by
  have ht := tab_of h
  unfold Lib.TabIs World.var? at ht ⊢
  rw [gTab] at ht ⊢
  rw [Option.bind_some] at ht ⊢
  rw [hon.1.heap 5 hsz (fun h => h hb)]
  exact ht
theorem size_of_cell {W : World} {b : Nat} {v : Value} (h : W.cell? ⟨b, 0, none⟩ = some v) : b < W.heap.size := by
  unfold World.cell? at h
  apply Classical.byContradiction
  intro hn
  dsimp only at h
  rw [Array.getElem?_eq_none (by omega)] at h
  cases h
theorem cell_kept {W w : World} {bl : Nat → Prop} {b : Nat} {v : Value} (hb : bl b) (h : W.cell? ⟨b, 0, none⟩ = some v) (hon : Laid.on ⟨W, bl⟩ w) : w.cell? ⟨b, 0, none⟩ = some v := by
  have hsz := size_of_cell h
  unfold World.cell? at h ⊢
  rw [hon.1.heap b hsz (fun h => h hb)]
  exact h
theorem gSyn : Tryd.prog.globalNamed "strconv.ErrSyntax" = some 1 := by kernel_rfl
theorem gRng : Tryd.prog.globalNamed "strconv.ErrRange" = some 2 := by kernel_rfl
theorem starErr : "*" ++ "errors.errorString" = "*errors.errorString" := by decide
theorem rowErr (u : TypeId) (h : Tryd.prog.typeName? 3 u = some "*errors.errorString") : u = 145 :=
  typeName_ptr_named (nm := "errors.errorString") (by rw [starErr]; kernel_rfl) (by kernel_rfl) (by decide) u (by rw [starErr]; exact h)
theorem syn_of {W : World} (h : laidMetH Tryd.prog laidL W) : ∃ a, W.cell? ⟨1, 0, none⟩ = some (.iface 145 (.pointer (some a))) := by
  rw [MakeChecks.laidMetH_plain _ _ _ (by kernel_rfl)] at h
  have h3 : laidMet Tryd.prog [("strconv.ErrSyntax", Rows.laid_strconv_ErrSyntax), ("unicode/utf8.first", Rows.laid_unicode_utf8_first)] W := h.tail.tail.tail.tail.tail
  obtain ⟨a, s, hv, _⟩ := laid_sentinel h3 gSyn (ti := 78) (by kernel_rfl) Tryd.underlying78 rowErr Tryd.underlying145 Tryd.underlying147 rfl rfl Tryd.underlying9 (by kernel_rfl) (by kernel_rfl)
  exact ⟨a, by simpa using World.var?_cell gSyn hv 0⟩
theorem rng_of {W : World} (h : laidMetH Tryd.prog laidL W) : ∃ a, W.cell? ⟨2, 0, none⟩ = some (.iface 145 (.pointer (some a))) := by
  rw [MakeChecks.laidMetH_plain _ _ _ (by kernel_rfl)] at h
  have h3 : laidMet Tryd.prog [("strconv.ErrRange", Rows.laid_strconv_ErrRange), ("strconv.ErrSyntax", Rows.laid_strconv_ErrSyntax), ("unicode/utf8.first", Rows.laid_unicode_utf8_first)] W := h.tail.tail.tail.tail
  obtain ⟨a, s, hv, _⟩ := laid_sentinel h3 gRng (ti := 78) (by kernel_rfl) Tryd.underlying78 rowErr Tryd.underlying145 Tryd.underlying147 rfl rfl Tryd.underlying9 (by kernel_rfl) (by kernel_rfl)
  exact ⟨a, by simpa using World.var?_cell gRng hv 0⟩
/-- A law whose world is shaped and holds what the row lists. -/
theorem returns_and_shaped {H : Type} {enc : TypeId × Value → H} {a : Assume} {C : Checked} {os : Os} {f : FuncId} {fn : Func} {s : ChangeSpec} {conds : List PathCond} {apart fresh handsOn again : Bool} {X : World → Array Value → Prop}
    (hX : ∀ (w w' : World) (args : Array Value), w.heap = w'.heap → X w args → X w' args)
    (own : ownKnob C.prog.godebug = none) (started : os.Started) (noInit : C.prog.inits.idxOf? f = none) (hfn : C.prog.funcs[f]? = some fn)
    (witness : ∃ (w : World) (tape : Tape) (i : Input), w.os = os ∧ (w.forCall tape i).Shaped C.prog ∧ i.vars = [] ∧ Input.okWide C.prog (w.forCall tape i) .any w.heap.size f i ∧
      ((s.pre enc C.prog fn conds apart (w.forCall tape i).memory i.args ∧ X (w.forCall tape i).memory i.args) ∧ sizedMet enc C.prog fn (OpenSpec.ofChange s) apart (w.forCall tape i).memory i.args) ∧ a.holds C.prog (lone (Frame.enter C.prog f i.args .normal) [] (w.forCall tape i)))
    (contract : ∀ (W : World) (base : Nat) (args : Array Value) (ds gs : List (DataW H)) (before : List MemPlace),
      (∀ (j : Nat) t v, fn.params[j]? = some t → args[j]? = some v → Value.okWide C.prog W .any base t v) →
      DataW.Whole enc C.prog fn.params.toList s.vars apart W args.toList ds gs before →
      conds.all (PathCond.test C.prog ⟨fn.params.toList, ds, s.plain.varTypes C.prog, gs⟩) = true →
      (DataW.weightsEach C.prog (fn.params.toList ++ s.plain.varTypes C.prog) (ds ++ gs)).all (· ≤ reachBytes) = true → X W args → W.ShapedOpen C.prog →
      Calls C.prog f args W fun e W' => ∃ v, e = .returned v ∧ s.post enc C.prog fn apart fresh handsOn again W args v W') :
    ReturnsInHanded a C os f .any (fun w args => (s.pre enc C.prog fn conds apart w args ∧ X w args) ∧ sizedMet enc C.prog fn (OpenSpec.ofChange s) apart w args) (s.post enc C.prog fn apart fresh handsOn again) := by
  refine returnsInHanded_of_calls own started noInit witness ?_
  intro w tape i _ hsh _ hok hpre _
  obtain ⟨_, _, _, fn', hfn', _, _, _, _, hval⟩ := hok
  obtain rfl : fn' = fn := Option.some.inj (hfn'.symm.trans hfn)
  obtain ⟨⟨⟨ds, gs, before, hw, hc⟩, hx⟩, hz⟩ := hpre
  refine (contract (w.forCall tape i) w.heap.size i.args ds gs before hval (DataW.Whole.of_heap (w' := w.forCall tape i) (by rfl) hw) hc (hz.weights hw) (hX _ _ _ (by rfl) hx) hsh).mono fun e W' ⟨v, he, hp⟩ => ?_
  subst he
  exact ChangeSpec.post_blind hp
theorem fnExactReadCam_law : ∀ x, DomA (LRc.C 4).params x → ∃ n r o, call LRc.T LRc.C n 4 x = some (r, o) ∧ IsTrue (LRc.C 4).res r := by
  intro x hd
  obtain ⟨x0, u⟩ := x
  obtain ⟨N, hN⟩ := Go.Cams.YtjeakogmccogmaaDoorLRc.e4 x0 hd
  exact ⟨N, _, _, hN N (Nat.le_refl _), rfl⟩
theorem fnExactReadCam_rec : (Tryd.f4.params.toList.all fun t => Tryd.prog.readableRec t && decide (t < Tryd.prog.types.size)) = true := by kernel_rfl
set_option maxRecDepth 100000 in
theorem fnExactReadCam_lifted (os : Os) (started : os.Started) (H : Type) (enc : TypeId × Value → H) :
    ReturnsInHanded {} Tryd.checked os 4 .any (fun w args => (Rows.fnExactReadCamSpec.pre enc Tryd.prog Tryd.f4 Rows.fnExactReadCamRow.domain false w args ∧ laidMetH Tryd.prog laidL w) ∧ sizedMet enc Tryd.prog Tryd.f4 (OpenSpec.ofChange Rows.fnExactReadCamSpec) false w args) (Rows.fnExactReadCamSpec.post enc Tryd.prog Tryd.f4 false true false false) := by
  refine returns_and_shaped (C := Tryd.checked) (X := fun w _ => laidMetH Tryd.prog laidL w) (fun _ _ _ hh h => h.of_heap hh) Tryd.own started (by kernel_rfl) Tryd.func4
    (ChangeSpec.witness_shaped (enc := enc) (C := Tryd.checked) (os := os) (X := fun w _ => laidMetH Tryd.prog laidL w) false (laidWorld os) #[.string ⟨#[]⟩] 8 rfl (World.shaped_of_RefB (by kernel_rfl) (by kernel_rfl)) (by kernel_rfl) (by kernel_rfl) (by kernel_rfl) (door_met os _)) ?_
  intro W base args ds gs before hval hW _ hw hL hsh
  have hsz : 5 < W.heap.size := tab_size (tab_of hL)
  obtain ⟨m0, hm0⟩ : ∃ m, W.cell? ⟨0, 0, none⟩ = some (.int .i64 m) := cell_of_shapedOpen_int (zero := #[.int .i64 0]) (t := 3) hsh (of_decide_eq_true (by kernel_rfl)) (by kernel_rfl) rfl (by kernel_rfl) (by kernel_rfl) Tryd.underlying3
  obtain ⟨a1, hv1⟩ := syn_of hL
  obtain ⟨a2, hv2⟩ := rng_of hL
  exact law_callsX LRc.tsOk LRc.insts (by kernel_rfl) Tryd.laidOut (j := 4) (by kernel_rfl) (f := 4) (fn := Tryd.f4) rfl (tb := 4) (by kernel_rfl) Tryd.underlying4 (by kernel_rfl) (fun t ht => by have := List.all_eq_true.1 fnExactReadCam_rec t ht; simp only [Bool.and_eq_true, decide_eq_true_eq] at this; exact this) rfl (fun H ds h => match ds, h with | [_], _ => rfl) fnExactReadCam_law hval hW hw (bl := fun b => b = 5 ∨ b = 0 ∨ b = 1 ∨ b = 2) (fun b hb => hb.elim (fun e => by rw [e]; exact hsz) fun hb => hb.elim (fun e => by rw [e]; exact size_of_cell hm0) fun hb => hb.elim (fun e => by rw [e]; exact size_of_cell hv1) fun e => by rw [e]; exact size_of_cell hv2) (LRc.exts (sp_ext fun w hon => ⟨m0, cell_kept (.inr (.inl rfl)) hm0 hon⟩) (cut_ext fun w hon => ⟨m0, cell_kept (.inr (.inl rfl)) hm0 hon⟩) (pi_ext (fun w hon => ⟨_, cell_kept (.inr (.inr (.inl rfl))) hv1 hon, .inr ⟨_, _, rfl⟩⟩) (fun w hon => ⟨_, cell_kept (.inr (.inr (.inr rfl))) hv2 hon, .inr ⟨_, _, rfl⟩⟩)) (fi_ext fun w hon => tab_kept (.inl rfl) hL hsz hon) rep_ext jn_ext)
theorem fnExactReadCam_bare : Rows.FnExactReadCamSaid :=
  OpenClaim.holds_of_wide 4 Tryd.f4 rfl rfl rfl rfl rfl rfl rfl ⟨rfl, rfl, rfl, rfl, rfl⟩ rfl rfl rfl rfl rfl (by kernel_rfl) Tryd.func4 (by kernel_rfl)
    (of_decide_eq_true (by kernel_rfl)) (by unfold Func.isWrapper; rw [if_neg (by decide +kernel)]; exact ⟨rfl, rfl⟩)
    (fun os started H enc _ => fnExactReadCam_lifted os started H enc)
theorem fnExactReadCam_named : Tryd.prog.funcNamed Rows.fnExactReadCamRow.func = some 4 := by kernel_rfl
theorem fnExactReadCam_holds : Rows.FnExactReadCamCardSaid :=
  Claim7.holds_tied_plain_at .later [] [.data, .data, .data, .data, .sentinel, .sentinel, .pinned] true (true, "04f5ed8d4bd25dc0c851b391101964d4dd7aa892723e9b601b8b44e29a0c94e3") true
    fnExactReadCam_bare (fun _ h => by cases h) (by kernel_rfl) (fun _ h => by cases h) fnExactReadCam_row_tie rfl ⟨rfl, rfl⟩ (by kernel_rfl) rfl
    (fun f fn hf hfn => by
      obtain rfl : f = 4 := Option.some.inj (fnExactReadCam_named.symm.trans hf) |>.symm
      obtain rfl : fn = Tryd.f4 := (Option.some.inj (Tryd.func4.symm.trans hfn)).symm
      exact ⟨by kernel_rfl, fun j t ht => by
        have hm := Array.mem_of_getElem? ht
        have hall : (Tryd.f4.params.toList.all fun u => !Tryd.prog.wantsStandIn u) = true := by kernel_rfl
        exact (show Tryd.prog.wantsStandIn t = false by simpa using List.all_eq_true.1 hall t (by simpa using hm))⟩)
    (by kernel_rfl)
#print axioms fnExactReadCam_holds
end Go.Proofs.YtjeakogmccogmaaDoor
