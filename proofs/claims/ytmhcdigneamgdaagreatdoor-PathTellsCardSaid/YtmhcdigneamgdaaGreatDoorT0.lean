/- Parts of the proof, put together: Shelf, Giv, Fun, Inp, Sp, Num, Qa0, Qa1, Qa2, Qa, PSplit, Atm, PDom, Dom, PCut, Dom2, Low, Txt, Quo, Loc, Qb0. -/
import Derived.Shelf.Strings.Builder1
import Derived.Shelf.Strings.Builder2
import Derived.Shelf.Strings.OnBuilder
import Derived.Shelf.Strings.Trim
import Derived.Shelf.Small.Utf8
import Derived.Shelf.Small.Strs
import Derived.Shelf.Small.Wraps
import Derived.Shelf.Strings.BuilderF
import Derived.Shelf.Strconv.Itoa0
import Derived.Shelf.Strconv.Itoa1
import Derived.Shelf.LaysM
import Derived.Shelf.Strconv.Itoa2
import Derived.Shelf.Strconv.Itoa3
import Derived.Shelf.Strings.Search1
import Derived.Shelf.Strings.Search2
import Derived.Shelf.Strings.Search3
import Derived.Shelf.Strings.Cut
import Derived.Shelf.Strings.Count
import Derived.Shelf.Strings.Shaped
import Derived.Shelf.Strings.Prefix
import Derived.Shelf.Strings.Split
import Derived.Shelf.Strings.Runes
import Derived.Shelf.Strings.AsciiSet
import Derived.Shelf.Bits.Mul64
import Derived.Shelf.Strings.Repeat
import Derived.Shelf.Unicode.DecodeSlow
import Derived.Shelf.Strings.SlTrimAscii
import Derived.Test.YtmhcdigneamgdaaGreatDoorProg
import Derived.Test.YtmhcdigneamgdaaGreatDoorWWords
import Derived.Test.YtmhcdigneamgdaaGreatDoorWKept
import Derived.WalkKit
import Derived.WalkSmall
import Derived.KernelRfl
import Derived.Lib.LaidTab
import Derived.Lib.SplitLaws
import Derived.Lib.CutLaws
import Derived.LoopTactic
import Derived.Deep.LoopGhost
import Derived.Lib.ConvBytes
import Derived.Lib.Strings
import Derived.Lib.ItoaNum
import Derived.Test.YtmhcdigneamgdaaGreatDoorWMore
import Derived.Below
import Derived.Deep.Draws
import Derived.Deep.AppendLies
import Derived.Maps.AppendAt
import Derived.OwnWalk
import Derived.Laws.BytesArg
import Derived.Laws.MakeOwn
import Derived.Laws.OwnMore
import Derived.Deep.OwnRows
import Derived.Tactics
import Derived.Laws.Slices
import Derived.RowKit3
import Derived.Deep.QuietTactic
import Derived.BigQuiet
import Derived.WideLaws
import Derived.Deep.DeepCutAuto
import Derived.Deep.CutBlock
import Derived.Deep.RegionHeld3
import Derived.Laws.Rows
import Derived.Lib.AppendStr
import Derived.ArgAppend
import Derived.Laws.IdiomCopy
import Derived.OrdersHeld
import Derived.Laws.BitsLemmas
import Derived.RowKit
import Derived.Test.YtmhcdigneamgdaaGreatDoorWLast
import Derived.Test.YtmhcdigneamgdaaGreatDoorWTab
import Derived.Test.YtmhcdigneamgdaaGreatDoorWQPut
import Derived.Test.YtmhcdigneamgdaaGreatDoorWApart
import Derived.Test.YtmhcdigneamgdaaGreatDoorWArr
import Derived.Test.YtmhcdigneamgdaaGreatDoorWZeros
import Derived.Test.YtmhcdigneamgdaaGreatDoorWFoot
import Derived.Test.YtmhcdigneamgdaaGreatDoorWShare
import Derived.Test.YtmhcdigneamgdaaGreatDoorWN
import Derived.Test.YtmhcdigneamgdaaGreatDoorWGuard
import Derived.Test.YtmhcdigneamgdaaGreatDoorWNEv
import Derived.Laws.RangeString
import Derived.Laws.RangeAny
import Derived.Lib.RuneCount
import Derived.Deep.RegionWith
/- Contracts of library functions out of the kit's shelf, laid by the kit's own command over this seat's translation, in plain declarations. -/
namespace Go.Proofs
open Go.Shelf
def Tryz.lays156_ren : Go.Shelf.Ren := ⟨fun | 156 => 21 | 165 => 36 | 166 => 37 | 169 => 39 | 240 => 65 | 241 => 66 | 276 => 92 | 277 => 93 | n => n, fun | 31 => 22 | 9 => 9 | 3 => 3 | 4 => 4 | 0 => 0 | 20 => 20 | 72 => 75 | 76 => 79 | 70 => 73 | 37 => 55 | 75 => 78 | 127 => 114 | 164 => 124 | 5 => 5 | 80 => 27 | n => n, fun | n => n⟩
theorem Tryz.lays156 : Go.Proofs.Lays.n156 Tryz.prog Tryz.lays156_ren := {
  mixed := by kernel_rfl
  f156 := Tryz.func21.trans (congrArg some (by kernel_rfl))
  f165 := Tryz.func36.trans (congrArg some (by kernel_rfl))
  f166 := Tryz.func37.trans (congrArg some (by kernel_rfl))
  f169 := Tryz.func39.trans (congrArg some (by kernel_rfl))
  f240 := Tryz.func65.trans (congrArg some (by kernel_rfl))
  f241 := Tryz.func66.trans (congrArg some (by kernel_rfl))
  f276 := Tryz.func92.trans (congrArg some (by kernel_rfl))
  f277 := Tryz.func93.trans (congrArg some (by kernel_rfl))
  t0 := Tryz.underlying0
  a0 := Tryz.isAgg0
  z0 := Tryz.sizeOf0
  v0 := Tryz.zeroValue0
  t3 := Tryz.underlying3
  a3 := Tryz.isAgg3
  z3 := Tryz.sizeOf3
  v3 := Tryz.zeroValue3
  t4 := Tryz.underlying4
  a4 := Tryz.isAgg4
  z4 := Tryz.sizeOf4
  v4 := Tryz.zeroValue4
  t9 := Tryz.underlying9
  a9 := Tryz.isAgg9
  z9 := Tryz.sizeOf9
  v9 := Tryz.zeroValue9
  t20 := Tryz.underlying20
  a20 := Tryz.isAgg20
  z20 := Tryz.sizeOf20
  v20 := Tryz.zeroValue20
  t31 := Tryz.underlying22
  a31 := Tryz.isAgg22
  z31 := Tryz.sizeOf22
  v31 := Tryz.zeroValue22
  t37 := Tryz.underlying55
  a37 := Tryz.isAgg55
  z37 := Tryz.sizeOf55
  v37 := Tryz.zeroValue55
  t70 := Tryz.underlying73
  a70 := Tryz.isAgg73
  z70 := Tryz.sizeOf73
  v70 := Tryz.zeroValue73
  t72 := Tryz.underlying75
  a72 := Tryz.isAgg75
  z72 := Tryz.sizeOf75
  v72 := Tryz.zeroValue75
  t75 := Tryz.underlying78
  a75 := Tryz.isAgg78
  z75 := Tryz.sizeOf78
  v75 := Tryz.zeroValue78
  t76 := Tryz.underlying79
  a76 := Tryz.isAgg79
  z76 := Tryz.sizeOf79
  v76 := Tryz.zeroValue79
  t127 := Tryz.underlying114
  a127 := Tryz.isAgg114
  z127 := Tryz.sizeOf114
  v127 := Tryz.zeroValue114
  t164 := Tryz.underlying124
  a164 := Tryz.isAgg124
  z164 := Tryz.sizeOf124
  v164 := Tryz.zeroValue124 }
theorem Tryz.Builder_Extra_156 : Builder.Extra Tryz.prog Tryz.lays156_ren := {
  sizeBuilder := by kernel_rfl
  liesBuilder := by kernel_rfl
  t5 := Tryz.underlying5
  a5 := Tryz.isAgg5
  z5 := Tryz.sizeOf5
  v5 := Tryz.zeroValue5
  infoByte := by kernel_rfl
  cellsByte := by kernel_rfl
  sizeByte := by kernel_rfl
  neB5 := by decide }
open Go.RowKit in
/-- No element: the empty string; the world is as it was. (Whatever the slice's address and capacity: a nil slice too.) (LAID: no walk: one application.) -/
theorem Tryz.strings_Join_none (a : Option Addr) (c : Nat) (sep : ByteArray) (w : World) :
    Calls Tryz.prog 21 #[.slice a 0 c, .string sep] w fun e w' => e = .returned (.string ⟨#[]⟩) ∧ w' = w := Any.strings_Join_none Tryz.lays156 Tryz.Builder_Extra_156 a c sep w
open Go.RowKit in
/-- strings.Join: "Join concatenates the elements of its first argument to create a single string. The separator string sep is placed between elements in the resulting string.": HOWEVER MANY ELEMENTS. Below the heap's end the world is as it was. (LAID: no walk: one application.) -/
theorem Tryz.strings_Join (bk o c : Nat) (xs : List ByteArray) (sep : ByteArray) (w : World) (hcells : ∀ (j : Nat) x, xs[j]? = some x → w.cell? ⟨bk, o + j, none⟩ = some (.string x)) (hbk : bk < w.heap.size) (hN : xs.length ≤ 140737488355328) (hcap : xs.length ≤ c) (hlen : (Lib.join (xs.map (·.data.toList)) sep.data.toList).length ≤ 140737488355328) :
    Calls Tryz.prog 21 #[.slice (some ⟨bk, o, none⟩) xs.length c, .string sep] w fun e w' => e = .returned (.string ⟨(Lib.join (xs.map (·.data.toList)) sep.data.toList).toArray⟩) ∧ Below w.heap.size w w' := Any.strings_Join Tryz.lays156 Tryz.Builder_Extra_156 bk o c xs sep w hcells hbk hN hcap hlen
def Tryz.lays137_ren : Go.Shelf.Ren := ⟨fun | 137 => 59 | 217 => 91 | 266 => 110 | n => n, fun | 9 => 9 | 5 => 5 | 3 => 3 | n => n, fun | n => n⟩
theorem Tryz.lays137 : Go.Proofs.Lays.n137 Tryz.prog Tryz.lays137_ren := {
  mixed := by kernel_rfl
  f137 := Tryz.func59.trans (congrArg some (by kernel_rfl))
  f217 := Tryz.func91.trans (congrArg some (by kernel_rfl))
  f266 := Tryz.func110.trans (congrArg some (by kernel_rfl))
  t3 := Tryz.underlying3
  a3 := Tryz.isAgg3
  z3 := Tryz.sizeOf3
  v3 := Tryz.zeroValue3
  t5 := Tryz.underlying5
  a5 := Tryz.isAgg5
  z5 := Tryz.sizeOf5
  v5 := Tryz.zeroValue5
  t9 := Tryz.underlying9
  a9 := Tryz.isAgg9
  z9 := Tryz.sizeOf9
  v9 := Tryz.zeroValue9 }
open Go.RowKit in
/-- strings.IndexByte: "IndexByte returns the index of the first instance of c in s, or -1 if c is not present in s.": IT RETURNS 'Lib.indexByte s c'; the world is as it was. (LAID: no walk: one application.) -/
theorem Tryz.strings_IndexByte (s : ByteArray) (c : Int) (w : World) :
    Calls Tryz.prog 59 #[.string s, .int .u8 c] w fun e w' => e = .returned (.int .i64 (Lib.indexByte s.data.toList c.toNat.toUInt8)) ∧ w' = w := Any.strings_IndexByte Tryz.lays137 s c w
def Tryz.laysM171_ren : Go.Shelf.Ren := ⟨fun | 171 => 107 | 243 => 112 | 246 => 123 | 283 => 128 | 284 => 129 | 285 => 130 | 286 => 131 | 129 => 135 | 317 => 134 | 318 => 136 | 319 => 137 | 320 => 138 | 337 => 140 | 338 => 141 | n => n, fun | 3 => 3 | 9 => 9 | 2 => 2 | 4 => 4 | 171 => 153 | 0 => 0 | 53 => 111 | 37 => 55 | 5 => 5 | 173 => 156 | 212 => 160 | 51 => 108 | 20 => 20 | 213 => 161 | 46 => 70 | 232 => 166 | 233 => 167 | n => n, fun | 17 => 5 | 18 => 6 | 19 => 7 | n => n⟩
theorem Tryz.laysM171 : Go.Proofs.LaysM.n171 Tryz.prog Tryz.laysM171_ren := {
  mixed := by kernel_rfl
  f129 := Tryz.func135.trans (congrArg some (by kernel_rfl))
  f171 := Tryz.func107.trans (congrArg some (by kernel_rfl))
  f243 := Tryz.func112.trans (congrArg some (by kernel_rfl))
  f246 := Tryz.func123.trans (congrArg some (by kernel_rfl))
  f283 := Tryz.func128.trans (congrArg some (by kernel_rfl))
  f284 := Tryz.func129.trans (congrArg some (by kernel_rfl))
  f285 := Tryz.func130.trans (congrArg some (by kernel_rfl))
  f286 := Tryz.func131.trans (congrArg some (by kernel_rfl))
  f317 := Tryz.func134.trans (congrArg some (by kernel_rfl))
  f318 := Tryz.func136.trans (congrArg some (by kernel_rfl))
  f319 := Tryz.func137.trans (congrArg some (by kernel_rfl))
  f320 := Tryz.func138.trans (congrArg some (by kernel_rfl))
  f337 := Tryz.func140.trans (congrArg some (by kernel_rfl))
  f338 := Tryz.func141.trans (congrArg some (by kernel_rfl))
  t0 := Tryz.underlying0
  a0 := Tryz.isAgg0
  z0 := Tryz.sizeOf0
  v0 := Tryz.zeroValue0
  t2 := Tryz.underlying2
  a2 := Tryz.isAgg2
  z2 := Tryz.sizeOf2
  v2 := Tryz.zeroValue2
  t3 := Tryz.underlying3
  a3 := Tryz.isAgg3
  z3 := Tryz.sizeOf3
  v3 := Tryz.zeroValue3
  t4 := Tryz.underlying4
  a4 := Tryz.isAgg4
  z4 := Tryz.sizeOf4
  v4 := Tryz.zeroValue4
  t5 := Tryz.underlying5
  a5 := Tryz.isAgg5
  z5 := Tryz.sizeOf5
  v5 := Tryz.zeroValue5
  t9 := Tryz.underlying9
  a9 := Tryz.isAgg9
  z9 := Tryz.sizeOf9
  v9 := Tryz.zeroValue9
  t20 := Tryz.underlying20
  a20 := Tryz.isAgg20
  z20 := Tryz.sizeOf20
  v20 := Tryz.zeroValue20
  t37 := Tryz.underlying55
  a37 := Tryz.isAgg55
  z37 := Tryz.sizeOf55
  v37 := Tryz.zeroValue55
  t46 := Tryz.underlying70
  a46 := Tryz.isAgg70
  z46 := Tryz.sizeOf70
  v46 := Tryz.zeroValue70
  t51 := Tryz.underlying108
  a51 := Tryz.isAgg108
  z51 := Tryz.sizeOf108
  v51 := Tryz.zeroValue108
  t53 := Tryz.underlying111
  a53 := Tryz.isAgg111
  z53 := Tryz.sizeOf111
  v53 := Tryz.zeroValue111
  t171 := Tryz.underlying153
  a171 := Tryz.isAgg153
  z171 := Tryz.sizeOf153
  v171 := Tryz.zeroValue153
  t173 := Tryz.underlying156
  a173 := Tryz.isAgg156
  z173 := Tryz.sizeOf156
  v173 := Tryz.zeroValue156
  t212 := Tryz.underlying160
  a212 := Tryz.isAgg160
  z212 := Tryz.sizeOf160
  v212 := Tryz.zeroValue160
  t213 := Tryz.underlying161
  a213 := Tryz.isAgg161
  z213 := Tryz.sizeOf161
  t232 := Tryz.underlying166
  a232 := Tryz.isAgg166
  z232 := Tryz.sizeOf166
  v232 := Tryz.zeroValue166
  t233 := Tryz.underlying167
  a233 := Tryz.isAgg167
  z233 := Tryz.sizeOf167
  v233 := Tryz.zeroValue167
  g17 := by kernel_rfl
  g18 := by kernel_rfl
  g19 := by kernel_rfl
  i0 := by kernel_rfl
  i2 := by kernel_rfl
  i3 := by kernel_rfl
  i4 := by kernel_rfl
  i5 := by kernel_rfl
  i9 := by kernel_rfl
  i20 := by kernel_rfl
  i37 := by kernel_rfl
  i46 := by kernel_rfl
  i51 := by kernel_rfl
  i53 := by kernel_rfl
  i171 := by kernel_rfl
  i173 := by kernel_rfl
  i212 := by kernel_rfl
  i232 := by kernel_rfl
  i233 := by kernel_rfl
  m17 := by kernel_rfl
  m18 := by kernel_rfl
  m19 := by kernel_rfl }
open Go.RowKit Go.Sort Go.Lib in
/-- strconv.Itoa: "Itoa is equivalent to FormatInt(int64(i), 10).": i's DECIMAL NUMERAL ('Lib.itoa': a '-' where i is negative, then the digits), FOR EVERY int. The world behind the call: the world before it, new blocks behind the heap (the library's 'var a [24]byte'), draws. (LAID: no walk: one application.) -/
theorem Tryz.strconv_Itoa (n : Int) (h0 : -9223372036854775808 ≤ n) (h1 : n ≤ 9223372036854775807) (w : World) (htab : Lib.TabIs Tryz.prog w "internal/strconv.uint64pow10" .u64 Lib.pow10Tab) :
    Calls Tryz.prog 107 #[.int .i64 n] w fun e w' => e = .returned (.string ⟨(Lib.itoa n).toArray⟩) ∧ ∃ k os, w' = grow (w.drewN k) os := Any.strconv_Itoa Tryz.laysM171 n h0 h1 w htab
def Tryz.lays143_ren : Go.Shelf.Ren := ⟨fun | 143 => 105 | 219 => 109 | 217 => 91 | 225 => 120 | 224 => 121 | 267 => 122 | 266 => 110 | 314 => 127 | n => n, fun | 9 => 9 | 3 => 3 | 4 => 4 | 5 => 5 | 46 => 70 | 146 => 109 | 51 => 108 | n => n, fun | 1 => 3 | n => n⟩
theorem Tryz.lays143 : Go.Proofs.Lays.n143 Tryz.prog Tryz.lays143_ren := {
  mixed := by kernel_rfl
  f143 := Tryz.func105.trans (congrArg some (by kernel_rfl))
  f217 := Tryz.func91.trans (congrArg some (by kernel_rfl))
  f219 := Tryz.func109.trans (congrArg some (by kernel_rfl))
  f224 := Tryz.func121.trans (congrArg some (by kernel_rfl))
  f225 := Tryz.func120.trans (congrArg some (by kernel_rfl))
  f266 := Tryz.func110.trans (congrArg some (by kernel_rfl))
  f267 := Tryz.func122.trans (congrArg some (by kernel_rfl))
  f314 := Tryz.func127.trans (congrArg some (by kernel_rfl))
  t3 := Tryz.underlying3
  a3 := Tryz.isAgg3
  z3 := Tryz.sizeOf3
  v3 := Tryz.zeroValue3
  t4 := Tryz.underlying4
  a4 := Tryz.isAgg4
  z4 := Tryz.sizeOf4
  v4 := Tryz.zeroValue4
  t5 := Tryz.underlying5
  a5 := Tryz.isAgg5
  z5 := Tryz.sizeOf5
  v5 := Tryz.zeroValue5
  t9 := Tryz.underlying9
  a9 := Tryz.isAgg9
  z9 := Tryz.sizeOf9
  v9 := Tryz.zeroValue9
  t46 := Tryz.underlying70
  a46 := Tryz.isAgg70
  z46 := Tryz.sizeOf70
  v46 := Tryz.zeroValue70
  t51 := Tryz.underlying108
  a51 := Tryz.isAgg108
  z51 := Tryz.sizeOf108
  v51 := Tryz.zeroValue108
  t146 := Tryz.underlying109
  a146 := Tryz.isAgg109
  z146 := Tryz.sizeOf109
  v146 := Tryz.zeroValue109
  g1 := by kernel_rfl }
open Go.RowKit Go.Lib in
/-- strings.Index: "Index returns the index of the first instance of substr in s, or -1 if substr is not present in s.": AT A substr OF ONE BYTE c: IT RETURNS 'Lib.indexByte s c'; the world is as it was. (LAID: no walk: one application.) -/
theorem Tryz.strings_Index_one (s : ByteArray) (c : UInt8) (w : World) :
    Calls Tryz.prog 105 #[.string s, .string ⟨#[c]⟩] w fun e w' => e = .returned (.int .i64 (Lib.indexByte s.data.toList c)) ∧ w' = w := Any.strings_Index_one Tryz.lays143 s c w
open Go.RowKit Go.Lib in
/-- strings.Index: "Index returns the index of the first instance of substr in s, or -1 if substr is not present in s.": IT RETURNS 'Lib.index s substr'; the world is as it was. (LAID: no walk: one application.) -/
theorem Tryz.strings_Index (s sub : ByteArray) (m : Int) (w : World) (hs : s.size < 4294967281) (hm : w.cell? ⟨3, 0, none⟩ = some (.int .i64 m)) :
    Calls Tryz.prog 105 #[.string s, .string sub] w fun e w' => e = .returned (.int .i64 (Lib.index s.data.toList sub.data.toList)) ∧ w' = w := Any.strings_Index Tryz.lays143 s sub m w hs hm
def Tryz.lays145_ren : Go.Shelf.Ren := ⟨fun | 145 => 57 | 220 => 89 | 219 => 109 | 217 => 91 | 225 => 120 | 224 => 121 | 267 => 122 | 266 => 110 | 314 => 127 | n => n, fun | 9 => 9 | 4 => 4 | 59 => 101 | 3 => 3 | 5 => 5 | 46 => 70 | 146 => 109 | 51 => 108 | n => n, fun | 1 => 3 | n => n⟩
theorem Tryz.lays145 : Go.Proofs.Lays.n145 Tryz.prog Tryz.lays145_ren := {
  mixed := by kernel_rfl
  f145 := Tryz.func57.trans (congrArg some (by kernel_rfl))
  f217 := Tryz.func91.trans (congrArg some (by kernel_rfl))
  f219 := Tryz.func109.trans (congrArg some (by kernel_rfl))
  f220 := Tryz.func89.trans (congrArg some (by kernel_rfl))
  f224 := Tryz.func121.trans (congrArg some (by kernel_rfl))
  f225 := Tryz.func120.trans (congrArg some (by kernel_rfl))
  f266 := Tryz.func110.trans (congrArg some (by kernel_rfl))
  f267 := Tryz.func122.trans (congrArg some (by kernel_rfl))
  f314 := Tryz.func127.trans (congrArg some (by kernel_rfl))
  t3 := Tryz.underlying3
  a3 := Tryz.isAgg3
  z3 := Tryz.sizeOf3
  v3 := Tryz.zeroValue3
  t4 := Tryz.underlying4
  a4 := Tryz.isAgg4
  z4 := Tryz.sizeOf4
  v4 := Tryz.zeroValue4
  t5 := Tryz.underlying5
  a5 := Tryz.isAgg5
  z5 := Tryz.sizeOf5
  v5 := Tryz.zeroValue5
  t9 := Tryz.underlying9
  a9 := Tryz.isAgg9
  z9 := Tryz.sizeOf9
  v9 := Tryz.zeroValue9
  t46 := Tryz.underlying70
  a46 := Tryz.isAgg70
  z46 := Tryz.sizeOf70
  v46 := Tryz.zeroValue70
  t51 := Tryz.underlying108
  a51 := Tryz.isAgg108
  z51 := Tryz.sizeOf108
  v51 := Tryz.zeroValue108
  t59 := Tryz.underlying101
  a59 := Tryz.isAgg101
  z59 := Tryz.sizeOf101
  v59 := Tryz.zeroValue101
  t146 := Tryz.underlying109
  a146 := Tryz.isAgg109
  z146 := Tryz.sizeOf109
  v146 := Tryz.zeroValue109
  g1 := by kernel_rfl }
open Go.RowKit Go.Lib in
/-- strings.Cut: "Cut slices s around the first instance of sep, returning the text before and after sep. The found result reports whether sep appears in s. If sep does not appear in s, cut returns s, "", false.": IT RETURNS 'Lib.cut s sep'; the world is as it was but for the count of draws. (LAID: no walk: one application.) -/
theorem Tryz.strings_Cut (s sep : ByteArray) (m : Int) (w : World) (hs : s.size < 4294967281) (hm : w.cell? ⟨3, 0, none⟩ = some (.int .i64 m)) :
    Calls Tryz.prog 57 #[.string s, .string sep] w fun e w' => e = .returned (.tuple #[.string ⟨(Lib.cut s.data.toList sep.data.toList).1.toArray⟩, .string ⟨(Lib.cut s.data.toList sep.data.toList).2.1.toArray⟩, .bool (Lib.cut s.data.toList sep.data.toList).2.2]) ∧ ∃ n, w' = w.drewN n := Any.strings_Cut Tryz.lays145 s sep m w hs hm
def Tryz.lays138_ren : Go.Shelf.Ren := ⟨fun | 138 => 85 | 195 => 103 | 218 => 104 | 143 => 105 | 219 => 109 | 217 => 91 | 225 => 120 | 224 => 121 | 267 => 122 | 266 => 110 | 314 => 127 | n => n, fun | 9 => 9 | 3 => 3 | 4 => 4 | 5 => 5 | 0 => 0 | 46 => 70 | 146 => 109 | 51 => 108 | n => n, fun | 1 => 3 | n => n⟩
theorem Tryz.lays138 : Go.Proofs.Lays.n138 Tryz.prog Tryz.lays138_ren := {
  mixed := by kernel_rfl
  f138 := Tryz.func85.trans (congrArg some (by kernel_rfl))
  f143 := Tryz.func105.trans (congrArg some (by kernel_rfl))
  f195 := Tryz.func103.trans (congrArg some (by kernel_rfl))
  f217 := Tryz.func91.trans (congrArg some (by kernel_rfl))
  f218 := Tryz.func104.trans (congrArg some (by kernel_rfl))
  f219 := Tryz.func109.trans (congrArg some (by kernel_rfl))
  f224 := Tryz.func121.trans (congrArg some (by kernel_rfl))
  f225 := Tryz.func120.trans (congrArg some (by kernel_rfl))
  f266 := Tryz.func110.trans (congrArg some (by kernel_rfl))
  f267 := Tryz.func122.trans (congrArg some (by kernel_rfl))
  f314 := Tryz.func127.trans (congrArg some (by kernel_rfl))
  t0 := Tryz.underlying0
  a0 := Tryz.isAgg0
  z0 := Tryz.sizeOf0
  v0 := Tryz.zeroValue0
  t3 := Tryz.underlying3
  a3 := Tryz.isAgg3
  z3 := Tryz.sizeOf3
  v3 := Tryz.zeroValue3
  t4 := Tryz.underlying4
  a4 := Tryz.isAgg4
  z4 := Tryz.sizeOf4
  v4 := Tryz.zeroValue4
  t5 := Tryz.underlying5
  a5 := Tryz.isAgg5
  z5 := Tryz.sizeOf5
  v5 := Tryz.zeroValue5
  t9 := Tryz.underlying9
  a9 := Tryz.isAgg9
  z9 := Tryz.sizeOf9
  v9 := Tryz.zeroValue9
  t46 := Tryz.underlying70
  a46 := Tryz.isAgg70
  z46 := Tryz.sizeOf70
  v46 := Tryz.zeroValue70
  t51 := Tryz.underlying108
  a51 := Tryz.isAgg108
  z51 := Tryz.sizeOf108
  v51 := Tryz.zeroValue108
  t146 := Tryz.underlying109
  a146 := Tryz.isAgg109
  z146 := Tryz.sizeOf109
  v146 := Tryz.zeroValue109
  g1 := by kernel_rfl }
open Go.RowKit Go.Lib in
/-- strings.Count AT A substr OF ONE BYTE ('hp'): "Count counts the number of non-overlapping instances of substr in s.": IT RETURNS 'Lib.countByte s (that byte)'; the world is as it was. ✋ NO CONTRACT HERE YET at an empty substr (utf8.RuneCountInString) or at a longer one (a loop over strings.Index). (LAID: no walk: one application.) -/
theorem Tryz.strings_Count_one (s : ByteArray) (c : UInt8) (w : World) :
    Calls Tryz.prog 85 #[.string s, .string ⟨#[c]⟩] w fun e w' => e = .returned (.int .i64 (Lib.countByte s.data.toList c)) ∧ w' = w := Any.strings_Count_one Tryz.lays138 s c w
def Tryz.lays146_ren : Go.Shelf.Ren := ⟨fun | 146 => 82 | 221 => 101 | 268 => 111 | 138 => 85 | 143 => 105 | 195 => 103 | 197 => 43 | 218 => 104 | 219 => 109 | 260 => 72 | 217 => 91 | 225 => 120 | 224 => 121 | 267 => 122 | 266 => 110 | 314 => 127 | n => n, fun | 9 => 9 | 31 => 22 | 3 => 3 | 4 => 4 | 0 => 0 | 105 => 90 | 21 => 21 | 5 => 5 | 46 => 70 | 119 => 128 | 139 => 131 | 138 => 130 | 146 => 109 | 51 => 108 | n => n, fun | 1 => 3 | 3 => 1 | 4 => 2 | n => n⟩
theorem Tryz.lays146 : Go.Proofs.Lays.n146 Tryz.prog Tryz.lays146_ren := {
  mixed := by kernel_rfl
  f138 := Tryz.func85.trans (congrArg some (by kernel_rfl))
  f143 := Tryz.func105.trans (congrArg some (by kernel_rfl))
  f146 := Tryz.func82.trans (congrArg some (by kernel_rfl))
  f195 := Tryz.func103.trans (congrArg some (by kernel_rfl))
  f197 := Tryz.func43.trans (congrArg some (by kernel_rfl))
  f217 := Tryz.func91.trans (congrArg some (by kernel_rfl))
  f218 := Tryz.func104.trans (congrArg some (by kernel_rfl))
  f219 := Tryz.func109.trans (congrArg some (by kernel_rfl))
  f221 := Tryz.func101.trans (congrArg some (by kernel_rfl))
  f224 := Tryz.func121.trans (congrArg some (by kernel_rfl))
  f225 := Tryz.func120.trans (congrArg some (by kernel_rfl))
  f260 := Tryz.func72.trans (congrArg some (by kernel_rfl))
  f266 := Tryz.func110.trans (congrArg some (by kernel_rfl))
  f267 := Tryz.func122.trans (congrArg some (by kernel_rfl))
  f268 := Tryz.func111.trans (congrArg some (by kernel_rfl))
  f314 := Tryz.func127.trans (congrArg some (by kernel_rfl))
  t0 := Tryz.underlying0
  a0 := Tryz.isAgg0
  z0 := Tryz.sizeOf0
  v0 := Tryz.zeroValue0
  t3 := Tryz.underlying3
  a3 := Tryz.isAgg3
  z3 := Tryz.sizeOf3
  v3 := Tryz.zeroValue3
  t4 := Tryz.underlying4
  a4 := Tryz.isAgg4
  z4 := Tryz.sizeOf4
  v4 := Tryz.zeroValue4
  t5 := Tryz.underlying5
  a5 := Tryz.isAgg5
  z5 := Tryz.sizeOf5
  v5 := Tryz.zeroValue5
  t9 := Tryz.underlying9
  a9 := Tryz.isAgg9
  z9 := Tryz.sizeOf9
  v9 := Tryz.zeroValue9
  t21 := Tryz.underlying21
  a21 := Tryz.isAgg21
  z21 := Tryz.sizeOf21
  v21 := Tryz.zeroValue21
  t31 := Tryz.underlying22
  a31 := Tryz.isAgg22
  z31 := Tryz.sizeOf22
  v31 := Tryz.zeroValue22
  t46 := Tryz.underlying70
  a46 := Tryz.isAgg70
  z46 := Tryz.sizeOf70
  v46 := Tryz.zeroValue70
  t51 := Tryz.underlying108
  a51 := Tryz.isAgg108
  z51 := Tryz.sizeOf108
  v51 := Tryz.zeroValue108
  t105 := Tryz.underlying90
  a105 := Tryz.isAgg90
  z105 := Tryz.sizeOf90
  v105 := Tryz.zeroValue90
  t119 := Tryz.underlying128
  a119 := Tryz.isAgg128
  z119 := Tryz.sizeOf128
  t138 := Tryz.underlying130
  a138 := Tryz.isAgg130
  z138 := Tryz.sizeOf130
  v138 := Tryz.zeroValue130
  t139 := Tryz.underlying131
  a139 := Tryz.isAgg131
  z139 := Tryz.sizeOf131
  v139 := Tryz.zeroValue131
  t146 := Tryz.underlying109
  a146 := Tryz.isAgg109
  z146 := Tryz.sizeOf109
  v146 := Tryz.zeroValue109
  g1 := by kernel_rfl
  g3 := by kernel_rfl
  g4 := by kernel_rfl }
open Go.RowKit Go.Lib in
/-- strings.Split. (LAID: no walk: one application.) -/
theorem Tryz.strings_Split (s sep : ByteArray) (m : Int) (w : World) (hs : s.size < 4294967281) (hm : w.cell? ⟨3, 0, none⟩ = some (.int .i64 m)) (h1 : 1 ≤ sep.size) :
    Calls Tryz.prog 82 #[.string s, .string sep] w fun e w' =>
      e = .returned (.slice (some ⟨w.heap.size, 0, none⟩) (Lib.countB s sep + 1) (Lib.countB s sep + 1)) ∧ w' = w.alloc (.cells ((Lib.splitB sep 0 (Lib.countB s sep) s).map Value.string).toArray 9) := Any.strings_Split Tryz.lays146 (by kernel_rfl) s sep m w hs hm h1
def Tryz.lays151_ren : Go.Shelf.Ren := ⟨fun | 151 => 125 | 152 => 132 | 137 => 59 | 119 => 139 | 224 => 121 | 225 => 120 | 217 => 91 | 266 => 110 | n => n, fun | 9 => 9 | 21 => 21 | 4 => 4 | 3 => 3 | 5 => 5 | 0 => 0 | 46 => 70 | n => n, fun | n => n⟩
theorem Tryz.lays151 : Go.Proofs.Lays.n151 Tryz.prog Tryz.lays151_ren := {
  mixed := by kernel_rfl
  f119 := Tryz.func139.trans (congrArg some (by kernel_rfl))
  f137 := Tryz.func59.trans (congrArg some (by kernel_rfl))
  f151 := Tryz.func125.trans (congrArg some (by kernel_rfl))
  f152 := Tryz.func132.trans (congrArg some (by kernel_rfl))
  f217 := Tryz.func91.trans (congrArg some (by kernel_rfl))
  f224 := Tryz.func121.trans (congrArg some (by kernel_rfl))
  f225 := Tryz.func120.trans (congrArg some (by kernel_rfl))
  f266 := Tryz.func110.trans (congrArg some (by kernel_rfl))
  t0 := Tryz.underlying0
  a0 := Tryz.isAgg0
  z0 := Tryz.sizeOf0
  v0 := Tryz.zeroValue0
  t3 := Tryz.underlying3
  a3 := Tryz.isAgg3
  z3 := Tryz.sizeOf3
  v3 := Tryz.zeroValue3
  t4 := Tryz.underlying4
  a4 := Tryz.isAgg4
  z4 := Tryz.sizeOf4
  v4 := Tryz.zeroValue4
  t5 := Tryz.underlying5
  a5 := Tryz.isAgg5
  z5 := Tryz.sizeOf5
  v5 := Tryz.zeroValue5
  t9 := Tryz.underlying9
  a9 := Tryz.isAgg9
  z9 := Tryz.sizeOf9
  v9 := Tryz.zeroValue9
  t21 := Tryz.underlying21
  a21 := Tryz.isAgg21
  z21 := Tryz.sizeOf21
  v21 := Tryz.zeroValue21
  t46 := Tryz.underlying70
  a46 := Tryz.isAgg70
  z46 := Tryz.sizeOf70
  v46 := Tryz.zeroValue70 }
open Go.RowKit Go.Lib in
theorem Tryz.strings_ContainsRune_ascii (s : ByteArray) (r : Int) (w : World) (h0 : 0 ≤ r) (h1 : r < 128) :
    Calls Tryz.prog 125 #[.string s, .int .i32 r] w fun e w' => e = .returned (.bool (decide (0 ≤ Lib.indexByte s.data.toList r.toNat.toUInt8))) ∧ w' = w := Any.strings_ContainsRune_ascii Tryz.lays151 s r w h0 h1
def Tryz.lays105_ren : Go.Shelf.Ren := ⟨fun | 105 => 15 | 212 => 34 | 99 => 35 | 165 => 36 | 166 => 37 | 170 => 38 | 169 => 39 | 263 => 62 | 264 => 63 | 206 => 64 | 240 => 65 | 241 => 66 | 276 => 92 | 277 => 93 | n => n, fun | 9 => 9 | 3 => 3 | 4 => 4 | 20 => 20 | 0 => 0 | 46 => 70 | 109 => 71 | 5 => 5 | 72 => 75 | 76 => 79 | 51 => 108 | 146 => 109 | 53 => 111 | 148 => 112 | 70 => 73 | 37 => 55 | 75 => 78 | 127 => 114 | 164 => 124 | 80 => 27 | n => n, fun | n => n⟩
theorem Tryz.lays105 : Go.Proofs.Lays.n105 Tryz.prog Tryz.lays105_ren := {
  mixed := by kernel_rfl
  f99 := Tryz.func35.trans (congrArg some (by kernel_rfl))
  f105 := Tryz.func15.trans (congrArg some (by kernel_rfl))
  f165 := Tryz.func36.trans (congrArg some (by kernel_rfl))
  f166 := Tryz.func37.trans (congrArg some (by kernel_rfl))
  f169 := Tryz.func39.trans (congrArg some (by kernel_rfl))
  f170 := Tryz.func38.trans (congrArg some (by kernel_rfl))
  f206 := Tryz.func64.trans (congrArg some (by kernel_rfl))
  f212 := Tryz.func34.trans (congrArg some (by kernel_rfl))
  f240 := Tryz.func65.trans (congrArg some (by kernel_rfl))
  f241 := Tryz.func66.trans (congrArg some (by kernel_rfl))
  f263 := Tryz.func62.trans (congrArg some (by kernel_rfl))
  f264 := Tryz.func63.trans (congrArg some (by kernel_rfl))
  f276 := Tryz.func92.trans (congrArg some (by kernel_rfl))
  f277 := Tryz.func93.trans (congrArg some (by kernel_rfl))
  t0 := Tryz.underlying0
  a0 := Tryz.isAgg0
  z0 := Tryz.sizeOf0
  v0 := Tryz.zeroValue0
  t3 := Tryz.underlying3
  a3 := Tryz.isAgg3
  z3 := Tryz.sizeOf3
  v3 := Tryz.zeroValue3
  t4 := Tryz.underlying4
  a4 := Tryz.isAgg4
  z4 := Tryz.sizeOf4
  v4 := Tryz.zeroValue4
  t5 := Tryz.underlying5
  a5 := Tryz.isAgg5
  z5 := Tryz.sizeOf5
  v5 := Tryz.zeroValue5
  t9 := Tryz.underlying9
  a9 := Tryz.isAgg9
  z9 := Tryz.sizeOf9
  v9 := Tryz.zeroValue9
  t20 := Tryz.underlying20
  a20 := Tryz.isAgg20
  z20 := Tryz.sizeOf20
  v20 := Tryz.zeroValue20
  t37 := Tryz.underlying55
  a37 := Tryz.isAgg55
  z37 := Tryz.sizeOf55
  v37 := Tryz.zeroValue55
  t46 := Tryz.underlying70
  a46 := Tryz.isAgg70
  z46 := Tryz.sizeOf70
  v46 := Tryz.zeroValue70
  t51 := Tryz.underlying108
  a51 := Tryz.isAgg108
  z51 := Tryz.sizeOf108
  v51 := Tryz.zeroValue108
  t53 := Tryz.underlying111
  a53 := Tryz.isAgg111
  z53 := Tryz.sizeOf111
  v53 := Tryz.zeroValue111
  t70 := Tryz.underlying73
  a70 := Tryz.isAgg73
  z70 := Tryz.sizeOf73
  v70 := Tryz.zeroValue73
  t72 := Tryz.underlying75
  a72 := Tryz.isAgg75
  z72 := Tryz.sizeOf75
  v72 := Tryz.zeroValue75
  t75 := Tryz.underlying78
  a75 := Tryz.isAgg78
  z75 := Tryz.sizeOf78
  v75 := Tryz.zeroValue78
  t76 := Tryz.underlying79
  a76 := Tryz.isAgg79
  z76 := Tryz.sizeOf79
  v76 := Tryz.zeroValue79
  t109 := Tryz.underlying71
  a109 := Tryz.isAgg71
  z109 := Tryz.sizeOf71
  v109 := Tryz.zeroValue71
  t127 := Tryz.underlying114
  a127 := Tryz.isAgg114
  z127 := Tryz.sizeOf114
  v127 := Tryz.zeroValue114
  t146 := Tryz.underlying109
  a146 := Tryz.isAgg109
  z146 := Tryz.sizeOf109
  v146 := Tryz.zeroValue109
  t148 := Tryz.underlying112
  a148 := Tryz.isAgg112
  z148 := Tryz.sizeOf112
  v148 := Tryz.zeroValue112
  t164 := Tryz.underlying124
  a164 := Tryz.isAgg124
  z164 := Tryz.sizeOf124
  v164 := Tryz.zeroValue124 }
theorem Tryz.Builder_Extra_105 : Builder.Extra Tryz.prog Tryz.lays105_ren := {
  sizeBuilder := by kernel_rfl
  liesBuilder := by kernel_rfl
  t5 := Tryz.underlying5
  a5 := Tryz.isAgg5
  z5 := Tryz.sizeOf5
  v5 := Tryz.zeroValue5
  infoByte := by kernel_rfl
  cellsByte := by kernel_rfl
  sizeByte := by kernel_rfl
  neB5 := by decide }
open Go.RowKit Go.Lib in
/-- **strings.Repeat: count ≥ 0, the result within one allocation: count copies of s.** (LAID: no walk: one application.) -/
theorem Tryz.strings_Repeat (s : ByteArray) (c : Nat) (w : World) (hc : c ≤ 9223372036854775807) (hlen : s.size * c ≤ 140737488355328) :
    Calls Tryz.prog 15 #[.string s, .int .i64 c] w fun e w' => e = .returned (.string ⟨(Lib.repeatL s.data.toList c).toArray⟩) ∧ Below w.heap.size w w' := Any.strings_Repeat Tryz.lays105 Tryz.Builder_Extra_105 s c w hc hlen
def Tryz.lTrim_ren : Go.Shelf.Ren := ⟨fun | 160 => 108 | 232 => 114 | 231 => 113 | 227 => 115 | 234 => 117 | 233 => 116 | 236 => 119 | 235 => 118 | 228 => 124 | 271 => 126 | 151 => 125 | 197 => 43 | 120 => 133 | 152 => 132 | 260 => 72 | 137 => 59 | 119 => 139 | 224 => 121 | 225 => 120 | 217 => 91 | 266 => 110 | n => n, fun | 9 => 9 | 4 => 4 | 3 => 3 | 5 => 5 | 117 => 145 | 116 => 144 | 0 => 0 | 124 => 148 | 21 => 21 | 105 => 90 | 46 => 70 | 119 => 128 | 139 => 131 | 138 => 130 | n => n, fun | 3 => 1 | 4 => 2 | n => n⟩
theorem Tryz.lTrim : Go.Proofs.Lays.n160 Tryz.prog Tryz.lTrim_ren := {
  mixed := by kernel_rfl
  f119 := Tryz.func139.trans (congrArg some (by kernel_rfl))
  f120 := Tryz.func133.trans (congrArg some (by kernel_rfl))
  f137 := Tryz.func59.trans (congrArg some (by kernel_rfl))
  f151 := Tryz.func125.trans (congrArg some (by kernel_rfl))
  f152 := Tryz.func132.trans (congrArg some (by kernel_rfl))
  f160 := Tryz.func108.trans (congrArg some (by kernel_rfl))
  f197 := Tryz.func43.trans (congrArg some (by kernel_rfl))
  f217 := Tryz.func91.trans (congrArg some (by kernel_rfl))
  f224 := Tryz.func121.trans (congrArg some (by kernel_rfl))
  f225 := Tryz.func120.trans (congrArg some (by kernel_rfl))
  f227 := Tryz.func115.trans (congrArg some (by kernel_rfl))
  f228 := Tryz.func124.trans (congrArg some (by kernel_rfl))
  f231 := Tryz.func113.trans (congrArg some (by kernel_rfl))
  f232 := Tryz.func114.trans (congrArg some (by kernel_rfl))
  f233 := Tryz.func116.trans (congrArg some (by kernel_rfl))
  f234 := Tryz.func117.trans (congrArg some (by kernel_rfl))
  f235 := Tryz.func118.trans (congrArg some (by kernel_rfl))
  f236 := Tryz.func119.trans (congrArg some (by kernel_rfl))
  f260 := Tryz.func72.trans (congrArg some (by kernel_rfl))
  f266 := Tryz.func110.trans (congrArg some (by kernel_rfl))
  f271 := Tryz.func126.trans (congrArg some (by kernel_rfl))
  t0 := Tryz.underlying0
  a0 := Tryz.isAgg0
  z0 := Tryz.sizeOf0
  v0 := Tryz.zeroValue0
  t3 := Tryz.underlying3
  a3 := Tryz.isAgg3
  z3 := Tryz.sizeOf3
  v3 := Tryz.zeroValue3
  t4 := Tryz.underlying4
  a4 := Tryz.isAgg4
  z4 := Tryz.sizeOf4
  v4 := Tryz.zeroValue4
  t5 := Tryz.underlying5
  a5 := Tryz.isAgg5
  z5 := Tryz.sizeOf5
  v5 := Tryz.zeroValue5
  t9 := Tryz.underlying9
  a9 := Tryz.isAgg9
  z9 := Tryz.sizeOf9
  v9 := Tryz.zeroValue9
  t21 := Tryz.underlying21
  a21 := Tryz.isAgg21
  z21 := Tryz.sizeOf21
  v21 := Tryz.zeroValue21
  t46 := Tryz.underlying70
  a46 := Tryz.isAgg70
  z46 := Tryz.sizeOf70
  v46 := Tryz.zeroValue70
  t105 := Tryz.underlying90
  a105 := Tryz.isAgg90
  z105 := Tryz.sizeOf90
  v105 := Tryz.zeroValue90
  t116 := Tryz.underlying144
  a116 := Tryz.isAgg144
  z116 := Tryz.sizeOf144
  t117 := Tryz.underlying145
  a117 := Tryz.isAgg145
  z117 := Tryz.sizeOf145
  v117 := Tryz.zeroValue145
  t119 := Tryz.underlying128
  a119 := Tryz.isAgg128
  z119 := Tryz.sizeOf128
  t124 := Tryz.underlying148
  a124 := Tryz.isAgg148
  z124 := Tryz.sizeOf148
  v124 := Tryz.zeroValue148
  t138 := Tryz.underlying130
  a138 := Tryz.isAgg130
  z138 := Tryz.sizeOf130
  v138 := Tryz.zeroValue130
  t139 := Tryz.underlying131
  a139 := Tryz.isAgg131
  z139 := Tryz.sizeOf131
  v139 := Tryz.zeroValue131
  g3 := by kernel_rfl
  g4 := by kernel_rfl }
open Go.RowKit in
theorem Tryz.strings_TrimS (s cs : ByteArray) (w : World) (hs : s.size ≤ 9223372036854775807) (hcs : cs.size < 4294967281) (ha : ∀ (j : Nat) b, cs.data.toList[j]? = some b → b.toNat < 128) :
    Calls Tryz.prog 108 #[.string s, .string cs] w fun e w' => e = .returned (.string ⟨(Lib.trimS s.data.toList cs.data.toList).toArray⟩) ∧ Below w.heap.size w w' := Any.strings_Trim_laid Tryz.lTrim (by kernel_rfl) s cs w hs hcs ha
end Go.Proofs

/- What library functions give, in the form in which the printed contracts take it (one function '.f', one contract '.calls' each); the fact on the package-level variables that they lean on (Glob). -/
namespace Go.Proofs.YtmhcdigneamgdaaGreatDoor.G
open Go.RowKit Go.Proofs.YtmhcdigneamgdaaGreatDoorW.PrintWords
set_option linter.unusedVariables false

def sayVal (s : ByteArray) : Value := if s = ⟨#[115, 105, 122, 101]⟩ then .func (.func 159) #[] #[] else if s = ⟨#[98, 111, 100, 121]⟩ then .func (.func 160) #[] #[] else .nilFunc
def sayHas (s : ByteArray) : Bool := s == ⟨#[115, 105, 122, 101]⟩ || s == ⟨#[98, 111, 100, 121]⟩
/-- What the package-level variables hold. -/
structure Glob (w : World) : Prop where
  maxLen : ∃ m, w.cell? ⟨3, 0, none⟩ = some (.int .i64 m)
  pow10 : Lib.TabIs Tryz.prog w "internal/strconv.uint64pow10" .u64 Lib.pow10Tab
  pow10b : 5 < w.heap.size
  atext : ∀ i : Nat, i < 4 → w.cell? ⟨4, i, none⟩ = some (.int .u32 ([0, 2751442170, 3355443198, 2147483647].getD i 0))
  says : ∃ bm es clock, w.cell? ⟨0, 0, none⟩ = some (.map (some bm)) ∧ w.heap[bm]? = some (.map es clock) ∧ ∀ (W : World) (s : ByteArray), W.heap[bm]? = some (.map es clock) → s.size ≤ 9223372036854775807 → (Instr.lookup 87 (.map (some bm)) (.string s) true).run Tryz.prog W = .ok (.tuple #[sayVal s, .bool (sayHas s)]) W
theorem gPow10 : Tryz.prog.globalNamed "internal/strconv.uint64pow10" = some 5 := by kernel_rfl
theorem Glob.below {w w' : World} (h : Glob w) (hb : Below w.heap.size w w') : Glob w' where
  maxLen := by obtain ⟨m, hm⟩ := h.maxLen; exact ⟨m, pw_cell_below hb hm⟩
  pow10 := var?_below hb gPow10 h.pow10b h.pow10
  pow10b := Nat.lt_of_lt_of_le h.pow10b hb.size
  says := by obtain ⟨bm, es, clock, h1, h2, h3⟩ := h.says; exact ⟨bm, es, clock, pw_cell_below hb h1, blk_below h2 hb, h3⟩
  atext := fun i hi => pw_cell_below hb (h.atext i hi)
theorem Glob.drewN {w : World} (h : Glob w) (n : Nat) : Glob (w.drewN n) := h.below (pw_below_drewN (Below.refl _ _) n)
theorem Glob.drew {w : World} (h : Glob w) : Glob w.drew := h.below (below_drew (Below.refl _ _))

theorem lit_size (a : Array UInt8) : (⟨a⟩ : ByteArray).size = a.size := rfl
theorem ext_all (s : ByteArray) : s.extract 0 s.size = s := by rw [Lib.extract_eq, List.drop_zero, Nat.sub_zero, Lib.size_eq, List.take_length, Lib.mk_data]
theorem ne_nil_b (l : List UInt8) : (l != []) = !l.isEmpty := by cases l <;> rfl
theorem then_below {w w1 w2 : World} (h : Below w.heap.size w w1) (k : Below w1.heap.size w1 w2) : Below w.heap.size w w2 := h.trans (k.mono h.size)
theorem drawn_same (w : World) : Drawn0 w w := Drawn0.refl w

def strings_IndexByte.f (a0 : ByteArray) (a1 : Int) : Option Int := some (Lib.indexByte a0.data.toList a1.toNat.toUInt8)
theorem strings_IndexByte.calls (a0 : ByteArray) (a1 : Int) (r : Int) (w : World) (h : strings_IndexByte.f a0 a1 = some r) :
    Calls Tryz.prog 59 #[.string a0, .int .u8 a1] w fun e w' => e = .returned (.int .i64 r) ∧ Drawn0 w w' := by
  obtain rfl := Option.some.inj h
  exact (Tryz.strings_IndexByte a0 a1 w).mono fun e w' ⟨he, hw⟩ => ⟨he, hw ▸ Drawn0.refl w⟩

def strings_Index.f (a0 a1 : ByteArray) : Option Int := if a0.size < 4294967281 then some (Lib.index a0.data.toList a1.data.toList) else none
theorem strings_Index.calls (a0 a1 : ByteArray) (r : Int) (w : World) (h : strings_Index.f a0 a1 = some r) (hG : Glob w) :
    Calls Tryz.prog 105 #[.string a0, .string a1] w fun e w' => e = .returned (.int .i64 r) ∧ Drawn0 w w' := by
  unfold strings_Index.f at h
  split at h
  · obtain rfl := Option.some.inj h
    obtain ⟨m, hm⟩ := hG.maxLen
    exact (Tryz.strings_Index a0 a1 m w ‹_› hm).mono fun e w' ⟨he, hw⟩ => ⟨he, hw ▸ Drawn0.refl w⟩
  · cases h

def strings_Cut.f (a0 a1 : ByteArray) : Option (ByteArray × ByteArray × Bool) := if a0.size < 4294967281 then some (⟨(Lib.cut a0.data.toList a1.data.toList).1.toArray⟩, ⟨(Lib.cut a0.data.toList a1.data.toList).2.1.toArray⟩, (Lib.cut a0.data.toList a1.data.toList).2.2) else none
theorem strings_Cut.calls (a0 a1 : ByteArray) (r1 r2 : ByteArray) (r3 : Bool) (w : World) (h : strings_Cut.f a0 a1 = some (r1, r2, r3)) (hG : Glob w) :
    Calls Tryz.prog 57 #[.string a0, .string a1] w fun e w' => e = .returned (.tuple #[.string r1, .string r2, .bool r3]) ∧ Drawn0 w w' := by
  unfold strings_Cut.f at h
  split at h
  · obtain ⟨rfl, rfl, rfl⟩ : _ ∧ _ ∧ _ := by simpa only [Option.some.injEq, Prod.mk.injEq] using h
    obtain ⟨m, hm⟩ := hG.maxLen
    exact (Tryz.strings_Cut a0 a1 m w ‹_› hm).mono fun e w' ⟨he, n, hw⟩ => ⟨he, ⟨⟨n, hw⟩⟩⟩
  · cases h

/-- strings.Count at a separator of one byte. -/
def strings_Count.f (a0 a1 : ByteArray) : Option Int := match a1.data.toList with
  | [c] => some (Lib.countByte a0.data.toList c)
  | _ => none
theorem one_of {a1 : ByteArray} {c : UInt8} (h : a1.data.toList = [c]) : a1 = ⟨#[c]⟩ := by
  rw [← Lib.mk_data a1, h]
theorem strings_Count.calls (a0 a1 : ByteArray) (r : Int) (w : World) (h : strings_Count.f a0 a1 = some r) :
    Calls Tryz.prog 85 #[.string a0, .string a1] w fun e w' => e = .returned (.int .i64 r) ∧ Drawn0 w w' := by
  unfold strings_Count.f at h
  split at h
  · rename_i c hc
    obtain rfl := Option.some.inj h
    obtain rfl := one_of hc
    exact (Tryz.strings_Count_one a0 c w).mono fun e w' ⟨he, hw⟩ => ⟨he, hw ▸ Drawn0.refl w⟩
  · cases h

/-- strings.Trim at an ASCII cutset. -/
def ascii (s : ByteArray) : Bool := s.data.toList.all fun b => b.toNat < 128
def strings_Trim.f (a0 a1 : ByteArray) : Option ByteArray := if a0.size ≤ 9223372036854775807 ∧ a1.size < 4294967281 ∧ ascii a1 = true then some ⟨(Lib.trimS a0.data.toList a1.data.toList).toArray⟩ else none
theorem strings_Trim.calls (a0 a1 : ByteArray) (r : ByteArray) (w : World) (h : strings_Trim.f a0 a1 = some r) :
    Calls Tryz.prog 108 #[.string a0, .string a1] w fun e w' => e = .returned (.string r) ∧ Below w.heap.size w w' := by
  unfold strings_Trim.f at h
  split at h
  · rename_i hc
    obtain rfl := Option.some.inj h
    refine Tryz.strings_TrimS a0 a1 w hc.1 hc.2.1 (fun j b hj => ?_)
    have := List.all_eq_true.1 hc.2.2 b (List.mem_of_getElem? hj)
    simpa using this
  · cases h

def strconv_Itoa.f (a0 : Int) : Option ByteArray := if -9223372036854775808 ≤ a0 ∧ a0 ≤ 9223372036854775807 then some ⟨(Lib.itoa a0).toArray⟩ else none
theorem grow_below (w : World) (k : Nat) (os : Array Obj) : Below w.heap.size w (Go.Sort.grow (w.drewN k) os) :=
  ⟨rfl, rfl, rfl, by show w.heap.size ≤ (w.heap ++ os).size; rw [Array.size_append]; omega, fun j hj => by show (w.heap ++ os)[j]? = _; rw [Array.getElem?_append_left hj]⟩
theorem strconv_Itoa.calls (a0 : Int) (r : ByteArray) (w : World) (h : strconv_Itoa.f a0 = some r) (hG : Glob w) :
    Calls Tryz.prog 107 #[.int .i64 a0] w fun e w' => e = .returned (.string r) ∧ Below w.heap.size w w' := by
  unfold strconv_Itoa.f at h
  split at h
  · rename_i hc
    obtain rfl := Option.some.inj h
    exact (Tryz.strconv_Itoa a0 hc.1 hc.2 w hG.pow10).mono fun e w' ⟨he, k, os, hw⟩ => ⟨he, hw ▸ grow_below w k os⟩
  · cases h

/-- strings.Split at a separator of one byte or more. -/
def strings_Split.f (a0 a1 : ByteArray) : Option (List ByteArray) := if a0.size < 4294967281 ∧ 1 ≤ a1.size then some (Lib.splitB a1 0 (Lib.countB a0 a1) a0) else none
theorem splitB_length (sep : ByteArray) (h1 : 1 ≤ sep.size) : ∀ (k : Nat) (s : ByteArray), k = Lib.countB s sep → (Lib.splitB sep 0 k s).length = k + 1
  | 0, s, _ => by rw [Lib.splitB_zero]; rfl
  | k + 1, s, hk => by
    rcases Lib.indexB_cases s sep with h | ⟨i, h, _⟩
    · rw [Lib.countB_miss s sep h] at hk
      omega
    · rw [Lib.splitB_hit sep 0 k s i h, List.length_cons, splitB_length sep h1 k _ (by have := Lib.countB_hit s sep i h1 h; omega)]
theorem strings_Split.calls (a0 a1 : ByteArray) (r : List ByteArray) (w : World) (h : strings_Split.f a0 a1 = some r) (hG : Glob w) :
    Calls Tryz.prog 82 #[.string a0, .string a1] w fun e w' => ∃ v0_ : Value, e = .returned (v0_) ∧ Kd.R Kd.string 9 w' w.heap.size (fun _ => True) v0_ r ∧ Below w.heap.size w w' := by
  unfold strings_Split.f at h
  split at h
  · rename_i hc
    obtain rfl := Option.some.inj h
    obtain ⟨m, hm⟩ := hG.maxLen
    have hl := splitB_length a1 hc.2 _ a0 rfl
    have hle : (Lib.splitB a1 0 (Lib.countB a0 a1) a0).length ≤ 9223372036854775807 := by
      have h1 := Lib.count_le a0.data.toList a1.data.toList
      have h2 := Lib.size_eq a0
      have h3 : Lib.countB a0 a1 = Lib.count a0.data.toList a1.data.toList := rfl
      omega
    refine (Tryz.strings_Split a0 a1 m w hc.1 hm hc.2).mono fun e w' ⟨he, hw⟩ => ?_
    subst hw
    refine ⟨_, he, ?_, below_alloc (Below.refl _ _) _⟩
    have ho := own_lit_of (enc := Value.string) w w.heap.size 9 (Lib.splitB a1 0 (Lib.countB a0 a1) a0) (Nat.le_refl _) hle
    rw [hl] at ho
    exact Kd.R_of_own (by rw [hl]; exact_mod_cast ho) (fun _ _ => trivial)
  · cases h
end Go.Proofs.YtmhcdigneamgdaaGreatDoor.G

/- slices.IndexFunc and slices.ContainsFunc at elements of one cell, and a function value that may lay blocks of its own. -/
namespace Go.Proofs.YtmhcdigneamgdaaGreatDoor.G
open Go.RowKit Go.Proofs.YtmhcdigneamgdaaGreatDoorW.PrintWords
set_option linter.unusedVariables false

/-- The place of the first element of which p holds, or -1. -/
def idxP {α : Type} (p : α → Bool) : List α → Int
  | [] => -1
  | x :: l => if p x then 0 else if idxP p l = -1 then -1 else idxP p l + 1
theorem idxP_ge {α : Type} (p : α → Bool) : ∀ l : List α, -1 ≤ idxP p l
  | [] => by simp [idxP]
  | x :: l => by
    have := idxP_ge p l
    unfold idxP
    split
    · omega
    · split <;> omega
theorem idxP_hit {α : Type} (p : α → Bool) : ∀ (l : List α) (k : Nat) (h : k < l.length), (∀ j (hj : j < k), p (l[j]'(by omega)) = false) → p (l[k]) = true → idxP p l = k
  | [], k, h, _, _ => by simp at h
  | x :: l, 0, h, _, hk => by
    have hk' : p x = true := hk
    simp [idxP, hk']
  | x :: l, k + 1, h, hj, hk => by
    have h0 : p x = false := hj 0 (by omega)
    have ih := idxP_hit p l k (by simpa using h) (fun j hj' => hj (j + 1) (by omega)) hk
    simp only [idxP, h0, ih]
    split
    · contradiction
    · split
      · omega
      · omega
theorem idxP_miss {α : Type} (p : α → Bool) : ∀ l : List α, (∀ j (hj : j < l.length), p (l[j]) = false) → idxP p l = -1
  | [], _ => rfl
  | x :: l, h => by
    have h0 : p x = false := h 0 (by simp)
    have ih := idxP_miss p l (fun j hj => h (j + 1) (by simpa using hj))
    simp [idxP, h0, ih]
theorem idxP_any {α : Type} (p : α → Bool) : ∀ l : List α, decide (0 ≤ idxP p l) = l.any p
  | [] => rfl
  | x :: l => by
    have ih := idxP_any p l
    have hg := idxP_ge p l
    unfold idxP
    cases hx : p x
    · simp only [List.any_cons, hx, Bool.false_or, ← ih]
      split
      · contradiction
      · split
        · rename_i h2
          rw [h2]
        · rw [decide_eq_decide]
          omega
    · simp [hx]
theorem rd_get (xs : List Int) (k : Nat) (h : k < xs.length) : rd xs (k : Int) = xs[k] := by simp [rd, List.getD_eq_getElem?_getD, List.getElem?_eq_getElem h]
theorem rdOf_get {α : Type} (d : α) (xs : List α) (k : Nat) (h : k < xs.length) : rdOf d xs (k : Int) = xs[k] := by simp [rdOf, List.getD_eq_getElem?_getD, List.getElem?_eq_getElem h]

set_option maxHeartbeats 8000000 in
set_option maxRecDepth 1000000 in
theorem idxFunc_byte (p : Int → Bool) (g : Nat) (lb : Array Value) (eg : ∀ args w, (callFunc g args).run Tryz.prog w = .ok (.enter g args) w) (Ad : Option Addr) (c : Nat) (xs : List (Int)) (w : World)
    (hC : (Kd.int .u8).C w Ad xs.length xs) (hp : ∀ (W : World) (x : Int), x ∈ xs → Below w.heap.size w W → Calls Tryz.prog g (#[.int .u8 x] ++ lb) W fun e w' => e = .returned (.bool (p x)) ∧ Below w.heap.size w w') :
    Calls Tryz.prog 94 #[.slice Ad xs.length c, .func (.func g) #[] lb] w fun e w' => e = .returned (.int .i64 (idxP p xs)) ∧ Below w.heap.size w w' := by
  have hmax := Kd.C_max hC
  have HC := Aside0.mk hC
  have HP := Aside0.mk hp
  clear hC hp
  generalize hn : xs.length = n at *
  have HN := Aside0.mk hn
  clear hn
  go_enter Tryz.func94, Tryz.ntmps94
  go_wp2
  go_loopg [5, 8] n (fun gg _ s8 wr => ∃ kk : Nat, kk ≤ n ∧ n - kk ≤ gg ∧ s8 = .int .i64 kk ∧ Aside0 (Below w.heap.size w wr) ∧ Aside0 (∀ j, ∀ hj : j < xs.length, j < kk → p (xs[j]) = false))
  case atStart => exact ⟨0, Nat.zero_le _, by omega, rfl, ⟨Below.refl _ w⟩, ⟨fun j hj h0 => absurd h0 (Nat.not_lt_zero _)⟩⟩
  case round =>
    obtain ⟨kk, hkk, hg, rfl, BW, AA⟩ := hrel
    by_cases hlt : kk < n
    · have hltz : (kk : Int) < (n : Int) := by omega
      have hkl : kk < xs.length := by rw [HN.out]; exact hlt
      obtain ⟨ad, ea, hcell⟩ := Kd.at_int (Kd.C_below HC.out (BW.out)) (kk : Int) (by omega) (by omega)
      rw [rd_get xs kk hkl, Int.toNat_natCast] at hcell
      subst ea
      have hcall := HP.out wr xs[kk] (List.getElem_mem _) BW.out
      have HH := Aside0.mk (fun h : p xs[kk] = true => idxP_hit p xs kk hkl (fun j hj => AA.out j (by omega) hj) h)
      have HF := Aside0.mk (fun h : p xs[kk] = false => show ∀ j, ∀ hj : j < xs.length, j < kk + 1 → p (xs[j]) = false from fun j hj hlt2 => by
        by_cases e : j = kk
        · subst e; exact h
        · exact AA.out j hj (by omega))
      generalize xs[kk] = y at hcell hcall HH HF
      cases hq : p y with
      | true =>
        rw [hq] at hcall
        have HH2 := Aside0.mk (HH.out hq)
        clear HH HF hq
        go_wp2_with (go_at_fn g; refine hcall.mono ?_; rintro e w' ⟨rfl, hb'⟩)
        go_ret
        exact ⟨by rw [HH2.out]; rfl, hb'⟩
      | false =>
        rw [hq] at hcall
        have HH2 := Aside0.mk (HF.out hq)
        clear HH HF hq
        go_wp2_with (go_at_fn g; refine hcall.mono ?_; rintro e w' ⟨rfl, hb'⟩)
        go_roundg (n - (kk + 1))
        case measure => omega
        case rel => exact ⟨kk + 1, by omega, by omega, by go_num, ⟨hb'⟩, HH2⟩
    · have hltz : ¬ (kk : Int) < (n : Int) := by omega
      have HM := Aside0.mk (idxP_miss p xs (fun j hj => AA.out j hj (by have := HN.out; omega)))
      go_wp2
      go_ret
      exact ⟨by rw [HM.out]; rfl, BW.out⟩

set_option maxHeartbeats 4000000 in
theorem conFunc_byte (p : Int → Bool) (g : Nat) (lb : Array Value) (eg : ∀ args w, (callFunc g args).run Tryz.prog w = .ok (.enter g args) w) (Ad : Option Addr) (c : Nat) (xs : List (Int)) (w : World)
    (hC : (Kd.int .u8).C w Ad xs.length xs) (hp : ∀ (W : World) (x : Int), x ∈ xs → Below w.heap.size w W → Calls Tryz.prog g (#[.int .u8 x] ++ lb) W fun e w' => e = .returned (.bool (p x)) ∧ Below w.heap.size w w') :
    Calls Tryz.prog 70 #[.slice Ad xs.length c, .func (.func g) #[] lb] w fun e w' => e = .returned (.bool (xs.any p)) ∧ Below w.heap.size w w' := by
  have hcon := idxFunc_byte p g lb eg Ad c xs w hC hp
  have HX := Aside0.mk (idxP_any p xs)
  clear hC hp eg
  generalize idxP p xs = r at hcon HX
  generalize xs.any p = b at HX
  go_enter Tryz.func70, Tryz.ntmps70
  go_wp2_with (go_at_call 94; refine hcon.mono ?_; rintro e w' ⟨rfl, hb'⟩)
  go_ret
  exact ⟨by rw [← HX.out]; rfl, hb'⟩

set_option maxHeartbeats 8000000 in
set_option maxRecDepth 1000000 in
theorem idxFunc_str (p : ByteArray → Bool) (g : Nat) (lb : Array Value) (eg : ∀ args w, (callFunc g args).run Tryz.prog w = .ok (.enter g args) w) (Ad : Option Addr) (c : Nat) (xs : List (ByteArray)) (w : World)
    (hC : Kd.string.C w Ad xs.length xs) (hp : ∀ (W : World) (x : ByteArray), x ∈ xs → Below w.heap.size w W → Calls Tryz.prog g (#[.string x] ++ lb) W fun e w' => e = .returned (.bool (p x)) ∧ Below w.heap.size w w') :
    Calls Tryz.prog 96 #[.slice Ad xs.length c, .func (.func g) #[] lb] w fun e w' => e = .returned (.int .i64 (idxP p xs)) ∧ Below w.heap.size w w' := by
  have hmax := Kd.C_max hC
  have HC := Aside0.mk hC
  have HP := Aside0.mk hp
  clear hC hp
  generalize hn : xs.length = n at *
  have HN := Aside0.mk hn
  clear hn
  go_enter Tryz.func96, Tryz.ntmps96
  go_wp2
  go_loopg [5, 8] n (fun gg _ s8 wr => ∃ kk : Nat, kk ≤ n ∧ n - kk ≤ gg ∧ s8 = .int .i64 kk ∧ Aside0 (Below w.heap.size w wr) ∧ Aside0 (∀ j, ∀ hj : j < xs.length, j < kk → p (xs[j]) = false))
  case atStart => exact ⟨0, Nat.zero_le _, by omega, rfl, ⟨Below.refl _ w⟩, ⟨fun j hj h0 => absurd h0 (Nat.not_lt_zero _)⟩⟩
  case round =>
    obtain ⟨kk, hkk, hg, rfl, BW, AA⟩ := hrel
    by_cases hlt : kk < n
    · have hltz : (kk : Int) < (n : Int) := by omega
      have hkl : kk < xs.length := by rw [HN.out]; exact hlt
      obtain ⟨ad, ea, hcell⟩ := Kd.at_string (Kd.C_below HC.out (BW.out)) (kk : Int) (by omega) (by omega)
      rw [rdOf_get ByteArray.empty xs kk hkl, Int.toNat_natCast] at hcell
      subst ea
      have hcall := HP.out wr xs[kk] (List.getElem_mem _) BW.out
      have HH := Aside0.mk (fun h : p xs[kk] = true => idxP_hit p xs kk hkl (fun j hj => AA.out j (by omega) hj) h)
      have HF := Aside0.mk (fun h : p xs[kk] = false => show ∀ j, ∀ hj : j < xs.length, j < kk + 1 → p (xs[j]) = false from fun j hj hlt2 => by
        by_cases e : j = kk
        · subst e; exact h
        · exact AA.out j hj (by omega))
      generalize xs[kk] = y at hcell hcall HH HF
      cases hq : p y with
      | true =>
        rw [hq] at hcall
        have HH2 := Aside0.mk (HH.out hq)
        clear HH HF hq
        go_wp2_with (go_at_fn g; refine hcall.mono ?_; rintro e w' ⟨rfl, hb'⟩)
        go_ret
        exact ⟨by rw [HH2.out]; rfl, hb'⟩
      | false =>
        rw [hq] at hcall
        have HH2 := Aside0.mk (HF.out hq)
        clear HH HF hq
        go_wp2_with (go_at_fn g; refine hcall.mono ?_; rintro e w' ⟨rfl, hb'⟩)
        go_roundg (n - (kk + 1))
        case measure => omega
        case rel => exact ⟨kk + 1, by omega, by omega, by go_num, ⟨hb'⟩, HH2⟩
    · have hltz : ¬ (kk : Int) < (n : Int) := by omega
      have HM := Aside0.mk (idxP_miss p xs (fun j hj => AA.out j hj (by have := HN.out; omega)))
      go_wp2
      go_ret
      exact ⟨by rw [HM.out]; rfl, BW.out⟩

set_option maxHeartbeats 4000000 in
theorem conFunc_str (p : ByteArray → Bool) (g : Nat) (lb : Array Value) (eg : ∀ args w, (callFunc g args).run Tryz.prog w = .ok (.enter g args) w) (Ad : Option Addr) (c : Nat) (xs : List (ByteArray)) (w : World)
    (hC : Kd.string.C w Ad xs.length xs) (hp : ∀ (W : World) (x : ByteArray), x ∈ xs → Below w.heap.size w W → Calls Tryz.prog g (#[.string x] ++ lb) W fun e w' => e = .returned (.bool (p x)) ∧ Below w.heap.size w w') :
    Calls Tryz.prog 74 #[.slice Ad xs.length c, .func (.func g) #[] lb] w fun e w' => e = .returned (.bool (xs.any p)) ∧ Below w.heap.size w w' := by
  have hcon := idxFunc_str p g lb eg Ad c xs w hC hp
  have HX := Aside0.mk (idxP_any p xs)
  clear hC hp eg
  generalize idxP p xs = r at hcon HX
  generalize xs.any p = b at HX
  go_enter Tryz.func74, Tryz.ntmps74
  go_wp2_with (go_at_call 96; refine hcon.mono ?_; rintro e w' ⟨rfl, hb'⟩)
  go_ret
  exact ⟨by rw [← HX.out]; rfl, hb'⟩


end Go.Proofs.YtmhcdigneamgdaaGreatDoor.G

/- A string's bytes in memory of the call's own, written in place ('b := []byte(s); b[k] = ..; string(b)'). -/
namespace Go.Proofs.YtmhcdigneamgdaaGreatDoor.G
open Go.RowKit Go.Proofs.YtmhcdigneamgdaaGreatDoorW.PrintWords

/-- Block B holds the bytes xs, writable. -/
structure InPlace (w : World) (e : TypeId) (B : Nat) (xs : List UInt8) : Prop where
  blk : ∃ cur m, w.heap[B]? = some (.cells cur e (m, m + 1)) ∧ xs.length ≤ m ∧ xs.length ≤ cur.size ∧ ∀ j : Nat, j < xs.length → cur[j]? = some (.int .u8 (xs.getD j 0).toNat)

theorem InPlace.lt {w : World} {e : TypeId} {B : Nat} {xs : List UInt8} (h : InPlace w e B xs) : B < w.heap.size := by
  obtain ⟨cur, m, hb, _⟩ := h.blk
  exact (Array.getElem?_eq_some_iff.1 hb).1
theorem InPlace.start (w : World) (e : TypeId) (s : ByteArray) : InPlace (Lib.bytesWorld w e s) e w.heap.size s.data.toList := by
  have hb := Lib.bytesWorld_at_new w e s
  have hsz : s.data.toList.length ≤ (Lib.bytesCells w e s).size := by
    by_cases hn : s.data.toList.length = 0
    · omega
    · have h1 := Lib.bytesWorld_cell w e s (s.size - 1) (by have := Lib.size_eq s; omega)
      rw [World.cell?, hb] at h1
      have h2 := Lib.size_eq s
      simp only at h1
      have h3 := (Array.getElem?_eq_some_iff.1 h1).1
      omega
  refine ⟨⟨_, _, hb, hsz, hsz, fun j hj => ?_⟩⟩
  have h1 := Lib.bytesWorld_cell w e s j (by rw [Lib.size_eq]; exact hj)
  rw [World.cell?, hb] at h1
  exact h1
theorem InPlace.cell {w : World} {e : TypeId} {B : Nat} {xs : List UInt8} (h : InPlace w e B xs) (j : Nat) (hj : j < xs.length) : w.cell? ⟨B, j, none⟩ = some (.int .u8 (xs.getD j 0).toNat) := by
  obtain ⟨cur, m, hb, h1, h2, hc⟩ := h.blk
  rw [World.cell?, hb]
  exact hc j hj
theorem InPlace.free {w : World} {e : TypeId} {B : Nat} {xs : List UInt8} (h : InPlace w e B xs) (j : Nat) (hj : j < xs.length) : w.frozen? ⟨B, j, none⟩ = false := by
  obtain ⟨cur, m, hb, h1, h2, hc⟩ := h.blk
  simp [World.frozen?, hb]
  omega
theorem InPlace.set {w : World} {e : TypeId} {B : Nat} {xs : List UInt8} (h : InPlace w e B xs) (j : Nat) (hj : j < xs.length) (b : UInt8) : InPlace (w.setCell ⟨B, j, none⟩ (.int .u8 b.toNat)) e B (xs.set j b) := by
  obtain ⟨cur, m, hb, h1, h2, hc⟩ := h.blk
  have hlt := h.lt
  refine ⟨⟨cur.setIfInBounds j (.int .u8 b.toNat), m, ?_, by simpa using h1, by simpa using h2, fun i hi => ?_⟩⟩
  · have hg : w.heap[B] = .cells cur e (m, m + 1) := by
      have := (Array.getElem?_eq_some_iff.1 hb).2
      exact this
    have hs : (w.setCell ⟨B, j, none⟩ (.int .u8 b.toNat)).heap[B]? = some (.cells (cur.setIfInBounds j (.int .u8 b.toNat)) e (m, m + 1)) := by
      simp only [World.setCell]
      rw [Array.getElem?_modify, if_pos rfl, hb]
      rfl
    exact hs
  · rw [List.length_set] at hi
    by_cases e : j = i
    · subst e
      simp only [List.getD_eq_getElem?_getD, List.getElem?_set_self hi, Option.getD_some]
      rw [Array.getElem?_setIfInBounds_self_of_lt (by omega)]
    · rw [Array.getElem?_setIfInBounds_ne e, hc i hi]
      simp only [List.getD_eq_getElem?_getD, List.getElem?_set_ne e]
theorem InPlace.later {w w' : World} {e : TypeId} {B : Nat} {xs : List UInt8} (h : InPlace w e B xs) (hb : w'.heap[B]? = w.heap[B]?) : InPlace w' e B xs := ⟨by rw [hb]; exact h.blk⟩
theorem InPlace.text {w : World} {e : TypeId} {B : Nat} {xs : List UInt8} (h : InPlace w e B xs) {P : Program} {src dst : TypeId} (hs : P.underlying src = some (.slice e)) (he : P.underlying e = some (.int .u8)) (hd : P.underlying dst = some .string) (n cap : Nat) (hn : xs.length = n) :
    (convert src dst (.slice (some ⟨B, 0, none⟩) n cap)).run P w = .ok (.string ⟨xs.toArray⟩) w := by
  have hl : (bytesOf ⟨xs.toArray⟩).length = n := by rw [bytesOf_length, Lib.size_eq]; simpa using hn
  have := run_convert_bytes_arg (P := P) w src e hs he B 0 n cap (bytesOf ⟨xs.toArray⟩) hl (fun i hi => ?_) dst hd
  · rw [this]
    congr 2
    have hx : ∀ l : List UInt8, ((l.map fun b => (b.toNat : Int)).map fun z => z.toNat.toUInt8) = l := by
      intro l
      induction l with
      | nil => rfl
      | cons a l ih => simp only [List.map_cons, ih]; congr 1; simp
    simp only [strOfNums, bytesOf]
    congr 1
    have := hx xs
    simp [List.map_map] at this ⊢
    exact this
  · have hi' : i < xs.length := by omega
    have := h.cell i hi'
    rw [Nat.zero_add, this]
    congr 1
    simp [bytesOf, List.getD_eq_getElem?_getD, List.getElem?_eq_getElem hi']
end Go.Proofs.YtmhcdigneamgdaaGreatDoor.G

/- Plain Lean, no program: what the functions of packages text and addr compute, over lists of bytes. -/
namespace Go.Proofs.YtmhcdigneamgdaaGreatDoor.Sp

def plainB (b : UInt8) : Bool := decide (32 ≤ b.toNat) && decide (b.toNat ≤ 126)
def plainL (l : List UInt8) : Bool := l.all plainB
def lowB (b : UInt8) : UInt8 := if 65 ≤ b.toNat ∧ b.toNat ≤ 90 then b + 32 else b
def lowL (l : List UInt8) : List UInt8 := l.map lowB
/-- The letters of atoms, as the table of bits has them. -/
def atomB (b : UInt8) : Bool := decide (b.toNat < 128) && (([0, 2751442170, 3355443198, 2147483647].getD (b.toNat / 32) 0 / 2 ^ (b.toNat % 32)) % 2 == 1)
def atomL (l : List UInt8) : Bool := !l.isEmpty && l.all atomB
/-- The parts between bytes c. -/
def splitL (c : UInt8) : List UInt8 → List (List UInt8)
  | [] => [[]]
  | b :: r => if b = c then [] :: splitL c r else
      match splitL c r with
      | [] => [[b]]
      | p :: ps => (b :: p) :: ps
def dotAtomL (l : List UInt8) : Bool := (splitL 46 l).all atomL
def quoteL (l : List UInt8) : List UInt8 := 34 :: (l.flatMap fun b => if b = 34 ∨ b = 92 then [92, b] else [b]) ++ [34]

def digitB (b : UInt8) : Bool := decide (48 ≤ b.toNat) && decide (b.toNat ≤ 57)
def numL (l : List UInt8) : Nat := l.foldl (fun n b => 10 * n + (b.toNat - 48)) 0
def numOk (l : List UInt8) (d : Int) : Bool := !l.isEmpty && decide ((l.length : Int) ≤ d) && l.all digitB

def octetL (l : List UInt8) : Bool := numOk l 3 && decide (numL l < 256) && (Lib.itoa (numL l : Nat) == l)
def hosts : List UInt8 := [97, 98, 99, 100, 101, 102, 103, 104, 105, 106, 107, 108, 109, 110, 111, 112, 113, 114, 115, 116, 117, 118, 119, 120, 121, 122, 65, 66, 67, 68, 69, 70, 71, 72, 73, 74, 75, 76, 77, 78, 79, 80, 81, 82, 83, 84, 85, 86, 87, 88, 89, 90, 48, 49, 50, 51, 52, 53, 54, 55, 56, 57, 45]
def labelL (l : List UInt8) : Bool := !l.isEmpty && l.all (hosts.contains ·) && !(l.headD 0 == 45) && !(l.getLastD 0 == 45)
/-- What is wrong with a domain: 0, 3 (too long) or 5 (none). -/
def domL (l : List UInt8) : Int :=
  match l with
  | 91 :: m =>
    if m.getLast? = some 93 then
      (if m.dropLast.count 46 = 3 ∧ (splitL 46 m.dropLast).all octetL = true then 0 else 5)
    else 5
  | l => if (splitL 46 l).all labelL then (if l.length > 255 ∨ (splitL 46 l).all (fun p => decide (p.length ≤ 63)) = false then 3 else 0) else 5

theorem splitL_ne (c : UInt8) (l : List UInt8) : splitL c l ≠ [] := by
  cases l with
  | nil => simp [splitL]
  | cons b r =>
    simp only [splitL]
    split
    · simp
    · split <;> simp
end Go.Proofs.YtmhcdigneamgdaaGreatDoor.Sp

/- Walk of text.Number. -/
namespace Go.Proofs.YtmhcdigneamgdaaGreatDoor.G
open Go.RowKit Go.Proofs.YtmhcdigneamgdaaGreatDoorW.PrintWords Go.Proofs.YtmhcdigneamgdaaGreatDoorW.PrintMore
attribute [local go_sem] max2_int min2_int max_two min_two
set_option linter.unusedVariables false

def text_Number.f (a0 : ByteArray) (a1 : Int) : Option (Int × Int) := if a0.size ≤ 4294967280 ∧ 2 ≤ a1 ∧ a1 ≤ 15 then some (if Sp.numOk a0.data.toList a1 then ((Sp.numL a0.data.toList : Nat), 0) else (0, 5)) else none

def tens : ByteArray := ⟨#[48, 49, 50, 51, 52, 53, 54, 55, 56, 57]⟩
theorem tens_has (b : UInt8) : tens.data.toList.contains b = Sp.digitB b := by
  have h : ∀ b : Fin 256, tens.data.toList.contains (UInt8.ofNat b.val) = Sp.digitB (UInt8.ofNat b.val) := by decide +kernel
  have := h ⟨b.toNat, b.toNat_lt⟩
  simpa using this
theorem dropWhile_nil {α : Type} (p : α → Bool) : ∀ l : List α, l.dropWhile p = [] ↔ ∀ x ∈ l, p x = true
  | [] => by simp
  | a :: l => by
    rw [List.dropWhile_cons]
    split
    · rename_i h
      rw [dropWhile_nil p l]
      simp [h]
    · rename_i h
      simp [h]
theorem trimS_nil (l cs : List UInt8) : Lib.trimS l cs = [] ↔ ∀ x ∈ l, cs.contains x = true := by
  unfold Lib.trimS Lib.trimLeftS Lib.trimRightS
  rw [dropWhile_nil]
  constructor
  · intro h
    have h2 : ∀ x ∈ l.reverse.dropWhile (cs.contains ·), cs.contains x = true := fun x hx => h x (List.mem_reverse.2 hx)
    by_cases e : l.reverse.dropWhile (cs.contains ·) = []
    · intro x hx
      exact (dropWhile_nil _ _).1 e x (List.mem_reverse.2 hx)
    · have := List.head_dropWhile_not (p := fun x => cs.contains x) e
      have h3 := h2 _ (List.head_mem e)
      rw [this] at h3
      cases h3
  · intro h x hx
    exact h x (List.mem_reverse.1 ((List.dropWhile_sublist _).mem (List.mem_reverse.1 hx)))
theorem trim_tens (a0 : ByteArray) (hs : a0.size ≤ 4294967280) : strings_Trim.f a0 tens = some ⟨(Lib.trimS a0.data.toList tens.data.toList).toArray⟩ := by
  unfold strings_Trim.f
  rw [if_pos ⟨by omega, by decide, by decide +kernel⟩]
theorem trim_tens_yes (l : List UInt8) (h : l.all Sp.digitB = true) : Lib.trimS l tens.data.toList = [] :=
  (trimS_nil _ _).2 fun x hx => by rw [tens_has]; exact List.all_eq_true.1 h x hx
theorem trim_tens_no (l : List UInt8) (h : l.all Sp.digitB = false) : Lib.trimS l tens.data.toList ≠ [] := fun e => by
  have : l.all Sp.digitB = true := List.all_eq_true.2 fun x hx => by rw [← tens_has]; exact (trimS_nil _ _).1 e x hx
  rw [this] at h
  cases h
theorem numL_snoc (l : List UInt8) (k : Nat) (h : k < l.length) : Sp.numL (l.take (k + 1)) = 10 * Sp.numL (l.take k) + ((l[k]).toNat - 48) := by
  unfold Sp.numL
  rw [List.take_succ_eq_append_getElem h, List.foldl_append]
  rfl
theorem numL_lt (l : List UInt8) (h : l.all Sp.digitB = true) : ∀ k, k ≤ l.length → Sp.numL (l.take k) < 10 ^ k
  | 0, _ => by simp [Sp.numL]
  | k + 1, hk => by
    rw [numL_snoc l k (by omega)]
    have ih := numL_lt l h k (by omega)
    have hd := List.all_eq_true.1 h l[k] (List.getElem_mem _)
    unfold Sp.digitB at hd
    simp at hd
    rw [Nat.pow_succ]
    omega

set_option maxHeartbeats 8000000 in
set_option maxRecDepth 1000000 in
theorem number_no (a0 : ByteArray) (a1 : Int) (w : World) (hs : a0.size ≤ 4294967280) (h2 : 1 < a1) (h15 : a1 ≤ 15) (h : Sp.numOk a0.data.toList a1 = false) :
    Calls Tryz.prog 106 #[.string a0, .int .i64 a1] w fun e w' => e = .returned (.tuple #[.int .i64 0, .int .i64 5]) ∧ Below w.heap.size w w' := by
  by_cases h0 : a0.toList = []
  · have h0b : a0.toList.isEmpty = true := by simp [h0]
    go_enter Tryz.func106, Tryz.ntmps106
    go_wp2
    go_ret2
    exact ⟨rfl, Below.refl _ _⟩
  · by_cases hl : a1 < (a0.size : Int)
    · go_enter Tryz.func106, Tryz.ntmps106
      go_wp2
      go_ret2
      exact ⟨rfl, Below.refl _ _⟩
    · have hall : a0.data.toList.all Sp.digitB = false := by
        unfold Sp.numOk at h
        rw [Lib.toList_data] at h0
        have e1 : a0.data.toList.isEmpty = false := by simpa using h0
        rw [Lib.size_eq] at hl
        rw [e1, decide_eq_true (by omega)] at h
        simpa using h
      have HT := Aside0.mk (trim_tens a0 hs)
      have ht := trim_tens_no _ hall
      generalize hx : Lib.trimS a0.data.toList tens.data.toList = x at HT ht
      clear hx hall
      have hx2 : ¬ (⟨x.toArray⟩ : ByteArray).toList = [] := by rw [Lib.toList_data]; simpa using ht
      generalize (⟨x.toArray⟩ : ByteArray) = tr at HT hx2
      clear ht
      unfold tens at HT
      have h0b : a0.toList.isEmpty = false := by simpa using h0
      have hx3 : (!tr.toList.isEmpty) = true := by simpa using hx2
      have hl' : (a0.size : Int) ≤ a1 := by omega
      go_enter Tryz.func106, Tryz.ntmps106
      go_wp2_with (go_at_call 108; (with_reducible refine (strings_Trim.calls _ _ tr _ HT.out).mono ?_); rintro e w1 ⟨rfl, hb1⟩; have HB1 := Aside0.mk hb1; clear hb1)
      go_ret2
      exact ⟨rfl, HB1.out⟩

set_option maxHeartbeats 8000000 in
set_option maxRecDepth 1000000 in
theorem number_yes (a0 : ByteArray) (a1 : Int) (w : World) (hs : a0.size ≤ 4294967280) (h2 : 1 < a1) (h15 : a1 ≤ 15) (h : Sp.numOk a0.data.toList a1 = true) :
    Calls Tryz.prog 106 #[.string a0, .int .i64 a1] w fun e w' => e = .returned (.tuple #[.int .i64 (Sp.numL a0.data.toList : Nat), .int .i64 0]) ∧ Below w.heap.size w w' := by
  unfold Sp.numOk at h
  simp only [Bool.and_eq_true, Bool.not_eq_true', decide_eq_true_eq] at h
  obtain ⟨⟨h0, hl⟩, hall⟩ := h
  have h0a : ¬ a0.toList = [] := by rw [Lib.toList_data]; simpa using h0
  have h0b : a0.toList.isEmpty = false := by rw [Lib.toList_data]; exact h0
  have hsl := Lib.size_eq a0
  have hl' : (a0.size : Int) ≤ a1 := by rw [hsl]; exact hl
  have HT := Aside0.mk (trim_tens a0 hs)
  rw [trim_tens_yes _ hall] at HT
  have hx2 : (⟨([] : List UInt8).toArray⟩ : ByteArray).toList = [] := by rw [Lib.toList_data]
  have hx3 : (!(⟨([] : List UInt8).toArray⟩ : ByteArray).toList.isEmpty) = false := by rw [hx2]; rfl
  generalize (⟨([] : List UInt8).toArray⟩ : ByteArray) = tr at HT hx2 hx3
  unfold tens at HT
  have HA := Aside0.mk hall
  have kb := fun W => print_bytes (P := Tryz.prog) 9 55 5 Tryz.underlying9 Tryz.underlying55 Tryz.underlying5 a0 W
  have HN := Aside0.mk hsl.symm
  clear hall h0 hl hsl
  go_enter Tryz.func106, Tryz.ntmps106
  go_wp2_with (go_at_call 108; (with_reducible refine (strings_Trim.calls _ _ tr _ HT.out).mono ?_); rintro e w1 ⟨rfl, hb1⟩; have HB1 := Aside0.mk hb1; clear hb1)
  have hI := Aside0.mk (InPlace.start w1 5 a0)
  have hB := Aside0.mk (bytes_below HB1.out HB1.out.size 5 a0)
  clear kb
  generalize Lib.bytesWorld w1 5 a0 = W at hI hB ⊢
  generalize grownCap w1 a0.size 0 5 = C
  generalize hla : a0.data.toList = l at HN HA hI
  have HLA := Aside0.mk hla
  clear hla
  go_loop [6, 27] (fun t i => ∃ k : Nat, k ≤ a0.size ∧ i = .int .i64 k ∧ t = .int .i64 (Sp.numL (l.take k) : Nat)) (fun _ i => a0.size - (intOf i).toNat)
  case atStart => exact ⟨0, Nat.zero_le _, rfl, rfl⟩
  case round =>
    obtain ⟨k, hk, rfl, rfl⟩ := hrel
    have hpw := numL_lt l HA.out k (by rw [HN.out]; exact hk)
    have hk15 : k ≤ 15 := by omega
    have hpw2 : 10 ^ k ≤ 10 ^ 15 := Nat.pow_le_pow_right (by decide) hk15
    have hbn : Sp.numL (l.take k) < 1000000000000000 := Nat.lt_of_lt_of_le hpw hpw2
    clear hpw hpw2
    by_cases hlt : k < a0.size
    · have hkl : k < l.length := by rw [HN.out]; exact hlt
      have hc0 := hI.out.cell k hkl
      have e0 : l.getD k 0 = l[k] := by simp [List.getD_eq_getElem?_getD, List.getElem?_eq_getElem hkl]
      rw [e0] at hc0
      have hd := List.all_eq_true.1 HA.out l[k] (List.getElem_mem _)
      unfold Sp.digitB at hd
      simp only [Bool.and_eq_true, decide_eq_true_eq] at hd
      have hd1 := hd.1
      have hd2 := hd.2
      have HS := Aside0.mk (numL_snoc l k hkl)
      clear e0 hd
      generalize (l[k]).toNat = c at hc0 hd1 hd2 HS
      generalize Sp.numL (l.take k) = m at hbn HS
      go_wp2
      go_round
      case rel => exact ⟨k + 1, by omega, by go_num, by rw [HS.out]; congr 1; omega⟩
      case measure => simp [intOf]; omega
    · obtain rfl : k = a0.size := by omega
      go_wp2
      go_ret2
      exact ⟨by rw [HLA.out, ← HN.out, List.take_length]; rfl, hB.out⟩

theorem text_Number.calls (a0 : ByteArray) (a1 : Int) (r1 r2 : Int) (w : World) (h : text_Number.f a0 a1 = some (r1, r2)) :
    Calls Tryz.prog 106 #[.string a0, .int .i64 a1] w fun e w' => e = .returned (.tuple #[.int .i64 r1, .int .i64 r2]) ∧ Below w.heap.size w w' := by
  unfold text_Number.f at h
  split at h
  · rename_i hs
    have h := Option.some.inj h
    cases hp : Sp.numOk a0.data.toList a1
    · rw [hp] at h
      obtain ⟨rfl, rfl⟩ := Prod.mk.inj h
      exact number_no a0 a1 w hs.1 (by omega) hs.2.2 hp
    · rw [hp] at h
      obtain ⟨rfl, rfl⟩ := Prod.mk.inj h
      exact number_yes a0 a1 w hs.1 (by omega) hs.2.2 hp
  · cases h
end Go.Proofs.YtmhcdigneamgdaaGreatDoor.G

namespace Go.Proofs.YtmhcdigneamgdaaGreatDoor.Qa
open Go.RowKit Go.Proofs.YtmhcdigneamgdaaGreatDoor.G Go.Proofs.YtmhcdigneamgdaaGreatDoorW.PrintWords Go.Proofs.YtmhcdigneamgdaaGreatDoorW.PrintLast Go.Proofs.YtmhcdigneamgdaaGreatDoorW.PrintMore
attribute [local go_sem] max2_int min2_int max_two min_two max_three min_three max_four min_four   -- for this text's walks alone
set_option linter.unusedVariables false
set_option linter.unusedSimpArgs false



def errW : Option Int → Value
  | none => .nilIface
  | some c => .iface 0 (.int .i64 c)
theorem errW_none : errW none = .nilIface := rfl
theorem errW_some (c : Int) : errW (some c) = .iface 0 (.int .i64 c) := rfl

theorem info5 : (Tryz.prog.info? 5).map (fun i => (i.zero, i.size, i.bytes)) = some (some (.int .u8 0), 1, 1) := by kernel_rfl
theorem info9 : (Tryz.prog.info? 9).map (fun i => (i.zero, i.size, i.bytes)) = some (some (.string ⟨#[]⟩), 1, 16) := by kernel_rfl
-- the values' own types

end Go.Proofs.YtmhcdigneamgdaaGreatDoor.Qa

namespace Go.Proofs.YtmhcdigneamgdaaGreatDoor.Qa
open Go.RowKit Go.Proofs.YtmhcdigneamgdaaGreatDoor.G Go.Proofs.YtmhcdigneamgdaaGreatDoorW.PrintWords Go.Proofs.YtmhcdigneamgdaaGreatDoorW.PrintLast Go.Proofs.YtmhcdigneamgdaaGreatDoorW.PrintMore
attribute [local go_sem] max2_int min2_int max_two min_two max_three min_three max_four min_four   -- for this text's walks alone
set_option linter.unusedVariables false
set_option linter.unusedSimpArgs false

/-! ### text_Split: function 40 -/
def text_Split.l0 : Nat → ByteArray → Int → List ByteArray → Option (List ByteArray)
  | 0, _, _, _ => none
  | k + 1, x0, x1, x5 => (strings_IndexByte.f x0 x1).bind fun t101 => (if t101 < 0 then (if x5.length < 8796093022208 then (some (x5 ++ [x0])) else (none)) else (if 0 ≤ t101 then (if t101 ≤ (x0.size : Int) then (if x5.length < 8796093022208 then (if 0 ≤ (wrap64 (t101 + 1)) then (if (wrap64 (t101 + 1)) ≤ (x0.size : Int) then (text_Split.l0 k (x0.extract ((wrap64 (t101 + 1)) : Int).toNat x0.size) x1 (x5 ++ [x0.extract 0 (t101 : Int).toNat])) else (none)) else (none)) else (none)) else (none)) else (none)))
def text_Split.f (k : Nat) (a0 : ByteArray) (a1 : Int) : Option (List ByteArray) := text_Split.l0 k a0 a1 ([] : List ByteArray)
theorem text_Split.mono_l : ∀ k, (∀ y0 y1 y2, LeO (text_Split.l0 k y0 y1 y2) (text_Split.l0 (k + 1) y0 y1 y2))
  | 0 => fun _ _ _ r h => by simp [text_Split.l0] at h
  | k + 1 => by
    have ih0 := text_Split.mono_l k
    · intro y0 y1 y2
      unfold text_Split.l0
      repeat' first
      | (with_reducible exact ih0 _ _ _)
      | (with_reducible exact LeO.refl _)
      | (with_reducible exact LeO.none _)
      | (with_reducible refine LeO.ite ?_ ?_)
      | (with_reducible refine LeO.bind ?_ (fun _ => ?_))
      | exact ih0 _ _ _
      | exact LeO.none _
      | refine LeO.ite ?_ ?_
      | refine LeO.bind ?_ (fun _ => ?_)
theorem text_Split.mono : ∀ a0 a1 k, LeO (text_Split.f k a0 a1) (text_Split.f (k + 1) a0 a1) := by
  intro a0 a1 k
  have ih0 := text_Split.mono_l k
  unfold text_Split.f
  repeat' first
      | (with_reducible exact ih0 _ _ _)
      | (with_reducible exact LeO.refl _)
      | (with_reducible exact LeO.none _)
      | (with_reducible refine LeO.ite ?_ ?_)
      | (with_reducible refine LeO.bind ?_ (fun _ => ?_))
      | exact ih0 _ _ _
      | exact LeO.none _
      | refine LeO.ite ?_ ?_
      | refine LeO.bind ?_ (fun _ => ?_)
def text_Split.T5 : Bool × List (List Nat × List Nat) := (true, [([], []), ([], []), ([], []), ([1, 2], [1, 2]), ([3], [3]), ([0, 4], [0, 4]), ([], []), ([], []), ([7], [7]), ([6, 8], [6, 8]), ([5, 5, 0, 1, 2, 3, 4, 5], [0, 5]), ([9, 10, 0, 1, 2, 3, 4, 5, 6, 7, 8, 9, 10], [1, 6, 9])])
def text_Split.B5 : List Nat := [0, 0, 0, 6, 14, 31, 0, 0, 128, 448, 63, 2047]
theorem text_Split.tab5 : rtab .any (opsOf Tryz.f40 5) = text_Split.T5 := by kernel_rfl
theorem text_Split.bits5 : waitsOk text_Split.T5.2 text_Split.B5 = true := by kernel_rfl
set_option maxHeartbeats 8000000 in
set_option maxRecDepth 100000 in
theorem text_Split.calls (k : Nat) (a0 : ByteArray) (a1 : Int) (r : List ByteArray) (w : World) (h : text_Split.f k a0 a1 = some r) :
    Calls Tryz.prog 40 #[.string a0, .int .u8 a1] w fun e w' => ∃ v0_ : Value, e = .returned (v0_) ∧ Kd.R Kd.string 9 w' w.heap.size (fun _ => True) v0_ r ∧ Below w.heap.size w w' := by
  have HB := Aside0.mk (Below.refl w.heap.size w)
  have H : (text_Split.l0 k a0 a1 ([] : List ByteArray)) = some r := h
  clear h
  have H' := Aside0.mk H
  clear H
  go_enter Tryz.func40, Tryz.ntmps40
  go_wp2
  go_loopg [0, 5] k (fun kq v0 v5 w' => ∃ (x0_1 : ByteArray) (x5_1 : List ByteArray), v0 = .string x0_1 ∧ Aside0 (text_Split.l0 kq x0_1 a1 x5_1 = some r) ∧ Aside0 (kq ≤ k) ∧ Aside0 (Kd.R Kd.string 9 w' w.heap.size (fun _ => True) v5 x5_1) ∧ Aside0 (Below w.heap.size w w'))
  case atStart => exact ⟨(a0), (([] : List ByteArray)), (by first | rfl | (simp; done) | (simp [*]; done)), H', ⟨Nat.le_refl _⟩, ⟨by first | exact Kd.R_nil _ _ _ _ _ | exact Kd.N_nil _ _ _ _ _ | exact Kd.V_nil _ _ _ _ _ | exact Kd.Q_nil _ _ _ _ _ | exact Kd.S_nil _ _ _ _ _⟩, ⟨by repeat (first | (with_reducible first | exact HB.out | apply below_alloc | apply pw_below_drewN | apply below_drew1) | exact HB.out)⟩⟩
  case round =>
    clear H'
    try clear p2
    obtain ⟨x0_1, x5_1, rfl, HA, HK1, HO_5, HB⟩ := hrel
    cases gk with
    | zero => exact absurd HA.out (by simp [text_Split.l0])
    | succ k1 =>
      have H := HA.out
      clear HA
      simp only [text_Split.l0] at H
      replace H := Option.bind_eq_some_iff.mp H
      obtain ⟨t101, A30, H⟩ := H
      replace H : (if t101 < 0 then (if x5_1.length < 8796093022208 then (some (x5_1 ++ [x0_1])) else (none)) else (if 0 ≤ t101 then (if t101 ≤ (x0_1.size : Int) then (if x5_1.length < 8796093022208 then (if 0 ≤ (wrap64 (t101 + 1)) then (if (wrap64 (t101 + 1)) ≤ (x0_1.size : Int) then (text_Split.l0 k1 (x0_1.extract ((wrap64 (t101 + 1)) : Int).toNat x0_1.size) a1 (x5_1 ++ [x0_1.extract 0 (t101 : Int).toNat])) else (none)) else (none)) else (none)) else (none)) else (none))) = some r := H
      have A3 := Aside0.mk A30
      clear A30
      by_cases c4 : t101 < 0
      · rw [if_pos c4] at H
        have c4b0 : decide (t101 < 0) = true := decide_eq_true c4
        clear c4
        by_cases c5 : x5_1.length < 8796093022208
        · rw [if_pos c5] at H
          have LMc5 := Aside0.mk c5
          clear c5
          obtain ⟨y102, hy102⟩ : ∃ y_ : List ByteArray, y_ = (x5_1 ++ [x0_1]) := ⟨_, rfl⟩
          replace H : (some y102) = some r := by first | (rw [hy102]; with_reducible exact H) | (have H2_ := (Option.bind_some _ _).symm.trans H; rw [hy102]; with_reducible exact H2_) | (have H2_ := (Option.bind_some _ _).symm.trans H; with_reducible exact H2_) | with_reducible exact H | (rw [hy102]; exact H) | exact H
          have Ny102 := Aside0.mk hy102
          clear hy102
          obtain rfl := Option.some.inj H
          go_wp2_with (first | ((with_reducible refine gate_callee (f := 59) rfl ?_); refine goesL_ (some 9) rfl rfl Tryz.func59 (by kernel_rfl) rfl #[.string x0_1, .int .u8 a1] rfl (by (try simp only [List.map_toArray, List.map_cons, List.map_nil]); first | done | rfl | (simp only [List.length_drop, List.length_take]; rfl)) ?_; (with_reducible refine (strings_IndexByte.calls x0_1 a1 t101 _ A3.out).mono ?_); rintro e w' ⟨rfl, ⟨nd, rfl⟩⟩; refine ⟨_, rfl, ?_⟩) | ((with_reducible refine gate_builtin (b := .append) (xs := #[.tmp 12, .tmp 14]) rfl ?_); at_builtin; refine Kd.R_append Kd.string (w0 := w) w.heap.size rfl (.tmp 12) (.tmp 14) 22 9 (.string ⟨#[]⟩) 16 rfl Tryz.underlying22 info9 rfl (by decide) (by omega) u5 x5_1 x0_1 [.string x0_1] (fun _ => True) (fun _ => False) rfl rfl ?aP (fun _ hk => hk.elim) ?aF ?aO ?aB ?aS ?aL ?_; (case aP => exact rfl); (case aB => exact (by repeat (first | (with_reducible first | exact HB.out | apply below_alloc | apply pw_below_drewN | apply below_drew1) | exact HB.out))); (case aF => exact (fun _ _ => trivial)); (case aO => exact (by (with_reducible repeat (first | apply Kd.R_alloc | apply Kd.R_drewN | apply Kd.R_drew)); exact HO_5.out)); (case aS => exact (below_size (by repeat (first | (with_reducible first | exact HB.out | apply below_alloc | apply pw_below_drewN | apply below_drew1) | exact HB.out)))); (case aL => have := LMc5.out; omega); intro v103 w6 ho hb hg hat; rw [← Ny102.out] at ho; have n0_ := Aside0.mk (hb); have n1_ := Aside0.mk (ho); clear HB; clear HO_5; have HB := n0_; have HO104 := n1_; clear n0_ n1_; clear ho hb hg hat))
          go_ret
          exact ⟨_, by first | rfl | (simp [errW_none, errW_some] <;> rfl) | (simp [*, errW_none, errW_some] <;> rfl) | (simp [ne_nil_b]; done) | (simp [*, ne_nil_b]; done), by (with_reducible repeat (first | apply Kd.R_alloc | apply Kd.R_drewN | apply Kd.R_drew)); exact HO104.out, by repeat (first | (with_reducible first | exact HB.out | apply below_alloc | apply pw_below_drewN | apply below_drew1) | exact HB.out)⟩
        · rw [if_neg c5] at H
          exact absurd H (by simp)
      · rw [if_neg c4] at H
        have c4b0 : decide (t101 < 0) = false := decide_eq_false c4
        clear c4
        by_cases c7 : 0 ≤ t101
        · rw [if_pos c7] at H
          have c7b0 := eq_true c7
          have c7b1 : decide (0 ≤ t101) = true := decide_eq_true c7
          clear c7
          by_cases c8 : t101 ≤ (x0_1.size : Int)
          · rw [if_pos c8] at H
            have c8b0 := eq_true c8
            have c8b1 : decide (t101 ≤ (x0_1.size : Int)) = true := decide_eq_true c8
            clear c8
            by_cases c9 : x5_1.length < 8796093022208
            · rw [if_pos c9] at H
              have LMc9 := Aside0.mk c9
              clear c9
              obtain ⟨y105, hy105⟩ : ∃ y_ : List ByteArray, y_ = (x5_1 ++ [x0_1.extract 0 (t101 : Int).toNat]) := ⟨_, rfl⟩
              replace H : (if 0 ≤ (wrap64 (t101 + 1)) then (if (wrap64 (t101 + 1)) ≤ (x0_1.size : Int) then (text_Split.l0 k1 (x0_1.extract ((wrap64 (t101 + 1)) : Int).toNat x0_1.size) a1 y105) else (none)) else (none)) = some r := by first | (rw [hy105]; with_reducible exact H) | (have H2_ := (Option.bind_some _ _).symm.trans H; rw [hy105]; with_reducible exact H2_) | (have H2_ := (Option.bind_some _ _).symm.trans H; with_reducible exact H2_) | with_reducible exact H | (rw [hy105]; exact H) | exact H
              have Ny105 := Aside0.mk hy105
              clear hy105
              obtain ⟨ji10, hji10⟩ : ∃ j_ : Int, (wrap64 (t101 + 1)) = j_ := ⟨_, rfl⟩
              replace H : (if 0 ≤ (ji10) then (if (ji10) ≤ (x0_1.size : Int) then (text_Split.l0 k1 (x0_1.extract ((ji10) : Int).toNat x0_1.size) a1 y105) else (none)) else (none)) = some r := by first | (rw [hji10] at H; exact H) | (simp only [hji10] at H ⊢; exact H)
              (try rw [hji10] at A3)
              have hji10w : (IntKind.i64.wrap (t101 + 1)) = ji10 := (i64_w _).trans hji10
              by_cases c11 : 0 ≤ (ji10)
              · rw [if_pos c11] at H
                have c11b0 := eq_true c11
                have c11b1 : decide (0 ≤ (ji10)) = true := decide_eq_true c11
                clear c11
                by_cases c12 : (ji10) ≤ (x0_1.size : Int)
                · rw [if_pos c12] at H
                  have c12b0 := eq_true c12
                  have c12b1 : decide ((ji10) ≤ (x0_1.size : Int)) = true := decide_eq_true c12
                  clear c12
                  have H' := Aside0.mk H
                  clear H
                  try go_wp2_with (first | ((with_reducible refine gate_callee (f := 59) rfl ?_); refine goesL_ (some 9) rfl rfl Tryz.func59 (by kernel_rfl) rfl #[.string x0_1, .int .u8 a1] rfl (by (try simp only [List.map_toArray, List.map_cons, List.map_nil]); first | done | rfl | (simp only [List.length_drop, List.length_take]; rfl)) ?_; (with_reducible refine (strings_IndexByte.calls x0_1 a1 t101 _ A3.out).mono ?_); rintro e w' ⟨rfl, ⟨nd, rfl⟩⟩; refine ⟨_, rfl, ?_⟩))
                  (try (rw [drewN_self wr]; generalize hq_ : World.drewN wr _ = wr; have n0_ : Aside0 (Kd.R Kd.string 9 wr w.heap.size (fun _ => True) u5 x5_1) := ⟨by rw [← hq_]; exact (by (with_reducible repeat (first | apply Kd.R_alloc | apply Kd.R_drewN | apply Kd.R_drew)); exact HO_5.out)⟩; have n1_ : Aside0 (Below w.heap.size w wr) := ⟨by rw [← hq_]; exact (by repeat (first | (with_reducible first | exact HB.out | apply below_alloc | apply pw_below_drewN | apply below_drew1) | exact HB.out))⟩; clear HO_5 HB hq_; have HO_5 := n0_; have HB := n1_; clear n0_ n1_))
                  have n0_ := Aside0.mk (Kd.R_drew HO_5.out)
                  have n1_ := Aside0.mk (below_drew1 HB.out)
                  clear HO_5
                  clear HB
                  have HO_5 := n0_
                  have HB := n1_
                  clear n0_ n1_
                  refine start_ (n := 12) (S := fun w' => True) (ds := []) #[false, false, false, false, false, false, false, false, false, false, false, false] (by kernel_rfl) rfl rfl trivial (fun hHeld => ?_); refine with_tabW text_Split.tab5 text_Split.bits5 (fun HT_ HW_ => ?_)
                  generalize wr.drew = w13 at HO_5 HB hHeld ⊢
                  refine pure_ (i := 0) (N := some 16) (v := ?_) (a' := ?_) #[true, false, false, false, false, false, false, false, false, false, false, false] rfl rfl (any_of HT_.out (by kernel_rfl)) (fun _ _ _ h => h) (Or.inl ⟨by rfl, ?_⟩) ?_ ?_
                  rotate_left
                  · intro w'
                    go_simp
                    with_reducible rfl
                  rotate_left
                  · simp only [Act.put, List.setIfInBounds_toArray, List.set_cons_zero, List.set_cons_succ, i64_w, i32_w]
                    rfl
                  refine pure_ (i := 1) (N := some 17) (v := ?_) (a' := ?_) #[true, true, false, false, false, false, false, false, false, false, false, false] rfl rfl (any_of HT_.out (by kernel_rfl)) (fun _ _ _ h => h) (Or.inl ⟨by rfl, ?_⟩) ?_ ?_
                  rotate_left
                  · intro w'
                    go_simp
                    with_reducible rfl
                  rotate_left
                  · simp only [Act.put, List.setIfInBounds_toArray, List.set_cons_zero, List.set_cons_succ, i64_w, i32_w]
                    rfl
                  refine pure_ (i := 2) (N := some 18) (v := ?_) (a' := ?_) #[true, true, true, false, false, false, false, false, false, false, false, false] rfl rfl (any_of HT_.out (by kernel_rfl)) (fun _ _ _ h => h) (Or.inl ⟨by rfl, ?_⟩) ?_ ?_
                  rotate_left
                  · intro w'
                    go_simp
                    with_reducible rfl
                  rotate_left
                  · simp only [Act.put, List.setIfInBounds_toArray, List.set_cons_zero, List.set_cons_succ, i64_w, i32_w]
                    rfl
                  refine pure_ (i := 3) (N := some 19) (v := ?_) (a' := ?_) #[true, true, true, true, false, false, false, false, false, false, false, false] rfl rfl (any_of HT_.out (by kernel_rfl)) (fun _ _ _ h => h) (Or.inl ⟨by rfl, ?_⟩) ?_ ?_
                  rotate_left
                  · intro w'
                    go_simp
                    with_reducible rfl
                  rotate_left
                  · simp only [Act.put, List.setIfInBounds_toArray, List.set_cons_zero, List.set_cons_succ, i64_w, i32_w]
                    rfl
                  refine pure_ (i := 6) (N := some 22) (v := ?_) (a' := ?_) #[true, true, true, true, false, false, true, false, false, false, false, false] rfl rfl (any_of HT_.out (by kernel_rfl)) (fun _ _ _ h => h) (Or.inl ⟨by rfl, ?_⟩) ?_ ?_
                  rotate_left
                  · intro w'
                    go_simp
                    with_reducible rfl
                  rotate_left
                  · simp only [Act.put, List.setIfInBounds_toArray, List.set_cons_zero, List.set_cons_succ, i64_w, i32_w]
                    rfl
                  refine pure_ (i := 7) (N := some 23) (v := ?_) (a' := ?_) #[true, true, true, true, false, false, true, true, false, false, false, false] rfl rfl (any_of HT_.out (by kernel_rfl)) (fun _ _ _ h => h) (Or.inl ⟨by rfl, ?_⟩) ?_ ?_
                  rotate_left
                  · intro w'
                    go_simp
                    with_reducible rfl
                  rotate_left
                  · simp only [Act.put, List.setIfInBounds_toArray, List.set_cons_zero, List.set_cons_succ, i64_w, i32_w]
                    rfl
                  refine pure_ (i := 8) (N := some 24) (v := ?_) (a' := ?_) #[true, true, true, true, false, false, true, true, true, false, false, false] rfl rfl (any_of HT_.out (by kernel_rfl)) (fun _ _ _ h => h) (Or.inl ⟨by rfl, ?_⟩) ?_ ?_
                  rotate_left
                  · intro w'
                    go_simp
                    with_reducible rfl
                  rotate_left
                  · simp only [Act.put, List.setIfInBounds_toArray, List.set_cons_zero, List.set_cons_succ, i64_w, i32_w]
                    rfl
                  refine pure_ (i := 9) (N := some 25) (v := ?_) (a' := ?_) #[true, true, true, true, false, false, true, true, true, true, false, false] rfl rfl (any_of HT_.out (by kernel_rfl)) (fun _ _ _ h => h) (Or.inl ⟨by rfl, ?_⟩) ?_ ?_
                  rotate_left
                  · intro w'
                    go_simp
                    with_reducible rfl
                  rotate_left
                  · simp only [Act.put, List.setIfInBounds_toArray, List.set_cons_zero, List.set_cons_succ, i64_w, i32_w]
                    rfl
                  refine one_ (i := 4) (N := some 20) #[true, true, true, true, true, false, true, true, true, true, false, false] rfl rfl (one_of HT_.out (by kernel_rfl)) (by decide) (fun K hK => ?_)
                  refine value_ (w1 := ?_) (v := ?_) (by rfl) rfl ?_ ?_
                  rotate_left 2
                  · go_simp
                    constructor
                    · rfl
                    · rfl
                  refine hK.out _ _ trivial (fun hHeld => ?_)
                  clear hK K
                  refine norm_ (a' := ?_) ?_ ?_
                  rotate_left
                  · show Act.put _ (some 20) _ = _
                    simp only [Act.put, List.setIfInBounds_toArray, List.set_cons_zero, List.set_cons_succ, i64_w, i32_w]
                    rfl
                  refine one_ (i := 5) (N := some 21) #[true, true, true, true, true, true, true, true, true, true, false, false] rfl rfl (one_of HT_.out (by kernel_rfl)) (by decide) (fun K hK => ?_)
                  refine Kd.R_append_step Kd.string (w0 := w) w.heap.size (by rfl) (.tmp 16) (.tmp 20) 22 9 (.string ⟨#[]⟩) 16 rfl Tryz.underlying22 info9 rfl (by decide) (by omega) u5 x5_1 (x0_1.extract 0 (t101 : Int).toNat) [.string (x0_1.extract 0 (t101 : Int).toNat)] (fun _ => True) (fun _ => False) rfl rfl ?aP (fun _ hk => hk.elim) ?aF ?aO ?aB ?aS ?aL ?_
                  (case aP => exact rfl)
                  (case aB => exact (by repeat (first | (with_reducible first | exact HB.out | apply below_alloc | apply pw_below_drewN | apply below_drew1) | exact HB.out)))
                  (case aF => exact (fun _ _ => trivial))
                  (case aO => exact (by (with_reducible repeat (first | apply Kd.R_alloc | apply Kd.R_drewN | apply Kd.R_drew)); exact HO_5.out))
                  (case aS => exact (below_size (by repeat (first | (with_reducible first | exact HB.out | apply below_alloc | apply pw_below_drewN | apply below_drew1) | exact HB.out))))
                  (case aL => have := LMc9.out; omega)
                  intro v106 w14 ho hb hg hat
                  rw [← Ny105.out] at ho
                  have n0_ := Aside0.mk (hb)
                  have n1_ := Aside0.mk (ho)
                  clear HB
                  clear HO_5
                  have HB := n0_
                  have HO107 := n1_
                  clear n0_ n1_
                  clear ho hb hg hat
                  refine hK.out _ _ trivial (fun hHeld => ?_)
                  clear hK K
                  refine norm_ (a' := ?_) ?_ ?_
                  rotate_left
                  · show Act.put _ (some 21) _ = _
                    simp only [Act.put, List.setIfInBounds_toArray, List.set_cons_zero, List.set_cons_succ, i64_w, i32_w]
                    rfl
                  refine pure_ (i := 10) (N := some 5) (v := ?_) (a' := ?_) #[true, true, true, true, true, true, true, true, true, true, true, false] rfl rfl (any_of HT_.out (by kernel_rfl)) (fun _ _ _ h => h) (Or.inl ⟨by rfl, ?_⟩) ?_ ?_
                  rotate_left
                  · intro w'
                    go_simp
                    with_reducible rfl
                  rotate_left
                  · simp only [Act.put, List.setIfInBounds_toArray, List.set_cons_zero, List.set_cons_succ, i64_w, i32_w]
                    rfl
                  refine pure_ (i := 11) (N := some 0) (v := ?_) (a' := ?_) #[true, true, true, true, true, true, true, true, true, true, true, true] rfl rfl (any_of HT_.out (by kernel_rfl)) (fun _ _ _ h => h) (Or.inl ⟨by rfl, ?_⟩) ?_ ?_
                  rotate_left
                  · intro w'
                    go_simp
                    with_reducible rfl
                  rotate_left
                  · simp only [Act.put, List.setIfInBounds_toArray, List.set_cons_zero, List.set_cons_succ, i64_w, i32_w]
                    rfl
                  refine done_ (done_of HT_.out (by kernel_rfl)) ?_
                  try go_wp2
                  go_roundg k1
                  case measure => have := HK1.out; omega
                  case rel => exact ⟨(x0_1.extract ((ji10) : Int).toNat x0_1.size), (y105), (by first | rfl | (simp; done) | (simp only [← hji10] <;> (first | rfl | simp)) | (simp [*]; done)), H', ⟨by have := HK1.out; omega⟩, ⟨by (with_reducible repeat (first | apply Kd.R_alloc | apply Kd.R_drewN | apply Kd.R_drew)); exact HO107.out⟩, ⟨by repeat (first | (with_reducible first | exact HB.out | apply below_alloc | apply pw_below_drewN | apply below_drew1) | exact HB.out)⟩⟩
                · rw [if_neg c12] at H
                  exact absurd H (by simp)
              · rw [if_neg c11] at H
                exact absurd H (by simp)
            · rw [if_neg c9] at H
              exact absurd H (by simp)
          · rw [if_neg c8] at H
            exact absurd H (by simp)
        · rw [if_neg c7] at H
          exact absurd H (by simp)

/-! ### addr_octet: function 86 -/
def addr_octet.f (a0 : ByteArray) : Option (Bool) := (text_Number.f a0 3).bind fun bt108 => (if bt108.2 = 0 then (if bt108.1 < 256 then ((strconv_Itoa.f bt108.1).bind fun t110 => (some (t110.toList == a0.toList))) else (some false)) else (some false))
set_option maxHeartbeats 8000000 in
set_option maxRecDepth 100000 in
theorem addr_octet.calls (a0 : ByteArray) (r : Bool) (w : World) (h : addr_octet.f a0 = some r) (hG : Glob w) :
    Calls Tryz.prog 86 #[.string a0] w fun e w' => e = .returned (.bool r) ∧ Below w.heap.size w w' := by
  have HG := Aside0.mk hG
  clear hG
  have HB := Aside0.mk (Below.refl w.heap.size w)
  have H : ((text_Number.f a0 3).bind fun bt108 => (if bt108.2 = 0 then (if bt108.1 < 256 then ((strconv_Itoa.f bt108.1).bind fun t110 => (some (t110.toList == a0.toList))) else (some false)) else (some false))) = some r := h
  clear h
  replace H := Option.bind_eq_some_iff.mp H
  obtain ⟨⟨t108, t109⟩, A20, H⟩ := H
  replace H : (if t109 = 0 then (if t108 < 256 then ((strconv_Itoa.f t108).bind fun t110 => (some (t110.toList == a0.toList))) else (some false)) else (some false)) = some r := H
  have A2 := Aside0.mk A20
  clear A20
  by_cases c3 : t109 = 0
  · rw [if_pos c3] at H
    have c3b0 : (t109 == 0) = true := beq_iff_eq.mpr c3
    have c3b1 : (t109 != 0) = false := bne_eq_false_iff_eq.mpr c3
    clear c3
    by_cases c4 : t108 < 256
    · rw [if_pos c4] at H
      have c4b0 : decide (t108 < 256) = true := decide_eq_true c4
      clear c4
      replace H := Option.bind_eq_some_iff.mp H
      obtain ⟨t110, A50, H⟩ := H
      replace H : (some (t110.toList == a0.toList)) = some r := H
      have A5 := Aside0.mk A50
      clear A50
      obtain rfl := Option.some.inj H
      go_enter Tryz.func86, Tryz.ntmps86
      go_wp2_with (first | ((with_reducible refine gate_callee (f := 106) rfl ?_); refine goesL_ (some 7) rfl rfl Tryz.func106 (by kernel_rfl) rfl #[.string a0, .int .i64 3] rfl (by (try simp only [List.map_toArray, List.map_cons, List.map_nil]); first | done | rfl | (simp only [List.length_drop, List.length_take]; rfl)) ?_; (with_reducible refine (text_Number.calls a0 3 t108 t109 _ A2.out).mono ?_); rintro e w6 ⟨rfl, hb⟩; refine ⟨_, rfl, ?_⟩; have n0_ := Aside0.mk (below_step (by repeat (first | (with_reducible first | exact HB.out | apply below_alloc | apply pw_below_drewN | apply below_drew1) | exact HB.out)) hb); clear HB; have HB := n0_; clear n0_; (try clear hb); (try clear hb2); (try clear hk); (try clear hi)) | (go_at_call 107; (with_reducible refine (strconv_Itoa.calls t108 t110 _ A5.out ?hGG).mono ?_); (case hGG => first | exact HG.out | exact Glob.below HG.out (by repeat (first | (with_reducible first | exact HB.out | apply below_alloc | apply pw_below_drewN | apply below_drew1 | refine below_set ?_ (Aside0.out (by assumption))) | exact HB.out)) | (repeat (first | exact HG.out | refine Glob.drewN ?_ _ | refine Glob.drew ?_))); rintro e w7 ⟨rfl, hb⟩; have n0_ := Aside0.mk (below_step (by repeat (first | (with_reducible first | exact HB.out | apply below_alloc | apply pw_below_drewN | apply below_drew1) | exact HB.out)) hb); clear HB; have HB := n0_; clear n0_; (try clear hb); (try clear hb2); (try clear hk); (try clear hi)))
      go_ret
      exact ⟨by first | rfl | (simp [errW_none, errW_some] <;> rfl) | (simp [*, errW_none, errW_some] <;> rfl) | (simp [ne_nil_b]; done) | (simp [*, ne_nil_b]; done), by repeat (first | (with_reducible first | exact HB.out | apply below_alloc | apply pw_below_drewN | apply below_drew1) | exact HB.out)⟩
    · rw [if_neg c4] at H
      have c4b0 : decide (t108 < 256) = false := decide_eq_false c4
      clear c4
      obtain rfl := Option.some.inj H
      go_enter Tryz.func86, Tryz.ntmps86
      go_wp2_with (first | ((with_reducible refine gate_callee (f := 106) rfl ?_); refine goesL_ (some 7) rfl rfl Tryz.func106 (by kernel_rfl) rfl #[.string a0, .int .i64 3] rfl (by (try simp only [List.map_toArray, List.map_cons, List.map_nil]); first | done | rfl | (simp only [List.length_drop, List.length_take]; rfl)) ?_; (with_reducible refine (text_Number.calls a0 3 t108 t109 _ A2.out).mono ?_); rintro e w8 ⟨rfl, hb⟩; refine ⟨_, rfl, ?_⟩; have n0_ := Aside0.mk (below_step (by repeat (first | (with_reducible first | exact HB.out | apply below_alloc | apply pw_below_drewN | apply below_drew1) | exact HB.out)) hb); clear HB; have HB := n0_; clear n0_; (try clear hb); (try clear hb2); (try clear hk); (try clear hi)))
      go_ret
      exact ⟨by first | rfl | (simp [errW_none, errW_some] <;> rfl) | (simp [*, errW_none, errW_some] <;> rfl) | (simp [ne_nil_b]; done) | (simp [*, ne_nil_b]; done), by repeat (first | (with_reducible first | exact HB.out | apply below_alloc | apply pw_below_drewN | apply below_drew1) | exact HB.out)⟩
  · rw [if_neg c3] at H
    have c3b0 : (t109 == 0) = false := beq_eq_false_iff_ne.mpr c3
    have c3b1 : (t109 != 0) = true := bne_iff_ne.mpr c3
    obtain rfl := Option.some.inj H
    go_enter Tryz.func86, Tryz.ntmps86
    go_wp2_with (first | ((with_reducible refine gate_callee (f := 106) rfl ?_); refine goesL_ (some 7) rfl rfl Tryz.func106 (by kernel_rfl) rfl #[.string a0, .int .i64 3] rfl (by (try simp only [List.map_toArray, List.map_cons, List.map_nil]); first | done | rfl | (simp only [List.length_drop, List.length_take]; rfl)) ?_; (with_reducible refine (text_Number.calls a0 3 t108 t109 _ A2.out).mono ?_); rintro e w9 ⟨rfl, hb⟩; refine ⟨_, rfl, ?_⟩; have n0_ := Aside0.mk (below_step (by repeat (first | (with_reducible first | exact HB.out | apply below_alloc | apply pw_below_drewN | apply below_drew1) | exact HB.out)) hb); clear HB; have HB := n0_; clear n0_; (try clear hb); (try clear hb2); (try clear hk); (try clear hi)))
    go_ret
    exact ⟨by first | rfl | (simp [errW_none, errW_some] <;> rfl) | (simp [*, errW_none, errW_some] <;> rfl) | (simp [ne_nil_b]; done) | (simp [*, ne_nil_b]; done), by repeat (first | (with_reducible first | exact HB.out | apply below_alloc | apply pw_below_drewN | apply below_drew1) | exact HB.out)⟩

/-! ### addr_label: function 87 -/
def addr_label.f (a0 : ByteArray) : Option (Bool) := if a0.toList = ([] : List UInt8) then (some false) else ((strings_Trim.f a0 (⟨#[97, 98, 99, 100, 101, 102, 103, 104, 105, 106, 107, 108, 109, 110, 111, 112, 113, 114, 115, 116, 117, 118, 119, 120, 121, 122, 65, 66, 67, 68, 69, 70, 71, 72, 73, 74, 75, 76, 77, 78, 79, 80, 81, 82, 83, 84, 85, 86, 87, 88, 89, 90, 48, 49, 50, 51, 52, 53, 54, 55, 56, 57, 45]⟩ : ByteArray)).bind fun t111 => (if t111.toList = ([] : List UInt8) then (if 0 < (a0.size : Int) then (if (bt a0 0) = 45 then (some false) else (if 0 ≤ (wrap64 ((a0.size : Int) - 1)) then (if (wrap64 ((a0.size : Int) - 1)) < (a0.size : Int) then (some ((bt a0 (wrap64 ((a0.size : Int) - 1))) != 45)) else (none)) else (none))) else (none)) else (some false)))
set_option maxHeartbeats 8000000 in
set_option maxRecDepth 100000 in
theorem addr_label.calls (a0 : ByteArray) (r : Bool) (w : World) (h : addr_label.f a0 = some r) :
    Calls Tryz.prog 87 #[.string a0] w fun e w' => e = .returned (.bool r) ∧ Below w.heap.size w w' := by
  have HB := Aside0.mk (Below.refl w.heap.size w)
  have H : (if a0.toList = ([] : List UInt8) then (some false) else ((strings_Trim.f a0 (⟨#[97, 98, 99, 100, 101, 102, 103, 104, 105, 106, 107, 108, 109, 110, 111, 112, 113, 114, 115, 116, 117, 118, 119, 120, 121, 122, 65, 66, 67, 68, 69, 70, 71, 72, 73, 74, 75, 76, 77, 78, 79, 80, 81, 82, 83, 84, 85, 86, 87, 88, 89, 90, 48, 49, 50, 51, 52, 53, 54, 55, 56, 57, 45]⟩ : ByteArray)).bind fun t111 => (if t111.toList = ([] : List UInt8) then (if 0 < (a0.size : Int) then (if (bt a0 0) = 45 then (some false) else (if 0 ≤ (wrap64 ((a0.size : Int) - 1)) then (if (wrap64 ((a0.size : Int) - 1)) < (a0.size : Int) then (some ((bt a0 (wrap64 ((a0.size : Int) - 1))) != 45)) else (none)) else (none))) else (none)) else (some false)))) = some r := h
  clear h
  by_cases c2 : a0.toList = ([] : List UInt8)
  · rw [if_pos c2] at H
    have c2b0 : (a0.toList == ([] : List UInt8)) = true := beq_iff_eq.mpr c2
    have c2b1 : (a0.toList != ([] : List UInt8)) = false := bne_eq_false_iff_eq.mpr c2
    clear c2
    obtain rfl := Option.some.inj H
    go_enter Tryz.func87, Tryz.ntmps87
    go_wp2
    go_ret
    exact ⟨by first | rfl | (simp [errW_none, errW_some] <;> rfl) | (simp [*, errW_none, errW_some] <;> rfl) | (simp [ne_nil_b]; done) | (simp [*, ne_nil_b]; done), by repeat (first | (with_reducible first | exact HB.out | apply below_alloc | apply pw_below_drewN | apply below_drew1) | exact HB.out)⟩
  · rw [if_neg c2] at H
    have c2b0 : (a0.toList == ([] : List UInt8)) = false := beq_eq_false_iff_ne.mpr c2
    have c2b1 : (a0.toList != ([] : List UInt8)) = true := bne_iff_ne.mpr c2
    replace H := Option.bind_eq_some_iff.mp H
    obtain ⟨t111, A30, H⟩ := H
    replace H : (if t111.toList = ([] : List UInt8) then (if 0 < (a0.size : Int) then (if (bt a0 0) = 45 then (some false) else (if 0 ≤ (wrap64 ((a0.size : Int) - 1)) then (if (wrap64 ((a0.size : Int) - 1)) < (a0.size : Int) then (some ((bt a0 (wrap64 ((a0.size : Int) - 1))) != 45)) else (none)) else (none))) else (none)) else (some false)) = some r := H
    have A3 := Aside0.mk A30
    clear A30
    by_cases c4 : t111.toList = ([] : List UInt8)
    · rw [if_pos c4] at H
      have c4b0 : (t111.toList == ([] : List UInt8)) = true := beq_iff_eq.mpr c4
      have c4b1 : (t111.toList != ([] : List UInt8)) = false := bne_eq_false_iff_eq.mpr c4
      clear c4
      by_cases c5 : 0 < (a0.size : Int)
      · rw [if_pos c5] at H
        have c5b0 : decide (0 < (a0.size : Int)) = true := decide_eq_true c5
        have c5b1 : decide (0 < a0.size) = true := decide_eq_true (by omega)
        clear c5
        by_cases c7 : (bt a0 0) = 45
        · rw [if_pos c7] at H
          have c7b0 : ((bt a0 0) == 45) = true := beq_iff_eq.mpr c7
          have c7b1 : ((bt a0 0) != 45) = false := bne_eq_false_iff_eq.mpr c7
          clear c7
          obtain rfl := Option.some.inj H
          go_enter Tryz.func87, Tryz.ntmps87
          go_wp2_with (first | (go_at_call 108; (with_reducible refine (strings_Trim.calls a0 (⟨#[97, 98, 99, 100, 101, 102, 103, 104, 105, 106, 107, 108, 109, 110, 111, 112, 113, 114, 115, 116, 117, 118, 119, 120, 121, 122, 65, 66, 67, 68, 69, 70, 71, 72, 73, 74, 75, 76, 77, 78, 79, 80, 81, 82, 83, 84, 85, 86, 87, 88, 89, 90, 48, 49, 50, 51, 52, 53, 54, 55, 56, 57, 45]⟩ : ByteArray) t111 _ A3.out).mono ?_); rintro e w8 ⟨rfl, hb⟩; have n0_ := Aside0.mk (below_step (by repeat (first | (with_reducible first | exact HB.out | apply below_alloc | apply pw_below_drewN | apply below_drew1) | exact HB.out)) hb); clear HB; have HB := n0_; clear n0_; (try clear hb); (try clear hb2); (try clear hk); (try clear hi); have p6 : 0 ≤ (0 : Int) := (by omega); have q6 : 0 < a0.size := (by have : (0 : Int) < (a0.size : Int) := of_decide_eq_true (by first | (with_reducible assumption) | assumption); omega); have hx6 : ∀ h : 0 < a0.size, ((a0[0]'h).toNat : Int) = bt a0 0 := bt_at a0 0; clear p6; have qi6 : (0 < (a0.size : Int)) = True := eq_true (of_decide_eq_true (by first | (with_reducible assumption) | assumption)); replace q6 := eq_true q6))
          go_ret
          exact ⟨by first | rfl | (simp [errW_none, errW_some] <;> rfl) | (simp [*, errW_none, errW_some] <;> rfl) | (simp [ne_nil_b]; done) | (simp [*, ne_nil_b]; done), by repeat (first | (with_reducible first | exact HB.out | apply below_alloc | apply pw_below_drewN | apply below_drew1) | exact HB.out)⟩
        · rw [if_neg c7] at H
          have c7b0 : ((bt a0 0) == 45) = false := beq_eq_false_iff_ne.mpr c7
          have c7b1 : ((bt a0 0) != 45) = true := bne_iff_ne.mpr c7
          obtain ⟨ji9, hji9⟩ : ∃ j_ : Int, (wrap64 ((a0.size : Int) - 1)) = j_ := ⟨_, rfl⟩
          replace H : (if 0 ≤ (ji9) then (if (ji9) < (a0.size : Int) then (some ((bt a0 (ji9)) != 45)) else (none)) else (none)) = some r := by first | (rw [hji9] at H; exact H) | (simp only [hji9] at H ⊢; exact H)
          (try rw [hji9] at A3)
          have hji9w : (IntKind.i64.wrap ((a0.size : Int) - 1)) = ji9 := (i64_w _).trans hji9
          by_cases c10 : 0 ≤ (ji9)
          · rw [if_pos c10] at H
            have c10b0 : decide (0 ≤ (ji9)) = true := decide_eq_true c10
            clear c10
            by_cases c11 : (ji9) < (a0.size : Int)
            · rw [if_pos c11] at H
              have c11b0 : decide ((ji9) < (a0.size : Int)) = true := decide_eq_true c11
              clear c11
              obtain rfl := Option.some.inj H
              go_enter Tryz.func87, Tryz.ntmps87
              go_wp2_with (first | (go_at_call 108; (with_reducible refine (strings_Trim.calls a0 (⟨#[97, 98, 99, 100, 101, 102, 103, 104, 105, 106, 107, 108, 109, 110, 111, 112, 113, 114, 115, 116, 117, 118, 119, 120, 121, 122, 65, 66, 67, 68, 69, 70, 71, 72, 73, 74, 75, 76, 77, 78, 79, 80, 81, 82, 83, 84, 85, 86, 87, 88, 89, 90, 48, 49, 50, 51, 52, 53, 54, 55, 56, 57, 45]⟩ : ByteArray) t111 _ A3.out).mono ?_); rintro e w13 ⟨rfl, hb⟩; have n0_ := Aside0.mk (below_step (by repeat (first | (with_reducible first | exact HB.out | apply below_alloc | apply pw_below_drewN | apply below_drew1) | exact HB.out)) hb); clear HB; have HB := n0_; clear n0_; (try clear hb); (try clear hb2); (try clear hk); (try clear hi); have p6 : 0 ≤ (0 : Int) := (by omega); have q6 : 0 < a0.size := (by have : (0 : Int) < (a0.size : Int) := of_decide_eq_true (by first | (with_reducible assumption) | assumption); omega); have hx6 : ∀ h : 0 < a0.size, ((a0[0]'h).toNat : Int) = bt a0 0 := bt_at a0 0; clear p6; have qi6 : (0 < (a0.size : Int)) = True := eq_true (of_decide_eq_true (by first | (with_reducible assumption) | assumption)); replace q6 := eq_true q6; have p12 : 0 ≤ ((ji9) : Int) := of_decide_eq_true (by first | (with_reducible assumption) | assumption); have q12 : (ji9) < (a0.size : Int) := of_decide_eq_true (by first | (with_reducible assumption) | assumption); have hx12 := bt_at a0 (ji9); replace p12 := eq_true p12; replace q12 := eq_true q12))
              go_ret
              exact ⟨by first | rfl | (simp [errW_none, errW_some] <;> rfl) | (simp only [← hji9]; first | rfl | (simp [errW_none, errW_some] <;> rfl)) | (simp [*, errW_none, errW_some] <;> rfl), by repeat (first | (with_reducible first | exact HB.out | apply below_alloc | apply pw_below_drewN | apply below_drew1) | exact HB.out)⟩
            · rw [if_neg c11] at H
              exact absurd H (by simp)
          · rw [if_neg c10] at H
            exact absurd H (by simp)
      · rw [if_neg c5] at H
        exact absurd H (by simp)
    · rw [if_neg c4] at H
      have c4b0 : (t111.toList == ([] : List UInt8)) = false := beq_eq_false_iff_ne.mpr c4
      have c4b1 : (t111.toList != ([] : List UInt8)) = true := bne_iff_ne.mpr c4
      obtain rfl := Option.some.inj H
      go_enter Tryz.func87, Tryz.ntmps87
      go_wp2_with (first | (go_at_call 108; (with_reducible refine (strings_Trim.calls a0 (⟨#[97, 98, 99, 100, 101, 102, 103, 104, 105, 106, 107, 108, 109, 110, 111, 112, 113, 114, 115, 116, 117, 118, 119, 120, 121, 122, 65, 66, 67, 68, 69, 70, 71, 72, 73, 74, 75, 76, 77, 78, 79, 80, 81, 82, 83, 84, 85, 86, 87, 88, 89, 90, 48, 49, 50, 51, 52, 53, 54, 55, 56, 57, 45]⟩ : ByteArray) t111 _ A3.out).mono ?_); rintro e w14 ⟨rfl, hb⟩; have n0_ := Aside0.mk (below_step (by repeat (first | (with_reducible first | exact HB.out | apply below_alloc | apply pw_below_drewN | apply below_drew1) | exact HB.out)) hb); clear HB; have HB := n0_; clear n0_; (try clear hb); (try clear hb2); (try clear hk); (try clear hi)))
      go_ret
      exact ⟨by first | rfl | (simp [errW_none, errW_some] <;> rfl) | (simp [*, errW_none, errW_some] <;> rfl) | (simp [ne_nil_b]; done) | (simp [*, ne_nil_b]; done), by repeat (first | (with_reducible first | exact HB.out | apply below_alloc | apply pw_below_drewN | apply below_drew1) | exact HB.out)⟩

/-! ### stringslite_HasPrefix: function 64 -/
def stringslite_HasPrefix.f (a0 : ByteArray) (a1 : ByteArray) : Option (Bool) := if (a0.size : Int) ≥ (a1.size : Int) then (if 0 ≤ (a1.size : Int) then (if (a1.size : Int) ≤ (a0.size : Int) then (some ((a0.extract 0 ((a1.size : Int) : Int).toNat).toList == a1.toList)) else (none)) else (none)) else (some false)
set_option maxHeartbeats 8000000 in
set_option maxRecDepth 100000 in
theorem stringslite_HasPrefix.calls (a0 : ByteArray) (a1 : ByteArray) (r : Bool) (w : World) (h : stringslite_HasPrefix.f a0 a1 = some r) :
    Calls Tryz.prog 64 #[.string a0, .string a1] w fun e w' => e = .returned (.bool r) ∧ Drawn0 w w' := by
  have H : (if (a0.size : Int) ≥ (a1.size : Int) then (if 0 ≤ (a1.size : Int) then (if (a1.size : Int) ≤ (a0.size : Int) then (some ((a0.extract 0 ((a1.size : Int) : Int).toNat).toList == a1.toList)) else (none)) else (none)) else (some false)) = some r := h
  clear h
  by_cases c3 : (a0.size : Int) ≥ (a1.size : Int)
  · rw [if_pos c3] at H
    have c3b0 : decide ((a1.size : Int) ≤ (a0.size : Int)) = true := decide_eq_true c3
    have c3b1 : decide (a1.size ≤ a0.size) = true := decide_eq_true (Int.ofNat_le.mp c3)
    clear c3
    by_cases c4 : 0 ≤ (a1.size : Int)
    · rw [if_pos c4] at H
      have c4b0 := eq_true c4
      have c4b1 : decide (0 ≤ (a1.size : Int)) = true := decide_eq_true c4
      clear c4
      by_cases c5 : (a1.size : Int) ≤ (a0.size : Int)
      · rw [if_pos c5] at H
        have c5b0 := eq_true c5
        have c5b1 : decide ((a1.size : Int) ≤ (a0.size : Int)) = true := decide_eq_true c5
        clear c5
        obtain rfl := Option.some.inj H
        go_enter Tryz.func64, Tryz.ntmps64
        go_wp2
        go_ret
        exact ⟨by first | rfl | (simp; done) | (simp [*]; done), by repeat (first | exact Drawn0.refl _ | apply Drawn0.step)⟩
      · rw [if_neg c5] at H
        exact absurd H (by simp)
    · rw [if_neg c4] at H
      exact absurd H (by simp)
  · rw [if_neg c3] at H
    have c3b0 : decide ((a1.size : Int) ≤ (a0.size : Int)) = false := decide_eq_false c3
    have c3b1 : decide (a1.size ≤ a0.size) = false := decide_eq_false (fun h => c3 (Int.ofNat_le.mpr h))
    clear c3
    obtain rfl := Option.some.inj H
    go_enter Tryz.func64, Tryz.ntmps64
    go_wp2
    go_ret
    exact ⟨by first | rfl | (simp; done) | (simp [*]; done), by repeat (first | exact Drawn0.refl _ | apply Drawn0.step)⟩

/-! ### stringslite_CutPrefix: function 56 -/
def stringslite_CutPrefix.f (a0 : ByteArray) (a1 : ByteArray) : Option (ByteArray × Bool) := (stringslite_HasPrefix.f a0 a1).bind fun t112 => (if t112 = true then (if 0 ≤ (a1.size : Int) then (if (a1.size : Int) ≤ (a0.size : Int) then (some (a0.extract ((a1.size : Int) : Int).toNat a0.size, true)) else (none)) else (none)) else (some (a0, false)))
set_option maxHeartbeats 8000000 in
set_option maxRecDepth 100000 in
theorem stringslite_CutPrefix.calls (a0 : ByteArray) (a1 : ByteArray) (r1 : ByteArray) (r2 : Bool) (w : World) (h : stringslite_CutPrefix.f a0 a1 = some (r1, r2)) :
    Calls Tryz.prog 56 #[.string a0, .string a1] w fun e w' => e = .returned (.tuple #[.string r1, .bool r2]) ∧ Drawn0 w w' := by
  have H : ((stringslite_HasPrefix.f a0 a1).bind fun t112 => (if t112 = true then (if 0 ≤ (a1.size : Int) then (if (a1.size : Int) ≤ (a0.size : Int) then (some (a0.extract ((a1.size : Int) : Int).toNat a0.size, true)) else (none)) else (none)) else (some (a0, false)))) = some (r1, r2) := h
  clear h
  replace H := Option.bind_eq_some_iff.mp H
  obtain ⟨t112, A30, H⟩ := H
  replace H : (if t112 = true then (if 0 ≤ (a1.size : Int) then (if (a1.size : Int) ≤ (a0.size : Int) then (some (a0.extract ((a1.size : Int) : Int).toNat a0.size, true)) else (none)) else (none)) else (some (a0, false))) = some (r1, r2) := H
  have A3 := Aside0.mk A30
  clear A30
  by_cases c4 : t112 = true
  · subst c4
    have H1 : (if 0 ≤ (a1.size : Int) then (if (a1.size : Int) ≤ (a0.size : Int) then (some (a0.extract ((a1.size : Int) : Int).toNat a0.size, true)) else (none)) else (none)) = some (r1, r2) := by rw [if_pos rfl] at H; exact H
    clear H
    have H := H1
    clear H1
    by_cases c5 : 0 ≤ (a1.size : Int)
    · rw [if_pos c5] at H
      have c5b0 := eq_true c5
      have c5b1 : decide (0 ≤ (a1.size : Int)) = true := decide_eq_true c5
      clear c5
      by_cases c6 : (a1.size : Int) ≤ (a0.size : Int)
      · rw [if_pos c6] at H
        have c6b0 := eq_true c6
        have c6b1 : decide ((a1.size : Int) ≤ (a0.size : Int)) = true := decide_eq_true c6
        clear c6
        simp only [Option.some.injEq, Prod.mk.injEq] at H
        obtain ⟨rfl, rfl⟩ := H
        go_enter Tryz.func56, Tryz.ntmps56
        go_wp2_with (first | ((with_reducible refine gate_callee (f := 64) rfl ?_); refine goesL_ (some 8) rfl rfl Tryz.func64 (by kernel_rfl) rfl #[.string a0, .string a1] rfl (by (try simp only [List.map_toArray, List.map_cons, List.map_nil]); first | done | rfl | (simp only [List.length_drop, List.length_take]; rfl)) ?_; (with_reducible refine (stringslite_HasPrefix.calls a0 a1 true _ A3.out).mono ?_); rintro e w' ⟨rfl, ⟨nd, rfl⟩⟩; refine ⟨_, rfl, ?_⟩))
        go_ret2
        exact ⟨by first | rfl | (simp; done) | (simp [*]; done), by repeat (first | exact Drawn0.refl _ | apply Drawn0.step)⟩
      · rw [if_neg c6] at H
        exact absurd H (by simp)
    · rw [if_neg c5] at H
      exact absurd H (by simp)
  · replace c4 := Bool.eq_false_iff.mpr c4
    subst c4
    have H1 : (some (a0, false)) = some (r1, r2) := by rw [if_neg (show ¬ (false = true) by decide)] at H; exact H
    clear H
    have H := H1
    clear H1
    simp only [Option.some.injEq, Prod.mk.injEq] at H
    obtain ⟨rfl, rfl⟩ := H
    go_enter Tryz.func56, Tryz.ntmps56
    go_wp2_with (first | ((with_reducible refine gate_callee (f := 64) rfl ?_); refine goesL_ (some 8) rfl rfl Tryz.func64 (by kernel_rfl) rfl #[.string a0, .string a1] rfl (by (try simp only [List.map_toArray, List.map_cons, List.map_nil]); first | done | rfl | (simp only [List.length_drop, List.length_take]; rfl)) ?_; (with_reducible refine (stringslite_HasPrefix.calls a0 a1 false _ A3.out).mono ?_); rintro e w' ⟨rfl, ⟨nd, rfl⟩⟩; refine ⟨_, rfl, ?_⟩))
    go_ret2
    exact ⟨by first | rfl | (simp; done) | (simp [*]; done), by repeat (first | exact Drawn0.refl _ | apply Drawn0.step)⟩

/-! ### strings_CutPrefix: function 27 -/
def strings_CutPrefix.f (a0 : ByteArray) (a1 : ByteArray) : Option (ByteArray × Bool) := (stringslite_CutPrefix.f a0 a1).bind fun bt113 => (some (bt113.1, bt113.2))
set_option maxHeartbeats 8000000 in
set_option maxRecDepth 100000 in
theorem strings_CutPrefix.calls (a0 : ByteArray) (a1 : ByteArray) (r1 : ByteArray) (r2 : Bool) (w : World) (h : strings_CutPrefix.f a0 a1 = some (r1, r2)) :
    Calls Tryz.prog 27 #[.string a0, .string a1] w fun e w' => e = .returned (.tuple #[.string r1, .bool r2]) ∧ Drawn0 w w' := by
  have H : ((stringslite_CutPrefix.f a0 a1).bind fun bt113 => (some (bt113.1, bt113.2))) = some (r1, r2) := h
  clear h
  replace H := Option.bind_eq_some_iff.mp H
  obtain ⟨⟨t113, t114⟩, A30, H⟩ := H
  replace H : (some (t113, t114)) = some (r1, r2) := H
  have A3 := Aside0.mk A30
  clear A30
  simp only [Option.some.injEq, Prod.mk.injEq] at H
  obtain ⟨rfl, rfl⟩ := H
  go_enter Tryz.func27, Tryz.ntmps27
  go_wp2_with (first | ((with_reducible refine gate_callee (f := 56) rfl ?_); refine goesL_ (some 8) rfl rfl Tryz.func56 (by kernel_rfl) rfl #[.string a0, .string a1] rfl (by (try simp only [List.map_toArray, List.map_cons, List.map_nil]); first | done | rfl | (simp only [List.length_drop, List.length_take]; rfl)) ?_; (with_reducible refine (stringslite_CutPrefix.calls a0 a1 t113 t114 _ A3.out).mono ?_); rintro e w' ⟨rfl, ⟨nd, rfl⟩⟩; refine ⟨_, rfl, ?_⟩))
  go_ret2
  exact ⟨by first | rfl | (simp; done) | (simp [*]; done), by repeat (first | exact Drawn0.refl _ | apply Drawn0.step)⟩

/-! ### stringslite_HasSuffix: function 33 -/
def stringslite_HasSuffix.f (a0 : ByteArray) (a1 : ByteArray) : Option (Bool) := if (a0.size : Int) ≥ (a1.size : Int) then (if 0 ≤ (wrap64 ((a0.size : Int) - (a1.size : Int))) then (if (wrap64 ((a0.size : Int) - (a1.size : Int))) ≤ (a0.size : Int) then (some ((a0.extract ((wrap64 ((a0.size : Int) - (a1.size : Int))) : Int).toNat a0.size).toList == a1.toList)) else (none)) else (none)) else (some false)
set_option maxHeartbeats 8000000 in
set_option maxRecDepth 100000 in
theorem stringslite_HasSuffix.calls (a0 : ByteArray) (a1 : ByteArray) (r : Bool) (w : World) (h : stringslite_HasSuffix.f a0 a1 = some r) :
    Calls Tryz.prog 33 #[.string a0, .string a1] w fun e w' => e = .returned (.bool r) ∧ Drawn0 w w' := by
  have H : (if (a0.size : Int) ≥ (a1.size : Int) then (if 0 ≤ (wrap64 ((a0.size : Int) - (a1.size : Int))) then (if (wrap64 ((a0.size : Int) - (a1.size : Int))) ≤ (a0.size : Int) then (some ((a0.extract ((wrap64 ((a0.size : Int) - (a1.size : Int))) : Int).toNat a0.size).toList == a1.toList)) else (none)) else (none)) else (some false)) = some r := h
  clear h
  by_cases c3 : (a0.size : Int) ≥ (a1.size : Int)
  · rw [if_pos c3] at H
    have c3b0 : decide ((a1.size : Int) ≤ (a0.size : Int)) = true := decide_eq_true c3
    have c3b1 : decide (a1.size ≤ a0.size) = true := decide_eq_true (Int.ofNat_le.mp c3)
    clear c3
    obtain ⟨ji4, hji4⟩ : ∃ j_ : Int, (wrap64 ((a0.size : Int) - (a1.size : Int))) = j_ := ⟨_, rfl⟩
    replace H : (if 0 ≤ (ji4) then (if (ji4) ≤ (a0.size : Int) then (some ((a0.extract ((ji4) : Int).toNat a0.size).toList == a1.toList)) else (none)) else (none)) = some r := by first | (rw [hji4] at H; exact H) | (simp only [hji4] at H ⊢; exact H)
    have hji4w : (IntKind.i64.wrap ((a0.size : Int) - (a1.size : Int))) = ji4 := (i64_w _).trans hji4
    by_cases c5 : 0 ≤ (ji4)
    · rw [if_pos c5] at H
      have c5b0 := eq_true c5
      have c5b1 : decide (0 ≤ (ji4)) = true := decide_eq_true c5
      clear c5
      by_cases c6 : (ji4) ≤ (a0.size : Int)
      · rw [if_pos c6] at H
        have c6b0 := eq_true c6
        have c6b1 : decide ((ji4) ≤ (a0.size : Int)) = true := decide_eq_true c6
        clear c6
        obtain rfl := Option.some.inj H
        go_enter Tryz.func33, Tryz.ntmps33
        go_wp2
        go_ret
        exact ⟨by first | rfl | (simp; done) | (simp only [← hji4] <;> (first | rfl | simp)) | (simp [*]; done), by repeat (first | exact Drawn0.refl _ | apply Drawn0.step)⟩
      · rw [if_neg c6] at H
        exact absurd H (by simp)
    · rw [if_neg c5] at H
      exact absurd H (by simp)
  · rw [if_neg c3] at H
    have c3b0 : decide ((a1.size : Int) ≤ (a0.size : Int)) = false := decide_eq_false c3
    have c3b1 : decide (a1.size ≤ a0.size) = false := decide_eq_false (fun h => c3 (Int.ofNat_le.mpr h))
    clear c3
    obtain rfl := Option.some.inj H
    go_enter Tryz.func33, Tryz.ntmps33
    go_wp2
    go_ret
    exact ⟨by first | rfl | (simp; done) | (simp [*]; done), by repeat (first | exact Drawn0.refl _ | apply Drawn0.step)⟩

/-! ### stringslite_CutSuffix: function 102 -/
def stringslite_CutSuffix.f (a0 : ByteArray) (a1 : ByteArray) : Option (ByteArray × Bool) := (stringslite_HasSuffix.f a0 a1).bind fun t115 => (if t115 = true then (if 0 ≤ (wrap64 ((a0.size : Int) - (a1.size : Int))) then (if (wrap64 ((a0.size : Int) - (a1.size : Int))) ≤ (a0.size : Int) then (some (a0.extract 0 ((wrap64 ((a0.size : Int) - (a1.size : Int))) : Int).toNat, true)) else (none)) else (none)) else (some (a0, false)))
set_option maxHeartbeats 8000000 in
set_option maxRecDepth 100000 in
theorem stringslite_CutSuffix.calls (a0 : ByteArray) (a1 : ByteArray) (r1 : ByteArray) (r2 : Bool) (w : World) (h : stringslite_CutSuffix.f a0 a1 = some (r1, r2)) :
    Calls Tryz.prog 102 #[.string a0, .string a1] w fun e w' => e = .returned (.tuple #[.string r1, .bool r2]) ∧ Drawn0 w w' := by
  have H : ((stringslite_HasSuffix.f a0 a1).bind fun t115 => (if t115 = true then (if 0 ≤ (wrap64 ((a0.size : Int) - (a1.size : Int))) then (if (wrap64 ((a0.size : Int) - (a1.size : Int))) ≤ (a0.size : Int) then (some (a0.extract 0 ((wrap64 ((a0.size : Int) - (a1.size : Int))) : Int).toNat, true)) else (none)) else (none)) else (some (a0, false)))) = some (r1, r2) := h
  clear h
  replace H := Option.bind_eq_some_iff.mp H
  obtain ⟨t115, A30, H⟩ := H
  replace H : (if t115 = true then (if 0 ≤ (wrap64 ((a0.size : Int) - (a1.size : Int))) then (if (wrap64 ((a0.size : Int) - (a1.size : Int))) ≤ (a0.size : Int) then (some (a0.extract 0 ((wrap64 ((a0.size : Int) - (a1.size : Int))) : Int).toNat, true)) else (none)) else (none)) else (some (a0, false))) = some (r1, r2) := H
  have A3 := Aside0.mk A30
  clear A30
  by_cases c4 : t115 = true
  · subst c4
    have H1 : (if 0 ≤ (wrap64 ((a0.size : Int) - (a1.size : Int))) then (if (wrap64 ((a0.size : Int) - (a1.size : Int))) ≤ (a0.size : Int) then (some (a0.extract 0 ((wrap64 ((a0.size : Int) - (a1.size : Int))) : Int).toNat, true)) else (none)) else (none)) = some (r1, r2) := by rw [if_pos rfl] at H; exact H
    clear H
    have H := H1
    clear H1
    obtain ⟨ji5, hji5⟩ : ∃ j_ : Int, (wrap64 ((a0.size : Int) - (a1.size : Int))) = j_ := ⟨_, rfl⟩
    replace H : (if 0 ≤ (ji5) then (if (ji5) ≤ (a0.size : Int) then (some (a0.extract 0 ((ji5) : Int).toNat, true)) else (none)) else (none)) = some (r1, r2) := by first | (rw [hji5] at H; exact H) | (simp only [hji5] at H ⊢; exact H)
    (try rw [hji5] at A3)
    have hji5w : (IntKind.i64.wrap ((a0.size : Int) - (a1.size : Int))) = ji5 := (i64_w _).trans hji5
    by_cases c6 : 0 ≤ (ji5)
    · rw [if_pos c6] at H
      have c6b0 := eq_true c6
      have c6b1 : decide (0 ≤ (ji5)) = true := decide_eq_true c6
      clear c6
      by_cases c7 : (ji5) ≤ (a0.size : Int)
      · rw [if_pos c7] at H
        have c7b0 := eq_true c7
        have c7b1 : decide ((ji5) ≤ (a0.size : Int)) = true := decide_eq_true c7
        clear c7
        simp only [Option.some.injEq, Prod.mk.injEq] at H
        obtain ⟨rfl, rfl⟩ := H
        go_enter Tryz.func102, Tryz.ntmps102
        go_wp2_with (first | ((with_reducible refine gate_callee (f := 33) rfl ?_); refine goesL_ (some 8) rfl rfl Tryz.func33 (by kernel_rfl) rfl #[.string a0, .string a1] rfl (by (try simp only [List.map_toArray, List.map_cons, List.map_nil]); first | done | rfl | (simp only [List.length_drop, List.length_take]; rfl)) ?_; (with_reducible refine (stringslite_HasSuffix.calls a0 a1 true _ A3.out).mono ?_); rintro e w' ⟨rfl, ⟨nd, rfl⟩⟩; refine ⟨_, rfl, ?_⟩))
        go_ret2
        exact ⟨by first | rfl | (simp; done) | (simp only [← hji5] <;> (first | rfl | simp)) | (simp [*]; done), by repeat (first | exact Drawn0.refl _ | apply Drawn0.step)⟩
      · rw [if_neg c7] at H
        exact absurd H (by simp)
    · rw [if_neg c6] at H
      exact absurd H (by simp)
  · replace c4 := Bool.eq_false_iff.mpr c4
    subst c4
    have H1 : (some (a0, false)) = some (r1, r2) := by rw [if_neg (show ¬ (false = true) by decide)] at H; exact H
    clear H
    have H := H1
    clear H1
    simp only [Option.some.injEq, Prod.mk.injEq] at H
    obtain ⟨rfl, rfl⟩ := H
    go_enter Tryz.func102, Tryz.ntmps102
    go_wp2_with (first | ((with_reducible refine gate_callee (f := 33) rfl ?_); refine goesL_ (some 8) rfl rfl Tryz.func33 (by kernel_rfl) rfl #[.string a0, .string a1] rfl (by (try simp only [List.map_toArray, List.map_cons, List.map_nil]); first | done | rfl | (simp only [List.length_drop, List.length_take]; rfl)) ?_; (with_reducible refine (stringslite_HasSuffix.calls a0 a1 false _ A3.out).mono ?_); rintro e w' ⟨rfl, ⟨nd, rfl⟩⟩; refine ⟨_, rfl, ?_⟩))
    go_ret2
    exact ⟨by first | rfl | (simp; done) | (simp [*]; done), by repeat (first | exact Drawn0.refl _ | apply Drawn0.step)⟩

/-! ### strings_CutSuffix: function 84 -/
def strings_CutSuffix.f (a0 : ByteArray) (a1 : ByteArray) : Option (ByteArray × Bool) := (stringslite_CutSuffix.f a0 a1).bind fun bt116 => (some (bt116.1, bt116.2))
set_option maxHeartbeats 8000000 in
set_option maxRecDepth 100000 in
theorem strings_CutSuffix.calls (a0 : ByteArray) (a1 : ByteArray) (r1 : ByteArray) (r2 : Bool) (w : World) (h : strings_CutSuffix.f a0 a1 = some (r1, r2)) :
    Calls Tryz.prog 84 #[.string a0, .string a1] w fun e w' => e = .returned (.tuple #[.string r1, .bool r2]) ∧ Drawn0 w w' := by
  have H : ((stringslite_CutSuffix.f a0 a1).bind fun bt116 => (some (bt116.1, bt116.2))) = some (r1, r2) := h
  clear h
  replace H := Option.bind_eq_some_iff.mp H
  obtain ⟨⟨t116, t117⟩, A30, H⟩ := H
  replace H : (some (t116, t117)) = some (r1, r2) := H
  have A3 := Aside0.mk A30
  clear A30
  simp only [Option.some.injEq, Prod.mk.injEq] at H
  obtain ⟨rfl, rfl⟩ := H
  go_enter Tryz.func84, Tryz.ntmps84
  go_wp2_with (first | ((with_reducible refine gate_callee (f := 102) rfl ?_); refine goesL_ (some 8) rfl rfl Tryz.func102 (by kernel_rfl) rfl #[.string a0, .string a1] rfl (by (try simp only [List.map_toArray, List.map_cons, List.map_nil]); first | done | rfl | (simp only [List.length_drop, List.length_take]; rfl)) ?_; (with_reducible refine (stringslite_CutSuffix.calls a0 a1 t116 t117 _ A3.out).mono ?_); rintro e w' ⟨rfl, ⟨nd, rfl⟩⟩; refine ⟨_, rfl, ?_⟩))
  go_ret2
  exact ⟨by first | rfl | (simp; done) | (simp [*]; done), by repeat (first | exact Drawn0.refl _ | apply Drawn0.step)⟩

/-! ### strings_HasPrefix: function 35 -/
def strings_HasPrefix.f (a0 : ByteArray) (a1 : ByteArray) : Option (Bool) := (stringslite_HasPrefix.f a0 a1).bind fun t118 => (some t118)
set_option maxHeartbeats 8000000 in
set_option maxRecDepth 100000 in
theorem strings_HasPrefix.calls (a0 : ByteArray) (a1 : ByteArray) (r : Bool) (w : World) (h : strings_HasPrefix.f a0 a1 = some r) :
    Calls Tryz.prog 35 #[.string a0, .string a1] w fun e w' => e = .returned (.bool r) ∧ Drawn0 w w' := by
  have H : ((stringslite_HasPrefix.f a0 a1).bind fun t118 => (some t118)) = some r := h
  clear h
  replace H := Option.bind_eq_some_iff.mp H
  obtain ⟨t118, A30, H⟩ := H
  replace H : (some t118) = some r := H
  have A3 := Aside0.mk A30
  clear A30
  obtain rfl := Option.some.inj H
  go_enter Tryz.func35, Tryz.ntmps35
  go_wp2_with (first | ((with_reducible refine gate_callee (f := 64) rfl ?_); refine goesL_ (some 7) rfl rfl Tryz.func64 (by kernel_rfl) rfl #[.string a0, .string a1] rfl (by (try simp only [List.map_toArray, List.map_cons, List.map_nil]); first | done | rfl | (simp only [List.length_drop, List.length_take]; rfl)) ?_; (with_reducible refine (stringslite_HasPrefix.calls a0 a1 t118 _ A3.out).mono ?_); rintro e w' ⟨rfl, ⟨nd, rfl⟩⟩; refine ⟨_, rfl, ?_⟩))
  go_ret
  exact ⟨by first | rfl | (simp; done) | (simp [*]; done), by repeat (first | exact Drawn0.refl _ | apply Drawn0.step)⟩

/-! ### text_plain: function 54 -/
def text_plain.f (a0 : Int) : Option (Bool) := if a0 ≥ 32 then (some (decide (a0 ≤ 126))) else (some false)
set_option maxHeartbeats 8000000 in
set_option maxRecDepth 100000 in
theorem text_plain.calls (a0 : Int) (r : Bool) (w : World) (h : text_plain.f a0 = some r) :
    Calls Tryz.prog 54 #[.int .u8 a0] w fun e w' => e = .returned (.bool r) ∧ Drawn0 w w' := by
  have H : (if a0 ≥ 32 then (some (decide (a0 ≤ 126))) else (some false)) = some r := h
  clear h
  by_cases c2 : a0 ≥ 32
  · rw [if_pos c2] at H
    have c2b0 : decide (32 ≤ a0) = true := decide_eq_true c2
    clear c2
    obtain rfl := Option.some.inj H
    go_enter Tryz.func54, Tryz.ntmps54
    go_wp2
    go_ret
    exact ⟨by first | rfl | (simp; done) | (simp [*]; done), by repeat (first | exact Drawn0.refl _ | apply Drawn0.step)⟩
  · rw [if_neg c2] at H
    have c2b0 : decide (32 ≤ a0) = false := decide_eq_false c2
    clear c2
    obtain rfl := Option.some.inj H
    go_enter Tryz.func54, Tryz.ntmps54
    go_wp2
    go_ret
    exact ⟨by first | rfl | (simp; done) | (simp [*]; done), by repeat (first | exact Drawn0.refl _ | apply Drawn0.step)⟩

end Go.Proofs.YtmhcdigneamgdaaGreatDoor.Qa

namespace Go.Proofs.YtmhcdigneamgdaaGreatDoor.Qa
open Go.RowKit Go.Proofs.YtmhcdigneamgdaaGreatDoor.G Go.Proofs.YtmhcdigneamgdaaGreatDoorW.PrintWords Go.Proofs.YtmhcdigneamgdaaGreatDoorW.PrintLast Go.Proofs.YtmhcdigneamgdaaGreatDoorW.PrintMore
attribute [local go_sem] max2_int min2_int max_two min_two max_three min_three max_four min_four   -- for this text's walks alone
set_option linter.unusedVariables false
set_option linter.unusedSimpArgs false

/-! ### text_pair: function 90 -/
def text_pair.f (a0 : ByteArray) (a1 : Int) : Option (Int × Int) := if (wrap64 (a1 + 1)) ≥ (a0.size : Int) then (some (0, 4)) else (if 0 ≤ (wrap64 (a1 + 1)) then (if (wrap64 (a1 + 1)) < (a0.size : Int) then ((text_plain.f (bt a0 (wrap64 (a1 + 1)))).bind fun t119 => (if t119 = true then (some (bt a0 (wrap64 (a1 + 1)), 0)) else (some (0, 5)))) else (none)) else (none))
set_option maxHeartbeats 8000000 in
set_option maxRecDepth 100000 in
theorem text_pair.calls (a0 : ByteArray) (a1 : Int) (r1 : Int) (r2 : Int) (w : World) (h : text_pair.f a0 a1 = some (r1, r2)) :
    Calls Tryz.prog 90 #[.string a0, .int .i64 a1] w fun e w' => e = .returned (.tuple #[.int .u8 r1, .int .i64 r2]) ∧ Drawn0 w w' := by
  have H : (if (wrap64 (a1 + 1)) ≥ (a0.size : Int) then (some (0, 4)) else (if 0 ≤ (wrap64 (a1 + 1)) then (if (wrap64 (a1 + 1)) < (a0.size : Int) then ((text_plain.f (bt a0 (wrap64 (a1 + 1)))).bind fun t119 => (if t119 = true then (some (bt a0 (wrap64 (a1 + 1)), 0)) else (some (0, 5)))) else (none)) else (none))) = some (r1, r2) := h
  clear h
  by_cases c3 : (wrap64 (a1 + 1)) ≥ (a0.size : Int)
  · rw [if_pos c3] at H
    have c3b0 : decide ((a0.size : Int) ≤ (wrap64 (a1 + 1))) = true := decide_eq_true c3
    clear c3
    simp only [Option.some.injEq, Prod.mk.injEq] at H
    obtain ⟨rfl, rfl⟩ := H
    go_enter Tryz.func90, Tryz.ntmps90
    go_wp2
    go_ret2
    exact ⟨by first | rfl | (simp; done) | (simp [*]; done), by repeat (first | exact Drawn0.refl _ | apply Drawn0.step)⟩
  · rw [if_neg c3] at H
    have c3b0 : decide ((a0.size : Int) ≤ (wrap64 (a1 + 1))) = false := decide_eq_false c3
    clear c3
    obtain ⟨ji4, hji4⟩ : ∃ j_ : Int, (wrap64 (a1 + 1)) = j_ := ⟨_, rfl⟩
    replace H : (if 0 ≤ (ji4) then (if (ji4) < (a0.size : Int) then ((text_plain.f (bt a0 (ji4))).bind fun t119 => (if t119 = true then (some (bt a0 (ji4), 0)) else (some (0, 5)))) else (none)) else (none)) = some (r1, r2) := by first | (rw [hji4] at H; exact H) | (simp only [hji4] at H ⊢; exact H)
    (try rw [hji4] at c3b0)
    have hji4w : (IntKind.i64.wrap (a1 + 1)) = ji4 := (i64_w _).trans hji4
    by_cases c5 : 0 ≤ (ji4)
    · rw [if_pos c5] at H
      have c5b0 : decide (0 ≤ (ji4)) = true := decide_eq_true c5
      clear c5
      by_cases c6 : (ji4) < (a0.size : Int)
      · rw [if_pos c6] at H
        have c6b0 : decide ((ji4) < (a0.size : Int)) = true := decide_eq_true c6
        clear c6
        replace H := Option.bind_eq_some_iff.mp H
        obtain ⟨t119, A80, H⟩ := H
        replace H : (if t119 = true then (some (bt a0 (ji4), 0)) else (some (0, 5))) = some (r1, r2) := H
        have A8 := Aside0.mk A80
        clear A80
        by_cases c9 : t119 = true
        · subst c9
          have H1 : (some (bt a0 (ji4), 0)) = some (r1, r2) := by rw [if_pos rfl] at H; exact H
          clear H
          have H := H1
          clear H1
          simp only [Option.some.injEq, Prod.mk.injEq] at H
          obtain ⟨rfl, rfl⟩ := H
          have p7 : 0 ≤ ((ji4) : Int) := of_decide_eq_true (by first | (with_reducible assumption) | assumption)
          have q7 : (ji4) < (a0.size : Int) := of_decide_eq_true (by first | (with_reducible assumption) | assumption)
          have hx7 := bt_at a0 (ji4)
          replace p7 := eq_true p7
          replace q7 := eq_true q7
          go_enter Tryz.func90, Tryz.ntmps90
          go_wp2_with (first | ((with_reducible refine gate_callee (f := 54) rfl ?_); refine goesL_ (some 17) rfl rfl Tryz.func54 (by kernel_rfl) rfl #[.int .u8 (bt a0 (ji4))] rfl (by (try simp only [List.map_toArray, List.map_cons, List.map_nil]); first | done | (simp only [hji4]; rfl) | rfl | (simp only [List.length_drop, List.length_take]; rfl)) ?_; (with_reducible refine (text_plain.calls (bt a0 (ji4)) true _ A8.out).mono ?_); rintro e w' ⟨rfl, ⟨nd, rfl⟩⟩; refine ⟨_, rfl, ?_⟩; have p10 : 0 ≤ ((ji4) : Int) := of_decide_eq_true (by first | (with_reducible assumption) | assumption); have q10 : (ji4) < (a0.size : Int) := of_decide_eq_true (by first | (with_reducible assumption) | assumption); have hx10 := bt_at a0 (ji4); replace p10 := eq_true p10; replace q10 := eq_true q10))
          go_ret2
          exact ⟨by first | rfl | (simp; done) | (simp only [← hji4] <;> (first | rfl | simp)) | (simp [*]; done), by repeat (first | exact Drawn0.refl _ | apply Drawn0.step)⟩
        · replace c9 := Bool.eq_false_iff.mpr c9
          subst c9
          have H1 : (some (0, 5)) = some (r1, r2) := by rw [if_neg (show ¬ (false = true) by decide)] at H; exact H
          clear H
          have H := H1
          clear H1
          simp only [Option.some.injEq, Prod.mk.injEq] at H
          obtain ⟨rfl, rfl⟩ := H
          have p7 : 0 ≤ ((ji4) : Int) := of_decide_eq_true (by first | (with_reducible assumption) | assumption)
          have q7 : (ji4) < (a0.size : Int) := of_decide_eq_true (by first | (with_reducible assumption) | assumption)
          have hx7 := bt_at a0 (ji4)
          replace p7 := eq_true p7
          replace q7 := eq_true q7
          go_enter Tryz.func90, Tryz.ntmps90
          go_wp2_with (first | ((with_reducible refine gate_callee (f := 54) rfl ?_); refine goesL_ (some 17) rfl rfl Tryz.func54 (by kernel_rfl) rfl #[.int .u8 (bt a0 (ji4))] rfl (by (try simp only [List.map_toArray, List.map_cons, List.map_nil]); first | done | (simp only [hji4]; rfl) | rfl | (simp only [List.length_drop, List.length_take]; rfl)) ?_; (with_reducible refine (text_plain.calls (bt a0 (ji4)) false _ A8.out).mono ?_); rintro e w' ⟨rfl, ⟨nd, rfl⟩⟩; refine ⟨_, rfl, ?_⟩))
          go_ret2
          exact ⟨by first | rfl | (simp; done) | (simp only [← hji4] <;> (first | rfl | simp)) | (simp [*]; done), by repeat (first | exact Drawn0.refl _ | apply Drawn0.step)⟩
      · rw [if_neg c6] at H
        exact absurd H (by simp)
    · rw [if_neg c5] at H
      exact absurd H (by simp)

/-! ### text_Quoted: function 58 -/
mutual
def text_Quoted.j0 : Nat → ByteArray → Bool → Option (ByteArray × Int × Int)
  | 0, _, _ => none
  | k + 1, x0, x14 => if x14 = true then (some ((⟨#[]⟩ : ByteArray), 0, 5)) else (text_Quoted.l0 k x0 ([] : List Int) 1)
def text_Quoted.l0 : Nat → ByteArray → List Int → Int → Option (ByteArray × Int × Int)
  | 0, _, _, _ => none
  | k + 1, x0, x5, x6 => if x6 < (x0.size : Int) then (if 0 ≤ x6 then (if (bt x0 x6) = 34 then (some (strOfNums x5, wrap64 (x6 + 1), 0)) else (if (bt x0 x6) = 92 then ((text_pair.f x0 x6).bind fun bt120 => (if bt120.2 = 0 then (if x5.length < 140737488355328 then (text_Quoted.l0 k x0 (x5 ++ [bt120.1]) (wrap64 ((wrap64 (x6 + 1)) + 1))) else (none)) else (some ((⟨#[]⟩ : ByteArray), 0, bt120.2)))) else ((text_plain.f (bt x0 x6)).bind fun t125 => (if t125 = true then (if x5.length < 140737488355328 then (text_Quoted.l0 k x0 (x5 ++ [bt x0 x6]) (wrap64 (x6 + 1))) else (none)) else (some ((⟨#[]⟩ : ByteArray), 0, 5)))))) else (none)) else (some ((⟨#[]⟩ : ByteArray), 0, 4))
end
def text_Quoted.f (k : Nat) (a0 : ByteArray) : Option (ByteArray × Int × Int) := if a0.toList = ([] : List UInt8) then (text_Quoted.j0 k a0 true) else (if 0 < (a0.size : Int) then (text_Quoted.j0 k a0 ((bt a0 0) != 34)) else (none))
theorem text_Quoted.mono_l : ∀ k, (∀ y0 y1, LeO (text_Quoted.j0 k y0 y1) (text_Quoted.j0 (k + 1) y0 y1)) ∧ (∀ y0 y1 y2, LeO (text_Quoted.l0 k y0 y1 y2) (text_Quoted.l0 (k + 1) y0 y1 y2))
  | 0 => ⟨fun _ _ r h => by simp [text_Quoted.j0] at h, fun _ _ _ r h => by simp [text_Quoted.l0] at h⟩
  | k + 1 => by
    obtain ⟨ih0, ih1⟩ := text_Quoted.mono_l k
    refine ⟨?_, ?_⟩
    · intro y0 y1
      unfold text_Quoted.j0
      repeat' first
      | (with_reducible exact ih0 _ _)
      | (with_reducible exact ih1 _ _ _)
      | (with_reducible exact LeO.refl _)
      | (with_reducible exact LeO.none _)
      | (with_reducible refine LeO.ite ?_ ?_)
      | (with_reducible refine LeO.bind ?_ (fun _ => ?_))
      | exact ih0 _ _
      | exact ih1 _ _ _
      | exact LeO.none _
      | refine LeO.ite ?_ ?_
      | refine LeO.bind ?_ (fun _ => ?_)
    · intro y0 y1 y2
      unfold text_Quoted.l0
      repeat' first
      | (with_reducible exact ih0 _ _)
      | (with_reducible exact ih1 _ _ _)
      | (with_reducible exact LeO.refl _)
      | (with_reducible exact LeO.none _)
      | (with_reducible refine LeO.ite ?_ ?_)
      | (with_reducible refine LeO.bind ?_ (fun _ => ?_))
      | exact ih0 _ _
      | exact ih1 _ _ _
      | exact LeO.none _
      | refine LeO.ite ?_ ?_
      | refine LeO.bind ?_ (fun _ => ?_)
theorem text_Quoted.mono : ∀ a0 k, LeO (text_Quoted.f k a0) (text_Quoted.f (k + 1) a0) := by
  intro a0 k
  obtain ⟨ih0, ih1⟩ := text_Quoted.mono_l k
  unfold text_Quoted.f
  repeat' first
      | (with_reducible exact ih0 _ _)
      | (with_reducible exact ih1 _ _ _)
      | (with_reducible exact LeO.refl _)
      | (with_reducible exact LeO.none _)
      | (with_reducible refine LeO.ite ?_ ?_)
      | (with_reducible refine LeO.bind ?_ (fun _ => ?_))
      | exact ih0 _ _
      | exact ih1 _ _ _
      | exact LeO.none _
      | refine LeO.ite ?_ ?_
      | refine LeO.bind ?_ (fun _ => ?_)
set_option maxHeartbeats 8000000 in
set_option maxRecDepth 100000 in
theorem text_Quoted.calls (k : Nat) (a0 : ByteArray) (r1 : ByteArray) (r2 : Int) (r3 : Int) (w : World) (h : text_Quoted.f k a0 = some (r1, r2, r3)) :
    Calls Tryz.prog 58 #[.string a0] w fun e w' => e = .returned (.tuple #[.string r1, .int .i64 r2, .int .i64 r3]) ∧ Below w.heap.size w w' := by
  have HB := Aside0.mk (Below.refl w.heap.size w)
  have H : (if a0.toList = ([] : List UInt8) then (text_Quoted.j0 k a0 true) else (if 0 < (a0.size : Int) then (text_Quoted.j0 k a0 ((bt a0 0) != 34)) else (none))) = some (r1, r2, r3) := h
  clear h
  have HC2 := Aside0.mk H
  clear H
  go_enter Tryz.func58, Tryz.ntmps58
  go_upto_region 1 with (fail)
  go_cut [14] (fun v14 wc => ∃ (kq : Nat) (x14_1 : Bool), v14 = .bool x14_1 ∧ Aside0 (text_Quoted.j0 kq a0 x14_1 = some (r1, r2, r3)) ∧ Aside0 (kq ≤ k) ∧ Aside0 (Below w.heap.size w wc))
  case first =>
    have H := HC2.out
    clear HC2
    by_cases c3 : a0.toList = ([] : List UInt8)
    · rw [if_pos c3] at H
      have c3b0 : (a0.toList == ([] : List UInt8)) = true := beq_iff_eq.mpr c3
      have c3b1 : (a0.toList != ([] : List UInt8)) = false := bne_eq_false_iff_eq.mpr c3
      clear c3
      (first | rw [c3b0] | (simp only [i64_w, i32_w]; rw [c3b0]) | skip)
      have H' := Aside0.mk H
      clear H
      go_wp2
      go_meet
      case rel => exact ⟨_, (true), (by first | rfl | (simp; done) | (simp [*]; done)), H', ⟨by first | omega | exact Nat.le_refl _⟩, ⟨by repeat (first | (with_reducible first | exact HB.out | apply below_alloc | apply pw_below_drewN | apply below_drew1) | exact HB.out)⟩⟩
    · rw [if_neg c3] at H
      have c3b0 : (a0.toList == ([] : List UInt8)) = false := beq_eq_false_iff_ne.mpr c3
      have c3b1 : (a0.toList != ([] : List UInt8)) = true := bne_iff_ne.mpr c3
      (first | rw [c3b0] | (simp only [i64_w, i32_w]; rw [c3b0]) | skip)
      by_cases c4 : 0 < (a0.size : Int)
      · rw [if_pos c4] at H
        have c4b0 : decide (0 < (a0.size : Int)) = true := decide_eq_true c4
        have c4b1 : decide (0 < a0.size) = true := decide_eq_true (by omega)
        clear c4
        have H' := Aside0.mk H
        clear H
        have p5 : 0 ≤ (0 : Int) := (by omega)
        have q5 : 0 < a0.size := (by have : (0 : Int) < (a0.size : Int) := of_decide_eq_true (by first | (with_reducible assumption) | assumption); omega)
        have hx5 : ∀ h : 0 < a0.size, ((a0[0]'h).toNat : Int) = bt a0 0 := bt_at a0 0
        clear p5
        have qi5 : (0 < (a0.size : Int)) = True := eq_true (of_decide_eq_true (by first | (with_reducible assumption) | assumption))
        replace q5 := eq_true q5
        go_wp2
        go_meet
        case rel => exact ⟨_, (((bt a0 0) != 34)), (by first | rfl | (simp; done) | (simp [*]; done)), H', ⟨by first | omega | exact Nat.le_refl _⟩, ⟨by repeat (first | (with_reducible first | exact HB.out | apply below_alloc | apply pw_below_drewN | apply below_drew1) | exact HB.out)⟩⟩
      · rw [if_neg c4] at H
        exact absurd H (by simp)
  case rest =>
    clear HC2
    try clear p2
    try clear c3
    try clear c3b0
    try clear c3b1
    try clear c4
    try clear c4b0
    try clear c4b1
    try clear c5
    try clear p5
    try clear q5
    try clear hx5
    try clear qi5
    try clear p5
    try clear q5
    obtain ⟨kq, x14_1, rfl, HA, HJ1, HB⟩ := hcut
    cases kq with
    | zero => exact absurd HA.out (by simp [text_Quoted.j0])
    | succ kj1 =>
      have H := HA.out
      clear HA
      simp only [text_Quoted.j0] at H
      by_cases c6 : x14_1 = true
      · subst c6
        have H1 : (some ((⟨#[]⟩ : ByteArray), 0, 5)) = some (r1, r2, r3) := by rw [if_pos rfl] at H; exact H
        clear H
        have H := H1
        clear H1
        simp only [Option.some.injEq, Prod.mk.injEq] at H
        obtain ⟨rfl, rfl, rfl⟩ := H
        go_wp2
        go_ret3
        exact ⟨by first | rfl | (simp [errW_none, errW_some] <;> rfl) | (simp [*, errW_none, errW_some] <;> rfl) | (simp [ne_nil_b]; done) | (simp [*, ne_nil_b]; done), by repeat (first | (with_reducible first | exact HB.out | apply below_alloc | apply pw_below_drewN | apply below_drew1) | exact HB.out)⟩
      · replace c6 := Bool.eq_false_iff.mpr c6
        subst c6
        have H1 : (text_Quoted.l0 kj1 a0 ([] : List Int) 1) = some (r1, r2, r3) := by rw [if_neg (show ¬ (false = true) by decide)] at H; exact H
        clear H
        have H := H1
        clear H1
        have H' := Aside0.mk H
        clear H
        go_wp2
        go_loopg [5, 6] kj1 (fun kq v5 v6 w' => ∃ (x5_2 : List Int) (x6_2 : Int), v6 = .int .i64 x6_2 ∧ Aside0 (text_Quoted.l0 kq a0 x5_2 x6_2 = some (r1, r2, r3)) ∧ Aside0 (kq ≤ kj1) ∧ Aside0 (Kd.R (Kd.int .u8) 5 w' w.heap.size (fun _ => True) v5 x5_2) ∧ Aside0 (Below w.heap.size w w'))
        case atStart => exact ⟨(([] : List Int)), (1), (by first | rfl | (simp; done) | (simp [*]; done)), H', ⟨Nat.le_refl _⟩, ⟨by first | exact Kd.R_nil _ _ _ _ _ | exact Kd.N_nil _ _ _ _ _ | exact Kd.V_nil _ _ _ _ _ | exact Kd.Q_nil _ _ _ _ _ | exact Kd.S_nil _ _ _ _ _⟩, ⟨by repeat (first | (with_reducible first | exact HB.out | apply below_alloc | apply pw_below_drewN | apply below_drew1) | exact HB.out)⟩⟩
        case round =>
          clear H'
          try clear p2
          try clear c3
          try clear c3b0
          try clear c3b1
          try clear c4
          try clear c4b0
          try clear c4b1
          try clear c5
          try clear p5
          try clear q5
          try clear hx5
          try clear qi5
          try clear c6
          try clear p2
          try clear p5
          try clear q5
          obtain ⟨x5_2, x6_2, rfl, HA, HK2, HO_5, HB⟩ := hrel
          cases gk with
          | zero => exact absurd HA.out (by simp [text_Quoted.l0])
          | succ k2 =>
            have H := HA.out
            clear HA
            simp only [text_Quoted.l0] at H
            by_cases c7 : x6_2 < (a0.size : Int)
            · rw [if_pos c7] at H
              have c7b0 : decide (x6_2 < (a0.size : Int)) = true := decide_eq_true c7
              clear c7
              by_cases c8 : 0 ≤ x6_2
              · rw [if_pos c8] at H
                have c8b0 : decide (0 ≤ x6_2) = true := decide_eq_true c8
                clear c8
                by_cases c10 : (bt a0 x6_2) = 34
                · rw [if_pos c10] at H
                  have c10b0 : ((bt a0 x6_2) == 34) = true := beq_iff_eq.mpr c10
                  have c10b1 : ((bt a0 x6_2) != 34) = false := bne_eq_false_iff_eq.mpr c10
                  clear c10
                  simp only [Option.some.injEq, Prod.mk.injEq] at H
                  obtain ⟨rfl, rfl, rfl⟩ := H
                  have p9 : 0 ≤ (x6_2 : Int) := of_decide_eq_true (by first | (with_reducible assumption) | assumption)
                  have q9 : x6_2 < (a0.size : Int) := of_decide_eq_true (by first | (with_reducible assumption) | assumption)
                  have hx9 := bt_at a0 x6_2
                  replace p9 := eq_true p9
                  replace q9 := eq_true q9
                  have hcv11 := own_string (P := Tryz.prog) Tryz.underlying55 Tryz.underlying5 Tryz.underlying9 (Kd.own_of_R HO_5.out)
                  go_wp2
                  go_ret3
                  exact ⟨by first | rfl | (simp [errW_none, errW_some] <;> rfl) | (simp [*, errW_none, errW_some] <;> rfl) | (simp [ne_nil_b]; done) | (simp [*, ne_nil_b]; done), by repeat (first | (with_reducible first | exact HB.out | apply below_alloc | apply pw_below_drewN | apply below_drew1) | exact HB.out)⟩
                · rw [if_neg c10] at H
                  have c10b0 : ((bt a0 x6_2) == 34) = false := beq_eq_false_iff_ne.mpr c10
                  have c10b1 : ((bt a0 x6_2) != 34) = true := bne_iff_ne.mpr c10
                  by_cases c12 : (bt a0 x6_2) = 92
                  · rw [if_pos c12] at H
                    have c12b0 : ((bt a0 x6_2) == 92) = true := beq_iff_eq.mpr c12
                    have c12b1 : ((bt a0 x6_2) != 92) = false := bne_eq_false_iff_eq.mpr c12
                    clear c12
                    replace H := Option.bind_eq_some_iff.mp H
                    obtain ⟨⟨t120, t121⟩, A130, H⟩ := H
                    replace H : (if t121 = 0 then (if x5_2.length < 140737488355328 then (text_Quoted.l0 k2 a0 (x5_2 ++ [t120]) (wrap64 ((wrap64 (x6_2 + 1)) + 1))) else (none)) else (some ((⟨#[]⟩ : ByteArray), 0, t121))) = some (r1, r2, r3) := H
                    have A13 := Aside0.mk A130
                    clear A130
                    by_cases c14 : t121 = 0
                    · rw [if_pos c14] at H
                      have c14b0 : (t121 == 0) = true := beq_iff_eq.mpr c14
                      have c14b1 : (t121 != 0) = false := bne_eq_false_iff_eq.mpr c14
                      clear c14
                      by_cases c15 : x5_2.length < 140737488355328
                      · rw [if_pos c15] at H
                        have LMc15 := Aside0.mk c15
                        clear c15
                        obtain ⟨y122, hy122⟩ : ∃ y_ : List Int, y_ = (x5_2 ++ [t120]) := ⟨_, rfl⟩
                        replace H : (text_Quoted.l0 k2 a0 y122 (wrap64 ((wrap64 (x6_2 + 1)) + 1))) = some (r1, r2, r3) := by first | (rw [hy122]; with_reducible exact H) | (have H2_ := (Option.bind_some _ _).symm.trans H; rw [hy122]; with_reducible exact H2_) | (have H2_ := (Option.bind_some _ _).symm.trans H; with_reducible exact H2_) | with_reducible exact H | (rw [hy122]; exact H) | exact H
                        have Ny122 := Aside0.mk hy122
                        clear hy122
                        have H' := Aside0.mk H
                        clear H
                        have p9 : 0 ≤ (x6_2 : Int) := of_decide_eq_true (by first | (with_reducible assumption) | assumption)
                        have q9 : x6_2 < (a0.size : Int) := of_decide_eq_true (by first | (with_reducible assumption) | assumption)
                        have hx9 := bt_at a0 x6_2
                        replace p9 := eq_true p9
                        replace q9 := eq_true q9
                        go_wp2_with (first | ((with_reducible refine gate_callee (f := 90) rfl ?_); refine goesL_ (some 37) rfl rfl Tryz.func90 (by kernel_rfl) rfl #[.string a0, .int .i64 x6_2] rfl (by (try simp only [List.map_toArray, List.map_cons, List.map_nil]); first | done | rfl | (simp only [List.length_drop, List.length_take]; rfl)) ?_; (with_reducible refine (text_pair.calls a0 x6_2 t120 t121 _ A13.out).mono ?_); rintro e w' ⟨rfl, ⟨nd, rfl⟩⟩; refine ⟨_, rfl, ?_⟩) | ((with_reducible refine gate_builtin (b := .append) (xs := #[.tmp 49, .tmp 51]) rfl ?_); at_builtin; refine Kd.R_append (Kd.int .u8) (w0 := w) w.heap.size rfl (.tmp 49) (.tmp 51) 55 5 (.int .u8 0) 1 rfl Tryz.underlying55 info5 rfl (by decide) (by omega) u5 x5_2 t120 [.int .u8 t120] (fun _ => True) (fun _ => False) rfl rfl ?aP (fun _ hk => hk.elim) ?aF ?aO ?aB ?aS ?aL ?_; (case aP => exact rfl); (case aB => exact (by repeat (first | (with_reducible first | exact HB.out | apply below_alloc | apply pw_below_drewN | apply below_drew1) | exact HB.out))); (case aF => exact (fun _ _ => trivial)); (case aO => exact (by (with_reducible repeat (first | apply Kd.R_alloc | apply Kd.R_drewN | apply Kd.R_drew)); exact HO_5.out)); (case aS => exact (below_size (by repeat (first | (with_reducible first | exact HB.out | apply below_alloc | apply pw_below_drewN | apply below_drew1) | exact HB.out)))); (case aL => have := LMc15.out; omega); intro v123 w16 ho hb hg hat; rw [← Ny122.out] at ho; have n0_ := Aside0.mk (hb); have n1_ := Aside0.mk (ho); clear HB; clear HO_5; have HB := n0_; have HO124 := n1_; clear n0_ n1_; clear ho hb hg hat))
                        go_roundg k2
                        case measure => have := HJ1.out; have := HK2.out; omega
                        case rel => exact ⟨(y122), (wrap64 ((wrap64 (x6_2 + 1)) + 1)), (by first | rfl | (simp; done) | (simp [*]; done)), H', ⟨by have := HJ1.out; have := HK2.out; omega⟩, ⟨by (with_reducible repeat (first | apply Kd.R_alloc | apply Kd.R_drewN | apply Kd.R_drew)); exact HO124.out⟩, ⟨by repeat (first | (with_reducible first | exact HB.out | apply below_alloc | apply pw_below_drewN | apply below_drew1) | exact HB.out)⟩⟩
                      · rw [if_neg c15] at H
                        exact absurd H (by simp)
                    · rw [if_neg c14] at H
                      have c14b0 : (t121 == 0) = false := beq_eq_false_iff_ne.mpr c14
                      have c14b1 : (t121 != 0) = true := bne_iff_ne.mpr c14
                      simp only [Option.some.injEq, Prod.mk.injEq] at H
                      obtain ⟨rfl, rfl, rfl⟩ := H
                      have p9 : 0 ≤ (x6_2 : Int) := of_decide_eq_true (by first | (with_reducible assumption) | assumption)
                      have q9 : x6_2 < (a0.size : Int) := of_decide_eq_true (by first | (with_reducible assumption) | assumption)
                      have hx9 := bt_at a0 x6_2
                      replace p9 := eq_true p9
                      replace q9 := eq_true q9
                      go_wp2_with (first | ((with_reducible refine gate_callee (f := 90) rfl ?_); refine goesL_ (some 37) rfl rfl Tryz.func90 (by kernel_rfl) rfl #[.string a0, .int .i64 x6_2] rfl (by (try simp only [List.map_toArray, List.map_cons, List.map_nil]); first | done | rfl | (simp only [List.length_drop, List.length_take]; rfl)) ?_; (with_reducible refine (text_pair.calls a0 x6_2 t120 t121 _ A13.out).mono ?_); rintro e w' ⟨rfl, ⟨nd, rfl⟩⟩; refine ⟨_, rfl, ?_⟩))
                      go_ret3
                      exact ⟨by first | rfl | (simp [errW_none, errW_some] <;> rfl) | (simp [*, errW_none, errW_some] <;> rfl) | (simp [ne_nil_b]; done) | (simp [*, ne_nil_b]; done), by repeat (first | (with_reducible first | exact HB.out | apply below_alloc | apply pw_below_drewN | apply below_drew1) | exact HB.out)⟩
                  · rw [if_neg c12] at H
                    have c12b0 : ((bt a0 x6_2) == 92) = false := beq_eq_false_iff_ne.mpr c12
                    have c12b1 : ((bt a0 x6_2) != 92) = true := bne_iff_ne.mpr c12
                    replace H := Option.bind_eq_some_iff.mp H
                    obtain ⟨t125, A170, H⟩ := H
                    replace H : (if t125 = true then (if x5_2.length < 140737488355328 then (text_Quoted.l0 k2 a0 (x5_2 ++ [bt a0 x6_2]) (wrap64 (x6_2 + 1))) else (none)) else (some ((⟨#[]⟩ : ByteArray), 0, 5))) = some (r1, r2, r3) := H
                    have A17 := Aside0.mk A170
                    clear A170
                    by_cases c18 : t125 = true
                    · subst c18
                      have H1 : (if x5_2.length < 140737488355328 then (text_Quoted.l0 k2 a0 (x5_2 ++ [bt a0 x6_2]) (wrap64 (x6_2 + 1))) else (none)) = some (r1, r2, r3) := by rw [if_pos rfl] at H; exact H
                      clear H
                      have H := H1
                      clear H1
                      by_cases c19 : x5_2.length < 140737488355328
                      · rw [if_pos c19] at H
                        have LMc19 := Aside0.mk c19
                        clear c19
                        obtain ⟨y126, hy126⟩ : ∃ y_ : List Int, y_ = (x5_2 ++ [bt a0 x6_2]) := ⟨_, rfl⟩
                        replace H : (text_Quoted.l0 k2 a0 y126 (wrap64 (x6_2 + 1))) = some (r1, r2, r3) := by first | (rw [hy126]; with_reducible exact H) | (have H2_ := (Option.bind_some _ _).symm.trans H; rw [hy126]; with_reducible exact H2_) | (have H2_ := (Option.bind_some _ _).symm.trans H; with_reducible exact H2_) | with_reducible exact H | (rw [hy126]; exact H) | exact H
                        have Ny126 := Aside0.mk hy126
                        clear hy126
                        have H' := Aside0.mk H
                        clear H
                        have p9 : 0 ≤ (x6_2 : Int) := of_decide_eq_true (by first | (with_reducible assumption) | assumption)
                        have q9 : x6_2 < (a0.size : Int) := of_decide_eq_true (by first | (with_reducible assumption) | assumption)
                        have hx9 := bt_at a0 x6_2
                        replace p9 := eq_true p9
                        replace q9 := eq_true q9
                        go_wp2_with (first | ((with_reducible refine gate_callee (f := 54) rfl ?_); refine goesL_ (some 47) rfl rfl Tryz.func54 (by kernel_rfl) rfl #[.int .u8 (bt a0 x6_2)] rfl (by (try simp only [List.map_toArray, List.map_cons, List.map_nil]); first | done | rfl | (simp only [List.length_drop, List.length_take]; rfl)) ?_; (with_reducible refine (text_plain.calls (bt a0 x6_2) true _ A17.out).mono ?_); rintro e w' ⟨rfl, ⟨nd, rfl⟩⟩; refine ⟨_, rfl, ?_⟩) | ((with_reducible refine gate_builtin (b := .append) (xs := #[.tmp 49, .tmp 51]) rfl ?_); at_builtin; refine Kd.R_append (Kd.int .u8) (w0 := w) w.heap.size rfl (.tmp 49) (.tmp 51) 55 5 (.int .u8 0) 1 rfl Tryz.underlying55 info5 rfl (by decide) (by omega) u5 x5_2 (bt a0 x6_2) [.int .u8 (bt a0 x6_2)] (fun _ => True) (fun _ => False) rfl rfl ?aP (fun _ hk => hk.elim) ?aF ?aO ?aB ?aS ?aL ?_; (case aP => exact rfl); (case aB => exact (by repeat (first | (with_reducible first | exact HB.out | apply below_alloc | apply pw_below_drewN | apply below_drew1) | exact HB.out))); (case aF => exact (fun _ _ => trivial)); (case aO => exact (by (with_reducible repeat (first | apply Kd.R_alloc | apply Kd.R_drewN | apply Kd.R_drew)); exact HO_5.out)); (case aS => exact (below_size (by repeat (first | (with_reducible first | exact HB.out | apply below_alloc | apply pw_below_drewN | apply below_drew1) | exact HB.out)))); (case aL => have := LMc19.out; omega); intro v127 w20 ho hb hg hat; rw [← Ny126.out] at ho; have n0_ := Aside0.mk (hb); have n1_ := Aside0.mk (ho); clear HB; clear HO_5; have HB := n0_; have HO128 := n1_; clear n0_ n1_; clear ho hb hg hat))
                        go_roundg k2
                        case measure => have := HJ1.out; have := HK2.out; omega
                        case rel => exact ⟨(y126), (wrap64 (x6_2 + 1)), (by first | rfl | (simp; done) | (simp [*]; done)), H', ⟨by have := HJ1.out; have := HK2.out; omega⟩, ⟨by (with_reducible repeat (first | apply Kd.R_alloc | apply Kd.R_drewN | apply Kd.R_drew)); exact HO128.out⟩, ⟨by repeat (first | (with_reducible first | exact HB.out | apply below_alloc | apply pw_below_drewN | apply below_drew1) | exact HB.out)⟩⟩
                      · rw [if_neg c19] at H
                        exact absurd H (by simp)
                    · replace c18 := Bool.eq_false_iff.mpr c18
                      subst c18
                      have H1 : (some ((⟨#[]⟩ : ByteArray), 0, 5)) = some (r1, r2, r3) := by rw [if_neg (show ¬ (false = true) by decide)] at H; exact H
                      clear H
                      have H := H1
                      clear H1
                      simp only [Option.some.injEq, Prod.mk.injEq] at H
                      obtain ⟨rfl, rfl, rfl⟩ := H
                      have p9 : 0 ≤ (x6_2 : Int) := of_decide_eq_true (by first | (with_reducible assumption) | assumption)
                      have q9 : x6_2 < (a0.size : Int) := of_decide_eq_true (by first | (with_reducible assumption) | assumption)
                      have hx9 := bt_at a0 x6_2
                      replace p9 := eq_true p9
                      replace q9 := eq_true q9
                      go_wp2_with (first | ((with_reducible refine gate_callee (f := 54) rfl ?_); refine goesL_ (some 47) rfl rfl Tryz.func54 (by kernel_rfl) rfl #[.int .u8 (bt a0 x6_2)] rfl (by (try simp only [List.map_toArray, List.map_cons, List.map_nil]); first | done | rfl | (simp only [List.length_drop, List.length_take]; rfl)) ?_; (with_reducible refine (text_plain.calls (bt a0 x6_2) false _ A17.out).mono ?_); rintro e w' ⟨rfl, ⟨nd, rfl⟩⟩; refine ⟨_, rfl, ?_⟩))
                      go_ret3
                      exact ⟨by first | rfl | (simp [errW_none, errW_some] <;> rfl) | (simp [*, errW_none, errW_some] <;> rfl) | (simp [ne_nil_b]; done) | (simp [*, ne_nil_b]; done), by repeat (first | (with_reducible first | exact HB.out | apply below_alloc | apply pw_below_drewN | apply below_drew1) | exact HB.out)⟩
              · rw [if_neg c8] at H
                exact absurd H (by simp)
            · rw [if_neg c7] at H
              have c7b0 : decide (x6_2 < (a0.size : Int)) = false := decide_eq_false c7
              clear c7
              simp only [Option.some.injEq, Prod.mk.injEq] at H
              obtain ⟨rfl, rfl, rfl⟩ := H
              go_wp2
              go_ret3
              exact ⟨by first | rfl | (simp [errW_none, errW_some] <;> rfl) | (simp [*, errW_none, errW_some] <;> rfl) | (simp [ne_nil_b]; done) | (simp [*, ne_nil_b]; done), by repeat (first | (with_reducible first | exact HB.out | apply below_alloc | apply pw_below_drewN | apply below_drew1) | exact HB.out)⟩

end Go.Proofs.YtmhcdigneamgdaaGreatDoor.Qa

namespace Go.Proofs.YtmhcdigneamgdaaGreatDoor.Qa
open Go.RowKit Go.Proofs.YtmhcdigneamgdaaGreatDoor.G Go.Proofs.YtmhcdigneamgdaaGreatDoorW.PrintWords Go.Proofs.YtmhcdigneamgdaaGreatDoorW.PrintLast Go.Proofs.YtmhcdigneamgdaaGreatDoorW.PrintMore
attribute [local go_sem] max2_int min2_int max_two min_two max_three min_three max_four min_four   -- for this text's walks alone
set_option linter.unusedVariables false
set_option linter.unusedSimpArgs false

end Go.Proofs.YtmhcdigneamgdaaGreatDoor.Qa

/- Plain law: text.Split, as printed, gives the parts between bytes c. -/
namespace Go.Proofs.YtmhcdigneamgdaaGreatDoor.G
open Go.RowKit Go.Proofs.YtmhcdigneamgdaaGreatDoorW.PrintWords Go.Proofs.YtmhcdigneamgdaaGreatDoor.Qa
set_option linter.unusedVariables false

theorem mkB_data (l : List UInt8) : (⟨l.toArray⟩ : ByteArray).data.toList = l := rfl
theorem mkB_size (l : List UInt8) : (⟨l.toArray⟩ : ByteArray).size = l.length := by rw [Lib.size_eq]
theorem eq_mkB (s : ByteArray) : s = ⟨s.data.toList.toArray⟩ := (Lib.mk_data s).symm
/-- Where a byte stands first. -/
theorem indexByte_cases (c : UInt8) : ∀ l : List UInt8, (Lib.indexByte l c = -1 ∧ Sp.splitL c l = [l]) ∨
    ∃ k : Nat, k < l.length ∧ Lib.indexByte l c = k ∧ Sp.splitL c l = l.take k :: Sp.splitL c (l.drop (k + 1))
  | [] => .inl ⟨rfl, rfl⟩
  | b :: l => by
    simp only [Lib.indexByte, Sp.splitL]
    by_cases h : b = c
    · subst h
      exact .inr ⟨0, by simp, by simp, by simp⟩
    · have hb : (b == c) = false := by simpa using h
      rw [if_neg h, hb]
      rcases indexByte_cases c l with ⟨h1, h2⟩ | ⟨k, hk, h1, h2⟩
      · left
        rw [h1, h2]
        simp
      · right
        refine ⟨k + 1, by simp; omega, ?_, ?_⟩
        · rw [h1]
          have : ((k : Int) == -1) = false := by rw [beq_eq_false_iff_ne]; omega
          simp [this]
        · rw [h2]
          simp
theorem take_ext (l : List UInt8) (k : Nat) : (⟨l.toArray⟩ : ByteArray).extract 0 k = ⟨(l.take k).toArray⟩ := by rw [Lib.extract_eq]; simp
theorem drop_ext (l : List UInt8) (k : Nat) : (⟨l.toArray⟩ : ByteArray).extract k l.length = ⟨(l.drop k).toArray⟩ := by
  rw [Lib.extract_eq]
  congr 1
  rw [mkB_data, List.take_of_length_le (by simp)]
theorem byte_id (c : UInt8) : ((c.toNat : Int)).toNat.toUInt8 = c := by simp

theorem split_l0 (c : UInt8) (n : Nat) : ∀ (l : List UInt8) (acc : List ByteArray) (k : Nat), l.length ≤ n → n < k → acc.length + l.length < 8796093022208 → l.length ≤ 4294967280 →
    text_Split.l0 k ⟨l.toArray⟩ (c.toNat : Int) acc = some (acc ++ (Sp.splitL c l).map fun p => ⟨p.toArray⟩) := by
  induction n with
  | zero =>
    intro l acc k hl hk ha hs
    obtain ⟨k, rfl⟩ : ∃ m, k = m + 1 := ⟨k - 1, by omega⟩
    have : l = [] := List.eq_nil_of_length_eq_zero (by omega)
    subst this
    simp only [text_Split.l0, strings_IndexByte.f, byte_id, mkB_data, Option.bind_some, Lib.indexByte]
    rw [if_pos (by decide), if_pos (by simpa using ha)]
    rfl
  | succ n ih =>
    intro l acc k hl hk ha hs
    obtain ⟨k, rfl⟩ : ∃ m, k = m + 1 := ⟨k - 1, by omega⟩
    simp only [text_Split.l0, strings_IndexByte.f, byte_id, mkB_data, Option.bind_some]
    rcases indexByte_cases c l with ⟨h1, h2⟩ | ⟨i, hi, h1, h2⟩
    · rw [h1, if_pos (by decide), if_pos (by omega), h2]
      rfl
    · have hw : wrap64 ((i : Int) + 1) = ((i + 1 : Nat) : Int) := by unfold wrap64; omega
      rw [h1, if_neg (by omega), if_pos (by omega), if_pos (by rw [mkB_size]; omega), if_pos (by omega), hw, if_pos (by omega), if_pos (by rw [mkB_size]; omega), mkB_size]
      simp only [Int.toNat_natCast]
      rw [take_ext, drop_ext, ih _ _ k (by simp; omega) (by omega) (by simp; omega) (by simp; omega), h2]
      simp

theorem text_Split_eq (s : ByteArray) (c : UInt8) (hs : s.size ≤ 4294967280) : text_Split.f (s.size + 1) s (c.toNat : Int) = some ((Sp.splitL c s.data.toList).map fun p => ⟨p.toArray⟩) := by
  unfold text_Split.f
  have h := split_l0 c s.data.toList.length s.data.toList [] (s.size + 1) (Nat.le_refl _) (by rw [← Lib.size_eq]; omega) (by rw [← Lib.size_eq]; simp; omega) (by rw [← Lib.size_eq]; exact hs)
  rw [Lib.mk_data] at h
  simpa using h
end Go.Proofs.YtmhcdigneamgdaaGreatDoor.G

/- Walks of text.Atom and text.DotAtom, with their closures. -/
namespace Go.Proofs.YtmhcdigneamgdaaGreatDoor.G
open Go.RowKit Go.Proofs.YtmhcdigneamgdaaGreatDoorW.PrintWords Go.Proofs.YtmhcdigneamgdaaGreatDoor.Qa
set_option linter.unusedVariables false

def ints0 (l : List UInt8) : List Int := l.map fun b => (b.toNat : Int)
theorem atom_bits : ∀ c : Fin 128, (bits .and .u32 (([0, 2751442170, 3355443198, 2147483647] : List Int).getD (c.val / 32) 0 / 2 ^ (c.val % 32)) 1 == 1) = Sp.atomB (UInt8.ofNat c.val) := by decide +kernel

set_option maxHeartbeats 4000000 in
set_option maxRecDepth 100000 in
theorem atomic_calls (b : UInt8) (w : World) (hG : Glob w) :
    Calls Tryz.prog 98 #[.int .u8 b.toNat] w fun e w' => e = .returned (.bool (Sp.atomB b)) ∧ Below w.heap.size w w' := by
  have hb := b.toNat_lt
  by_cases h : b.toNat < 128
  · have hc := hG.atext (b.toNat / 32) (by omega)
    have HX := Aside0.mk (show (bits .and .u32 (([0, 2751442170, 3355443198, 2147483647] : List Int).getD (b.toNat / 32) 0 / 2 ^ (b.toNat % 32)) 1 == 1) = Sp.atomB b by
      have := atom_bits ⟨b.toNat, h⟩
      simpa using this)
    generalize hr : Sp.atomB b = r at HX
    generalize b.toNat = c at hc h hb HX
    generalize hi : ([0, 2751442170, 3355443198, 2147483647] : List Int).getD (c / 32) 0 = X at hc HX
    clear hG hi hr
    go_enter Tryz.func98, Tryz.ntmps98
    go_wp2
    go_ret
    exact ⟨by rw [← HX.out]; rfl, Below.refl _ _⟩
  · have hr : Sp.atomB b = false := by unfold Sp.atomB; simp [h]
    rw [hr]
    generalize b.toNat = c at h hb
    clear hr hG
    have h2 : 128 ≤ c := by omega
    clear h
    go_enter Tryz.func98, Tryz.ntmps98
    go_wp2
    go_ret
    exact ⟨rfl, Below.refl _ _⟩

theorem notAtomic_calls (x : Int) (w : World) (hx : ∃ b : UInt8, x = (b.toNat : Int)) (hG : Glob w) :
    Calls Tryz.prog 97 #[.int .u8 x] w fun e w' => e = .returned (.bool (!Sp.atomB x.toNat.toUInt8)) ∧ Below w.heap.size w w' := by
  obtain ⟨b, rfl⟩ := hx
  rw [byte_id]
  have hcon := atomic_calls b w hG
  generalize Sp.atomB b = r at hcon
  generalize (b.toNat : Int) = c at hcon
  clear hG
  go_enter Tryz.func97, Tryz.ntmps97
  go_wp2_with (go_at_call 98; refine hcon.mono ?_; rintro e w' ⟨rfl, hb'⟩)
  go_ret
  exact ⟨rfl, hb'⟩

theorem any_not_all (l : List UInt8) : ((ints0 l).any fun x => !Sp.atomB x.toNat.toUInt8) = !(l.all Sp.atomB) := by
  induction l with
  | nil => rfl
  | cons a l ih =>
    simp only [ints0, List.map_cons, List.any_cons, List.all_cons, Bool.not_and] at ih ⊢
    rw [ih, byte_id]

set_option maxHeartbeats 4000000 in
set_option maxRecDepth 100000 in
theorem text_Atom_calls (a0 : ByteArray) (w : World) (hs : a0.size ≤ 9223372036854775807) (hG : Glob w) :
    Calls Tryz.prog 76 #[.string a0] w fun e w' => e = .returned (.bool (Sp.atomL a0.data.toList)) ∧ Below w.heap.size w w' := by
  by_cases h0 : a0.toList = []
  · have hr : Sp.atomL a0.data.toList = false := by rw [Lib.toList_data] at h0; rw [h0]; rfl
    have h0b : (!a0.toList.isEmpty) = false := by rw [h0]; rfl
    rw [hr]
    clear hr hG
    go_enter Tryz.func76, Tryz.ntmps76
    go_wp2
    go_ret
    exact ⟨rfl, Below.refl _ _⟩
  · have h0b : (!a0.toList.isEmpty) = true := by simpa using h0
    have hr : Sp.atomL a0.data.toList = !(!(a0.data.toList.all Sp.atomB)) := by
      rw [Lib.toList_data] at h0
      unfold Sp.atomL
      generalize a0.data.toList = l at h0
      rw [Bool.not_not]
      have : l.isEmpty = false := by simpa using h0
      rw [this]
      rfl
    rw [hr, ← any_not_all]
    have kb := fun W => print_bytes (P := Tryz.prog) 9 55 5 Tryz.underlying9 Tryz.underlying55 Tryz.underlying5 a0 W
    have hC := Kd.C_of_reads (d := (0 : Int)) (h1 := fun _ => rfl) (bytes_reads w 5 a0 hs)
    have hB := bytes_below (Below.refl w.heap.size w) (Nat.le_refl _) 5 a0
    have hlen := bytesOf_length a0
    rw [← hlen] at hC
    have hcon := conFunc_byte (fun x => !Sp.atomB x.toNat.toUInt8) 97 #[] (enters_of Tryz.func97 (by kernel_rfl) rfl) _ (grownCap w a0.size 0 5) (bytesOf a0) _ hC (fun W x hx hb => by
      obtain ⟨b, _, rfl⟩ := List.mem_map.1 hx
      exact (notAtomic_calls _ W ⟨b, rfl⟩ ((hG.below hB).below hb)).mono fun e w' ⟨he, hb2⟩ => ⟨he, hb.trans (hb2.mono hb.size)⟩)
    rw [hlen] at hcon
    have hx : bytesOf a0 = ints0 a0.data.toList := rfl
    rw [hx] at hcon
    generalize ((ints0 a0.data.toList).any fun x => !Sp.atomB x.toNat.toUInt8) = r at hcon
    have HB := Aside0.mk hB
    have kb' := kb w
    have HCON := Aside0.mk hcon
    clear hcon hC hx hlen kb hG hr hB h0
    generalize Lib.bytesWorld w 5 a0 = W at kb' HCON HB
    generalize grownCap w a0.size 0 5 = C at kb' HCON
    go_enter Tryz.func76, Tryz.ntmps76
    go_wp2_with (go_at_call 70; refine HCON.out.mono ?_; rintro e w' ⟨rfl, hb'⟩)
    go_ret
    exact ⟨rfl, HB.out.trans (hb'.mono HB.out.size)⟩

theorem notAtom_calls (x : ByteArray) (w : World) (hs : x.size ≤ 9223372036854775807) (hG : Glob w) :
    Calls Tryz.prog 75 #[.string x] w fun e w' => e = .returned (.bool (!Sp.atomL x.data.toList)) ∧ Below w.heap.size w w' := by
  have hcon := text_Atom_calls x w hs hG
  generalize Sp.atomL x.data.toList = r at hcon
  clear hG hs
  go_enter Tryz.func75, Tryz.ntmps75
  go_wp2_with (go_at_call 76; refine hcon.mono ?_; rintro e w' ⟨rfl, hb'⟩)
  go_ret
  exact ⟨rfl, hb'⟩

theorem any_not_all_atoms (l : List (List UInt8)) : ((l.map fun p => (⟨p.toArray⟩ : ByteArray)).any fun x => !Sp.atomL x.data.toList) = !(l.all Sp.atomL) := by
  induction l with
  | nil => rfl
  | cons a l ih =>
    simp only [List.map_cons, List.any_cons, List.all_cons, Bool.not_and, ih]

def text_DotAtom.f (a0 : ByteArray) : Option Bool := if a0.size ≤ 4294967280 then some (Sp.dotAtomL a0.data.toList) else none
theorem splitL_len (c : UInt8) : ∀ l : List UInt8, ∀ p ∈ Sp.splitL c l, p.length ≤ l.length
  | [], p, h => by simp [Sp.splitL] at h; simp [h]
  | b :: l, p, h => by
    have ih := splitL_len c l
    simp only [Sp.splitL] at h
    split at h
    · rcases List.mem_cons.1 h with rfl | h
      · simp
      · have := ih p h
        simp
        omega
    · split at h
      · simp at h
        simp [h]
      · rename_i q ps hq
        rw [hq] at ih
        rcases List.mem_cons.1 h with rfl | h
        · have := ih q (by simp)
          simp
          omega
        · have := ih p (by simp [h])
          simp
          omega

set_option maxHeartbeats 4000000 in
set_option maxRecDepth 100000 in
theorem text_DotAtom.calls (a0 : ByteArray) (r : Bool) (w : World) (h : text_DotAtom.f a0 = some r) (hG : Glob w) :
    Calls Tryz.prog 48 #[.string a0] w fun e w' => e = .returned (.bool r) ∧ Below w.heap.size w w' := by
  unfold text_DotAtom.f at h
  split at h
  · rename_i hs
    obtain rfl := Option.some.inj h
    clear h
    have hr : Sp.dotAtomL a0.data.toList = !(!((Sp.splitL 46 a0.data.toList).all Sp.atomL)) := by unfold Sp.dotAtomL; simp
    rw [hr, ← any_not_all_atoms]
    have hsp := text_Split_eq a0 46 hs
    have hlen : ∀ x ∈ ((Sp.splitL 46 a0.data.toList).map fun p => (⟨p.toArray⟩ : ByteArray)), x.size ≤ 9223372036854775807 := fun x hx => by
      obtain ⟨p, hp, rfl⟩ := List.mem_map.1 hx
      rw [mkB_size]
      have := splitL_len 46 _ p hp
      rw [← Lib.size_eq] at this
      omega
    generalize ((Sp.splitL 46 a0.data.toList).map fun p => (⟨p.toArray⟩ : ByteArray)) = xs at hsp hlen
    have hsp' : text_Split.f (a0.size + 1) a0 46 = some xs := hsp
    have HSP := Aside0.mk hsp'
    clear hsp hsp' hr
    have HCON := Aside0.mk (fun (W : World) (Ad : Option Addr) (c : Nat) (hW : Below w.heap.size w W) (hC : Kd.string.C W Ad xs.length xs) =>
      conFunc_str (fun x => !Sp.atomL x.data.toList) 75 #[] (enters_of Tryz.func75 (by kernel_rfl) rfl) Ad c xs W hC (fun W2 x hx hb =>
        (notAtom_calls x W2 (hlen x hx) ((hG.below hW).below hb)).mono fun e w' ⟨he, hb2⟩ => ⟨he, hb.trans (hb2.mono hb.size)⟩))
    clear hlen hG
    generalize (xs.any fun x => !Sp.atomL x.data.toList) = r at HCON
    go_enter Tryz.func48, Tryz.ntmps48
    go_wp2_with (first | (go_at_call 40; (with_reducible refine (text_Split.calls (a0.size + 1) a0 46 xs _ HSP.out).mono ?_); rintro e w1 ⟨v0, rfl, hR, hb1⟩; obtain ⟨Ad, c, rfl, _, hC⟩ := Kd.R_reads hR; have HC := Aside0.mk hC; have HB1 := Aside0.mk hb1; clear hR hC hb1) | (go_at_call 74; refine (HCON.out _ _ _ HB1.out HC.out).mono ?_; rintro e w2 ⟨rfl, hb2⟩; have HB2 := Aside0.mk hb2; clear hb2))
    go_ret
    exact ⟨rfl, HB1.out.trans (HB2.out.mono HB1.out.size)⟩
  · cases h
end Go.Proofs.YtmhcdigneamgdaaGreatDoor.G

/- Plain laws: strings.Split at one byte; addr.octet and addr.label as printed. -/
namespace Go.Proofs.YtmhcdigneamgdaaGreatDoor.G
open Go.RowKit Go.Proofs.YtmhcdigneamgdaaGreatDoorW.PrintWords Go.Proofs.YtmhcdigneamgdaaGreatDoor.Qa
set_option linter.unusedVariables false

theorem splitB_one (c : UInt8) : ∀ (k : Nat) (l : List UInt8), k = Lib.count l [c] → Lib.splitB ⟨#[c]⟩ 0 k ⟨l.toArray⟩ = (Sp.splitL c l).map fun p => ⟨p.toArray⟩
  | k, l, hk => by
    have hidx : Lib.indexB ⟨l.toArray⟩ ⟨#[c]⟩ = Lib.indexByte l c := by
      show Lib.index l [c] = _
      exact Lib.index_one l c
    rcases indexByte_cases c l with ⟨h1, h2⟩ | ⟨i, hi, h1, h2⟩
    · rw [Lib.splitB_miss _ _ _ _ (by rw [hidx, h1]), h2]
      rfl
    · have hc : Lib.count l [c] = 1 + Lib.count (l.drop (i + 1)) [c] := by
        have := Lib.count_hit (s := l) (sub := [c]) (i := i) (by simp) (by rw [Lib.index_one, h1])
        simpa using this
      obtain ⟨m, rfl⟩ : ∃ m, k = m + 1 := ⟨k - 1, by omega⟩
      rw [Lib.splitB_hit _ _ _ _ i (by rw [hidx, h1]), h2]
      have h3 : (⟨l.toArray⟩ : ByteArray).extract (i + (⟨#[c]⟩ : ByteArray).size) (⟨l.toArray⟩ : ByteArray).size = ⟨(l.drop (i + 1)).toArray⟩ := by
        rw [mkB_size]
        exact drop_ext l (i + 1)
      rw [Nat.add_zero, take_ext, h3, splitB_one c m (l.drop (i + 1)) (by omega)]
      rfl
  termination_by _ l => l.length
theorem strings_Split_one (s : ByteArray) (c : UInt8) (hs : s.size ≤ 4294967280) : strings_Split.f s ⟨#[c]⟩ = some ((Sp.splitL c s.data.toList).map fun p => ⟨p.toArray⟩) := by
  unfold strings_Split.f
  rw [if_pos ⟨by omega, by simp [ByteArray.size]⟩]
  congr 1
  have := splitB_one c _ s.data.toList rfl
  rw [Lib.mk_data] at this
  exact this

theorem addr_octet_eq (s : ByteArray) (hs : s.size ≤ 4294967280) : addr_octet.f s = some (Sp.octetL s.data.toList) := by
  unfold addr_octet.f text_Number.f Sp.octetL
  rw [if_pos ⟨hs, by decide, by decide⟩]
  simp only [Option.bind_some]
  cases hn : Sp.numOk s.data.toList 3
  · simp
  · simp only [if_true]
    by_cases hl : Sp.numL s.data.toList < 256
    · rw [if_pos (by omega)]
      unfold strconv_Itoa.f
      rw [if_pos (by omega)]
      simp only [Option.bind_some, decide_eq_true hl, Bool.and_true, Bool.true_and]
      congr 1
      rw [Lib.toList_data, Lib.toList_data]
    · rw [if_neg (by omega)]
      simp [hl]
theorem trim_nil_iff (l cs : List UInt8) : (Lib.trimS l cs = []) = (l.all (cs.contains ·) = true) := by
  rw [List.all_eq_true]
  exact propext (trimS_nil l cs)
theorem bt_mk (l : List UInt8) (i : Nat) (h : i < l.length) : bt ⟨l.toArray⟩ (i : Int) = ((l[i]).toNat : Int) := by
  unfold bt
  rw [dif_pos (by rw [mkB_size]; simpa using h)]
  rfl
theorem addr_label_eq (s : ByteArray) (hs : s.size ≤ 4294967280) : addr_label.f s = some (Sp.labelL s.data.toList) := by
  rw [eq_mkB s]
  have hs' : s.data.toList.length ≤ 4294967280 := by rw [← Lib.size_eq]; exact hs
  generalize s.data.toList = l at hs' ⊢
  unfold addr_label.f
  rw [Lib.toList_data, mkB_data, mkB_size]
  cases l with
  | nil => rfl
  | cons b m =>
    rw [if_neg (by simp)]
    unfold strings_Trim.f
    rw [if_pos ⟨by rw [mkB_size]; omega, by decide, by decide +kernel⟩]
    simp only [Option.bind_some]
    have he : ((⟨(Lib.trimS (⟨(b :: m).toArray⟩ : ByteArray).data.toList (⟨#[97, 98, 99, 100, 101, 102, 103, 104, 105, 106, 107, 108, 109, 110, 111, 112, 113, 114, 115, 116, 117, 118, 119, 120, 121, 122, 65, 66, 67, 68, 69, 70, 71, 72, 73, 74, 75, 76, 77, 78, 79, 80, 81, 82, 83, 84, 85, 86, 87, 88, 89, 90, 48, 49, 50, 51, 52, 53, 54, 55, 56, 57, 45]⟩ : ByteArray).data.toList).toArray⟩ : ByteArray).toList = []) = ((b :: m).all (Sp.hosts.contains ·) = true) := by
      rw [Lib.toList_data]
      exact trim_nil_iff (b :: m) Sp.hosts
    simp only [he]
    have hb0 : bt ⟨(b :: m).toArray⟩ 0 = (b.toNat : Int) := bt_mk (b :: m) 0 (by simp)
    have hw : wrap64 (((b :: m).length : Int) - 1) = ((m.length : Nat) : Int) := by unfold wrap64; simp at hs' ⊢; omega
    have hbl : bt ⟨(b :: m).toArray⟩ ((m.length : Nat) : Int) = (((b :: m)[m.length]'(by simp)).toNat : Int) := bt_mk (b :: m) m.length (by simp)
    have hlast : (b :: m).getLastD 0 = (b :: m)[m.length]'(by simp) := by
      rw [List.getLastD_eq_getLast?, List.getLast?_eq_getElem?]
      simp
    rw [hw, hb0, hbl]
    unfold Sp.labelL
    rw [hlast]
    generalize (b :: m)[m.length]'(by simp) = z
    have e45 : ∀ x : UInt8, ((x.toNat : Int) = 45) = (x = 45) := fun x => by
      rw [eq_iff_iff]
      constructor
      · intro h
        exact UInt8.toNat_inj.1 (by simpa using (by omega : x.toNat = 45))
      · rintro rfl
        rfl
    cases ha : (b :: m).all (Sp.hosts.contains ·)
    · simp
    · simp only [if_true]
      by_cases hb : b = 45
      · rw [if_pos (by simp), if_pos (by rw [hb]; rfl)]
        simp [hb]
      · have hzz : ((z.toNat : Int) != 45) = !(z == 45) := by
          rw [bne]
          congr 1
          rw [Bool.eq_iff_iff, beq_iff_eq, beq_iff_eq, e45]
        rw [if_pos (by simp), if_neg (by rw [e45]; exact hb), if_pos (by omega), if_pos (by simp; omega), hzz]
        simp [hb]
end Go.Proofs.YtmhcdigneamgdaaGreatDoor.G

/- Walk of addr.domain, with its closures. -/
namespace Go.Proofs.YtmhcdigneamgdaaGreatDoor.G
open Go.RowKit Go.Proofs.YtmhcdigneamgdaaGreatDoorW.PrintWords Go.Proofs.YtmhcdigneamgdaaGreatDoor.Qa
set_option linter.unusedVariables false

set_option maxHeartbeats 4000000 in
/-- The closure that says no to a part: it calls the function value that it captured. -/
theorem notIs_calls (g : Nat) (eg : ∀ args w, (callFunc g args).run Tryz.prog w = .ok (.enter g args) w) (b : Bool) (x : ByteArray) (B : Nat) (w : World) (hc : w.cell? ⟨B, 0, none⟩ = some (.func (.func g) #[] #[]))
    (hcon : Calls Tryz.prog g #[.string x] w fun e w' => e = .returned (.bool b) ∧ Below w.heap.size w w') :
    Calls Tryz.prog 83 #[.string x, .pointer (some ⟨B, 0, none⟩)] w fun e w' => e = .returned (.bool (!b)) ∧ Below w.heap.size w w' := by
  go_enter Tryz.func83, Tryz.ntmps83
  go_wp2_with (go_at_fn g; refine hcon.mono ?_; rintro e w' ⟨rfl, hb'⟩)
  go_ret
  exact ⟨rfl, hb'⟩

theorem any_not {α : Type} (p : α → Bool) (l : List α) : (l.any fun x => !p x) = !(l.all p) := by
  induction l with
  | nil => rfl
  | cons a l ih => simp only [List.any_cons, List.all_cons, Bool.not_and, ih]
theorem all_mk (p : List UInt8 → Bool) (l : List (List UInt8)) : ((l.map fun q => (⟨q.toArray⟩ : ByteArray)).all fun x => p x.data.toList) = l.all p := by
  induction l with
  | nil => rfl
  | cons a l ih => simp only [List.map_cons, List.all_cons, ih]

set_option maxHeartbeats 8000000 in
set_option maxRecDepth 100000 in
/-- all(s, is): whether each part of s is so. -/
theorem allParts_calls (p : List UInt8 → Bool) (g : Nat) (eg : ∀ args w, (callFunc g args).run Tryz.prog w = .ok (.enter g args) w) (s : ByteArray) (w : World) (hs : s.size ≤ 4294967280) (hG : Glob w)
    (hp : ∀ (W : World) (x : ByteArray), x.size ≤ s.size → Below w.heap.size w W → Calls Tryz.prog g #[.string x] W fun e w' => e = .returned (.bool (p x.data.toList)) ∧ Below W.heap.size W w') :
    Calls Tryz.prog 81 #[.string s, .func (.func g) #[] #[]] w fun e w' => e = .returned (.bool ((Sp.splitL 46 s.data.toList).all p)) ∧ Below w.heap.size w w' := by
  rw [← all_mk]
  have hsp := strings_Split_one s 46 hs
  have hlen : ∀ x ∈ ((Sp.splitL 46 s.data.toList).map fun p => (⟨p.toArray⟩ : ByteArray)), x.size ≤ s.size := fun x hx => by
    obtain ⟨p, hp, rfl⟩ := List.mem_map.1 hx
    rw [mkB_size]
    have := splitL_len 46 _ p hp
    rw [← Lib.size_eq] at this
    exact this
  generalize ((Sp.splitL 46 s.data.toList).map fun p => (⟨p.toArray⟩ : ByteArray)) = xs at hsp hlen
  have hr : (xs.all fun x => p x.data.toList) = !(xs.any fun x => !p x.data.toList) := by rw [any_not (fun x => p x.data.toList) xs, Bool.not_not]
  rw [hr]
  have HSP := Aside0.mk hsp
  have hB0 : Below w.heap.size w (w.alloc (.cells #[.func (.func g) #[] #[]] 61)) := below_alloc (Below.refl _ _) _
  have HG := Aside0.mk (hG.below hB0)
  have HCON := Aside0.mk (fun (W : World) (Ad : Option Addr) (c : Nat) (hW : Below w.heap.size w W) (hlt : w.heap.size < W.heap.size) (hcell : W.cell? ⟨w.heap.size, 0, none⟩ = some (.func (.func g) #[] #[])) (hC : Kd.string.C W Ad xs.length xs) =>
    conFunc_str (fun x => !p x.data.toList) 83 #[.pointer (some ⟨w.heap.size, 0, none⟩)] (enters_of Tryz.func83 (by kernel_rfl) rfl) Ad c xs W hC (fun W2 x hx hb =>
      (notIs_calls g eg (p x.data.toList) x w.heap.size W2 ((hb.cell (p := ⟨w.heap.size, 0, none⟩) hlt).trans hcell) (hp W2 x (hlen x hx) (hW.trans (hb.mono hW.size)))).mono fun e w' ⟨he, hb2⟩ => ⟨he, hb.trans (hb2.mono hb.size)⟩))
  clear hlen hG hp hr hsp hB0
  generalize (xs.any fun x => !p x.data.toList) = r at HCON
  go_enter Tryz.func81, Tryz.ntmps81
  go_wp2_with (first | (go_at_call 82; (with_reducible refine (strings_Split.calls s ⟨#[46]⟩ xs _ HSP.out HG.out).mono ?_); rintro e w1 ⟨v0, rfl, hR, hb1⟩; obtain ⟨Ad, c, rfl, _, hC⟩ := Kd.R_reads hR; have HC := Aside0.mk hC; have hcl := (hb1.cell (p := ⟨w.heap.size, 0, none⟩) (by simp)).trans (show (w.alloc (.cells #[.func (.func g) #[] #[]] 61)).cell? ⟨w.heap.size, 0, none⟩ = some (.func (.func g) #[] #[]) by simp); have HCL := Aside0.mk hcl; have HB1 := Aside0.mk ((below_alloc (Below.refl w.heap.size w) (.cells #[.func (.func g) #[] #[]] 61)).trans (hb1.mono (by simp))); have HLT := Aside0.mk (show w.heap.size < w1.heap.size by have := hb1.size; simp at this; omega); clear hR hC hb1 hcl) | (go_at_call 74; refine (HCON.out _ _ _ HB1.out HLT.out HCL.out HC.out).mono ?_; rintro e w2 ⟨rfl, hb2⟩; have HB2 := Aside0.mk hb2; clear hb2))
  go_ret
  exact ⟨rfl, HB1.out.trans (HB2.out.mono HB1.out.size)⟩

/-- The three that it is asked with. -/
theorem octet_is (s : ByteArray) (w : World) (hs : s.size ≤ 4294967280) (hG : Glob w) (W : World) (x : ByteArray) (hx : x.size ≤ s.size) (hb : Below w.heap.size w W) :
    Calls Tryz.prog 86 #[.string x] W fun e w' => e = .returned (.bool (Sp.octetL x.data.toList)) ∧ Below W.heap.size W w' :=
  addr_octet.calls x _ W (addr_octet_eq x (by omega)) (hG.below hb)
theorem label_is (s : ByteArray) (w : World) (hs : s.size ≤ 4294967280) (W : World) (x : ByteArray) (hx : x.size ≤ s.size) :
    Calls Tryz.prog 87 #[.string x] W fun e w' => e = .returned (.bool (Sp.labelL x.data.toList)) ∧ Below W.heap.size W w' :=
  addr_label.calls x _ W (addr_label_eq x (by omega))
theorem short_is (s : ByteArray) (hs : s.size ≤ 4294967280) (W : World) (x : ByteArray) (hx : x.size ≤ s.size) :
    Calls Tryz.prog 88 #[.string x] W fun e w' => e = .returned (.bool (decide (x.data.toList.length ≤ 63))) ∧ Below W.heap.size W w' := by
  have hr : decide (x.data.toList.length ≤ 63) = decide ((x.size : Int) ≤ 63) := by
    rw [← Lib.size_eq, decide_eq_decide]
    omega
  rw [hr]
  go_enter Tryz.func88, Tryz.ntmps88
  go_wp2
  go_ret
  exact ⟨rfl, Below.refl _ _⟩
end Go.Proofs.YtmhcdigneamgdaaGreatDoor.G

/- Plain laws: HasPrefix, HasSuffix, CutPrefix, CutSuffix as printed. -/
namespace Go.Proofs.YtmhcdigneamgdaaGreatDoor.G
open Go.RowKit Go.Proofs.YtmhcdigneamgdaaGreatDoorW.PrintWords Go.Proofs.YtmhcdigneamgdaaGreatDoor.Qa
set_option linter.unusedVariables false

theorem HasPrefix_eq (s p : ByteArray) : stringslite_HasPrefix.f s p = some (Lib.hasPrefix s.data.toList p.data.toList) := by
  unfold stringslite_HasPrefix.f
  rw [← Lib.hasPrefix_raw]
  by_cases h : p.size ≤ s.size
  · rw [if_pos (by omega), if_pos (by omega), if_pos (by omega), decide_eq_true h, Int.toNat_natCast]
    rfl
  · rw [if_neg (by omega), decide_eq_false h]
    rfl
theorem HasSuffix_eq (s p : ByteArray) (hs : s.size ≤ 9223372036854775807) : stringslite_HasSuffix.f s p = some (Lib.hasSuffix s.data.toList p.data.toList) := by
  unfold stringslite_HasSuffix.f
  rw [← Lib.hasSuffix_raw]
  by_cases h : p.size ≤ s.size
  · have hw : wrap64 ((s.size : Int) - (p.size : Int)) = ((s.size - p.size : Nat) : Int) := by unfold wrap64; omega
    rw [if_pos (by omega), hw, if_pos (by omega), if_pos (by omega), decide_eq_true h, Int.toNat_natCast]
    rfl
  · rw [if_neg (by omega), decide_eq_false h]
    rfl
theorem CutPrefix_eq (s p : ByteArray) : strings_CutPrefix.f s p = some (if Lib.hasPrefix s.data.toList p.data.toList then (⟨(s.data.toList.drop p.size).toArray⟩, true) else (s, false)) := by
  unfold strings_CutPrefix.f stringslite_CutPrefix.f
  rw [HasPrefix_eq]
  simp only [Option.bind_some]
  cases h : Lib.hasPrefix s.data.toList p.data.toList
  · rfl
  · have hle : p.size ≤ s.size := by
      rw [← Lib.hasPrefix_raw] at h
      simp at h
      exact h.1
    simp only [if_true]
    rw [if_pos (by omega), if_pos (by omega), Int.toNat_natCast]
    simp only [Option.bind_some]
    congr 2
    have := drop_ext s.data.toList p.size
    rw [Lib.mk_data, ← Lib.size_eq] at this
    exact this
theorem CutSuffix_eq (s p : ByteArray) (hs : s.size ≤ 9223372036854775807) : strings_CutSuffix.f s p = some (if Lib.hasSuffix s.data.toList p.data.toList then (⟨(s.data.toList.take (s.size - p.size)).toArray⟩, true) else (s, false)) := by
  unfold strings_CutSuffix.f stringslite_CutSuffix.f
  rw [HasSuffix_eq s p hs]
  simp only [Option.bind_some]
  cases h : Lib.hasSuffix s.data.toList p.data.toList
  · rfl
  · have hle : p.size ≤ s.size := by
      rw [← Lib.hasSuffix_raw] at h
      simp at h
      exact h.1
    have hw : wrap64 ((s.size : Int) - (p.size : Int)) = ((s.size - p.size : Nat) : Int) := by unfold wrap64; omega
    simp only [if_true]
    rw [hw, if_pos (by omega), if_pos (by omega), Int.toNat_natCast]
    simp only [Option.bind_some]
    congr 2
    have := take_ext s.data.toList (s.size - p.size)
    rw [Lib.mk_data] at this
    exact this
theorem hasPrefix_one (c : UInt8) (l : List UInt8) : Lib.hasPrefix l [c] = (l.head? == some c) := by
  cases l with
  | nil => rfl
  | cons a l =>
    simp only [Lib.hasPrefix, List.isPrefixOf, List.head?_cons]
    rw [Bool.and_true, Bool.eq_iff_iff]
    simp
    exact eq_comm
theorem hasSuffix_one (c : UInt8) (l : List UInt8) : Lib.hasSuffix l [c] = (l.getLast? == some c) := by
  simp only [Lib.hasSuffix, List.isSuffixOf, List.reverse_singleton]
  have := hasPrefix_one c l.reverse
  simp only [Lib.hasPrefix] at this
  rw [this, List.head?_reverse]
end Go.Proofs.YtmhcdigneamgdaaGreatDoor.G

/- Walk of addr.domain: what is wrong with a domain. -/
namespace Go.Proofs.YtmhcdigneamgdaaGreatDoor.G
open Go.RowKit Go.Proofs.YtmhcdigneamgdaaGreatDoorW.PrintWords Go.Proofs.YtmhcdigneamgdaaGreatDoor.Qa
set_option linter.unusedVariables false

theorem domL_lit (m : List UInt8) : Sp.domL (91 :: m) = if m.getLast? = some 93 then (if m.dropLast.count 46 = 3 ∧ (Sp.splitL 46 m.dropLast).all Sp.octetL = true then 0 else 5) else 5 := rfl
theorem domL_dns (l : List UInt8) (h : l.head? ≠ some 91) : Sp.domL l = if (Sp.splitL 46 l).all Sp.labelL then (if l.length > 255 ∨ (Sp.splitL 46 l).all (fun p => decide (p.length ≤ 63)) = false then 3 else 0) else 5 := by
  unfold Sp.domL
  split
  · simp at h
  · rfl

set_option maxHeartbeats 8000000 in
set_option maxRecDepth 100000 in
theorem domain_dns (a0 : ByteArray) (w : World) (hs : a0.size ≤ 4294967280) (hG : Glob w) (h : a0.data.toList.head? ≠ some 91) :
    Calls Tryz.prog 55 #[.string a0] w fun e w' => e = .returned (.int .i64 (Sp.domL a0.data.toList)) ∧ Below w.heap.size w w' := by
  rw [domL_dns _ h]
  have hcp := CutPrefix_eq a0 ⟨#[91]⟩
  rw [show (⟨#[91]⟩ : ByteArray).data.toList = [91] from rfl, hasPrefix_one] at hcp
  have hb : (a0.data.toList.head? == some 91) = false := by simpa using h
  rw [hb, if_neg (by decide)] at hcp
  have HCP := Aside0.mk hcp
  clear hcp hb h
  have HL := Aside0.mk (fun (W : World) (hW : Below w.heap.size w W) => allParts_calls Sp.labelL 87 (enters_of Tryz.func87 (by kernel_rfl) rfl) a0 W hs (hG.below hW) (fun W2 x hx hb => label_is a0 W hs W2 x hx))
  have HS := Aside0.mk (fun (W : World) (hW : Below w.heap.size w W) => allParts_calls (fun p => decide (p.length ≤ 63)) 88 (enters_of Tryz.func88 (by kernel_rfl) rfl) a0 W hs (hG.below hW) (fun W2 x hx hb => short_is a0 hs W2 x hx))
  clear hG
  have hsz := Lib.size_eq a0
  rw [← hsz]
  clear hsz
  generalize ((Sp.splitL 46 a0.data.toList).all fun p => decide (p.length ≤ 63)) = s at HS
  generalize (Sp.splitL 46 a0.data.toList).all Sp.labelL = l at HL
  cases l with
  | false =>
    go_enter Tryz.func55, Tryz.ntmps55
    go_wp2_with (first | (go_at_call 27; (with_reducible refine (strings_CutPrefix.calls a0 ⟨#[91]⟩ a0 false _ HCP.out).mono ?_); rintro e w' ⟨rfl, ⟨nd, rfl⟩⟩) | (go_at_call 81; (with_reducible refine (HL.out _ ?hbw).mono ?_); (case hbw => exact pw_below_drewN (Below.refl _ _) _); rintro e w2 ⟨rfl, hb2⟩; have HB2 := Aside0.mk (then_below (pw_below_drewN (Below.refl _ _) _) hb2); clear hb2))
    go_ret
    exact ⟨rfl, HB2.out⟩
  | true =>
    by_cases h255 : (255 : Int) < (a0.size : Int)
    · rw [if_pos rfl, if_pos (.inl (by omega))]
      go_enter Tryz.func55, Tryz.ntmps55
      go_wp2_with (first | (go_at_call 27; (with_reducible refine (strings_CutPrefix.calls a0 ⟨#[91]⟩ a0 false _ HCP.out).mono ?_); rintro e w' ⟨rfl, ⟨nd, rfl⟩⟩) | (go_at_call 81; (with_reducible refine (HL.out _ ?hbw).mono ?_); (case hbw => exact pw_below_drewN (Below.refl _ _) _); rintro e w2 ⟨rfl, hb2⟩; have HB2 := Aside0.mk (then_below (pw_below_drewN (Below.refl _ _) _) hb2); clear hb2))
      go_ret
      exact ⟨rfl, HB2.out⟩
    · have h255' : (a0.size : Int) ≤ 255 := by omega
      have hr : (if a0.size > 255 ∨ s = false then (3 : Int) else 0) = if s = true then 0 else 3 := by
        cases s
        · rw [if_pos (.inr rfl)]; rfl
        · rw [if_neg (by simp; omega)]; rfl
      rw [if_pos rfl, hr]
      clear hr h255
      cases s with
      | false =>
        go_enter Tryz.func55, Tryz.ntmps55
        go_wp2_with (first | (go_at_call 27; (with_reducible refine (strings_CutPrefix.calls a0 ⟨#[91]⟩ a0 false _ HCP.out).mono ?_); rintro e w' ⟨rfl, ⟨nd, rfl⟩⟩) | (go_at_call 81; (with_reducible refine (HL.out _ ?hbw).mono ?_); (case hbw => exact pw_below_drewN (Below.refl _ _) _); rintro e w2 ⟨rfl, hb2⟩; have HB2 := Aside0.mk (then_below (pw_below_drewN (Below.refl _ _) _) hb2); clear hb2) | (go_at_call 81; (with_reducible refine (HS.out _ HB2.out).mono ?_); rintro e w3 ⟨rfl, hb3⟩; have HB3 := Aside0.mk (then_below HB2.out hb3); clear hb3))
        go_ret
        exact ⟨rfl, HB3.out⟩
      | true =>
        go_enter Tryz.func55, Tryz.ntmps55
        go_wp2_with (first | (go_at_call 27; (with_reducible refine (strings_CutPrefix.calls a0 ⟨#[91]⟩ a0 false _ HCP.out).mono ?_); rintro e w' ⟨rfl, ⟨nd, rfl⟩⟩) | (go_at_call 81; (with_reducible refine (HL.out _ ?hbw).mono ?_); (case hbw => exact pw_below_drewN (Below.refl _ _) _); rintro e w2 ⟨rfl, hb2⟩; have HB2 := Aside0.mk (then_below (pw_below_drewN (Below.refl _ _) _) hb2); clear hb2) | (go_at_call 81; (with_reducible refine (HS.out _ HB2.out).mono ?_); rintro e w3 ⟨rfl, hb3⟩; have HB3 := Aside0.mk (then_below HB2.out hb3); clear hb3))
        go_ret
        exact ⟨rfl, HB3.out⟩

set_option maxHeartbeats 8000000 in
set_option maxRecDepth 100000 in
theorem domain_lit (m : List UInt8) (w : World) (hs : m.length + 1 ≤ 4294967280) (hG : Glob w) :
    Calls Tryz.prog 55 #[.string ⟨(91 :: m).toArray⟩] w fun e w' => e = .returned (.int .i64 (Sp.domL (91 :: m))) ∧ Below w.heap.size w w' := by
  rw [domL_lit]
  have hcp := CutPrefix_eq ⟨(91 :: m).toArray⟩ ⟨#[91]⟩
  rw [show (⟨#[91]⟩ : ByteArray).data.toList = [91] from rfl, hasPrefix_one, mkB_data] at hcp
  have hcp2 : strings_CutPrefix.f ⟨(91 :: m).toArray⟩ ⟨#[91]⟩ = some (⟨m.toArray⟩, true) := by rw [hcp]; rfl
  have HCP := Aside0.mk hcp2
  clear hcp hcp2
  have hcs := CutSuffix_eq ⟨m.toArray⟩ ⟨#[93]⟩ (by rw [mkB_size]; omega)
  rw [show (⟨#[93]⟩ : ByteArray).data.toList = [93] from rfl, hasSuffix_one, mkB_data] at hcs
  generalize (⟨(91 :: m).toArray⟩ : ByteArray) = a0 at HCP ⊢
  by_cases hl : m.getLast? = some 93
  · rw [if_pos hl]
    have hb : (m.getLast? == some 93) = true := by simpa using hl
    have hdl : m.take ((⟨m.toArray⟩ : ByteArray).size - (⟨#[93]⟩ : ByteArray).size) = m.dropLast := by
      rw [mkB_size, List.dropLast_eq_take]
      rfl
    rw [hb, if_pos rfl, hdl] at hcs
    have HCS := Aside0.mk hcs
    have hdn : m.dropLast.length ≤ 4294967280 := by rw [List.length_dropLast]; omega
    have hct : strings_Count.f ⟨m.dropLast.toArray⟩ ⟨#[46]⟩ = some ((m.dropLast.count 46 : Nat) : Int) := rfl
    have HCT := Aside0.mk hct
    have HO := Aside0.mk (fun (W : World) (hW : Below w.heap.size w W) => allParts_calls Sp.octetL 86 (enters_of Tryz.func86 (by kernel_rfl) rfl) ⟨m.dropLast.toArray⟩ W (by rw [mkB_size]; exact hdn) (hG.below hW) (fun W2 x hx hb => octet_is ⟨m.dropLast.toArray⟩ W (by rw [mkB_size]; exact hdn) (hG.below hW) W2 x hx hb))
    rw [mkB_data] at HO
    clear hcs hct hb hl hdl hdn hG
    generalize (Sp.splitL 46 m.dropLast).all Sp.octetL = o at HO
    generalize m.dropLast.count 46 = n at HCT
    generalize (⟨m.dropLast.toArray⟩ : ByteArray) = s2 at HCS HCT HO
    generalize (⟨m.toArray⟩ : ByteArray) = s1 at HCP HCS
    by_cases hn : n = 3
    · have hnb : (((n : Nat) : Int) != 3) = false := by subst hn; rfl
      cases o with
      | false =>
        rw [if_neg (by simp)]
        clear hn
        go_enter Tryz.func55, Tryz.ntmps55
        go_wp2_with (first | (go_at_call 27; (with_reducible refine (strings_CutPrefix.calls a0 ⟨#[91]⟩ s1 true _ HCP.out).mono ?_); rintro e w' ⟨rfl, ⟨nd, rfl⟩⟩) | (go_at_call 84; (with_reducible refine (strings_CutSuffix.calls s1 ⟨#[93]⟩ s2 true _ HCS.out).mono ?_); rintro e w' ⟨rfl, ⟨nd, rfl⟩⟩) | (go_at_call 85; (with_reducible refine (strings_Count.calls s2 ⟨#[46]⟩ _ _ HCT.out).mono ?_); rintro e w' ⟨rfl, ⟨nd, rfl⟩⟩) | (go_at_call 81; (with_reducible refine (HO.out _ ?hbw).mono ?_); (case hbw => repeat (first | exact Below.refl _ _ | refine pw_below_drewN ?_ _)); rintro e w2 ⟨rfl, hb2⟩; have HB2 := Aside0.mk (then_below (w := w) (pw_below_drewN (Below.refl w.heap.size w) _) hb2); clear hb2))
        go_ret
        exact ⟨rfl, HB2.out⟩
      | true =>
        rw [if_pos ⟨hn, rfl⟩]
        clear hn
        go_enter Tryz.func55, Tryz.ntmps55
        go_wp2_with (first | (go_at_call 27; (with_reducible refine (strings_CutPrefix.calls a0 ⟨#[91]⟩ s1 true _ HCP.out).mono ?_); rintro e w' ⟨rfl, ⟨nd, rfl⟩⟩) | (go_at_call 84; (with_reducible refine (strings_CutSuffix.calls s1 ⟨#[93]⟩ s2 true _ HCS.out).mono ?_); rintro e w' ⟨rfl, ⟨nd, rfl⟩⟩) | (go_at_call 85; (with_reducible refine (strings_Count.calls s2 ⟨#[46]⟩ _ _ HCT.out).mono ?_); rintro e w' ⟨rfl, ⟨nd, rfl⟩⟩) | (go_at_call 81; (with_reducible refine (HO.out _ ?hbw).mono ?_); (case hbw => repeat (first | exact Below.refl _ _ | refine pw_below_drewN ?_ _)); rintro e w2 ⟨rfl, hb2⟩; have HB2 := Aside0.mk (then_below (w := w) (pw_below_drewN (Below.refl w.heap.size w) _) hb2); clear hb2))
        go_ret
        exact ⟨rfl, HB2.out⟩
    · have hnb : (((n : Nat) : Int) != 3) = true := by rw [bne_iff_ne]; omega
      rw [if_neg (fun h => hn h.1)]
      clear hn
      go_enter Tryz.func55, Tryz.ntmps55
      go_wp2_with (first | (go_at_call 27; (with_reducible refine (strings_CutPrefix.calls a0 ⟨#[91]⟩ s1 true _ HCP.out).mono ?_); rintro e w' ⟨rfl, ⟨nd, rfl⟩⟩) | (go_at_call 84; (with_reducible refine (strings_CutSuffix.calls s1 ⟨#[93]⟩ s2 true _ HCS.out).mono ?_); rintro e w' ⟨rfl, ⟨nd, rfl⟩⟩) | (go_at_call 85; (with_reducible refine (strings_Count.calls s2 ⟨#[46]⟩ _ _ HCT.out).mono ?_); rintro e w' ⟨rfl, ⟨nd, rfl⟩⟩))
      go_ret
      exact ⟨rfl, by repeat (first | exact Below.refl _ _ | refine pw_below_drewN ?_ _)⟩
  · rw [if_neg hl]
    have hb : (m.getLast? == some 93) = false := by simpa using hl
    rw [hb, if_neg (by decide)] at hcs
    have HCS := Aside0.mk hcs
    clear hcs hb hl hG
    generalize (⟨m.toArray⟩ : ByteArray) = s1 at HCP HCS
    go_enter Tryz.func55, Tryz.ntmps55
    go_wp2_with (first | (go_at_call 27; (with_reducible refine (strings_CutPrefix.calls a0 ⟨#[91]⟩ s1 true _ HCP.out).mono ?_); rintro e w' ⟨rfl, ⟨nd, rfl⟩⟩) | (go_at_call 84; (with_reducible refine (strings_CutSuffix.calls s1 ⟨#[93]⟩ s1 false _ HCS.out).mono ?_); rintro e w' ⟨rfl, ⟨nd, rfl⟩⟩))
    go_ret
    exact ⟨rfl, by repeat (first | exact Below.refl _ _ | refine pw_below_drewN ?_ _)⟩

def addr_domain.f (a0 : ByteArray) : Option Int := if a0.size ≤ 4294967280 then some (Sp.domL a0.data.toList) else none
theorem addr_domain.calls (a0 : ByteArray) (r : Int) (w : World) (h : addr_domain.f a0 = some r) (hG : Glob w) :
    Calls Tryz.prog 55 #[.string a0] w fun e w' => e = .returned (.int .i64 r) ∧ Below w.heap.size w w' := by
  unfold addr_domain.f at h
  split at h
  · rename_i hs
    obtain rfl := Option.some.inj h
    by_cases h91 : a0.data.toList.head? = some 91
    · obtain ⟨m, hm⟩ : ∃ m, a0.data.toList = 91 :: m := by
        cases hl : a0.data.toList with
        | nil => rw [hl] at h91; cases h91
        | cons b m => rw [hl] at h91; exact ⟨m, by rw [Option.some.inj h91]⟩
      have := domain_lit m w (by rw [Lib.size_eq, hm] at hs; simpa using hs) hG
      rw [← hm, Lib.mk_data] at this
      exact this
    · exact domain_dns a0 w hs hG h91
  · cases h
end Go.Proofs.YtmhcdigneamgdaaGreatDoor.G

/- Walk of text.Lower. -/
namespace Go.Proofs.YtmhcdigneamgdaaGreatDoor.G
open Go.RowKit Go.Proofs.YtmhcdigneamgdaaGreatDoorW.PrintWords
set_option linter.unusedVariables false

def text_Lower.f (a0 : ByteArray) : Option ByteArray := if a0.size ≤ 140737488351232 then some ⟨(Sp.lowL a0.data.toList).toArray⟩ else none
def lowTo (l : List UInt8) (k : Nat) : List UInt8 := (l.take k).map Sp.lowB ++ l.drop k
theorem lowTo_length (l : List UInt8) (k : Nat) (h : k ≤ l.length) : (lowTo l k).length = l.length := by simp [lowTo]; omega
theorem lowTo_at (l : List UInt8) (k : Nat) (h : k < l.length) : (lowTo l k).getD k 0 = l[k] := by
  simp only [lowTo, List.getD_eq_getElem?_getD]
  rw [List.getElem?_append_right (by simp; omega)]
  have : k - (List.map Sp.lowB (List.take k l)).length = 0 := by simp; omega
  rw [this, List.getElem?_drop, Nat.add_zero, List.getElem?_eq_getElem h]
  rfl
theorem lowTo_succ (l : List UInt8) (k : Nat) (h : k < l.length) : (lowTo l k).set k (Sp.lowB l[k]) = lowTo l (k + 1) := by
  simp only [lowTo]
  rw [List.set_append_right _ _ (by simp; omega)]
  have : k - (List.map Sp.lowB (List.take k l)).length = 0 := by simp; omega
  rw [this, List.drop_eq_getElem_cons h, List.set_cons_zero, List.take_succ_eq_append_getElem h, List.map_append]
  simp
theorem lowTo_keep (l : List UInt8) (k : Nat) (h : k < l.length) (hb : Sp.lowB l[k] = l[k]) : lowTo l k = lowTo l (k + 1) := by
  simp only [lowTo]
  rw [List.drop_eq_getElem_cons h, List.take_succ_eq_append_getElem h, List.map_append]
  simp [hb]
theorem low_up (b : UInt8) (h1 : 65 ≤ b.toNat) (h2 : b.toNat ≤ 90) : ((Sp.lowB b).toNat : Int) = (b.toNat : Int) + 32 := by
  unfold Sp.lowB
  rw [if_pos ⟨h1, h2⟩, UInt8.toNat_add]
  show (((b.toNat + 32) % 256 : Nat) : Int) = _
  omega
theorem low_same (b : UInt8) (h : ¬ (65 ≤ b.toNat ∧ b.toNat ≤ 90)) : Sp.lowB b = b := by unfold Sp.lowB; rw [if_neg h]

set_option maxHeartbeats 4000000 in
set_option maxRecDepth 1000000 in
theorem text_Lower.calls (a0 : ByteArray) (r : ByteArray) (w : World) (h : text_Lower.f a0 = some r) :
    Calls Tryz.prog 60 #[.string a0] w fun e w' => e = .returned (.string r) ∧ Below w.heap.size w w' := by
  unfold text_Lower.f at h
  split at h
  · rename_i hs
    obtain rfl := Option.some.inj h
    clear h
    have kb := fun W => print_bytes (P := Tryz.prog) 9 55 5 Tryz.underlying9 Tryz.underlying55 Tryz.underlying5 a0 W
    have hsl := Lib.size_eq a0
    have HL := Aside0.mk hsl
    have hI := Aside0.mk (InPlace.start w 5 a0)
    have hB := Aside0.mk (bytes_below (Below.refl w.heap.size w) (Nat.le_refl _) 5 a0)
    generalize hW : Lib.bytesWorld w 5 a0 = W at kb hI hB
    generalize hC : grownCap w a0.size 0 5 = C at kb
    have kb' := kb w
    rw [hW, hC] at kb'
    clear kb hC hW
    generalize hl : a0.data.toList = l at hsl HL hI
    have hln : l.length = a0.size := hsl.symm
    generalize hn : a0.size = n at *
    have HN := Aside0.mk hln
    have hbig : n ≤ 140737488351232 := hs
    clear hln hsl HL hl hs
    have hmeet : ∀ w' : World, InPlace w' 5 w.heap.size (lowTo l n) → Sem.run Tryz.prog (convert 55 9 (.slice (some ⟨w.heap.size, 0, none⟩) n C)) w' = .ok (.string ⟨(Sp.lowL l).toArray⟩) w' := fun w' hw => by
      have e : lowTo l n = Sp.lowL l := by simp [lowTo, Sp.lowL, HN.out.symm ▸ List.take_length, HN.out.symm ▸ List.drop_length]
      rw [e] at hw
      exact hw.text Tryz.underlying55 Tryz.underlying5 Tryz.underlying9 n C (by simp [Sp.lowL, HN.out])
    go_enter Tryz.func60, Tryz.ntmps60
    go_wp2
    go_loopw [10] (fun i wr => ∃ k : Nat, k ≤ n ∧ i = .int .i64 k ∧ Aside0 (InPlace wr 5 w.heap.size (lowTo l k)) ∧ Aside0 (Below w.heap.size w wr)) (fun i _ => n - (intOf i).toNat)
    case atStart => exact ⟨0, Nat.zero_le _, rfl, ⟨by simpa [lowTo] using hI.out⟩, hB⟩
    case round =>
      obtain ⟨k, hk, rfl, I, BB⟩ := hrel
      by_cases hlt : k < n
      · have hkl : k < l.length := by rw [HN.out]; exact hlt
        have hc0 := I.out.cell k (by rw [lowTo_length l k (by omega)]; exact hkl)
        rw [lowTo_at l k hkl] at hc0
        have hf0 := I.out.free k (by rw [lowTo_length l k (by omega)]; exact hkl)
        have hbn := (l[k]).toNat_lt
        by_cases hu : 65 ≤ (l[k]).toNat ∧ (l[k]).toNat ≤ 90
        · have HS := Aside0.mk (I.out.set k (by rw [lowTo_length l k (by omega)]; exact hkl) (Sp.lowB l[k]))
          rw [lowTo_succ l k hkl, low_up _ hu.1 hu.2] at HS
          have hu1 := hu.1
          have hu2 := hu.2
          generalize (l[k]).toNat = b at hc0 hbn hu1 hu2 HS
          clear hu
          go_wp2
          have e : ((b : Int) + 97 - 65) = (b : Int) + 32 := by omega
          rw [e]
          exact ⟨⟨k + 1, by omega, by go_num, HS, ⟨BB.out.setCell (Nat.le_refl _) _⟩⟩, by simp [intOf]; omega⟩
        · have HS := Aside0.mk (lowTo_keep l k hkl (low_same _ hu))
          generalize (l[k]).toNat = b at hc0 hbn hu
          by_cases h1 : 65 ≤ b
          · have h2 : 90 < b := by omega
            clear hu
            go_wp2
            go_roundw
            case rel => exact ⟨k + 1, by omega, by go_num, ⟨by rw [← HS.out]; exact I.out⟩, BB⟩
            case measure => simp [intOf]; omega
          · clear hu
            have h1' : b < 65 := by omega
            go_wp2
            go_roundw
            case rel => exact ⟨k + 1, by omega, by go_num, ⟨by rw [← HS.out]; exact I.out⟩, BB⟩
            case measure => simp [intOf]; omega
      · obtain rfl : k = n := by omega
        have hm := hmeet _ I.out
        clear hmeet
        go_wp2
        go_ret
        exact ⟨rfl, BB.out⟩
  · cases h
end Go.Proofs.YtmhcdigneamgdaaGreatDoor.G

/- Walks of functions of package text: Plain. -/
namespace Go.Proofs.YtmhcdigneamgdaaGreatDoor.G
open Go.RowKit Go.Proofs.YtmhcdigneamgdaaGreatDoorW.PrintWords
set_option linter.unusedVariables false

def text_Plain.f (a0 : ByteArray) : Option Bool := some (Sp.plainL a0.data.toList)

theorem plain_all (s : ByteArray) (pos : Nat) (h : ¬ pos < s.size) (ha : ∀ j : Nat, ∀ hj : j < s.size, j < pos → 32 ≤ (s[j]'hj).toNat ∧ (s[j]'hj).toNat ≤ 126) : Sp.plainL s.data.toList = true := by
  unfold Sp.plainL
  rw [List.all_eq_true]
  intro b hb
  obtain ⟨j, hj, rfl⟩ := List.mem_iff_getElem.1 hb
  have hj' : j < s.size := by rw [Lib.size_eq]; exact hj
  have := ha j hj' (by omega)
  have e : s.data.toList[j] = s[j]'hj' := by rw [Array.getElem_toList]; rfl
  rw [e]
  unfold Sp.plainB
  simp [this.1, this.2]
theorem plain_not (s : ByteArray) (pos : Nat) (h : pos < s.size) (ha : ¬ (32 ≤ (s[pos]'h).toNat ∧ (s[pos]'h).toNat ≤ 126)) : Sp.plainL s.data.toList = false := by
  unfold Sp.plainL
  rw [Bool.eq_false_iff]
  intro hall
  rw [List.all_eq_true] at hall
  have hj : pos < s.data.toList.length := by rw [← Lib.size_eq]; exact h
  have e : s.data.toList[pos] = s[pos]'h := by rw [Array.getElem_toList]; rfl
  have := hall _ (List.getElem_mem hj)
  rw [e] at this
  unfold Sp.plainB at this
  simp at this
  exact ha this

theorem iter_below (w : World) (s : ByteArray) (pos : Nat) : Below w.heap.size w (w.iter s pos) := below_alloc (Below.refl _ _) _

set_option maxHeartbeats 4000000 in
set_option maxRecDepth 1000000 in
theorem text_Plain.calls (a0 : ByteArray) (r : Bool) (w : World) (h : text_Plain.f a0 = some r) :
    Calls Tryz.prog 25 #[.string a0] w fun e w' => e = .returned (.bool r) ∧ Below w.heap.size w w' := by
  obtain rfl := Option.some.inj h
  clear h
  go_enter Tryz.func25, Tryz.ntmps25
  go_wp2
  go_loopw [4] (fun c w' => ∃ pos : Nat, w' = w.iter a0 pos ∧ Aside0 (∀ j : Nat, ∀ hj : j < a0.size, j < pos → 32 ≤ (a0[j]'hj).toNat ∧ (a0[j]'hj).toNat ≤ 126)) (fun _ w' => a0.size - w'.iterPos w.heap.size)
  case atStart => exact ⟨0, rfl, ⟨fun j hj hlt => absurd hlt (Nat.not_lt_zero _)⟩⟩
  case round =>
    obtain ⟨pos, rfl, A⟩ := hrel
    by_cases hp : pos < a0.size
    · have hnx : ∀ ty, (Instr.next (.pointer (some ⟨w.heap.size, 0, none⟩)) true ty).run Tryz.prog (w.iter a0 pos) = _ := fun ty => run_next_any w a0 pos ty hp
      by_cases ha : 32 ≤ (a0[pos]'hp).toNat ∧ (a0[pos]'hp).toNat ≤ 126
      · rw [decode_ascii a0 pos hp (by omega)] at hnx
        have h1 := ha.1
        have h2 := ha.2
        generalize hb : (a0[pos]'hp).toNat = b at hnx h1 h2
        have HB := Aside0.mk hb
        clear hb ha
        go_wp2
        go_roundw
        case rel =>
          refine ⟨pos + 1, rfl, ⟨fun j hj hlt => ?_⟩⟩
          by_cases e : j = pos
          · subst e
            have := HB.out
            omega
          · exact A.out j hj (by omega)
        case measure => simp; omega
      · have HN := Aside0.mk (plain_not a0 pos hp ha)
        by_cases h128 : (a0[pos]'hp).toNat < 128
        · rw [decode_ascii a0 pos hp h128] at hnx
          generalize hb : (a0[pos]'hp).toNat = b at hnx ha h128
          clear hb
          by_cases h126 : b ≤ 126
          · have h32 : b < 32 := by omega
            go_wp2
            go_ret
            exact ⟨by rw [HN.out]; rfl, iter_below _ _ _⟩
          · have h126' : 126 < b := by omega
            go_wp2
            go_ret
            exact ⟨by rw [HN.out]; rfl, iter_below _ _ _⟩
        · have hd := (decode_high a0 pos hp (by omega)).1
          have hle := decode_le a0 pos
          generalize (Utf8.decode a0 pos).1 = b at hnx hd hle
          generalize (Utf8.decode a0 pos).2 = wd at hnx
          go_wp2
          go_ret
          exact ⟨by rw [HN.out]; rfl, iter_below _ _ _⟩
    · have hnx : ∀ ty, (Instr.next (.pointer (some ⟨w.heap.size, 0, none⟩)) true ty).run Tryz.prog (w.iter a0 pos) = _ := fun ty => run_next_end w a0 pos ty hp
      have HY := Aside0.mk (plain_all a0 pos hp A.out)
      clear A
      go_wp2
      go_ret
      exact ⟨by rw [HY.out]; rfl, iter_below _ _ _⟩
end Go.Proofs.YtmhcdigneamgdaaGreatDoor.G

/- Walk of text.Quote. -/
namespace Go.Proofs.YtmhcdigneamgdaaGreatDoor.G
open Go.RowKit Go.Proofs.YtmhcdigneamgdaaGreatDoorW.PrintWords
set_option linter.unusedVariables false

def ints (l : List UInt8) : List Int := l.map fun b => (b.toNat : Int)
theorem ints_append (l m : List UInt8) : ints (l ++ m) = ints l ++ ints m := by simp [ints]
theorem ints_text (l : List UInt8) : strOfNums (ints l) = ⟨l.toArray⟩ := by
  unfold strOfNums ints
  congr 1
  rw [List.map_map]
  congr 1
  conv => rhs; rw [← List.map_id l]
  congr 1
  funext b
  simp
def escB (b : UInt8) : List UInt8 := if b = 34 ∨ b = 92 then [92, b] else [b]
def quoTo (l : List UInt8) (k : Nat) : List UInt8 := 34 :: (l.take k).flatMap escB
theorem quoTo_succ (l : List UInt8) (k : Nat) (h : k < l.length) : quoTo l (k + 1) = quoTo l k ++ escB l[k] := by
  simp only [quoTo]
  rw [List.take_succ_eq_append_getElem h, List.flatMap_append]
  simp
theorem quoTo_le (l : List UInt8) (k : Nat) : (quoTo l k).length ≤ 2 * k + 1 := by
  have : ∀ m : List UInt8, (m.flatMap escB).length ≤ 2 * m.length := by
    intro m
    induction m with
    | nil => simp
    | cons a m ih =>
      rw [List.flatMap_cons, List.length_append, List.length_cons]
      have : (escB a).length ≤ 2 := by unfold escB; split <;> simp
      omega
  have h1 := this (l.take k)
  have h2 := List.length_take_le k l
  simp only [quoTo, List.length_cons]
  omega
theorem info5 : (Tryz.prog.info? 5).map (fun i => (i.zero, i.size, i.bytes)) = some (some (.int .u8 0), 1, 1) := by kernel_rfl

def text_Quote.f (a0 : ByteArray) : Option (ByteArray × Int) := if a0.size ≤ 17592186044416 then some (if Sp.plainL a0.data.toList then (⟨(Sp.quoteL a0.data.toList).toArray⟩, 0) else (⟨#[]⟩, 5)) else none

set_option maxHeartbeats 8000000 in
set_option maxRecDepth 1000000 in
theorem quote_yes (a0 : ByteArray) (w : World) (hs : a0.size ≤ 17592186044416) (hp : Sp.plainL a0.data.toList = true) :
    Calls Tryz.prog 49 #[.string a0] w fun e w' => e = .returned (.tuple #[.string ⟨(Sp.quoteL a0.data.toList).toArray⟩, .int .i64 0]) ∧ Below w.heap.size w w' := by
  have HP := Aside0.mk (show text_Plain.f a0 = some true by unfold text_Plain.f; rw [hp])
  clear hp
  have kb := fun W => print_bytes (P := Tryz.prog) 9 55 5 Tryz.underlying9 Tryz.underlying55 Tryz.underlying5 a0 W
  have hsl := Lib.size_eq a0
  have hln : a0.data.toList.length = a0.size := hsl.symm
  have HLN := Aside0.mk hln
  clear hsl hln
  go_enter Tryz.func49, Tryz.ntmps49
  go_wp2_with (go_at_call 25; (with_reducible refine (text_Plain.calls a0 true _ HP.out).mono ?_); rintro e w1 ⟨rfl, hb1⟩; have HB1 := Aside0.mk hb1; clear hb1)
  have hI0 := InPlace.start (w1.alloc (.cells #[.int .u8 34] 5)) 5 a0
  have hsz : (w1.alloc (.cells #[.int .u8 34] 5)).heap.size = w1.heap.size + 1 := by simp
  rw [hsz] at hI0
  have hO0 := own_lit_of (enc := Value.int .u8) w1 w.heap.size 5 [34] HB1.out.size (by simp)
  have hO1 : Kd.R (Kd.int .u8) 5 (w1.alloc (.cells #[.int .u8 34] 5)) w.heap.size (fun q => q ≠ w1.heap.size + 1) (.slice (some ⟨w1.heap.size, 0, none⟩) 1 1) [34] :=
    Kd.R_of_own (by exact hO0) (fun q hq => by simp [Value.ownBlock] at hq; omega)
  have hbw : Below (w1.alloc (.cells #[.int .u8 34] 5)).heap.size (w1.alloc (.cells #[.int .u8 34] 5)) (Lib.bytesWorld (w1.alloc (.cells #[.int .u8 34] 5)) 5 a0) := bytes_below (Below.refl _ _) (Nat.le_refl _) 5 a0
  have hO2 := Aside0.mk (Kd.R_below hO1 hbw)
  have hI := Aside0.mk hI0
  have hB := Aside0.mk (bytes_below (below_alloc HB1.out (.cells #[.int .u8 34] 5)) (by have := HB1.out.size; simp; omega) 5 a0)
  have hZ := Aside0.mk (show w1.heap.size + 1 < (Lib.bytesWorld (w1.alloc (.cells #[.int .u8 34] 5)) 5 a0).heap.size by rw [Lib.bytesWorld_size]; simp)
  clear hI0 hO0 hO1 hbw hsz kb
  generalize Lib.bytesWorld (w1.alloc (.cells #[.int .u8 34] 5)) 5 a0 = W at hO2 hI hB hZ ⊢
  generalize grownCap (w1.alloc (.cells #[.int .u8 34] 5)) a0.size 0 5 = C
  generalize hl : a0.data.toList = l at HLN hI
  clear HP
  go_loopw [4, 14] (fun v i wr => ∃ k : Nat, k ≤ a0.size ∧ i = .int .i64 k ∧ Aside0 (InPlace wr 5 (w1.heap.size + 1) l) ∧ Aside0 (Kd.R (Kd.int .u8) 5 wr w.heap.size (fun q => q ≠ w1.heap.size + 1) v (ints (quoTo l k))) ∧ Aside0 (Below w.heap.size w wr) ∧ Aside0 (w1.heap.size + 1 < wr.heap.size)) (fun _ i _ => a0.size - (intOf i).toNat)
  case atStart => exact ⟨0, Nat.zero_le _, rfl, hI, ⟨by simpa [quoTo, ints] using hO2.out⟩, hB, hZ⟩
  case round =>
    clear hI hO2 hB hZ
    obtain ⟨k, hk, rfl, I, O, BB, SZ⟩ := hrel
    have HL := Aside0.mk (show (ints (quoTo l k)).length ≤ 35184372088835 by have := quoTo_le l k; simp [ints]; omega)
    obtain ⟨AV, CV, eV⟩ := Kd.R_slice O.out
    generalize (ints (quoTo l k)).length = NV at eV
    subst eV
    by_cases hlt : k < a0.size
    · have hkl : k < l.length := by rw [HLN.out]; exact hlt
      have hc0 := I.out.cell k hkl
      have hbn := (l[k]).toNat_lt
      have e0 : l.getD k 0 = l[k] := by simp [List.getD_eq_getElem?_getD, List.getElem?_eq_getElem hkl]
      rw [e0] at hc0
      clear e0
      have HS := Aside0.mk (congrArg ints (quoTo_succ l k hkl))
      rw [ints_append] at HS
      by_cases he : l[k] = 34 ∨ l[k] = 92
      · have hx : ints (escB l[k]) = [92, ((l[k]).toNat : Int)] := by unfold escB; rw [if_pos he]; rfl
        rw [hx] at HS
        clear hx
        have hcase : (l[k]).toNat = 34 ∨ (l[k]).toNat = 92 := by rcases he with h | h <;> rw [h] <;> simp
        clear he
        generalize (l[k]).toNat = c at hc0 hbn hcase HS
        rcases hcase with rfl | rfl
        · go_wp2_with (first | (at_builtin; refine Kd.R_append (Kd.int .u8) (w0 := w) w.heap.size rfl (.tmp 24) (.tmp 25) 55 5 (.int .u8 0) 1 rfl Tryz.underlying55 info5 rfl (by decide) (by omega) (.slice AV NV CV) (ints (quoTo l k)) 92 [.int .u8 92] (fun q => q ≠ w1.heap.size + 1) (fun _ => False) rfl rfl ?aP (fun _ hk => hk.elim) ?aF ?aO ?aB ?aS ?aL ?_; (case aP => exact rfl); (case aB => exact BB.out); (case aF => exact (fun q hq => by have := SZ.out; omega)); (case aO => exact O.out); (case aS => exact BB.out.size); (case aL => have := HL.out; (try simp only [List.length_append, List.length_cons, List.length_nil]); omega); intro v2 w3 ho hb hg hat; have I2 := Aside0.mk (I.out.later ((hg.block _ SZ.out (Kd.R_away O.out (fun q hq => hq))))); have O2 := Aside0.mk ho; have B2 := Aside0.mk hb; have S2 := Aside0.mk (Nat.lt_of_lt_of_le SZ.out hg.size); clear ho hb hg hat) | (at_builtin; refine Kd.R_append (Kd.int .u8) (w0 := w) w.heap.size rfl (.tmp 27) (.tmp 29) 55 5 (.int .u8 0) 1 rfl Tryz.underlying55 info5 rfl (by decide) (by omega) v2 (ints (quoTo l k) ++ [92]) 34 [.int .u8 34] (fun q => q ≠ w1.heap.size + 1) (fun _ => False) rfl rfl ?aP (fun _ hk => hk.elim) ?aF ?aO ?aB ?aS ?aL ?_; (case aP => exact rfl); (case aB => exact B2.out); (case aF => exact (fun q hq => by have := S2.out; omega)); (case aO => exact O2.out); (case aS => exact B2.out.size); (case aL => have := HL.out; (try simp only [List.length_append, List.length_cons, List.length_nil]); omega); intro v4 w5 ho hb hg hat; have I3 := Aside0.mk (I2.out.later ((hg.block _ S2.out (Kd.R_away O2.out (fun q hq => hq))))); have O3 := Aside0.mk ho; have B3 := Aside0.mk hb; have S3 := Aside0.mk (Nat.lt_of_lt_of_le S2.out hg.size); clear ho hb hg hat))
          exact ⟨⟨k + 1, by omega, by go_num, I3, ⟨by rw [HS.out]; simpa using O3.out⟩, B3, S3⟩, by simp [intOf]; omega⟩
        · go_wp2_with (first | (at_builtin; refine Kd.R_append (Kd.int .u8) (w0 := w) w.heap.size rfl (.tmp 24) (.tmp 25) 55 5 (.int .u8 0) 1 rfl Tryz.underlying55 info5 rfl (by decide) (by omega) (.slice AV NV CV) (ints (quoTo l k)) 92 [.int .u8 92] (fun q => q ≠ w1.heap.size + 1) (fun _ => False) rfl rfl ?aP (fun _ hk => hk.elim) ?aF ?aO ?aB ?aS ?aL ?_; (case aP => exact rfl); (case aB => exact BB.out); (case aF => exact (fun q hq => by have := SZ.out; omega)); (case aO => exact O.out); (case aS => exact BB.out.size); (case aL => have := HL.out; (try simp only [List.length_append, List.length_cons, List.length_nil]); omega); intro v2 w3 ho hb hg hat; have I2 := Aside0.mk (I.out.later ((hg.block _ SZ.out (Kd.R_away O.out (fun q hq => hq))))); have O2 := Aside0.mk ho; have B2 := Aside0.mk hb; have S2 := Aside0.mk (Nat.lt_of_lt_of_le SZ.out hg.size); clear ho hb hg hat) | (at_builtin; refine Kd.R_append (Kd.int .u8) (w0 := w) w.heap.size rfl (.tmp 27) (.tmp 29) 55 5 (.int .u8 0) 1 rfl Tryz.underlying55 info5 rfl (by decide) (by omega) v2 (ints (quoTo l k) ++ [92]) 92 [.int .u8 92] (fun q => q ≠ w1.heap.size + 1) (fun _ => False) rfl rfl ?aP (fun _ hk => hk.elim) ?aF ?aO ?aB ?aS ?aL ?_; (case aP => exact rfl); (case aB => exact B2.out); (case aF => exact (fun q hq => by have := S2.out; omega)); (case aO => exact O2.out); (case aS => exact B2.out.size); (case aL => have := HL.out; (try simp only [List.length_append, List.length_cons, List.length_nil]); omega); intro v4 w5 ho hb hg hat; have I3 := Aside0.mk (I2.out.later ((hg.block _ S2.out (Kd.R_away O2.out (fun q hq => hq))))); have O3 := Aside0.mk ho; have B3 := Aside0.mk hb; have S3 := Aside0.mk (Nat.lt_of_lt_of_le S2.out hg.size); clear ho hb hg hat))
          exact ⟨⟨k + 1, by omega, by go_num, I3, ⟨by rw [HS.out]; simpa using O3.out⟩, B3, S3⟩, by simp [intOf]; omega⟩
      · have hx : ints (escB l[k]) = [((l[k]).toNat : Int)] := by unfold escB; rw [if_neg he]; rfl
        rw [hx] at HS
        clear hx
        have h34 : (((l[k]).toNat : Int) == 34) = false := by
          rw [beq_eq_false_iff_ne]
          intro h
          exact he (.inl (UInt8.toNat_inj.1 (by simpa using (by omega : (l[k]).toNat = 34))))
        have h92 : (((l[k]).toNat : Int) == 92) = false := by
          rw [beq_eq_false_iff_ne]
          intro h
          exact he (.inr (UInt8.toNat_inj.1 (by simpa using (by omega : (l[k]).toNat = 92))))
        clear he
        generalize (l[k]).toNat = c at hc0 hbn h34 h92 HS
        go_wp2_with (first | (at_builtin; refine Kd.R_append (Kd.int .u8) (w0 := w) w.heap.size rfl (.tmp 27) (.tmp 29) 55 5 (.int .u8 0) 1 rfl Tryz.underlying55 info5 rfl (by decide) (by omega) (.slice AV NV CV) (ints (quoTo l k)) (c : Int) [.int .u8 (c : Int)] (fun q => q ≠ w1.heap.size + 1) (fun _ => False) rfl rfl ?aP (fun _ hk => hk.elim) ?aF ?aO ?aB ?aS ?aL ?_; (case aP => exact rfl); (case aB => exact BB.out); (case aF => exact (fun q hq => by have := SZ.out; omega)); (case aO => exact O.out); (case aS => exact BB.out.size); (case aL => have := HL.out; (try simp only [List.length_append, List.length_cons, List.length_nil]); omega); intro v4 w5 ho hb hg hat; have I3 := Aside0.mk (I.out.later ((hg.block _ SZ.out (Kd.R_away O.out (fun q hq => hq))))); have O3 := Aside0.mk ho; have B3 := Aside0.mk hb; have S3 := Aside0.mk (Nat.lt_of_lt_of_le SZ.out hg.size); clear ho hb hg hat))
        exact ⟨⟨k + 1, by omega, by go_num, I3, ⟨by rw [HS.out]; simpa using O3.out⟩, B3, S3⟩, by simp [intOf]; omega⟩
    · obtain rfl : k = a0.size := by omega
      have HF := Aside0.mk (show quoTo l a0.size ++ [34] = Sp.quoteL l by
        unfold quoTo Sp.quoteL
        rw [← HLN.out, List.take_length]
        rfl)
      go_wp2_with (first | (at_builtin; refine Kd.R_append (Kd.int .u8) (w0 := w) w.heap.size rfl (.tmp 32) (.tmp 33) 55 5 (.int .u8 0) 1 rfl Tryz.underlying55 info5 rfl (by decide) (by omega) (.slice AV NV CV) (ints (quoTo l a0.size)) 34 [.int .u8 34] (fun q => q ≠ w1.heap.size + 1) (fun _ => False) rfl rfl ?aP (fun _ hk => hk.elim) ?aF ?aO ?aB ?aS ?aL ?_; (case aP => exact rfl); (case aB => exact BB.out); (case aF => exact (fun q hq => by have := SZ.out; omega)); (case aO => exact O.out); (case aS => exact BB.out.size); (case aL => have := HL.out; (try simp only [List.length_append, List.length_cons, List.length_nil]); omega); intro v4 w5 ho hb hg hat; have I3 := Aside0.mk (I.out.later ((hg.block _ SZ.out (Kd.R_away O.out (fun q hq => hq))))); have O3 := Aside0.mk ho; have B3 := Aside0.mk hb; have S3 := Aside0.mk (Nat.lt_of_lt_of_le SZ.out hg.size); clear ho hb hg hat; have hs4 := own_string (P := Tryz.prog) (src := 55) (dst := 9) Tryz.underlying55 Tryz.underlying5 Tryz.underlying9 (Kd.own_of_R O3.out); rw [show ints (quoTo l a0.size) ++ [34] = ints (Sp.quoteL l) from by rw [← HF.out, ints_append]; rfl, ints_text] at hs4))
      go_ret2
      exact ⟨by rw [hl]; rfl, B3.out⟩

set_option maxHeartbeats 8000000 in
set_option maxRecDepth 1000000 in
theorem quote_no (a0 : ByteArray) (w : World) (hp : Sp.plainL a0.data.toList = false) :
    Calls Tryz.prog 49 #[.string a0] w fun e w' => e = .returned (.tuple #[.string ⟨#[]⟩, .int .i64 5]) ∧ Below w.heap.size w w' := by
  have HP := Aside0.mk (show text_Plain.f a0 = some false by unfold text_Plain.f; rw [hp])
  clear hp
  go_enter Tryz.func49, Tryz.ntmps49
  go_wp2_with (go_at_call 25; (with_reducible refine (text_Plain.calls a0 false _ HP.out).mono ?_); rintro e w1 ⟨rfl, hb1⟩; have HB1 := Aside0.mk hb1; clear hb1)
  go_ret2
  exact ⟨rfl, HB1.out⟩

theorem text_Quote.calls (a0 : ByteArray) (r1 : ByteArray) (r2 : Int) (w : World) (h : text_Quote.f a0 = some (r1, r2)) :
    Calls Tryz.prog 49 #[.string a0] w fun e w' => e = .returned (.tuple #[.string r1, .int .i64 r2]) ∧ Below w.heap.size w w' := by
  unfold text_Quote.f at h
  split at h
  · rename_i hs
    have h := Option.some.inj h
    cases hp : Sp.plainL a0.data.toList
    · rw [hp] at h
      obtain ⟨rfl, rfl⟩ := Prod.mk.inj h
      exact quote_no a0 w hp
    · rw [hp] at h
      obtain ⟨rfl, rfl⟩ := Prod.mk.inj h
      exact quote_yes a0 w hs hp
  · cases h
end Go.Proofs.YtmhcdigneamgdaaGreatDoor.G

/- Walk of addr.local. -/
namespace Go.Proofs.YtmhcdigneamgdaaGreatDoor.G
open Go.RowKit Go.Proofs.YtmhcdigneamgdaaGreatDoorW.PrintWords Go.Proofs.YtmhcdigneamgdaaGreatDoorW.PrintMore Go.Proofs.YtmhcdigneamgdaaGreatDoor.Qa
attribute [local go_sem] max2_int max_two
set_option linter.unusedVariables false

def addr_local.f (k : Nat) (a0 : ByteArray) : Option (ByteArray × ByteArray × Bool) :=
  if Lib.hasPrefix a0.data.toList [34] then
    (text_Quoted.f k a0).bind fun t => if 0 ≤ t.2.1 ∧ t.2.1 ≤ (a0.size : Int) ∧ a0.size ≤ 4294967280 then some (t.1, a0.extract t.2.1.toNat a0.size, (t.2.2 == 0) && !t.1.toList.isEmpty) else none
  else
    let j := (Lib.indexByte a0.data.toList 64).toNat
    if a0.size ≤ 4294967280 ∧ j ≤ a0.size then some (a0.extract 0 j, a0.extract j a0.size, Sp.dotAtomL (a0.extract 0 j).data.toList) else none
theorem addr_local.mono : ∀ a0 k, LeO (addr_local.f k a0) (addr_local.f (k + 1) a0) := by
  intro a0 k
  unfold addr_local.f
  split
  · exact LeO.bind (text_Quoted.mono a0 k) (fun x => LeO.refl _)
  · exact LeO.refl _

theorem HasPrefix_str (s p : ByteArray) : strings_HasPrefix.f s p = some (Lib.hasPrefix s.data.toList p.data.toList) := by
  unfold strings_HasPrefix.f
  rw [HasPrefix_eq]
  rfl

set_option maxHeartbeats 8000000 in
set_option maxRecDepth 100000 in
theorem local_quoted (k : Nat) (a0 t1 : ByteArray) (m e : Int) (w : World) (h34 : Lib.hasPrefix a0.data.toList [34] = true) (ht : text_Quoted.f k a0 = some (t1, m, e)) (h0 : 0 ≤ m) (h1 : m ≤ (a0.size : Int)) (hs : a0.size ≤ 4294967280) :
    Calls Tryz.prog 61 #[.string a0] w fun e' w' => e' = .returned (.tuple #[.string t1, .string (a0.extract m.toNat a0.size), .bool ((e == 0) && !t1.toList.isEmpty)]) ∧ Below w.heap.size w w' := by
  have HP := Aside0.mk (show strings_HasPrefix.f a0 ⟨#[34]⟩ = some true by rw [HasPrefix_str]; exact congrArg some h34)
  have HQ := Aside0.mk ht
  clear h34 ht
  obtain ⟨n, rfl⟩ := Int.eq_ofNat_of_zero_le h0
  have hn : n ≤ a0.size := by omega
  by_cases he : e = 0
  · subst he
    go_enter Tryz.func61, Tryz.ntmps61
    go_wp2_with (first | (go_at_call 35; (with_reducible refine (strings_HasPrefix.calls a0 ⟨#[34]⟩ true _ HP.out).mono ?_); rintro e' w' ⟨rfl, ⟨nd, rfl⟩⟩) | (go_at_call 58; (with_reducible refine (text_Quoted.calls k a0 t1 _ 0 _ HQ.out).mono ?_); rintro e' w2 ⟨rfl, hb2⟩; have HB2 := Aside0.mk (then_below (w := w) (pw_below_drewN (Below.refl w.heap.size w) _) hb2); clear hb2))
    go_quiet (fail)
    go_wp2
    go_ret3
    exact ⟨by simp [ne_nil_b], by repeat (first | exact HB2.out | refine pw_below_drewN ?_ _)⟩
  · have heb : (e == 0) = false := by rw [beq_eq_false_iff_ne]; exact he
    rw [heb]
    clear he
    go_enter Tryz.func61, Tryz.ntmps61
    go_wp2_with (first | (go_at_call 35; (with_reducible refine (strings_HasPrefix.calls a0 ⟨#[34]⟩ true _ HP.out).mono ?_); rintro e' w' ⟨rfl, ⟨nd, rfl⟩⟩) | (go_at_call 58; (with_reducible refine (text_Quoted.calls k a0 t1 _ e _ HQ.out).mono ?_); rintro e' w2 ⟨rfl, hb2⟩; have HB2 := Aside0.mk (then_below (w := w) (pw_below_drewN (Below.refl w.heap.size w) _) hb2); clear hb2))
    go_quiet (fail)
    go_wp2
    go_ret3
    exact ⟨by simp, by repeat (first | exact HB2.out | refine pw_below_drewN ?_ _)⟩

set_option maxHeartbeats 8000000 in
set_option maxRecDepth 100000 in
theorem local_plain (a0 : ByteArray) (w : World) (h34 : Lib.hasPrefix a0.data.toList [34] = false) (hj : (Lib.indexByte a0.data.toList 64).toNat ≤ a0.size) (hs : a0.size ≤ 4294967280) (hG : Glob w) :
    Calls Tryz.prog 61 #[.string a0] w fun e' w' => e' = .returned (.tuple #[.string (a0.extract 0 (Lib.indexByte a0.data.toList 64).toNat), .string (a0.extract (Lib.indexByte a0.data.toList 64).toNat a0.size), .bool (Sp.dotAtomL (a0.extract 0 (Lib.indexByte a0.data.toList 64).toNat).data.toList)]) ∧ Below w.heap.size w w' := by
  have HP := Aside0.mk (show strings_HasPrefix.f a0 ⟨#[34]⟩ = some false by rw [HasPrefix_str]; exact congrArg some h34)
  have HI := Aside0.mk (show strings_IndexByte.f a0 64 = some (Lib.indexByte a0.data.toList 64) from rfl)
  have hge := Lib.indexByte_ge a0.data.toList 64
  have HD := Aside0.mk (show text_DotAtom.f (a0.extract 0 (Lib.indexByte a0.data.toList 64).toNat) = some (Sp.dotAtomL (a0.extract 0 (Lib.indexByte a0.data.toList 64).toNat).data.toList) by
    unfold text_DotAtom.f
    rw [if_pos (by rw [Lib.extract_eq, mkB_size]; simp; omega)])
  have HG := Aside0.mk hG
  clear h34 hG
  generalize Sp.dotAtomL (a0.extract 0 (Lib.indexByte a0.data.toList 64).toNat).data.toList = d at HD ⊢
  generalize Lib.indexByte a0.data.toList 64 = i at hj HI hge HD ⊢
  by_cases hi : i < 0
  · have e0 : i.toNat = 0 := by omega
    have e1 : a0.extract 0 0 = ByteArray.empty := by rw [Lib.extract_eq]; rfl
    rw [e0, e1] at HD ⊢
    rw [ext_all]
    clear e0 e1 hj
    go_enter Tryz.func61, Tryz.ntmps61
    go_wp2_with (first | (go_at_call 35; (with_reducible refine (strings_HasPrefix.calls a0 ⟨#[34]⟩ false _ HP.out).mono ?_); rintro e' w' ⟨rfl, ⟨nd, rfl⟩⟩) | (go_at_call 59; (with_reducible refine (strings_IndexByte.calls a0 64 i _ HI.out).mono ?_); rintro e' w' ⟨rfl, ⟨nd, rfl⟩⟩))
    go_region_with (go_at_call 48; (with_reducible refine (text_DotAtom.calls _ d _ HD.out ?hGG).mono ?_); (case hGG => repeat (first | exact HG.out | refine Glob.drewN ?_ _ | refine Glob.drew ?_)); rintro e' w2 ⟨rfl, hb2⟩; replace hb2 := then_below (w := w) (pw_below_drewN (Below.refl w.heap.size w) _) hb2)
    all_goals (go_wp2; go_ret3; exact ⟨rfl, by repeat (first | assumption | refine pw_below_drewN ?_ _ | refine below_drew ?_)⟩)
  · obtain ⟨n, rfl⟩ := Int.eq_ofNat_of_zero_le (show 0 ≤ i by omega)
    rw [Int.toNat_natCast] at HD hj ⊢
    clear hi
    go_enter Tryz.func61, Tryz.ntmps61
    go_wp2_with (first | (go_at_call 35; (with_reducible refine (strings_HasPrefix.calls a0 ⟨#[34]⟩ false _ HP.out).mono ?_); rintro e' w' ⟨rfl, ⟨nd, rfl⟩⟩) | (go_at_call 59; (with_reducible refine (strings_IndexByte.calls a0 64 (n : Int) _ HI.out).mono ?_); rintro e' w' ⟨rfl, ⟨nd, rfl⟩⟩))
    go_region_with (go_at_call 48; (with_reducible refine (text_DotAtom.calls _ d _ HD.out ?hGG).mono ?_); (case hGG => repeat (first | exact HG.out | refine Glob.drewN ?_ _ | refine Glob.drew ?_)); rintro e' w2 ⟨rfl, hb2⟩; replace hb2 := then_below (w := w) (pw_below_drewN (Below.refl w.heap.size w) _) hb2)
    all_goals (go_wp2; go_ret3; exact ⟨rfl, by repeat (first | assumption | refine pw_below_drewN ?_ _ | refine below_drew ?_)⟩)

theorem addr_local.calls (k : Nat) (a0 r1 r2 : ByteArray) (r3 : Bool) (w : World) (h : addr_local.f k a0 = some (r1, r2, r3)) (hG : Glob w) :
    Calls Tryz.prog 61 #[.string a0] w fun e w' => e = .returned (.tuple #[.string r1, .string r2, .bool r3]) ∧ Below w.heap.size w w' := by
  unfold addr_local.f at h
  cases h34 : Lib.hasPrefix a0.data.toList [34]
  · rw [h34, if_neg (by decide)] at h
    simp only at h
    split at h
    · rename_i hc
      simp only [Option.some.injEq, Prod.mk.injEq] at h
      obtain ⟨rfl, rfl, rfl⟩ := h
      exact local_plain a0 w h34 hc.2 hc.1 hG
    · cases h
  · rw [h34, if_pos rfl] at h
    obtain ⟨⟨t1, m, e⟩, ht, h⟩ := Option.bind_eq_some_iff.mp h
    simp only at h
    split at h
    · rename_i hc
      simp only [Option.some.injEq, Prod.mk.injEq] at h
      obtain ⟨rfl, rfl, rfl⟩ := h
      exact local_quoted k a0 t1 m e w h34 ht hc.1 hc.2.1 hc.2.2
    · cases h
end Go.Proofs.YtmhcdigneamgdaaGreatDoor.G

namespace Go.Proofs.YtmhcdigneamgdaaGreatDoor.Qb
open Go.RowKit Go.Proofs.YtmhcdigneamgdaaGreatDoor.G Go.Proofs.YtmhcdigneamgdaaGreatDoor.Qa Go.Proofs.YtmhcdigneamgdaaGreatDoorW.PrintWords Go.Proofs.YtmhcdigneamgdaaGreatDoorW.PrintLast Go.Proofs.YtmhcdigneamgdaaGreatDoorW.PrintMore
attribute [local go_sem] max2_int min2_int max_two min_two max_three min_three max_four min_four   -- for this text's walks alone
set_option linter.unusedVariables false
set_option linter.unusedSimpArgs false



def errW : Option Int → Value
  | none => .nilIface
  | some c => .iface 0 (.int .i64 c)
theorem errW_none : errW none = .nilIface := rfl
theorem errW_some (c : Int) : errW (some c) = .iface 0 (.int .i64 c) := rfl

theorem info9 : (Tryz.prog.info? 9).map (fun i => (i.zero, i.size, i.bytes)) = some (some (.string ⟨#[]⟩), 1, 16) := by kernel_rfl
-- the values' own types

end Go.Proofs.YtmhcdigneamgdaaGreatDoor.Qb
