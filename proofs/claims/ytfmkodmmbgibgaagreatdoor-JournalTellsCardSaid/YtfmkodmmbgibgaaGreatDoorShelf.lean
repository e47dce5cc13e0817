/-
  DERIVED: THE SHELF's CONTRACTS AT THIS DUMP, IN PLAIN WORDS (tools/lay-plain.mjs out of 'TryzShelf.lean', which tools/lay-shelf.mjs wrote): THE SAME DECLARATIONS UNDER THE SAME NAMES: 'import', 'namespace', 'open', 'def', 'theorem' AND NOTHING ELSE: no command of the shelf's: FOR A HAND-IN. Each laying: the table of numbers ('.._ren') and one theorem, a field a fact of the dump's own or the kernel's comparison; each contract: ONE APPLICATION.
-/
import Derived.Shelf.Strings.Builder1
import Derived.Shelf.Small.Bits
import Derived.Shelf.Small.Strs
import Derived.Shelf.Small.Wraps
import Derived.Shelf.Strings.BuilderF
import Derived.Shelf.Strings.BuilderK
import Derived.Shelf.Strconv.Atoi
import Derived.Shelf.Strconv.Itoa0
import Derived.Shelf.Strconv.Itoa1
import Derived.Shelf.LaysM
import Derived.Shelf.Strconv.Itoa2
import Derived.Shelf.Strconv.Itoa3
import Derived.Shelf.Strconv.AtoiErrFast
import Derived.Shelf.Strconv.ParseIntEmpty
import Derived.Shelf.Strconv.AtoiFail
import Derived.Shelf.Strconv.Clone
import Derived.Shelf.Strconv.SyntaxError
import Derived.Shelf.LaysC
import Derived.Shelf.Strconv.ToError
import Derived.Shelf.Strconv.AtoiErr
import Derived.Shelf.Strconv.ErrVar
import Derived.Shelf.Strconv.Lower
import Derived.Shelf.Strconv.ParseUint10
import Derived.Shelf.Strconv.ParseUint10Empty
import Derived.Shelf.Strconv.ParseUint10Any
import Derived.Shelf.Strconv.ParseInt10
import Derived.Shelf.Strconv.AtoiLong
import Derived.Shelf.Strconv.AtoiInnerAll
import Derived.Shelf.Strconv.RangeError
import Derived.Shelf.Strconv.ToErrorRange
import Derived.Shelf.Strconv.AtoiAll
import Derived.Shelf.Strconv.ErrVarAll
import Derived.Shelf.Strconv.ParseUintEmpty
import Derived.Shelf.Strconv.ParseUint10b64
import Derived.Shelf.Strconv.ParseUint10b32
import Derived.Shelf.Strconv.ParseUint10b16
import Derived.Shelf.Strconv.ParseUint10b8
import Derived.Shelf.Strconv.ParseUint10At
import Derived.Shelf.Strconv.ParseInt10At64
import Derived.Shelf.Strconv.ParseInt10At32
import Derived.Shelf.Strconv.ParseInt10At16
import Derived.Shelf.Strconv.ParseInt10At8
import Derived.Shelf.Strconv.ParseInt10All
import Derived.Shelf.Strings.Search1
import Derived.Shelf.Sort.Plain
import Derived.Shelf.Strings.Prefix
import Derived.Shelf.Strings.BuilderCap
import Derived.Ground.Names2Prog
import Derived.Shelf.Slices.Clone
import Derived.Shelf.Slices.SearchI
import Derived.Shelf.Slices.In.SortNone
import Derived.Test.YtfmkodmmbgibgaaGreatDoorProg
import Derived.Test.YtfmkodmmbgibgaaGreatDoorRefw
import Derived.Test.YtfmkodmmbgibgaaGreatDoorCellP
namespace Go.Proofs
open Go.Shelf
def Tryz.lays137_ren : Go.Shelf.Ren := ⟨fun | 137 => 124 | 217 => 141 | 266 => 152 | n => n, fun | 9 => 9 | 5 => 5 | 3 => 3 | n => n, fun | n => n⟩
theorem Tryz.lays137 : Go.Proofs.Lays.n137 Tryz.prog Tryz.lays137_ren := {
  mixed := by kernel_rfl
  f137 := Tryz.func124.trans (congrArg some (by kernel_rfl))
  f217 := Tryz.func141.trans (congrArg some (by kernel_rfl))
  f266 := Tryz.func152.trans (congrArg some (by kernel_rfl))
  t3 := Tryz.underlying3
  a3 := Tryz.isAgg3
  z3 := Tryz.sizeOf3
  v3 := Tryz.zeroValue3
  t5 := Tryz.underlying5
  a5 := Tryz.isAgg5
  z5 := Tryz.sizeOf5
  v5 := Tryz.zeroValue5
  t9 := Tryz.underlying9
  a9 := Tryz.isAgg9
  z9 := Tryz.sizeOf9
  v9 := Tryz.zeroValue9 }
open Go.RowKit in
/-- strings.IndexByte: "IndexByte returns the index of the first instance of c in s, or -1 if c is not present in s.": IT RETURNS 'Lib.indexByte s c'; the world is as it was. (LAID: no walk: one application.) -/
theorem Tryz.strings_IndexByte (s : ByteArray) (c : Int) (w : World) :
    Calls Tryz.prog 124 #[.string s, .int .u8 c] w fun e w' => e = .returned (.int .i64 (Lib.indexByte s.data.toList c.toNat.toUInt8)) ∧ w' = w := Any.strings_IndexByte Tryz.lays137 s c w
def Tryz.laysM171_ren : Go.Shelf.Ren := ⟨fun | 171 => 109 | 243 => 127 | 246 => 144 | 283 => 158 | 284 => 159 | 285 => 160 | 286 => 161 | 129 => 140 | 317 => 167 | 318 => 168 | 319 => 169 | 320 => 170 | 337 => 174 | 338 => 175 | n => n, fun | 3 => 3 | 9 => 9 | 2 => 2 | 4 => 4 | 171 => 186 | 0 => 0 | 53 => 170 | 37 => 118 | 5 => 5 | 173 => 188 | 212 => 199 | 51 => 168 | 20 => 20 | 213 => 200 | 46 => 110 | 232 => 207 | 233 => 208 | n => n, fun | 17 => 4 | 18 => 5 | 19 => 6 | n => n⟩
theorem Tryz.laysM171 : Go.Proofs.LaysM.n171 Tryz.prog Tryz.laysM171_ren := {
  mixed := by kernel_rfl
  f129 := Tryz.func140.trans (congrArg some (by kernel_rfl))
  f171 := Tryz.func109.trans (congrArg some (by kernel_rfl))
  f243 := Tryz.func127.trans (congrArg some (by kernel_rfl))
  f246 := Tryz.func144.trans (congrArg some (by kernel_rfl))
  f283 := Tryz.func158.trans (congrArg some (by kernel_rfl))
  f284 := Tryz.func159.trans (congrArg some (by kernel_rfl))
  f285 := Tryz.func160.trans (congrArg some (by kernel_rfl))
  f286 := Tryz.func161.trans (congrArg some (by kernel_rfl))
  f317 := Tryz.func167.trans (congrArg some (by kernel_rfl))
  f318 := Tryz.func168.trans (congrArg some (by kernel_rfl))
  f319 := Tryz.func169.trans (congrArg some (by kernel_rfl))
  f320 := Tryz.func170.trans (congrArg some (by kernel_rfl))
  f337 := Tryz.func174.trans (congrArg some (by kernel_rfl))
  f338 := Tryz.func175.trans (congrArg some (by kernel_rfl))
  t0 := Tryz.underlying0
  a0 := Tryz.isAgg0
  z0 := Tryz.sizeOf0
  v0 := Tryz.zeroValue0
  t2 := Tryz.underlying2
  a2 := Tryz.isAgg2
  z2 := Tryz.sizeOf2
  v2 := Tryz.zeroValue2
  t3 := Tryz.underlying3
  a3 := Tryz.isAgg3
  z3 := Tryz.sizeOf3
  v3 := Tryz.zeroValue3
  t4 := Tryz.underlying4
  a4 := Tryz.isAgg4
  z4 := Tryz.sizeOf4
  v4 := Tryz.zeroValue4
  t5 := Tryz.underlying5
  a5 := Tryz.isAgg5
  z5 := Tryz.sizeOf5
  v5 := Tryz.zeroValue5
  t9 := Tryz.underlying9
  a9 := Tryz.isAgg9
  z9 := Tryz.sizeOf9
  v9 := Tryz.zeroValue9
  t20 := Tryz.underlying20
  a20 := Tryz.isAgg20
  z20 := Tryz.sizeOf20
  v20 := Tryz.zeroValue20
  t37 := Tryz.underlying118
  a37 := Tryz.isAgg118
  z37 := Tryz.sizeOf118
  v37 := Tryz.zeroValue118
  t46 := Tryz.underlying110
  a46 := Tryz.isAgg110
  z46 := Tryz.sizeOf110
  v46 := Tryz.zeroValue110
  t51 := Tryz.underlying168
  a51 := Tryz.isAgg168
  z51 := Tryz.sizeOf168
  v51 := Tryz.zeroValue168
  t53 := Tryz.underlying170
  a53 := Tryz.isAgg170
  z53 := Tryz.sizeOf170
  v53 := Tryz.zeroValue170
  t171 := Tryz.underlying186
  a171 := Tryz.isAgg186
  z171 := Tryz.sizeOf186
  v171 := Tryz.zeroValue186
  t173 := Tryz.underlying188
  a173 := Tryz.isAgg188
  z173 := Tryz.sizeOf188
  v173 := Tryz.zeroValue188
  t212 := Tryz.underlying199
  a212 := Tryz.isAgg199
  z212 := Tryz.sizeOf199
  v212 := Tryz.zeroValue199
  t213 := Tryz.underlying200
  a213 := Tryz.isAgg200
  z213 := Tryz.sizeOf200
  t232 := Tryz.underlying207
  a232 := Tryz.isAgg207
  z232 := Tryz.sizeOf207
  v232 := Tryz.zeroValue207
  t233 := Tryz.underlying208
  a233 := Tryz.isAgg208
  z233 := Tryz.sizeOf208
  v233 := Tryz.zeroValue208
  g17 := by kernel_rfl
  g18 := by kernel_rfl
  g19 := by kernel_rfl
  i0 := by kernel_rfl
  i2 := by kernel_rfl
  i3 := by kernel_rfl
  i4 := by kernel_rfl
  i5 := by kernel_rfl
  i9 := by kernel_rfl
  i20 := by kernel_rfl
  i37 := by kernel_rfl
  i46 := by kernel_rfl
  i51 := by kernel_rfl
  i53 := by kernel_rfl
  i171 := by kernel_rfl
  i173 := by kernel_rfl
  i212 := by kernel_rfl
  i232 := by kernel_rfl
  i233 := by kernel_rfl
  m17 := by kernel_rfl
  m18 := by kernel_rfl
  m19 := by kernel_rfl }
open Go.RowKit Go.Sort Go.Lib in
/-- strconv.Itoa: "Itoa is equivalent to FormatInt(int64(i), 10).": i's DECIMAL NUMERAL ('Lib.itoa': a '-' where i is negative, then the digits), FOR EVERY int. The world behind the call: the world before it, new blocks behind the heap (the library's 'var a [24]byte'), draws. (LAID: no walk: one application.) -/
theorem Tryz.strconv_Itoa (n : Int) (h0 : -9223372036854775808 ≤ n) (h1 : n ≤ 9223372036854775807) (w : World) (htab : Lib.TabIs Tryz.prog w "internal/strconv.uint64pow10" .u64 Lib.pow10Tab) :
    Calls Tryz.prog 109 #[.int .i64 n] w fun e w' => e = .returned (.string ⟨(Lib.itoa n).toArray⟩) ∧ ∃ k os, w' = grow (w.drewN k) os := Any.strconv_Itoa Tryz.laysM171 n h0 h1 w htab
def Tryz.laysC172_ren : Go.Shelf.Ren := ⟨fun | 172 => 126 | 244 => 142 | 245 => 143 | 247 => 153 | 279 => 154 | 280 => 155 | 281 => 156 | 282 => 157 | 287 => 164 | 316 => 165 | 171 => 109 | 205 => 166 | 321 => 172 | 322 => 173 | 243 => 127 | 246 => 144 | 283 => 158 | 284 => 159 | 285 => 160 | 286 => 161 | 129 => 140 | 317 => 167 | 318 => 168 | 319 => 169 | 320 => 170 | 337 => 174 | 338 => 175 | n => n, fun | 9 => 9 | 3 => 3 | 75 => 122 | 76 => 123 | 4 => 4 | 5 => 5 | 167 => 180 | 37 => 118 | 0 => 0 | 85 => 181 | 2 => 2 | 168 => 183 | 53 => 170 | 175 => 193 | 46 => 110 | 210 => 196 | 127 => 146 | 145 => 206 | 143 => 204 | 21 => 21 | 171 => 186 | 173 => 188 | 212 => 199 | 51 => 168 | 20 => 20 | 213 => 200 | 232 => 207 | 233 => 208 | 80 => 126 | n => n, fun | 15 => 2 | 16 => 3 | 17 => 4 | 18 => 5 | 19 => 6 | n => n⟩
theorem Tryz.laysC172 : Go.Proofs.LaysC.n172 Tryz.prog Tryz.laysC172_ren := {
  mixed := by kernel_rfl
  f129 := Tryz.func140.trans (congrArg some (by kernel_rfl))
  f171 := Tryz.func109.trans (congrArg some (by kernel_rfl))
  f172 := Tryz.func126.trans (congrArg some (by kernel_rfl))
  f205 := Tryz.func166.trans (congrArg some (by kernel_rfl))
  f243 := Tryz.func127.trans (congrArg some (by kernel_rfl))
  f244 := Tryz.func142.trans (congrArg some (by kernel_rfl))
  f245 := Tryz.func143.trans (congrArg some (by kernel_rfl))
  f246 := Tryz.func144.trans (congrArg some (by kernel_rfl))
  f247 := Tryz.func153.trans (congrArg some (by kernel_rfl))
  f279 := Tryz.func154.trans (congrArg some (by kernel_rfl))
  f280 := Tryz.func155.trans (congrArg some (by kernel_rfl))
  f281 := Tryz.func156.trans (congrArg some (by kernel_rfl))
  f282 := Tryz.func157.trans (congrArg some (by kernel_rfl))
  f283 := Tryz.func158.trans (congrArg some (by kernel_rfl))
  f284 := Tryz.func159.trans (congrArg some (by kernel_rfl))
  f285 := Tryz.func160.trans (congrArg some (by kernel_rfl))
  f286 := Tryz.func161.trans (congrArg some (by kernel_rfl))
  f287 := Tryz.func164.trans (congrArg some (by kernel_rfl))
  f316 := Tryz.func165.trans (congrArg some (by kernel_rfl))
  f317 := Tryz.func167.trans (congrArg some (by kernel_rfl))
  f318 := Tryz.func168.trans (congrArg some (by kernel_rfl))
  f319 := Tryz.func169.trans (congrArg some (by kernel_rfl))
  f320 := Tryz.func170.trans (congrArg some (by kernel_rfl))
  f321 := Tryz.func172.trans (congrArg some (by kernel_rfl))
  f322 := Tryz.func173.trans (congrArg some (by kernel_rfl))
  f337 := Tryz.func174.trans (congrArg some (by kernel_rfl))
  f338 := Tryz.func175.trans (congrArg some (by kernel_rfl))
  t0 := Tryz.underlying0
  a0 := Tryz.isAgg0
  z0 := Tryz.sizeOf0
  v0 := Tryz.zeroValue0
  t2 := Tryz.underlying2
  a2 := Tryz.isAgg2
  z2 := Tryz.sizeOf2
  v2 := Tryz.zeroValue2
  t3 := Tryz.underlying3
  a3 := Tryz.isAgg3
  z3 := Tryz.sizeOf3
  v3 := Tryz.zeroValue3
  t4 := Tryz.underlying4
  a4 := Tryz.isAgg4
  z4 := Tryz.sizeOf4
  v4 := Tryz.zeroValue4
  t5 := Tryz.underlying5
  a5 := Tryz.isAgg5
  z5 := Tryz.sizeOf5
  v5 := Tryz.zeroValue5
  t9 := Tryz.underlying9
  a9 := Tryz.isAgg9
  z9 := Tryz.sizeOf9
  v9 := Tryz.zeroValue9
  t20 := Tryz.underlying20
  a20 := Tryz.isAgg20
  z20 := Tryz.sizeOf20
  v20 := Tryz.zeroValue20
  t21 := Tryz.underlying21
  a21 := Tryz.isAgg21
  z21 := Tryz.sizeOf21
  v21 := Tryz.zeroValue21
  t37 := Tryz.underlying118
  a37 := Tryz.isAgg118
  z37 := Tryz.sizeOf118
  v37 := Tryz.zeroValue118
  t46 := Tryz.underlying110
  a46 := Tryz.isAgg110
  z46 := Tryz.sizeOf110
  v46 := Tryz.zeroValue110
  t51 := Tryz.underlying168
  a51 := Tryz.isAgg168
  z51 := Tryz.sizeOf168
  v51 := Tryz.zeroValue168
  t53 := Tryz.underlying170
  a53 := Tryz.isAgg170
  z53 := Tryz.sizeOf170
  v53 := Tryz.zeroValue170
  t75 := Tryz.underlying122
  a75 := Tryz.isAgg122
  z75 := Tryz.sizeOf122
  v75 := Tryz.zeroValue122
  t76 := Tryz.underlying123
  a76 := Tryz.isAgg123
  z76 := Tryz.sizeOf123
  v76 := Tryz.zeroValue123
  t85 := Tryz.underlying181
  a85 := Tryz.isAgg181
  z85 := Tryz.sizeOf181
  v85 := Tryz.zeroValue181
  t127 := Tryz.underlying146
  a127 := Tryz.isAgg146
  z127 := Tryz.sizeOf146
  v127 := Tryz.zeroValue146
  t143 := Tryz.underlying204
  a143 := Tryz.isAgg204
  z143 := Tryz.sizeOf204
  v143 := Tryz.zeroValue204
  t145 := Tryz.underlying206
  a145 := Tryz.isAgg206
  z145 := Tryz.sizeOf206
  v145 := Tryz.zeroValue206
  t167 := Tryz.underlying180
  a167 := Tryz.isAgg180
  z167 := Tryz.sizeOf180
  v167 := Tryz.zeroValue180
  t168 := Tryz.underlying183
  a168 := Tryz.isAgg183
  z168 := Tryz.sizeOf183
  v168 := Tryz.zeroValue183
  t171 := Tryz.underlying186
  a171 := Tryz.isAgg186
  z171 := Tryz.sizeOf186
  v171 := Tryz.zeroValue186
  t173 := Tryz.underlying188
  a173 := Tryz.isAgg188
  z173 := Tryz.sizeOf188
  v173 := Tryz.zeroValue188
  t175 := Tryz.underlying193
  a175 := Tryz.isAgg193
  z175 := Tryz.sizeOf193
  v175 := Tryz.zeroValue193
  t210 := Tryz.underlying196
  a210 := Tryz.isAgg196
  z210 := Tryz.sizeOf196
  v210 := Tryz.zeroValue196
  t212 := Tryz.underlying199
  a212 := Tryz.isAgg199
  z212 := Tryz.sizeOf199
  v212 := Tryz.zeroValue199
  t213 := Tryz.underlying200
  a213 := Tryz.isAgg200
  z213 := Tryz.sizeOf200
  t232 := Tryz.underlying207
  a232 := Tryz.isAgg207
  z232 := Tryz.sizeOf207
  v232 := Tryz.zeroValue207
  t233 := Tryz.underlying208
  a233 := Tryz.isAgg208
  z233 := Tryz.sizeOf208
  v233 := Tryz.zeroValue208
  g15 := by kernel_rfl
  g16 := by kernel_rfl
  g17 := by kernel_rfl
  g18 := by kernel_rfl
  g19 := by kernel_rfl
  t80 := Tryz.underlying126
  a80 := Tryz.isAgg126
  z80 := Tryz.sizeOf126
  v80 := Tryz.zeroValue126
  i0 := by kernel_rfl
  i2 := by kernel_rfl
  i3 := by kernel_rfl
  i4 := by kernel_rfl
  i5 := by kernel_rfl
  i9 := by kernel_rfl
  i20 := by kernel_rfl
  i21 := by kernel_rfl
  i37 := by kernel_rfl
  i46 := by kernel_rfl
  i51 := by kernel_rfl
  i53 := by kernel_rfl
  i75 := by kernel_rfl
  i76 := by kernel_rfl
  i80 := by kernel_rfl
  i85 := by kernel_rfl
  i127 := by kernel_rfl
  i143 := by kernel_rfl
  i145 := by kernel_rfl
  i167 := by kernel_rfl
  i168 := by kernel_rfl
  i171 := by kernel_rfl
  i173 := by kernel_rfl
  i175 := by kernel_rfl
  i210 := by kernel_rfl
  i212 := by kernel_rfl
  i232 := by kernel_rfl
  i233 := by kernel_rfl
  m15 := by kernel_rfl
  m16 := by kernel_rfl
  m17 := by kernel_rfl
  m18 := by kernel_rfl
  m19 := by kernel_rfl
  c0 := by kernel_rfl
  c2 := by kernel_rfl
  c3 := by kernel_rfl
  c4 := by kernel_rfl
  c5 := by kernel_rfl
  c9 := by kernel_rfl
  c20 := by kernel_rfl
  c21 := by kernel_rfl
  c37 := by kernel_rfl
  c46 := by kernel_rfl
  c51 := by kernel_rfl
  c53 := by kernel_rfl
  c75 := by kernel_rfl
  c76 := by kernel_rfl
  c80 := by kernel_rfl
  c85 := by kernel_rfl
  c127 := by kernel_rfl
  c143 := by kernel_rfl
  c145 := by kernel_rfl
  c167 := by kernel_rfl
  c168 := by kernel_rfl
  c171 := by kernel_rfl
  c173 := by kernel_rfl
  c175 := by kernel_rfl
  c210 := by kernel_rfl
  c212 := by kernel_rfl
  c213 := by kernel_rfl
  c232 := by kernel_rfl
  c233 := by kernel_rfl }
open Go.RowKit in
/-- strconv.Atoi, AT EVERY STRING THAT SPELLS AN int ('Lib.atoiAll .. = .ok v'; of whatever length: leading zeros count): v, AND NO ERROR. The world: as it was, or with the one new row that '[]byte(..)' lays. (LAID: no walk: one application.) -/
theorem Tryz.strconv_Atoi_ok (s : ByteArray) (hmax : s.size ≤ 9223372036854775806) (v : Int) (h : Lib.atoiAll s.data.toList = .ok v) (w : World) :
    Calls Tryz.prog 126 #[.string s] w fun e w' => e = .returned (.tuple #[.int .i64 v, .nilIface]) ∧ (w' = w ∨ ∃ t, w' = Lib.bytesWorld w 5 t) := Any.strconv_Atoi_ok Tryz.laysC172 s hmax v h w
open Go.RowKit in
theorem Tryz.strconv_Atoi_syntax_var (s : ByteArray) (hlim : s.size ≤ 281474976710656) (h : Lib.atoiAll s.data.toList = .«syntax») (tp : TypeId) (p : Value) (w : World) (hvar : w.var? Tryz.prog "strconv.ErrSyntax" = some #[.iface tp p]) :
    Calls Tryz.prog 126 #[.string s] w fun e w' => ∃ N, e = .returned (.tuple #[.int .i64 0, .iface 183 (.pointer (some ⟨N, 0, none⟩))]) ∧ w.heap.size ≤ N ∧ w'.heap[N]? = some (.cells #[.string ⟨#[65, 116, 111, 105]⟩, .string s, .iface tp p] 196 (0, 0)) ∧ Below w.heap.size w w' := Any.strconv_Atoi_syntax_var Tryz.laysC172 s hlim h tp p w hvar
open Go.RowKit in
theorem Tryz.strconv_Atoi_range_var (s : ByteArray) (hlim : s.size ≤ 281474976710656) (h : Lib.atoiAll s.data.toList = .range) (tp : TypeId) (p : Value) (w : World) (hvar : w.var? Tryz.prog "strconv.ErrRange" = some #[.iface tp p]) :
    Calls Tryz.prog 126 #[.string s] w fun e w' => ∃ N, e = .returned (.tuple #[.int .i64 (Lib.atoiSat s.data.toList), .iface 183 (.pointer (some ⟨N, 0, none⟩))]) ∧ w.heap.size ≤ N ∧ w'.heap[N]? = some (.cells #[.string ⟨#[65, 116, 111, 105]⟩, .string s, .iface tp p] 196 (0, 0)) ∧ Below w.heap.size w w' := Any.strconv_Atoi_range_var Tryz.laysC172 s hlim h tp p w hvar
def Tryz.lays189_ren : Go.Shelf.Ren := ⟨fun | 189 => 90 | 125 => 117 | 257 => 116 | 128 => 139 | 129 => 140 | 294 => 130 | 295 => 131 | 296 => 132 | 297 => 133 | 298 => 134 | 299 => 135 | 216 => 136 | 300 => 137 | 301 => 138 | 328 => 146 | 329 => 147 | 330 => 148 | 331 => 149 | 332 => 150 | 215 => 151 | 343 => 163 | n => n, fun | 28 => 40 | 3 => 3 | 46 => 110 | 0 => 0 | 51 => 168 | 53 => 170 | 4 => 4 | 183 => 162 | 182 => 161 | 131 => 153 | 5 => 5 | 9 => 9 | 218 => 174 | 222 => 178 | 228 => 190 | 229 => 191 | n => n, fun | n => n⟩
theorem Tryz.lays189 : Go.Proofs.Lays.n189 Tryz.prog Tryz.lays189_ren := {
  mixed := by kernel_rfl
  f125 := Tryz.func117.trans (congrArg some (by kernel_rfl))
  f128 := Tryz.func139.trans (congrArg some (by kernel_rfl))
  f129 := Tryz.func140.trans (congrArg some (by kernel_rfl))
  f189 := Tryz.func90.trans (congrArg some (by kernel_rfl))
  f215 := Tryz.func151.trans (congrArg some (by kernel_rfl))
  f216 := Tryz.func136.trans (congrArg some (by kernel_rfl))
  f257 := Tryz.func116.trans (congrArg some (by kernel_rfl))
  f294 := Tryz.func130.trans (congrArg some (by kernel_rfl))
  f295 := Tryz.func131.trans (congrArg some (by kernel_rfl))
  f296 := Tryz.func132.trans (congrArg some (by kernel_rfl))
  f297 := Tryz.func133.trans (congrArg some (by kernel_rfl))
  f298 := Tryz.func134.trans (congrArg some (by kernel_rfl))
  f299 := Tryz.func135.trans (congrArg some (by kernel_rfl))
  f300 := Tryz.func137.trans (congrArg some (by kernel_rfl))
  f301 := Tryz.func138.trans (congrArg some (by kernel_rfl))
  f328 := Tryz.func146.trans (congrArg some (by kernel_rfl))
  f329 := Tryz.func147.trans (congrArg some (by kernel_rfl))
  f330 := Tryz.func148.trans (congrArg some (by kernel_rfl))
  f331 := Tryz.func149.trans (congrArg some (by kernel_rfl))
  f332 := Tryz.func150.trans (congrArg some (by kernel_rfl))
  f343 := Tryz.func163.trans (congrArg some (by kernel_rfl))
  t0 := Tryz.underlying0
  a0 := Tryz.isAgg0
  z0 := Tryz.sizeOf0
  v0 := Tryz.zeroValue0
  t3 := Tryz.underlying3
  a3 := Tryz.isAgg3
  z3 := Tryz.sizeOf3
  v3 := Tryz.zeroValue3
  t4 := Tryz.underlying4
  a4 := Tryz.isAgg4
  z4 := Tryz.sizeOf4
  v4 := Tryz.zeroValue4
  t5 := Tryz.underlying5
  a5 := Tryz.isAgg5
  z5 := Tryz.sizeOf5
  v5 := Tryz.zeroValue5
  t9 := Tryz.underlying9
  a9 := Tryz.isAgg9
  z9 := Tryz.sizeOf9
  v9 := Tryz.zeroValue9
  t28 := Tryz.underlying40
  a28 := Tryz.isAgg40
  z28 := Tryz.sizeOf40
  v28 := Tryz.zeroValue40
  t46 := Tryz.underlying110
  a46 := Tryz.isAgg110
  z46 := Tryz.sizeOf110
  v46 := Tryz.zeroValue110
  t51 := Tryz.underlying168
  a51 := Tryz.isAgg168
  z51 := Tryz.sizeOf168
  v51 := Tryz.zeroValue168
  t53 := Tryz.underlying170
  a53 := Tryz.isAgg170
  z53 := Tryz.sizeOf170
  v53 := Tryz.zeroValue170
  t131 := Tryz.underlying153
  a131 := Tryz.isAgg153
  z131 := Tryz.sizeOf153
  v131 := Tryz.zeroValue153
  t182 := Tryz.underlying161
  a182 := Tryz.isAgg161
  z182 := Tryz.sizeOf161
  v182 := Tryz.zeroValue161
  t183 := Tryz.underlying162
  a183 := Tryz.isAgg162
  z183 := Tryz.sizeOf162
  v183 := Tryz.zeroValue162
  t218 := Tryz.underlying174
  a218 := Tryz.isAgg174
  z218 := Tryz.sizeOf174
  v218 := Tryz.zeroValue174
  t222 := Tryz.underlying178
  a222 := Tryz.isAgg178
  z222 := Tryz.sizeOf178
  v222 := Tryz.zeroValue178
  t228 := Tryz.underlying190
  a228 := Tryz.isAgg190
  z228 := Tryz.sizeOf190
  v228 := Tryz.zeroValue190
  t229 := Tryz.underlying191
  a229 := Tryz.isAgg191
  z229 := Tryz.sizeOf191
  v229 := Tryz.zeroValue191 }
open Go.Sort Go.RowKit in
theorem Tryz.slices_Sort_int (blk off cap : Nat) (zs : List Int) (w : World) (hH : Holds (Value.int .i64) w blk off zs.toArray) (hblk : blk < w.heap.size) (hsz : zs.length < 4611686018427387904) :
    Calls Tryz.prog 90 #[.slice (some ⟨blk, off, none⟩) zs.length cap] w fun e w' =>
      e = .returned (.tuple #[]) ∧ ∃ n os, w' = grow (putRow (Value.int .i64) (Sort.ahead w n) blk off (zs.mergeSort fun x y => decide (x ≤ y)).toArray) os := Any.slices_Sort_int Tryz.lays189 blk off cap zs w hH hblk hsz
def Tryz.lays206_ren : Go.Shelf.Ren := ⟨fun | 206 => 171 | n => n, fun | 9 => 9 | 4 => 4 | 3 => 3 | n => n, fun | n => n⟩
theorem Tryz.lays206 : Go.Proofs.Lays.n206 Tryz.prog Tryz.lays206_ren := {
  mixed := by kernel_rfl
  f206 := Tryz.func171.trans (congrArg some (by kernel_rfl))
  t3 := Tryz.underlying3
  a3 := Tryz.isAgg3
  z3 := Tryz.sizeOf3
  v3 := Tryz.zeroValue3
  t4 := Tryz.underlying4
  a4 := Tryz.isAgg4
  z4 := Tryz.sizeOf4
  v4 := Tryz.zeroValue4
  t9 := Tryz.underlying9
  a9 := Tryz.isAgg9
  z9 := Tryz.sizeOf9
  v9 := Tryz.zeroValue9 }
open Go.RowKit Go.Lib in
/-- internal/stringslite.HasPrefix (what strings.HasPrefix calls). (LAID: no walk: one application.) -/
theorem Tryz.stringslite_HasPrefix (s p : ByteArray) (w : World) :
    Calls Tryz.prog 171 #[.string s, .string p] w fun e w' => e = .returned (.bool (Lib.hasPrefix s.data.toList p.data.toList)) ∧ w' = w := Any.stringslite_HasPrefix Tryz.lays206 s p w
open Go.RowKit Go.Sort in
/-- .. and plain. (LAID: no walk: one application.) -/
theorem Tryz.slices_Sort_int_none (p : Option Addr) (cap : Nat) (w : World) :
    Calls Tryz.prog 90 #[.slice p 0 cap] w fun e w' => e = .returned (.tuple #[]) ∧ w' = w := Any.slices_Sort_int_none Tryz.lays189 p cap w
end Go.Proofs
/- ints sorted -/
namespace Go.Proofs.YtfmkodmmbgibgaaGreatDoor
open Go.RowKit M
set_option linter.unusedVariables false
theorem sortI0 {w : World} {v : Value} {l : List Int} {As : List Th} (hS : Sat w (rowT inC v l :: As)) (hl : l.length < 4611686018427387904) : Calls Tryz.prog 90 #[v] w (Ret fun u w' => u = .tuple #[] ∧ Sat w' (rowT inC v (sortI l) :: As)) :=
  calls_sortI (fun blk off cap ss w h1 h2 h3 => Tryz.slices_Sort_int blk off cap ss w h1 h2 h3) (fun p cap w => Tryz.slices_Sort_int_none p cap w) hS hl
end Go.Proofs.YtfmkodmmbgibgaaGreatDoor
/- wire: numbers -/
namespace Go.Proofs.YtfmkodmmbgibgaaGreatDoor
open Go.RowKit M
set_option linter.unusedVariables false
theorem sat_grow {w : World} {As : List Th} (hS : Sat w As) (k : Nat) (os : Array Obj) : Sat (Go.Sort.grow (w.drewN k) os) As := by
  refine hS.only ⟨rfl, rfl, rfl, by simp [Go.Sort.grow], fun j hj _ => ?_⟩
  have : j < (w.drewN k).heap.size := hj
  show (w.heap ++ os)[j]? = w.heap[j]?
  rw [Array.getElem?_append_left hj]
structure WireG (w : World) : Prop where
  tab : Lib.TabIs Tryz.prog w "internal/strconv.uint64pow10" .u64 Lib.pow10Tab
  syn : ∃ tp p, w.var? Tryz.prog "strconv.ErrSyntax" = some #[.iface tp p]
  rng : ∃ tp p, w.var? Tryz.prog "strconv.ErrRange" = some #[.iface tp p]
theorem var_below {P : Program} {W w : World} {name : String} {v : Array Value} (h : W.var? P name = some v) (hb : RowKit.Below W.heap.size W w) : w.var? P name = some v := by
  unfold World.var? at *
  cases hg : P.globalNamed name with
  | none => simp [hg] at h
  | some g =>
    simp only [hg, Option.bind_some] at h ⊢
    have hlt : g < W.heap.size := by
      rcases Nat.lt_or_ge g W.heap.size with q | q
      · exact q
      · rw [Array.getElem?_eq_none q] at h; cases h
    rw [hb.block g hlt]; exact h
theorem WireG.below {W w : World} (h : WireG W) (hb : RowKit.Below W.heap.size W w) : WireG w :=
  ⟨var_below h.tab hb, let ⟨a, b, h⟩ := h.syn; ⟨a, b, var_below h hb⟩, let ⟨a, b, h⟩ := h.rng; ⟨a, b, var_below h hb⟩⟩
theorem itoa0 {w : World} {As : List Th} (hS : Sat w As) (hG : WireG w) (n : Int) (hn : inI n) : Calls Tryz.prog 109 #[intV n] w (Ret fun v w' => v = strV (Lib.itoa n) ∧ Sat w' As) :=
  (Tryz.strconv_Itoa n hn.1 hn.2 w hG.tab).mono fun e w' ⟨h1, k, os, h2⟩ => ⟨_, h1, rfl, by rw [h2]; exact sat_grow hS k os⟩
theorem wInt_sp {w : World} {F : Th} (hS : Sat w [F]) (hG : Ent F WireG) (n : Int) (hn : inI n) :
    Calls Tryz.prog 78 #[intV n] w (Ret fun v w' => v = strV (Lib.itoa n ++ [59]) ∧ Sat w' [F]) := by
 refine calls_enter Tryz.func78 rfl Tryz.ntmps78 rfl ?_
 have hil := (itoa_len hn).1
 refine wc_seq (wc_region (wl_assign rfl rfl (wl_nil (qs_seq (wc_seq (wc_region (wl_move rfl rfl ?_)))))))
 have hC1 := hS.split [] [false] rfl; dsimp only [selF, pickA, nthA, List.cons_append, List.nil_append] at hC1
 refine wl_call cal_109 rfl (itoa0 hC1 (Ent.sat (hG.starL 0 rfl) hC1 0 rfl) n hn) rfl ?_
 rintro e w1 ⟨_, rfl, rfl, hS1⟩; refine ⟨_, rfl, ?_⟩
 replace hS1 := hS1.join rfl; dsimp only [List.dropLast, List.cons_append, List.nil_append] at hS1; clear hC1
 refine wl_concat rfl rfl (by first | omega | (simp; omega)) rfl ?_
 refine wl_assign rfl rfl (wl_nil (qs_seq (wc_ret ?_)))
 refine fin1 (.inr rfl) rfl rfl ?_
 exact ⟨_, rfl, rfl, hS1⟩
def readT (b : Nat) (s : Bs × Bool) : Th := blkT b [strV s.1, .bool s.2]
theorem wOpen_sp {w : World} {F : Th} (hS : Sat w [F]) (s : Bs) :
    Calls Tryz.prog 76 #[strV s] w (Ret fun v w' => ∃ b, v = ptrV b 0 ∧ Sat w' [readT b (s, false), F]) := by
 refine calls_enter Tryz.func76 rfl Tryz.ntmps76 rfl ?_
 refine wc_seq (wc_region (wl_assign rfl rfl (wl_nil (qs_seq (wc_seq (wc_region (wl_move rfl rfl ?_)))))))
 refine wl_buildS rfl pl_143_0 asz_143 zr_143 rfl rfl ?_
 refine wl_box hS rfl rfl rfl ?_
 intro b1 w1 hS1
 refine wl_assign rfl rfl (wl_nil (qs_seq (wc_ret ?_)))
 refine fin1 (.inr rfl) rfl rfl ?_
 exact ⟨_, rfl, _, rfl, hS1⟩
theorem wFail_sp {w : World} {F : Th} {b : Nat} {s : Bs × Bool} (hS : Sat w [readT b s, F]) :
    Calls Tryz.prog 125 #[ptrV b 0] w (Ret fun v w' => v = .tuple #[] ∧ Sat w' [readT b ([], true), F]) := by
 refine calls_enter Tryz.func125 rfl Tryz.ntmps125 rfl ?_
 refine wc_region (wl_move rfl rfl (wl_move rfl rfl (wl_nilCheck rfl rfl ?_)))
 refine wl_fieldAddr rfl fo_143_0 rfl ?_
 first | (refine wl_store hS rfl rfl sz_9 (by first | rfl | assumption) (i := 0) rfl (by first | decide | exact Nat.le_of_ble_eq_true rfl | (simp; done) | omega) ?_)
 intro w1 hS2; dsimp only [List.set] at hS2
 refine wl_nilCheck rfl rfl ?_
 refine wl_fieldAddr rfl fo_143_1 rfl ?_
 first | (refine wl_store hS2 rfl rfl sz_4 (by first | rfl | assumption) (i := 0) rfl (by first | decide | exact Nat.le_of_ble_eq_true rfl | (simp; done) | omega) ?_)
 intro w3 hS4; dsimp only [List.set] at hS4
 clear hS2
 refine wl_nil ?_
 refine fin0 (.inl rfl) rfl ?_
 exact ⟨_, rfl, rfl, hS4⟩
theorem isErr : isIface Tryz.prog 122 = true := by kernel_rfl
theorem atoi0 {w : World} {As : List Th} (hS : Sat w As) (hG : WireG w) (s : Bs) (hs : s.length ≤ 20000000) : Calls Tryz.prog 126 #[strV s] w (Ret fun v w' => (∃ x ev g, v = .tuple #[intV x, ev] ∧ ((ev = .nilIface ∧ g = false) ∨ ∃ a b, ev = .iface a b ∧ g = true) ∧ (g = false → Lib.atoiAll s = .ok x) ∧ (g = true → ∀ n, Lib.atoiAll s ≠ .ok n)) ∧ Sat w' As) := by
  cases h : Lib.atoiAll s with
  | ok n =>
    refine (Tryz.strconv_Atoi_ok ⟨s.toArray⟩ (by simp [ByteArray.size]; omega) n h w).mono fun e w' ⟨h1, h2⟩ => ⟨_, h1, ⟨n, _, false, rfl, .inl ⟨rfl, rfl⟩, (fun _ => rfl), (fun q => by cases q)⟩, ?_⟩
    rcases h2 with rfl | ⟨t, rfl⟩
    · exact hS
    · exact hS.belowAll (Lib.bytesWorld_below _ _ _)
  | «syntax» =>
    obtain ⟨tp, p, hv⟩ := hG.syn
    exact (Tryz.strconv_Atoi_syntax_var ⟨s.toArray⟩ (by simp [ByteArray.size]; omega) h tp p w hv).mono fun e w' ⟨N, h1, _, _, h2⟩ => ⟨_, h1, ⟨0, _, true, rfl, .inr ⟨_, _, rfl, rfl⟩, (fun q => by cases q), (fun _ n q => by cases q)⟩, hS.belowAll h2⟩
  | range =>
    obtain ⟨tp, p, hv⟩ := hG.rng
    exact (Tryz.strconv_Atoi_range_var ⟨s.toArray⟩ (by simp [ByteArray.size]; omega) h tp p w hv).mono fun e w' ⟨N, h1, _, _, h2⟩ => ⟨_, h1, ⟨_, _, true, rfl, .inr ⟨_, _, rfl, rfl⟩, (fun q => by cases q), (fun _ n q => by cases q)⟩, hS.belowAll h2⟩
theorem ixb0 {w : World} {As : List Th} (hS : Sat w As) (s : Bs) (e : UInt8) : Calls Tryz.prog 124 #[strV s, byteV e] w (Ret fun v w' => v = intV (Lib.indexByte s e) ∧ Sat w' As) := by
  refine (Tryz.strings_IndexByte ⟨s.toArray⟩ (e.toNat : Int) w).mono fun e' w' ⟨h1, h2⟩ => ⟨_, h1, ?_, by rw [h2]; exact hS⟩
  simp
def numV (e : UInt8) (least : Int) (s : Bs × Bool) : Int := match numP e least s.1 with | some (n, _) => n | none => 0
def numR (e : UInt8) (least : Int) (s : Bs × Bool) : Bs × Bool := match numP e least s.1 with | some (_, r) => (r, s.2) | none => ([], true)
theorem num_none {e : UInt8} {least : Int} {s : Bs × Bool} (h : numP e least s.1 = none) : numV e least s = 0 ∧ numR e least s = ([], true) := by simp [numV, numR, h]
theorem num_some {e : UInt8} {least n : Int} {s : Bs × Bool} {r : Bs} (h : numP e least s.1 = some (n, r)) : numV e least s = n ∧ numR e least s = (r, s.2) := by simp [numV, numR, h]
theorem num_neg {e : UInt8} {least : Int} {r : Bs} (h : Lib.indexByte (r.take 21) e < 0) : numP e least r = none := by unfold numP; rw [if_pos h]
theorem num_at {e : UInt8} {least : Int} {r : Bs} {o : Nat} (h : Lib.indexByte (r.take 21) e = (o : Int)) : numP e least r = match Lib.atoiAll ((r.take 21).take o) with | .ok n => if Lib.itoa n = (r.take 21).take o ∧ least ≤ n then some (n, r.drop (o + 1)) else none | _ => none := by
  unfold numP; rw [h, if_neg (by omega)]; rfl
theorem num_bad {e : UInt8} {least : Int} {r : Bs} {o : Nat} (h : Lib.indexByte (r.take 21) e = (o : Int)) (h2 : ∀ n, Lib.atoiAll ((r.take 21).take o) ≠ .ok n) : numP e least r = none := by
  rw [num_at h]
  cases hq : Lib.atoiAll ((r.take 21).take o) with
  | ok n => exact absurd hq (h2 n)
  | «syntax» => rfl
  | range => rfl
theorem num_not {e : UInt8} {least x : Int} {r : Bs} {o : Nat} (h : Lib.indexByte (r.take 21) e = (o : Int)) (h2 : Lib.atoiAll ((r.take 21).take o) = .ok x) (h3 : ¬ (Lib.itoa x = (r.take 21).take o ∧ least ≤ x)) : numP e least r = none := by
  rw [num_at h, h2]; dsimp only; rw [if_neg h3]
theorem num_yes {e : UInt8} {least x : Int} {r : Bs} {o : Nat} (h : Lib.indexByte (r.take 21) e = (o : Int)) (h2 : Lib.atoiAll ((r.take 21).take o) = .ok x) (h3 : Lib.itoa x = (r.take 21).take o ∧ least ≤ x) : numP e least r = some (x, r.drop (o + 1)) := by
  rw [num_at h, h2]; dsimp only; rw [if_pos h3]
set_option maxRecDepth 100000 in
theorem number_sp {w : World} {F : Th} {b : Nat} {s : Bs × Bool} (hS : Sat w [readT b s, F]) (hG : Ent F WireG) (e : UInt8) (least : Int) (hrl : s.1.length ≤ 9223372036854775806) :
    Calls Tryz.prog 108 #[ptrV b 0, byteV e, intV least] w (Ret fun v w' => v = intV (numV e least s) ∧ Sat w' [readT b (numR e least s), F]) := by
 obtain ⟨r, q⟩ := s
 dsimp only at hrl
 change Sat w [blkT b [strV r, .bool q], F] at hS
 refine calls_enter Tryz.func108 rfl Tryz.ntmps108 rfl ?_
 refine wc_seq (wc_region (wl_assign rfl rfl (wl_nil (qs_seq (wc_seq ?_)))))
 have hS1 := hS.drew
 refine wc_draw [0, 1, 2, 3, 4, 5, 6, 7, 8, 9, 10, 11] [] mix (by kernel_rfl) ?_
 refine vc_p rfl rfl rfl (fun _ => (ev_move rfl)) ?_
 refine vc_p rfl rfl rfl (fun _ => (ev_nilCheck rfl)) ?_
 refine vc_p rfl rfl rfl (fun _ => (ev_fieldAddr rfl fo_143_0)) ?_
 refine vc_q rfl rfl rfl (ev_load rfl ag_9 (by first | assumption | exact hS1.cell 0 rfl rfl)) ?_
 refine vc_p rfl rfl rfl (fun _ => (ev_move rfl)) ?_
 refine vc_p rfl rfl rfl (fun _ => (ev_nilCheck rfl)) ?_
 refine vc_p rfl rfl rfl (fun _ => (ev_fieldAddr rfl fo_143_0)) ?_
 refine vc_q rfl rfl rfl (ev_load rfl ag_9 (by first | assumption | exact hS1.cell 0 rfl rfl)) ?_
 refine vc_p rfl rfl rfl (fun _ => (ev_lenS Tryz.underlying9 rfl)) ?_
 refine vc_p rfl rfl rfl (fun _ => (ev_minI rfl rfl)) ?_
 refine vc_p rfl rfl rfl (fun _ => (ev_sliceS 0 (min 21 r.length) Tryz.underlying9 rfl (bndN _) (bndS (min 21 r.length) _ rfl (by omega)) (by omega) (by omega))) ?_
 refine vc_p rfl rfl rfl (fun _ => (ev_assign rfl)) ?_
 refine VC.nil ?_
 rw [show List.drop 0 (List.take (min 21 r.length) r) = r.take 21 by rw [List.drop_zero, ← List.take_eq_take_min]]
 refine qs_seq ?_
 refine wc_sub (L' := [(7, _), (6, _), (0, _), (1, _), (2, _)]) (.cons rfl (.cons rfl (.cons rfl (.cons rfl (.cons rfl .nil))))) ?_
 refine wc_seq (wc_region (wl_move rfl rfl (wl_move rfl rfl ?_)))
 have hC2 := hS1.split [] [false, false] rfl; dsimp only [selF, pickA, nthA, List.cons_append, List.nil_append] at hC2
 refine wl_call cal_124 rfl (ixb0 hC2 _ e) rfl ?_
 rintro e w2 ⟨_, rfl, rfl, hS2⟩; refine ⟨_, rfl, ?_⟩
 replace hS2 := hS2.join rfl; dsimp only [List.dropLast, List.cons_append, List.nil_append] at hS2; clear hC2
 clear hS1
 refine wl_assign rfl rfl (wl_nil (qs_seq (wc_seq (wc_seq (wc_region (wl_move rfl rfl ?_))))))
 refine wl_lss rfl rfl rfl ?_
 refine wl_nil (qs_seq ?_)
 refine wc_sub (L' := [(26, _), (8, _), (7, _), (6, _), (0, _), (2, _)]) (.cons rfl (.cons rfl (.cons rfl (.cons rfl (.cons rfl (.cons rfl .nil)))))) ?_
 refine wc_condD rfl (fun h3 => ?_) (fun h3 => ?_)
 ·refine wc_seq (wc_region (wl_move rfl rfl ?_))
  have hC4 := hS2.split [0] [true, false] rfl; dsimp only [selF, pickA, nthA, List.cons_append, List.nil_append] at hC4
  refine wl_call cal_125 rfl (wFail_sp (s := (r, q)) hC4) rfl ?_
  rintro e w4 ⟨_, rfl, rfl, hS4⟩; refine ⟨_, rfl, ?_⟩
  replace hS4 := hS4.join rfl; dsimp only [List.dropLast, List.cons_append, List.nil_append] at hS4; clear hC4
  clear hS2
  refine wl_nil (qs_seq (wc_seq (wc_region (wl_assign rfl rfl (wl_nil (qs_seq (wc_ret (qs_then_ret ?_))))))))
  refine fin1 (.inr rfl) rfl rfl ?_
  have hnp : numP e least r = none := num_neg (by assumption)
  exact ⟨_, rfl, by rw [(num_none (s := (r, q)) hnp).1], by rw [(num_none (s := (r, q)) hnp).2]; exact hS4⟩
 obtain ⟨o, hio⟩ : ∃ o : Nat, Lib.indexByte (r.take 21) e = (o : Int) := ⟨(Lib.indexByte (r.take 21) e).toNat, by omega⟩
 have hol := (List.getElem?_eq_some_iff.1 (Lib.indexByte_some hio).1).1
 have hol2 : o < r.length := by simp at hol; omega
 have htl : (r.take 21).length ≤ 21 := by simp; omega
 rw [hio]
 refine wc_skip (qs_seq (wc_seq (wc_region (wl_move rfl rfl (wl_move rfl rfl ?_)))))
 refine wl_sliceS 0 o Tryz.underlying9 rfl (bndN _) (bndS o _ rfl rfl) (by omega) (by omega) rfl ?_
 rw [List.drop_zero]
 have hC5 := hS2.split [] [false, false] rfl; dsimp only [selF, pickA, nthA, List.cons_append, List.nil_append] at hC5
 refine wl_call cal_126 rfl (atoi0 hC5 (Ent.sat (hG.starL 1 rfl) hC5 0 rfl) _ (by simp; omega)) rfl ?_
 rintro e w5 ⟨_, rfl, ⟨x, ev, g, rfl, hev, hok, hbad⟩, hS5⟩; refine ⟨_, rfl, ?_⟩
 replace hS5 := hS5.join rfl; dsimp only [List.dropLast, List.cons_append, List.nil_append] at hS5; clear hC5
 clear hS2
 refine wl_move rfl rfl (wl_extract rfl rfl rfl (wl_extract rfl rfl rfl (wl_assign rfl rfl (wl_assign rfl rfl (wl_nil (qs_seq ?_))))))
 refine wc_sub (L' := [(10, _), (9, _), (8, _), (7, _), (6, _), (0, _), (2, _)]) (.cons rfl (.cons rfl (.cons rfl (.cons rfl (.cons rfl (.cons rfl (.cons rfl .nil))))))) ?_
 refine wc_seq (wc_seq ?_)
 have hS6 := hS5.drew
 refine wc_draw [0, 1, 2, 3, 5, 6, 7, 4, 8, 9, 10, 11, 12, 13, 14] [4] mix (by kernel_rfl) ?_
 refine vc_p rfl rfl rfl (fun _ => (ev_move rfl)) ?_
 refine vc_p rfl rfl rfl (fun _ => (ev_neqIfNil isErr hev rfl)) ?_
 refine vc_p rfl rfl rfl (fun _ => (ev_move rfl)) ?_
 refine vc_split 38 rfl (fun h7 => ?_) (fun h7 => ?_)
 ·refine vc_not rfl rfl (guard_no rfl rfl h7) ?_
  refine vc_not rfl rfl (guard_no rfl rfl h7) ?_
  refine vc_not rfl rfl (guard_no rfl rfl h7) ?_
  refine vc_not rfl rfl (guard_no rfl rfl h7) ?_
  refine VC.spineNot rfl rfl (guard_no rfl rfl h7) ?_
  refine vc_not rfl rfl (guard_no rfl rfl h7) ?_
  refine vc_p rfl rfl rfl (fun _ => (ev_pickT rfl h7 rfl)) ?_
  refine vc_p rfl rfl rfl (fun _ => (ev_move rfl)) ?_
  refine vc_not rfl rfl (guard_no rfl rfl rfl) ?_
  refine vc_not rfl rfl (guard_no rfl rfl rfl) ?_
  refine vc_not rfl rfl (guard_no rfl rfl rfl) ?_
  refine vc_p rfl rfl rfl (fun _ => (ev_pickT rfl rfl rfl)) ?_
  refine VC.nil (qs_seq ?_)
  refine wc_sub (L' := [(50, _), (9, _), (8, _), (6, _), (0, _)]) (.cons rfl (.cons rfl (.cons rfl (.cons rfl (.cons rfl .nil))))) ?_
  refine wc_condT rfl ?_
  refine wc_seq (wc_region (wl_move rfl rfl ?_))
  have hC8 := hS6.split [0] [true, false] rfl; dsimp only [selF, pickA, nthA, List.cons_append, List.nil_append] at hC8
  refine wl_call cal_125 rfl (wFail_sp (s := (r, q)) hC8) rfl ?_
  rintro e w8 ⟨_, rfl, rfl, hS8⟩; refine ⟨_, rfl, ?_⟩
  replace hS8 := hS8.join rfl; dsimp only [List.dropLast, List.cons_append, List.nil_append] at hS8; clear hC8
  clear hS6
  refine wl_nil (qs_seq (wc_seq (wc_region (wl_assign rfl rfl (wl_nil (qs_seq (wc_ret (qs_then_ret ?_))))))))
  refine fin1 (.inr rfl) rfl rfl ?_
  have hnp : numP e least r = none := num_bad hio (hbad (by assumption))
  exact ⟨_, rfl, by rw [(num_none (s := (r, q)) hnp).1], by rw [(num_none (s := (r, q)) hnp).2]; exact hS8⟩
 refine vc_p rfl rfl (guard_yes rfl rfl h7) (fun _ => (Ev.gd (ev_move rfl))) ?_
 refine vc_p rfl rfl (guard_yes rfl rfl h7) (fun _ => (Ev.gd (ev_move rfl))) ?_
 refine vc_p rfl rfl (guard_yes rfl rfl h7) (fun _ => (Ev.gd (ev_move rfl))) ?_
 refine vc_p rfl rfl (guard_yes rfl rfl h7) (fun _ => (Ev.gd (ev_sliceS 0 o Tryz.underlying9 rfl (bndN _) (bndS o _ rfl rfl) (by omega) (by omega)))) ?_
 refine vc_s rfl rfl (guard_yes rfl rfl h7) rfl rfl rfl ?_
 have hC9 := hS6.split [] [false, false] rfl; dsimp only [selF, pickA, nthA, List.cons_append, List.nil_append] at hC9
 refine wl_call cal_109 rfl (itoa0 hC9 (Ent.sat (hG.starL 1 rfl) hC9 0 rfl) x (atoi_in (hok (by assumption)))) rfl ?_
 rintro e w9 ⟨_, rfl, rfl, hS9⟩; refine ⟨_, rfl, ?_⟩
 replace hS9 := hS9.join rfl; dsimp only [List.dropLast, List.cons_append, List.nil_append] at hS9; clear hC9
 clear hS6
 refine vc_e .nil ?_
 refine vc_p rfl rfl (guard_yes rfl rfl h7) (fun _ => (Ev.gd (ev_neqS rfl rfl))) ?_
 refine vc_p rfl rfl rfl (fun _ => (ev_pickF rfl h7 rfl)) ?_
 refine vc_p rfl rfl rfl (fun _ => (ev_move rfl)) ?_
 refine vc_splitD 46 rfl (fun h10 => ?_) (fun h10 => ?_)
 ·refine vc_not rfl rfl (guard_no rfl rfl (decide_eq_true h10)) ?_
  refine vc_not rfl rfl (guard_no rfl rfl (decide_eq_true h10)) ?_
  refine vc_not rfl rfl (guard_no rfl rfl (decide_eq_true h10)) ?_
  refine vc_p rfl rfl rfl (fun _ => (ev_pickT rfl (decide_eq_true h10) rfl)) ?_
  refine VC.nil (qs_seq ?_)
  refine wc_sub (L' := [(50, _), (9, _), (8, _), (6, _), (0, _)]) (.cons rfl (.cons rfl (.cons rfl (.cons rfl (.cons rfl .nil))))) ?_
  refine wc_condT rfl ?_
  refine wc_seq (wc_region (wl_move rfl rfl ?_))
  have hC11 := hS9.split [0] [true, false] rfl; dsimp only [selF, pickA, nthA, List.cons_append, List.nil_append] at hC11
  refine wl_call cal_125 rfl (wFail_sp (s := (r, q)) hC11) rfl ?_
  rintro e w11 ⟨_, rfl, rfl, hS11⟩; refine ⟨_, rfl, ?_⟩
  replace hS11 := hS11.join rfl; dsimp only [List.dropLast, List.cons_append, List.nil_append] at hS11; clear hC11
  clear hS9
  refine wl_nil (qs_seq (wc_seq (wc_region (wl_assign rfl rfl (wl_nil (qs_seq (wc_ret (qs_then_ret ?_))))))))
  refine fin1 (.inr rfl) rfl rfl ?_
  have hnp : numP e least r = none := num_not hio (hok (by assumption)) (by rintro ⟨q1, q2⟩; first | omega | (rename_i hh; exact hh q1) | (simp_all; done))
  exact ⟨_, rfl, by rw [(num_none (s := (r, q)) hnp).1], by rw [(num_none (s := (r, q)) hnp).2]; exact hS11⟩
 refine vc_p rfl rfl (guard_yes rfl rfl (decide_eq_false h10)) (fun _ => (Ev.gd (ev_move rfl))) ?_
 refine vc_p rfl rfl (guard_yes rfl rfl (decide_eq_false h10)) (fun _ => (Ev.gd (ev_move rfl))) ?_
 refine vc_p rfl rfl (guard_yes rfl rfl (decide_eq_false h10)) (fun _ => (Ev.gd (ev_lss rfl rfl))) ?_
 refine vc_p rfl rfl rfl (fun _ => (ev_pickF rfl (decide_eq_false h10) rfl)) ?_
 refine VC.nil (qs_seq ?_)
 refine wc_sub (L' := [(50, _), (9, _), (8, _), (6, _), (0, _)]) (.cons rfl (.cons rfl (.cons rfl (.cons rfl (.cons rfl .nil))))) ?_
 refine wc_condD rfl (fun h12 => ?_) (fun h12 => ?_)
 ·refine wc_seq (wc_region (wl_move rfl rfl ?_))
  have hC13 := hS9.split [0] [true, false] rfl; dsimp only [selF, pickA, nthA, List.cons_append, List.nil_append] at hC13
  refine wl_call cal_125 rfl (wFail_sp (s := (r, q)) hC13) rfl ?_
  rintro e w13 ⟨_, rfl, rfl, hS13⟩; refine ⟨_, rfl, ?_⟩
  replace hS13 := hS13.join rfl; dsimp only [List.dropLast, List.cons_append, List.nil_append] at hS13; clear hC13
  clear hS9
  refine wl_nil (qs_seq (wc_seq (wc_region (wl_assign rfl rfl (wl_nil (qs_seq (wc_ret (qs_then_ret ?_))))))))
  refine fin1 (.inr rfl) rfl rfl ?_
  have hnp : numP e least r = none := num_not hio (hok (by assumption)) (by rintro ⟨q1, q2⟩; first | omega | (rename_i hh; exact hh q1) | (simp_all; done))
  exact ⟨_, rfl, by rw [(num_none (s := (r, q)) hnp).1], by rw [(num_none (s := (r, q)) hnp).2]; exact hS13⟩
 refine wc_skip (qs_seq (wc_seq (wc_region (wl_move rfl rfl (wl_move rfl rfl (wl_nilCheck rfl rfl ?_))))))
 refine wl_fieldAddr rfl fo_143_0 rfl ?_
 refine wl_load rfl ag_9 (by first | assumption | exact hS9.cell 0 rfl rfl) rfl ?_
 refine wl_move rfl rfl ?_
 refine wl_add rfl rfl (by omega) (by omega) rfl ?_
 refine wl_sliceS (o + 1) r.length Tryz.underlying9 rfl (bndS (o + 1) _ rfl rfl) (bndN _) (by omega) (by omega) rfl ?_
 rw [List.take_length]
 refine wl_nilCheck rfl rfl ?_
 refine wl_fieldAddr rfl fo_143_0 rfl ?_
 first | (refine wl_store hS9 rfl rfl sz_9 (by first | rfl | assumption) (i := 0) rfl (by first | decide | exact Nat.le_of_ble_eq_true rfl | (simp; done) | omega) ?_)
 intro w14 hS15; dsimp only [List.set] at hS15
 clear hS9
 refine wl_nil (qs_seq ?_)
 refine wc_sub (L' := [(9, _), (6, _)]) (.cons rfl (.cons rfl .nil)) ?_
 refine wc_seq (wc_region (wl_move rfl rfl (wl_assign rfl rfl (wl_nil (qs_seq (wc_ret ?_))))))
 refine fin1 (.inr rfl) rfl rfl ?_
 have hnp : numP e least r = some (x, r.drop (o + 1)) := num_yes hio (hok (by assumption)) ⟨Decidable.not_not.1 (by assumption), by omega⟩
 exact ⟨_, rfl, by rw [(num_some (s := (r, q)) hnp).1], by rw [(num_some (s := (r, q)) hnp).2]; exact hS15⟩
theorem rInt_sp {w : World} {F : Th} {b : Nat} {s : Bs × Bool} (hS : Sat w [readT b s, F]) (hG : Ent F WireG) (hrl : s.1.length ≤ 9223372036854775806) :
    Calls Tryz.prog 77 #[ptrV b 0] w (Ret fun v w' => v = intV (numV 59 (-9223372036854775808) s) ∧ Sat w' [readT b (numR 59 (-9223372036854775808) s), F]) := by
 refine calls_enter Tryz.func77 rfl Tryz.ntmps77 rfl ?_
 refine wc_seq (wc_region (wl_assign rfl rfl (wl_nil (qs_seq (wc_seq (wc_region (wl_move rfl rfl ?_)))))))
 have hC1 := hS.split [0] [true, false] rfl; dsimp only [selF, pickA, nthA, List.cons_append, List.nil_append] at hC1
 refine wl_call cal_108 rfl (number_sp hC1 (hG.starL 0 rfl) 59 (-9223372036854775808) hrl) rfl ?_
 rintro e w1 ⟨_, rfl, rfl, hS1⟩; refine ⟨_, rfl, ?_⟩
 replace hS1 := hS1.join rfl; dsimp only [List.dropLast, List.cons_append, List.nil_append] at hS1; clear hC1
 refine wl_assign rfl rfl (wl_nil (qs_seq (wc_ret ?_)))
 refine fin1 (.inr rfl) rfl rfl ?_
 exact ⟨_, rfl, rfl, hS1⟩
theorem rNum_sp {w : World} {F : Th} {b : Nat} {s : Bs × Bool} (hS : Sat w [readT b s, F]) (hG : Ent F WireG) (hrl : s.1.length ≤ 9223372036854775806) :
    Calls Tryz.prog 110 #[ptrV b 0] w (Ret fun v w' => v = intV (numV 59 0 s) ∧ Sat w' [readT b (numR 59 0 s), F]) := by
 refine calls_enter Tryz.func110 rfl Tryz.ntmps110 rfl ?_
 refine wc_seq (wc_region (wl_assign rfl rfl (wl_nil (qs_seq (wc_seq (wc_region (wl_move rfl rfl ?_)))))))
 have hC1 := hS.split [0] [true, false] rfl; dsimp only [selF, pickA, nthA, List.cons_append, List.nil_append] at hC1
 refine wl_call cal_108 rfl (number_sp hC1 (hG.starL 0 rfl) 59 0 hrl) rfl ?_
 rintro e w1 ⟨_, rfl, rfl, hS1⟩; refine ⟨_, rfl, ?_⟩
 replace hS1 := hS1.join rfl; dsimp only [List.dropLast, List.cons_append, List.nil_append] at hS1; clear hC1
 refine wl_assign rfl rfl (wl_nil (qs_seq (wc_ret ?_)))
 refine fin1 (.inr rfl) rfl rfl ?_
 exact ⟨_, rfl, rfl, hS1⟩
end Go.Proofs.YtfmkodmmbgibgaaGreatDoor
/- pipes, in plain data -/
namespace Go.Proofs.YtfmkodmmbgibgaaGreatDoor
open Go.RowKit M
set_option linter.unusedVariables false
/-- what wire's reader makes of a byte that must stand there -/
def cutV (e : UInt8) (s : Bs × Bool) : Bs × Bool := match s.1 with | c :: r => if c = e then (r, s.2) else ([], true) | [] => ([], true)
/-- a text: its value, and the reader after it -/
def txtV (s : Bs × Bool) : Bs := if ((numR 58 0 s).1.length : Int) < numV 58 0 s then [] else if (cutV 44 ((numR 58 0 s).1.drop (numV 58 0 s).toNat, (numR 58 0 s).2)).2 = true then [] else (numR 58 0 s).1.take (numV 58 0 s).toNat
def txtR (s : Bs × Bool) : Bs × Bool := if ((numR 58 0 s).1.length : Int) < numV 58 0 s then ([], true) else cutV 44 ((numR 58 0 s).1.drop (numV 58 0 s).toNat, (numR 58 0 s).2)
def encT (s : Bs) : Bs := Lib.itoa (s.length : Int) ++ [58] ++ s ++ [44]
def imin : Int := -9223372036854775808
structure PipeD where
  d : Bs
  r : Int
  w : Int
theorem numP_cons {e : UInt8} {least m : Int} {rest : Bs} (he : 57 < e.toNat) (hm : inI m) (hl : least ≤ m) : numP e least (Lib.itoa m ++ e :: rest) = some (m, rest) := by
  have := numP_back (e := e) (least := least) (m := m) (r := Lib.itoa m ++ e :: rest) (k := (Lib.itoa m).length) he (by rw [List.getElem?_append_right (Nat.le_refl _)]; simp) hm hl (by rw [List.take_left'] <;> rfl)
  rw [this, List.drop_append, List.drop_eq_nil_of_le (by omega)]
  simp
theorem num_cons {e : UInt8} {least m : Int} {rest : Bs} {b : Bool} (he : 57 < e.toNat) (hm : inI m) (hl : least ≤ m) : numV e least (Lib.itoa m ++ e :: rest, b) = m ∧ numR e least (Lib.itoa m ++ e :: rest, b) = (rest, b) := num_some (numP_cons he hm hl)
theorem txt_cons {s rest : Bs} (hs : s.length ≤ 20000000) : txtV (encT s ++ rest, false) = s ∧ txtR (encT s ++ rest, false) = (rest, false) := by
  have e : encT s ++ rest = Lib.itoa (s.length : Int) ++ 58 :: (s ++ 44 :: rest) := by simp [encT]
  have hn := num_cons (e := 58) (least := 0) (m := (s.length : Int)) (rest := s ++ 44 :: rest) (b := false) (by decide) (by unfold inI; omega) (by omega)
  unfold txtV txtR
  rw [e, hn.1, hn.2]
  have h1 : ¬ (((s ++ 44 :: rest, false) : Bs × Bool).1.length : Int) < (s.length : Int) := by simp; omega
  rw [if_neg h1, if_neg h1]
  simp [cutV]
end Go.Proofs.YtfmkodmmbgibgaaGreatDoor
/- journal, in plain data -/
namespace Go.Proofs.YtfmkodmmbgibgaaGreatDoor
open Go.RowKit M
set_option linter.unusedVariables false
structure Blk where
  n : Int
  d : Bytes
instance : Inhabited Blk := ⟨⟨0, []⟩⟩
instance : DecidableEq Blk := fun x y => by
  cases x; cases y
  rw [Blk.mk.injEq]; infer_instance
def encN (n : Int) : Bs := Lib.itoa n ++ [59]
def encB (b : Blk) : Bs := encN b.n ++ encT b.d
def encJ (l : List Blk) : Bs := encN (l.length : Int) ++ l.flatMap encB
def okB (b : Blk) : Bool := !(decide (b.n < 0) || decide (2048 ≤ b.n) || decide (64 < b.d.length))
def rightJ (l : List Blk) : Bool := decide (l.length ≤ 2048) && l.all okB
abbrev St := Bs × Bool
def iV (s : St) : Int := numV 59 imin s
def iR (s : St) : St := numR 59 imin s
theorem iV_eq (s : St) : numV 59 (-9223372036854775808) s = iV s := by unfold iV; rfl
def bkSt : Nat → St → St
  | 0, s => s
  | k + 1, s => txtR (iR (bkSt k s))
def bkV (z : St) : Blk := ⟨iV z, txtV (iR z)⟩
def bksV (k : Nat) (s : St) : List Blk := (List.range k).map fun j => bkV (bkSt j s)
theorem bksV_succ (k : Nat) (s : St) : bksV (k + 1) s = bksV k s ++ [bkV (bkSt k s)] := by simp [bksV, List.range_succ]
theorem bksV_len (k : Nat) (s : St) : (bksV k s).length = k := by simp [bksV]
theorem bksV_zero (s : St) : bksV 0 s = [] := rfl
theorem bkSt_zero (s : St) : bkSt 0 s = s := rfl
theorem bkSt_succ (k : Nat) (s : St) : bkSt (k + 1) s = txtR (iR (bkSt k s)) := rfl
def cntJ (s : Bs) : Nat := (min (numV 59 0 (s, false)) 2049).toNat
def rawJ (s : Bs) : List Blk := bksV (cntJ s) (numR 59 0 (s, false))
def okJ (s : Bs) : Bool := decide (encJ (rawJ s) = s) && rightJ (rawJ s)
/-- a change brought home -/
def homeR : DS → Int → List Blk → Int × DS
  | D, f, [] => (SyncE D f, SyncD D f)
  | D, f, b :: l =>
    if WriteE D f (128 * b.n) [UInt8.ofNat b.d.length] ≠ 0 then (WriteE D f (128 * b.n) [UInt8.ofNat b.d.length], WriteD D f (128 * b.n) [UInt8.ofNat b.d.length]) else
    if b.d = [] then homeR (WriteD D f (128 * b.n) [UInt8.ofNat b.d.length]) f l else
    if WriteE (WriteD D f (128 * b.n) [UInt8.ofNat b.d.length]) f (128 * b.n + 64) b.d ≠ 0 then (WriteE (WriteD D f (128 * b.n) [UInt8.ofNat b.d.length]) f (128 * b.n + 64) b.d, WriteD (WriteD D f (128 * b.n) [UInt8.ofNat b.d.length]) f (128 * b.n + 64) b.d) else
    homeR (WriteD (WriteD D f (128 * b.n) [UInt8.ofNat b.d.length]) f (128 * b.n + 64) b.d) f l
structure JS where
  base : Int
  C : CS
  B : Int → Bytes
  bad : Bool
structure JR where
  e : Int
  D : DS
  J : JS
def updB (B : Int → Bytes) (n : Int) (d : Bytes) : Int → Bytes := fun k => if k = n then d else B k
def withB (B : Int → Bytes) (l : List Blk) : Int → Bytes := l.foldl (fun B b => updB B b.n b.d) B
/-- the steps of a commit behind the log: the note, the change, the note again -/
def noteR (D : DS) (C : CS) (n : Int) : SR := setR D C (encN n)
def endR (D : DS) (C : CS) (f : Int) (l : List Blk) : SR :=
  if (homeR D f l).1 ≠ 0 then ⟨(homeR D f l).1, (homeR D f l).2, C⟩ else noteR (homeR D f l).2 C 0
def midR (D : DS) (C : CS) (f : Int) (l : List Blk) : SR :=
  if (noteR D C ((encJ l).length : Int)).e ≠ 0 then noteR D C ((encJ l).length : Int) else endR (noteR D C ((encJ l).length : Int)).D (noteR D C ((encJ l).length : Int)).C f l
def putR0 (D : DS) (C : CS) (f : Int) (l : List Blk) : SR :=
  if TruncE D (f + 1) 0 ≠ 0 then ⟨TruncE D (f + 1) 0, TruncD D (f + 1) 0, C⟩ else
  if WriteE (TruncD D (f + 1) 0) (f + 1) 0 (encJ l) ≠ 0 then ⟨WriteE (TruncD D (f + 1) 0) (f + 1) 0 (encJ l), WriteD (TruncD D (f + 1) 0) (f + 1) 0 (encJ l), C⟩ else
  if SyncE (WriteD (TruncD D (f + 1) 0) (f + 1) 0 (encJ l)) (f + 1) ≠ 0 then ⟨SyncE (WriteD (TruncD D (f + 1) 0) (f + 1) 0 (encJ l)) (f + 1), SyncD (WriteD (TruncD D (f + 1) 0) (f + 1) 0 (encJ l)) (f + 1), C⟩ else
  midR (SyncD (WriteD (TruncD D (f + 1) 0) (f + 1) 0 (encJ l)) (f + 1)) C f l
def commitR (D : DS) (J : JS) (l : List Blk) : JR :=
  if J.bad = true then ⟨7, D, J⟩ else
  if rightJ l = false then ⟨1, D, J⟩ else
  if (putR0 D J.C J.base l).e ≠ 0 then ⟨(putR0 D J.C J.base l).e, (putR0 D J.C J.base l).D, ⟨J.base, (putR0 D J.C J.base l).C, J.B, true⟩⟩ else
  ⟨0, (putR0 D J.C J.base l).D, ⟨J.base, (putR0 D J.C J.base l).C, withB J.B l, false⟩⟩
/-- the block n of a home -/
def hdrJ (s : Bytes) (n : Nat) : Nat := ((s[128 * n]?).getD 0).toNat
def blkJ (s : Bytes) (n : Nat) : Bytes := if 0 < hdrJ s n ∧ hdrJ s n ≤ 64 ∧ 128 * n + 64 + hdrJ s n ≤ s.length then (s.drop (128 * n + 64)).take (hdrJ s n) else []
def loadB (s : Bytes) : Int → Bytes := fun k => if 0 ≤ k ∧ k < 2048 then blkJ s k.toNat else []
def replR (D : DS) (f : Int) (C : CS) : SR :=
  if encN (iV (C.val, false)) ≠ C.val ∨ iV (C.val, false) ≤ 0 then ⟨0, D, C⟩ else
  if ReadE D (f + 1) 0 (iV (C.val, false)) ≠ 0 then ⟨ReadE D (f + 1) 0 (iV (C.val, false)), D, C⟩ else
  if okJ (ReadS D (f + 1) 0 (iV (C.val, false))) = false then ⟨2, D, C⟩ else
  endR D C f (rawJ (ReadS D (f + 1) 0 (iV (C.val, false))))
def openJ (D : DS) (f : Int) : JR :=
  if f < 0 ∨ 13 < f then ⟨1, D, ⟨f, newC f, fun _ => [], true⟩⟩ else
  if openE D (f + 2) ≠ 0 then ⟨openE D (f + 2), D, ⟨f, newC f, fun _ => [], true⟩⟩ else
  if (replR D f (openC D (f + 2))).e ≠ 0 then ⟨(replR D f (openC D (f + 2))).e, (replR D f (openC D (f + 2))).D, ⟨f, newC f, fun _ => [], true⟩⟩ else
  if mayE (replR D f (openC D (f + 2))).D f ≠ 0 then ⟨mayE (replR D f (openC D (f + 2))).D f, (replR D f (openC D (f + 2))).D, ⟨f, newC f, fun _ => [], true⟩⟩ else
  ⟨0, (replR D f (openC D (f + 2))).D, ⟨f, (replR D f (openC D (f + 2))).C, loadB ((replR D f (openC D (f + 2))).D.F f).1, false⟩⟩
/-- the blocks in ascending order -/
def listB (B : Int → Bytes) : List Blk := (List.range 2048).filterMap fun n : Nat => if B (n : Int) = [] then none else some ⟨(n : Int), B (n : Int)⟩
end Go.Proofs.YtfmkodmmbgibgaaGreatDoor
