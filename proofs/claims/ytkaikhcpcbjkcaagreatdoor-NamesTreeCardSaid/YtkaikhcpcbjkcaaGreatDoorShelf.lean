/-
  DERIVED: THE SHELF's CONTRACTS AT THIS DUMP, IN PLAIN WORDS (tools/lay-plain.mjs out of 'TryzShelf.lean', which tools/lay-shelf.mjs wrote): THE SAME DECLARATIONS UNDER THE SAME NAMES: 'import', 'namespace', 'open', 'def', 'theorem' AND NOTHING ELSE: no command of the shelf's: FOR A HAND-IN. Each laying: the table of numbers ('.._ren') and one theorem, a field a fact of the dump's own or the kernel's comparison; each contract: ONE APPLICATION.
-/
import Derived.Shelf.Small.Bits
import Derived.Shelf.Small.Strs
import Derived.Shelf.Strconv.Atoi
import Derived.Shelf.Strconv.Itoa0
import Derived.Shelf.Strconv.Itoa1
import Derived.Shelf.LaysM
import Derived.Shelf.Strconv.Itoa2
import Derived.Shelf.Strconv.Itoa3
import Derived.Shelf.Strconv.AtoiErrFast
import Derived.Shelf.Strconv.ParseIntEmpty
import Derived.Shelf.Strconv.AtoiFail
import Derived.Shelf.Strconv.Clone
import Derived.Shelf.Strconv.SyntaxError
import Derived.Shelf.LaysC
import Derived.Shelf.Strconv.ToError
import Derived.Shelf.Strconv.AtoiErr
import Derived.Shelf.Strconv.ErrVar
import Derived.Shelf.Strconv.Lower
import Derived.Shelf.Strconv.ParseUint10
import Derived.Shelf.Strconv.ParseUint10Empty
import Derived.Shelf.Strconv.ParseUint10Any
import Derived.Shelf.Strconv.ParseInt10
import Derived.Shelf.Strconv.AtoiLong
import Derived.Shelf.Strconv.AtoiInnerAll
import Derived.Shelf.Strconv.RangeError
import Derived.Shelf.Strconv.ToErrorRange
import Derived.Shelf.Strconv.AtoiAll
import Derived.Shelf.Strconv.ErrVarAll
import Derived.Shelf.Strconv.ParseUintEmpty
import Derived.Shelf.Strconv.ParseUint10b64
import Derived.Shelf.Strconv.ParseUint10b32
import Derived.Shelf.Strconv.ParseUint10b16
import Derived.Shelf.Strconv.ParseUint10b8
import Derived.Shelf.Strconv.ParseUint10At
import Derived.Shelf.Strconv.ParseInt10At64
import Derived.Shelf.Strconv.ParseInt10At32
import Derived.Shelf.Strconv.ParseInt10At16
import Derived.Shelf.Strconv.ParseInt10At8
import Derived.Shelf.Strconv.ParseInt10All
import Derived.Shelf.Strings.Search1
import Derived.Shelf.Strings.Search2
import Derived.Shelf.Strings.Search3
import Derived.Shelf.Strings.Shaped
import Derived.Shelf.Sort.Plain
import Derived.Shelf.Strings.Prefix
import Derived.Shelf.Unicode.Decode
import Derived.Shelf.Unicode.DecodeSlow
import Derived.Shelf.Unicode.DecodeAny
import Derived.Shelf.Slices.In.SortNone
import Derived.Test.YtkaikhcpcbjkcaaGreatDoorProg
import Derived.Test.YtkaikhcpcbjkcaaGreatDoorWm
namespace Go.Proofs
open Go.Shelf
def Tryz.lays137_ren : Go.Shelf.Ren := ⟨fun | 137 => 119 | 217 => 127 | 266 => 141 | n => n, fun | 9 => 9 | 5 => 5 | 3 => 3 | n => n, fun | n => n⟩
theorem Tryz.lays137 : Go.Proofs.Lays.n137 Tryz.prog Tryz.lays137_ren := {
  mixed := by kernel_rfl
  f137 := Tryz.func119.trans (congrArg some (by kernel_rfl))
  f217 := Tryz.func127.trans (congrArg some (by kernel_rfl))
  f266 := Tryz.func141.trans (congrArg some (by kernel_rfl))
  t3 := Tryz.underlying3
  a3 := Tryz.isAgg3
  z3 := Tryz.sizeOf3
  v3 := Tryz.zeroValue3
  t5 := Tryz.underlying5
  a5 := Tryz.isAgg5
  z5 := Tryz.sizeOf5
  v5 := Tryz.zeroValue5
  t9 := Tryz.underlying9
  a9 := Tryz.isAgg9
  z9 := Tryz.sizeOf9
  v9 := Tryz.zeroValue9 }
open Go.RowKit in
/-- strings.IndexByte: "IndexByte returns the index of the first instance of c in s, or -1 if c is not present in s.": IT RETURNS 'Lib.indexByte s c'; the world is as it was. (LAID: no walk: one application.) -/
theorem Tryz.strings_IndexByte (s : ByteArray) (c : Int) (w : World) :
    Calls Tryz.prog 119 #[.string s, .int .u8 c] w fun e w' => e = .returned (.int .i64 (Lib.indexByte s.data.toList c.toNat.toUInt8)) ∧ w' = w := Any.strings_IndexByte Tryz.lays137 s c w
def Tryz.laysM171_ren : Go.Shelf.Ren := ⟨fun | 171 => 122 | 243 => 139 | 246 => 149 | 283 => 152 | 284 => 153 | 285 => 154 | 286 => 155 | 129 => 117 | 317 => 158 | 318 => 159 | 319 => 160 | 320 => 161 | 337 => 162 | 338 => 163 | n => n, fun | 3 => 3 | 9 => 9 | 2 => 2 | 4 => 4 | 171 => 191 | 0 => 0 | 53 => 153 | 37 => 140 | 5 => 5 | 173 => 193 | 212 => 200 | 51 => 151 | 20 => 20 | 213 => 201 | 46 => 126 | 232 => 203 | 233 => 96 | n => n, fun | 17 => 5 | 18 => 6 | 19 => 7 | n => n⟩
theorem Tryz.laysM171 : Go.Proofs.LaysM.n171 Tryz.prog Tryz.laysM171_ren := {
  mixed := by kernel_rfl
  f129 := Tryz.func117.trans (congrArg some (by kernel_rfl))
  f171 := Tryz.func122.trans (congrArg some (by kernel_rfl))
  f243 := Tryz.func139.trans (congrArg some (by kernel_rfl))
  f246 := Tryz.func149.trans (congrArg some (by kernel_rfl))
  f283 := Tryz.func152.trans (congrArg some (by kernel_rfl))
  f284 := Tryz.func153.trans (congrArg some (by kernel_rfl))
  f285 := Tryz.func154.trans (congrArg some (by kernel_rfl))
  f286 := Tryz.func155.trans (congrArg some (by kernel_rfl))
  f317 := Tryz.func158.trans (congrArg some (by kernel_rfl))
  f318 := Tryz.func159.trans (congrArg some (by kernel_rfl))
  f319 := Tryz.func160.trans (congrArg some (by kernel_rfl))
  f320 := Tryz.func161.trans (congrArg some (by kernel_rfl))
  f337 := Tryz.func162.trans (congrArg some (by kernel_rfl))
  f338 := Tryz.func163.trans (congrArg some (by kernel_rfl))
  t0 := Tryz.underlying0
  a0 := Tryz.isAgg0
  z0 := Tryz.sizeOf0
  v0 := Tryz.zeroValue0
  t2 := Tryz.underlying2
  a2 := Tryz.isAgg2
  z2 := Tryz.sizeOf2
  v2 := Tryz.zeroValue2
  t3 := Tryz.underlying3
  a3 := Tryz.isAgg3
  z3 := Tryz.sizeOf3
  v3 := Tryz.zeroValue3
  t4 := Tryz.underlying4
  a4 := Tryz.isAgg4
  z4 := Tryz.sizeOf4
  v4 := Tryz.zeroValue4
  t5 := Tryz.underlying5
  a5 := Tryz.isAgg5
  z5 := Tryz.sizeOf5
  v5 := Tryz.zeroValue5
  t9 := Tryz.underlying9
  a9 := Tryz.isAgg9
  z9 := Tryz.sizeOf9
  v9 := Tryz.zeroValue9
  t20 := Tryz.underlying20
  a20 := Tryz.isAgg20
  z20 := Tryz.sizeOf20
  v20 := Tryz.zeroValue20
  t37 := Tryz.underlying140
  a37 := Tryz.isAgg140
  z37 := Tryz.sizeOf140
  v37 := Tryz.zeroValue140
  t46 := Tryz.underlying126
  a46 := Tryz.isAgg126
  z46 := Tryz.sizeOf126
  v46 := Tryz.zeroValue126
  t51 := Tryz.underlying151
  a51 := Tryz.isAgg151
  z51 := Tryz.sizeOf151
  v51 := Tryz.zeroValue151
  t53 := Tryz.underlying153
  a53 := Tryz.isAgg153
  z53 := Tryz.sizeOf153
  v53 := Tryz.zeroValue153
  t171 := Tryz.underlying191
  a171 := Tryz.isAgg191
  z171 := Tryz.sizeOf191
  v171 := Tryz.zeroValue191
  t173 := Tryz.underlying193
  a173 := Tryz.isAgg193
  z173 := Tryz.sizeOf193
  v173 := Tryz.zeroValue193
  t212 := Tryz.underlying200
  a212 := Tryz.isAgg200
  z212 := Tryz.sizeOf200
  v212 := Tryz.zeroValue200
  t213 := Tryz.underlying201
  a213 := Tryz.isAgg201
  z213 := Tryz.sizeOf201
  t232 := Tryz.underlying203
  a232 := Tryz.isAgg203
  z232 := Tryz.sizeOf203
  v232 := Tryz.zeroValue203
  t233 := Tryz.underlying96
  a233 := Tryz.isAgg96
  z233 := Tryz.sizeOf96
  v233 := Tryz.zeroValue96
  g17 := by kernel_rfl
  g18 := by kernel_rfl
  g19 := by kernel_rfl
  i0 := by kernel_rfl
  i2 := by kernel_rfl
  i3 := by kernel_rfl
  i4 := by kernel_rfl
  i5 := by kernel_rfl
  i9 := by kernel_rfl
  i20 := by kernel_rfl
  i37 := by kernel_rfl
  i46 := by kernel_rfl
  i51 := by kernel_rfl
  i53 := by kernel_rfl
  i171 := by kernel_rfl
  i173 := by kernel_rfl
  i212 := by kernel_rfl
  i232 := by kernel_rfl
  i233 := by kernel_rfl
  m17 := by kernel_rfl
  m18 := by kernel_rfl
  m19 := by kernel_rfl }
open Go.RowKit Go.Sort Go.Lib in
/-- strconv.Itoa: "Itoa is equivalent to FormatInt(int64(i), 10).": i's DECIMAL NUMERAL ('Lib.itoa': a '-' where i is negative, then the digits), FOR EVERY int. The world behind the call: the world before it, new blocks behind the heap (the library's 'var a [24]byte'), draws. (LAID: no walk: one application.) -/
theorem Tryz.strconv_Itoa (n : Int) (h0 : -9223372036854775808 ≤ n) (h1 : n ≤ 9223372036854775807) (w : World) (htab : Lib.TabIs Tryz.prog w "internal/strconv.uint64pow10" .u64 Lib.pow10Tab) :
    Calls Tryz.prog 122 #[.int .i64 n] w fun e w' => e = .returned (.string ⟨(Lib.itoa n).toArray⟩) ∧ ∃ k os, w' = grow (w.drewN k) os := Any.strconv_Itoa Tryz.laysM171 n h0 h1 w htab
def Tryz.laysM316_ren : Go.Shelf.Ren := ⟨fun | 316 => 94 | n => n, fun | 9 => 9 | 3 => 3 | 4 => 4 | 37 => 140 | 0 => 0 | 127 => 141 | 5 => 5 | n => n, fun | n => n⟩
theorem Tryz.laysM316 : Go.Proofs.LaysM.n316 Tryz.prog Tryz.laysM316_ren := {
  mixed := by kernel_rfl
  f316 := Tryz.func94.trans (congrArg some (by kernel_rfl))
  t0 := Tryz.underlying0
  a0 := Tryz.isAgg0
  z0 := Tryz.sizeOf0
  v0 := Tryz.zeroValue0
  t3 := Tryz.underlying3
  a3 := Tryz.isAgg3
  z3 := Tryz.sizeOf3
  v3 := Tryz.zeroValue3
  t4 := Tryz.underlying4
  a4 := Tryz.isAgg4
  z4 := Tryz.sizeOf4
  v4 := Tryz.zeroValue4
  t9 := Tryz.underlying9
  a9 := Tryz.isAgg9
  z9 := Tryz.sizeOf9
  v9 := Tryz.zeroValue9
  t37 := Tryz.underlying140
  a37 := Tryz.isAgg140
  z37 := Tryz.sizeOf140
  v37 := Tryz.zeroValue140
  t127 := Tryz.underlying141
  a127 := Tryz.isAgg141
  z127 := Tryz.sizeOf141
  v127 := Tryz.zeroValue141
  t5 := Tryz.underlying5
  a5 := Tryz.isAgg5
  z5 := Tryz.sizeOf5
  v5 := Tryz.zeroValue5
  i0 := by kernel_rfl
  i3 := by kernel_rfl
  i4 := by kernel_rfl
  i5 := by kernel_rfl
  i9 := by kernel_rfl
  i37 := by kernel_rfl
  i127 := by kernel_rfl }
open Go.RowKit in
/-- internal/stringslite.Clone (what strings.Clone calls): "Clone returns a fresh copy of s.": THE SAME BYTES. Of what was there nothing has turned (a new row is laid, and frozen, where s is not empty). (LAID: no walk: one application.) -/
theorem Tryz.stringslite_Clone (s : ByteArray) (w : World) (hlim : s.size ≤ 281474976710656) :
    Calls Tryz.prog 94 #[.string s] w fun e w' => e = .returned (.string s) ∧ Below w.heap.size w w' := Any.stringslite_Clone Tryz.laysM316 s w hlim
def Tryz.laysC172_ren : Go.Shelf.Ren := ⟨fun | 172 => 121 | 244 => 137 | 245 => 138 | 247 => 144 | 279 => 145 | 280 => 146 | 281 => 147 | 282 => 148 | 287 => 150 | 316 => 94 | 171 => 122 | 205 => 151 | 321 => 156 | 322 => 157 | 243 => 139 | 246 => 149 | 283 => 152 | 284 => 153 | 285 => 154 | 286 => 155 | 129 => 117 | 317 => 158 | 318 => 159 | 319 => 160 | 320 => 161 | 337 => 162 | 338 => 163 | n => n, fun | 9 => 9 | 3 => 3 | 75 => 156 | 76 => 157 | 4 => 4 | 5 => 5 | 167 => 175 | 37 => 140 | 0 => 0 | 85 => 176 | 2 => 2 | 168 => 178 | 53 => 153 | 175 => 186 | 46 => 126 | 210 => 189 | 127 => 141 | 145 => 198 | 143 => 196 | 21 => 21 | 171 => 191 | 173 => 193 | 212 => 200 | 51 => 151 | 20 => 20 | 213 => 201 | 232 => 203 | 233 => 96 | 80 => 204 | n => n, fun | 15 => 3 | 16 => 4 | 17 => 5 | 18 => 6 | 19 => 7 | n => n⟩
theorem Tryz.laysC172 : Go.Proofs.LaysC.n172 Tryz.prog Tryz.laysC172_ren := {
  mixed := by kernel_rfl
  f129 := Tryz.func117.trans (congrArg some (by kernel_rfl))
  f171 := Tryz.func122.trans (congrArg some (by kernel_rfl))
  f172 := Tryz.func121.trans (congrArg some (by kernel_rfl))
  f205 := Tryz.func151.trans (congrArg some (by kernel_rfl))
  f243 := Tryz.func139.trans (congrArg some (by kernel_rfl))
  f244 := Tryz.func137.trans (congrArg some (by kernel_rfl))
  f245 := Tryz.func138.trans (congrArg some (by kernel_rfl))
  f246 := Tryz.func149.trans (congrArg some (by kernel_rfl))
  f247 := Tryz.func144.trans (congrArg some (by kernel_rfl))
  f279 := Tryz.func145.trans (congrArg some (by kernel_rfl))
  f280 := Tryz.func146.trans (congrArg some (by kernel_rfl))
  f281 := Tryz.func147.trans (congrArg some (by kernel_rfl))
  f282 := Tryz.func148.trans (congrArg some (by kernel_rfl))
  f283 := Tryz.func152.trans (congrArg some (by kernel_rfl))
  f284 := Tryz.func153.trans (congrArg some (by kernel_rfl))
  f285 := Tryz.func154.trans (congrArg some (by kernel_rfl))
  f286 := Tryz.func155.trans (congrArg some (by kernel_rfl))
  f287 := Tryz.func150.trans (congrArg some (by kernel_rfl))
  f316 := Tryz.func94.trans (congrArg some (by kernel_rfl))
  f317 := Tryz.func158.trans (congrArg some (by kernel_rfl))
  f318 := Tryz.func159.trans (congrArg some (by kernel_rfl))
  f319 := Tryz.func160.trans (congrArg some (by kernel_rfl))
  f320 := Tryz.func161.trans (congrArg some (by kernel_rfl))
  f321 := Tryz.func156.trans (congrArg some (by kernel_rfl))
  f322 := Tryz.func157.trans (congrArg some (by kernel_rfl))
  f337 := Tryz.func162.trans (congrArg some (by kernel_rfl))
  f338 := Tryz.func163.trans (congrArg some (by kernel_rfl))
  t0 := Tryz.underlying0
  a0 := Tryz.isAgg0
  z0 := Tryz.sizeOf0
  v0 := Tryz.zeroValue0
  t2 := Tryz.underlying2
  a2 := Tryz.isAgg2
  z2 := Tryz.sizeOf2
  v2 := Tryz.zeroValue2
  t3 := Tryz.underlying3
  a3 := Tryz.isAgg3
  z3 := Tryz.sizeOf3
  v3 := Tryz.zeroValue3
  t4 := Tryz.underlying4
  a4 := Tryz.isAgg4
  z4 := Tryz.sizeOf4
  v4 := Tryz.zeroValue4
  t5 := Tryz.underlying5
  a5 := Tryz.isAgg5
  z5 := Tryz.sizeOf5
  v5 := Tryz.zeroValue5
  t9 := Tryz.underlying9
  a9 := Tryz.isAgg9
  z9 := Tryz.sizeOf9
  v9 := Tryz.zeroValue9
  t20 := Tryz.underlying20
  a20 := Tryz.isAgg20
  z20 := Tryz.sizeOf20
  v20 := Tryz.zeroValue20
  t21 := Tryz.underlying21
  a21 := Tryz.isAgg21
  z21 := Tryz.sizeOf21
  v21 := Tryz.zeroValue21
  t37 := Tryz.underlying140
  a37 := Tryz.isAgg140
  z37 := Tryz.sizeOf140
  v37 := Tryz.zeroValue140
  t46 := Tryz.underlying126
  a46 := Tryz.isAgg126
  z46 := Tryz.sizeOf126
  v46 := Tryz.zeroValue126
  t51 := Tryz.underlying151
  a51 := Tryz.isAgg151
  z51 := Tryz.sizeOf151
  v51 := Tryz.zeroValue151
  t53 := Tryz.underlying153
  a53 := Tryz.isAgg153
  z53 := Tryz.sizeOf153
  v53 := Tryz.zeroValue153
  t75 := Tryz.underlying156
  a75 := Tryz.isAgg156
  z75 := Tryz.sizeOf156
  v75 := Tryz.zeroValue156
  t76 := Tryz.underlying157
  a76 := Tryz.isAgg157
  z76 := Tryz.sizeOf157
  v76 := Tryz.zeroValue157
  t85 := Tryz.underlying176
  a85 := Tryz.isAgg176
  z85 := Tryz.sizeOf176
  v85 := Tryz.zeroValue176
  t127 := Tryz.underlying141
  a127 := Tryz.isAgg141
  z127 := Tryz.sizeOf141
  v127 := Tryz.zeroValue141
  t143 := Tryz.underlying196
  a143 := Tryz.isAgg196
  z143 := Tryz.sizeOf196
  v143 := Tryz.zeroValue196
  t145 := Tryz.underlying198
  a145 := Tryz.isAgg198
  z145 := Tryz.sizeOf198
  v145 := Tryz.zeroValue198
  t167 := Tryz.underlying175
  a167 := Tryz.isAgg175
  z167 := Tryz.sizeOf175
  v167 := Tryz.zeroValue175
  t168 := Tryz.underlying178
  a168 := Tryz.isAgg178
  z168 := Tryz.sizeOf178
  v168 := Tryz.zeroValue178
  t171 := Tryz.underlying191
  a171 := Tryz.isAgg191
  z171 := Tryz.sizeOf191
  v171 := Tryz.zeroValue191
  t173 := Tryz.underlying193
  a173 := Tryz.isAgg193
  z173 := Tryz.sizeOf193
  v173 := Tryz.zeroValue193
  t175 := Tryz.underlying186
  a175 := Tryz.isAgg186
  z175 := Tryz.sizeOf186
  v175 := Tryz.zeroValue186
  t210 := Tryz.underlying189
  a210 := Tryz.isAgg189
  z210 := Tryz.sizeOf189
  v210 := Tryz.zeroValue189
  t212 := Tryz.underlying200
  a212 := Tryz.isAgg200
  z212 := Tryz.sizeOf200
  v212 := Tryz.zeroValue200
  t213 := Tryz.underlying201
  a213 := Tryz.isAgg201
  z213 := Tryz.sizeOf201
  t232 := Tryz.underlying203
  a232 := Tryz.isAgg203
  z232 := Tryz.sizeOf203
  v232 := Tryz.zeroValue203
  t233 := Tryz.underlying96
  a233 := Tryz.isAgg96
  z233 := Tryz.sizeOf96
  v233 := Tryz.zeroValue96
  g15 := by kernel_rfl
  g16 := by kernel_rfl
  g17 := by kernel_rfl
  g18 := by kernel_rfl
  g19 := by kernel_rfl
  t80 := Tryz.underlying204
  a80 := Tryz.isAgg204
  z80 := Tryz.sizeOf204
  v80 := Tryz.zeroValue204
  i0 := by kernel_rfl
  i2 := by kernel_rfl
  i3 := by kernel_rfl
  i4 := by kernel_rfl
  i5 := by kernel_rfl
  i9 := by kernel_rfl
  i20 := by kernel_rfl
  i21 := by kernel_rfl
  i37 := by kernel_rfl
  i46 := by kernel_rfl
  i51 := by kernel_rfl
  i53 := by kernel_rfl
  i75 := by kernel_rfl
  i76 := by kernel_rfl
  i80 := by kernel_rfl
  i85 := by kernel_rfl
  i127 := by kernel_rfl
  i143 := by kernel_rfl
  i145 := by kernel_rfl
  i167 := by kernel_rfl
  i168 := by kernel_rfl
  i171 := by kernel_rfl
  i173 := by kernel_rfl
  i175 := by kernel_rfl
  i210 := by kernel_rfl
  i212 := by kernel_rfl
  i232 := by kernel_rfl
  i233 := by kernel_rfl
  m15 := by kernel_rfl
  m16 := by kernel_rfl
  m17 := by kernel_rfl
  m18 := by kernel_rfl
  m19 := by kernel_rfl
  c0 := by kernel_rfl
  c2 := by kernel_rfl
  c3 := by kernel_rfl
  c4 := by kernel_rfl
  c5 := by kernel_rfl
  c9 := by kernel_rfl
  c20 := by kernel_rfl
  c21 := by kernel_rfl
  c37 := by kernel_rfl
  c46 := by kernel_rfl
  c51 := by kernel_rfl
  c53 := by kernel_rfl
  c75 := by kernel_rfl
  c76 := by kernel_rfl
  c80 := by kernel_rfl
  c85 := by kernel_rfl
  c127 := by kernel_rfl
  c143 := by kernel_rfl
  c145 := by kernel_rfl
  c167 := by kernel_rfl
  c168 := by kernel_rfl
  c171 := by kernel_rfl
  c173 := by kernel_rfl
  c175 := by kernel_rfl
  c210 := by kernel_rfl
  c212 := by kernel_rfl
  c213 := by kernel_rfl
  c232 := by kernel_rfl
  c233 := by kernel_rfl }
open Go.RowKit in
/-- strconv.Atoi, AT EVERY STRING THAT SPELLS AN int ('Lib.atoiAll .. = .ok v'; of whatever length: leading zeros count): v, AND NO ERROR. The world: as it was, or with the one new row that '[]byte(..)' lays. (LAID: no walk: one application.) -/
theorem Tryz.strconv_Atoi_ok (s : ByteArray) (hmax : s.size ≤ 9223372036854775806) (v : Int) (h : Lib.atoiAll s.data.toList = .ok v) (w : World) :
    Calls Tryz.prog 121 #[.string s] w fun e w' => e = .returned (.tuple #[.int .i64 v, .nilIface]) ∧ (w' = w ∨ ∃ t, w' = Lib.bytesWorld w 5 t) := Any.strconv_Atoi_ok Tryz.laysC172 s hmax v h w
open Go.RowKit in
theorem Tryz.strconv_Atoi_syntax_var (s : ByteArray) (hlim : s.size ≤ 281474976710656) (h : Lib.atoiAll s.data.toList = .«syntax») (tp : TypeId) (p : Value) (w : World) (hvar : w.var? Tryz.prog "strconv.ErrSyntax" = some #[.iface tp p]) :
    Calls Tryz.prog 121 #[.string s] w fun e w' => ∃ N, e = .returned (.tuple #[.int .i64 0, .iface 178 (.pointer (some ⟨N, 0, none⟩))]) ∧ w.heap.size ≤ N ∧ w'.heap[N]? = some (.cells #[.string ⟨#[65, 116, 111, 105]⟩, .string s, .iface tp p] 189 (0, 0)) ∧ Below w.heap.size w w' := Any.strconv_Atoi_syntax_var Tryz.laysC172 s hlim h tp p w hvar
open Go.RowKit in
theorem Tryz.strconv_Atoi_range_var (s : ByteArray) (hlim : s.size ≤ 281474976710656) (h : Lib.atoiAll s.data.toList = .range) (tp : TypeId) (p : Value) (w : World) (hvar : w.var? Tryz.prog "strconv.ErrRange" = some #[.iface tp p]) :
    Calls Tryz.prog 121 #[.string s] w fun e w' => ∃ N, e = .returned (.tuple #[.int .i64 (Lib.atoiSat s.data.toList), .iface 178 (.pointer (some ⟨N, 0, none⟩))]) ∧ w.heap.size ≤ N ∧ w'.heap[N]? = some (.cells #[.string ⟨#[65, 116, 111, 105]⟩, .string s, .iface tp p] 189 (0, 0)) ∧ Below w.heap.size w w' := Any.strconv_Atoi_range_var Tryz.laysC172 s hlim h tp p w hvar
def Tryz.lays217_ren : Go.Shelf.Ren := ⟨fun | 217 => 127 | 266 => 141 | n => n, fun | 9 => 9 | 5 => 5 | 3 => 3 | n => n, fun | n => n⟩
theorem Tryz.lays217 : Go.Proofs.Lays.n217 Tryz.prog Tryz.lays217_ren := {
  mixed := by kernel_rfl
  f217 := Tryz.func127.trans (congrArg some (by kernel_rfl))
  f266 := Tryz.func141.trans (congrArg some (by kernel_rfl))
  t3 := Tryz.underlying3
  a3 := Tryz.isAgg3
  z3 := Tryz.sizeOf3
  v3 := Tryz.zeroValue3
  t5 := Tryz.underlying5
  a5 := Tryz.isAgg5
  z5 := Tryz.sizeOf5
  v5 := Tryz.zeroValue5
  t9 := Tryz.underlying9
  a9 := Tryz.isAgg9
  z9 := Tryz.sizeOf9
  v9 := Tryz.zeroValue9 }
open Go.RowKit Go.Lib in
/-- internal/stringslite.IndexByte (what strings.IndexByte calls): IT RETURNS 'Lib.indexByte s c'; the world is as it was. (LAID: no walk: one application.) -/
theorem Tryz.stringslite_IndexByte (s : ByteArray) (c : Int) (w : World) :
    Calls Tryz.prog 127 #[.string s, .int .u8 c] w fun e w' => e = .returned (.int .i64 (Lib.indexByte s.data.toList c.toNat.toUInt8)) ∧ w' = w := Any.stringslite_IndexByte Tryz.lays217 s c w
def Tryz.lays190_ren : Go.Shelf.Ren := ⟨fun | 190 => 59 | 125 => 96 | 258 => 95 | 128 => 116 | 129 => 117 | 302 => 107 | 303 => 108 | 304 => 109 | 305 => 110 | 306 => 111 | 307 => 112 | 308 => 113 | 309 => 114 | 310 => 115 | 333 => 131 | 329 => 132 | 330 => 133 | 334 => 134 | 335 => 135 | 336 => 136 | 344 => 143 | n => n, fun | 31 => 40 | 9 => 9 | 3 => 3 | 46 => 126 | 0 => 0 | 51 => 151 | 53 => 153 | 4 => 4 | 183 => 144 | 182 => 143 | 131 => 148 | 5 => 5 | 218 => 163 | 222 => 167 | 228 => 172 | 229 => 173 | n => n, fun | n => n⟩
theorem Tryz.lays190 : Go.Proofs.Lays.n190 Tryz.prog Tryz.lays190_ren := {
  mixed := by kernel_rfl
  f125 := Tryz.func96.trans (congrArg some (by kernel_rfl))
  f128 := Tryz.func116.trans (congrArg some (by kernel_rfl))
  f129 := Tryz.func117.trans (congrArg some (by kernel_rfl))
  f190 := Tryz.func59.trans (congrArg some (by kernel_rfl))
  f258 := Tryz.func95.trans (congrArg some (by kernel_rfl))
  f302 := Tryz.func107.trans (congrArg some (by kernel_rfl))
  f303 := Tryz.func108.trans (congrArg some (by kernel_rfl))
  f304 := Tryz.func109.trans (congrArg some (by kernel_rfl))
  f305 := Tryz.func110.trans (congrArg some (by kernel_rfl))
  f306 := Tryz.func111.trans (congrArg some (by kernel_rfl))
  f307 := Tryz.func112.trans (congrArg some (by kernel_rfl))
  f308 := Tryz.func113.trans (congrArg some (by kernel_rfl))
  f309 := Tryz.func114.trans (congrArg some (by kernel_rfl))
  f310 := Tryz.func115.trans (congrArg some (by kernel_rfl))
  f329 := Tryz.func132.trans (congrArg some (by kernel_rfl))
  f330 := Tryz.func133.trans (congrArg some (by kernel_rfl))
  f333 := Tryz.func131.trans (congrArg some (by kernel_rfl))
  f334 := Tryz.func134.trans (congrArg some (by kernel_rfl))
  f335 := Tryz.func135.trans (congrArg some (by kernel_rfl))
  f336 := Tryz.func136.trans (congrArg some (by kernel_rfl))
  f344 := Tryz.func143.trans (congrArg some (by kernel_rfl))
  t0 := Tryz.underlying0
  a0 := Tryz.isAgg0
  z0 := Tryz.sizeOf0
  v0 := Tryz.zeroValue0
  t3 := Tryz.underlying3
  a3 := Tryz.isAgg3
  z3 := Tryz.sizeOf3
  v3 := Tryz.zeroValue3
  t4 := Tryz.underlying4
  a4 := Tryz.isAgg4
  z4 := Tryz.sizeOf4
  v4 := Tryz.zeroValue4
  t5 := Tryz.underlying5
  a5 := Tryz.isAgg5
  z5 := Tryz.sizeOf5
  v5 := Tryz.zeroValue5
  t9 := Tryz.underlying9
  a9 := Tryz.isAgg9
  z9 := Tryz.sizeOf9
  v9 := Tryz.zeroValue9
  t31 := Tryz.underlying40
  a31 := Tryz.isAgg40
  z31 := Tryz.sizeOf40
  v31 := Tryz.zeroValue40
  t46 := Tryz.underlying126
  a46 := Tryz.isAgg126
  z46 := Tryz.sizeOf126
  v46 := Tryz.zeroValue126
  t51 := Tryz.underlying151
  a51 := Tryz.isAgg151
  z51 := Tryz.sizeOf151
  v51 := Tryz.zeroValue151
  t53 := Tryz.underlying153
  a53 := Tryz.isAgg153
  z53 := Tryz.sizeOf153
  v53 := Tryz.zeroValue153
  t131 := Tryz.underlying148
  a131 := Tryz.isAgg148
  z131 := Tryz.sizeOf148
  v131 := Tryz.zeroValue148
  t182 := Tryz.underlying143
  a182 := Tryz.isAgg143
  z182 := Tryz.sizeOf143
  v182 := Tryz.zeroValue143
  t183 := Tryz.underlying144
  a183 := Tryz.isAgg144
  z183 := Tryz.sizeOf144
  v183 := Tryz.zeroValue144
  t218 := Tryz.underlying163
  a218 := Tryz.isAgg163
  z218 := Tryz.sizeOf163
  v218 := Tryz.zeroValue163
  t222 := Tryz.underlying167
  a222 := Tryz.isAgg167
  z222 := Tryz.sizeOf167
  v222 := Tryz.zeroValue167
  t228 := Tryz.underlying172
  a228 := Tryz.isAgg172
  z228 := Tryz.sizeOf172
  v228 := Tryz.zeroValue172
  t229 := Tryz.underlying173
  a229 := Tryz.isAgg173
  z229 := Tryz.sizeOf173
  v229 := Tryz.zeroValue173 }
open Go.Sort Go.RowKit in
theorem Tryz.slices_Sort_string (blk off cap : Nat) (ss : List (List UInt8)) (w : World) (hH : Holds encStr w blk off ss.toArray) (hblk : blk < w.heap.size) (hsz : ss.length < 4611686018427387904) :
    Calls Tryz.prog 59 #[.slice (some ⟨blk, off, none⟩) ss.length cap] w fun e w' =>
      e = .returned (.tuple #[]) ∧ ∃ n os, w' = grow (putRow encStr (Sort.ahead w n) blk off (ss.mergeSort fun x y => decide (x ≤ y)).toArray) os := Any.slices_Sort_string Tryz.lays190 blk off cap ss w hH hblk hsz
def Tryz.lays206_ren : Go.Shelf.Ren := ⟨fun | 206 => 93 | n => n, fun | 9 => 9 | 4 => 4 | 3 => 3 | n => n, fun | n => n⟩
theorem Tryz.lays206 : Go.Proofs.Lays.n206 Tryz.prog Tryz.lays206_ren := {
  mixed := by kernel_rfl
  f206 := Tryz.func93.trans (congrArg some (by kernel_rfl))
  t3 := Tryz.underlying3
  a3 := Tryz.isAgg3
  z3 := Tryz.sizeOf3
  v3 := Tryz.zeroValue3
  t4 := Tryz.underlying4
  a4 := Tryz.isAgg4
  z4 := Tryz.sizeOf4
  v4 := Tryz.zeroValue4
  t9 := Tryz.underlying9
  a9 := Tryz.isAgg9
  z9 := Tryz.sizeOf9
  v9 := Tryz.zeroValue9 }
open Go.RowKit Go.Lib in
/-- internal/stringslite.HasPrefix (what strings.HasPrefix calls). (LAID: no walk: one application.) -/
theorem Tryz.stringslite_HasPrefix (s p : ByteArray) (w : World) :
    Calls Tryz.prog 93 #[.string s, .string p] w fun e w' => e = .returned (.bool (Lib.hasPrefix s.data.toList p.data.toList)) ∧ w' = w := Any.stringslite_HasPrefix Tryz.lays206 s p w
def Tryz.lays99_ren : Go.Shelf.Ren := ⟨fun | 99 => 57 | 206 => 93 | n => n, fun | 9 => 9 | 4 => 4 | 3 => 3 | n => n, fun | n => n⟩
theorem Tryz.lays99 : Go.Proofs.Lays.n99 Tryz.prog Tryz.lays99_ren := {
  mixed := by kernel_rfl
  f99 := Tryz.func57.trans (congrArg some (by kernel_rfl))
  f206 := Tryz.func93.trans (congrArg some (by kernel_rfl))
  t3 := Tryz.underlying3
  a3 := Tryz.isAgg3
  z3 := Tryz.sizeOf3
  v3 := Tryz.zeroValue3
  t4 := Tryz.underlying4
  a4 := Tryz.isAgg4
  z4 := Tryz.sizeOf4
  v4 := Tryz.zeroValue4
  t9 := Tryz.underlying9
  a9 := Tryz.isAgg9
  z9 := Tryz.sizeOf9
  v9 := Tryz.zeroValue9 }
open Go.RowKit Go.Lib in
/-- strings.HasPrefix: "HasPrefix reports whether the string s begins with prefix.": IT RETURNS 'Lib.hasPrefix s prefix'; the world is as it was. (LAID: no walk: one application.) -/
theorem Tryz.strings_HasPrefix (s p : ByteArray) (w : World) :
    Calls Tryz.prog 57 #[.string s, .string p] w fun e w' => e = .returned (.bool (Lib.hasPrefix s.data.toList p.data.toList)) ∧ w' = w := Any.strings_HasPrefix Tryz.lays99 s p w
open Go.RowKit Go.Sort in
/-- .. and plain. (LAID: no walk: one application.) -/
theorem Tryz.slices_Sort_string_none (p : Option Addr) (cap : Nat) (w : World) :
    Calls Tryz.prog 59 #[.slice p 0 cap] w fun e w' => e = .returned (.tuple #[]) ∧ w' = w := Any.slices_Sort_string_none Tryz.lays190 p cap w
end Go.Proofs
/- world: cells -/
namespace Go.Proofs.YtkaikhcpcbjkcaaGreatDoor
open Go.RowKit M
set_option linter.unusedVariables false
theorem keysStr : KeyOk Tryz.prog 9 strK := keyOk_str Tryz.underlying9
theorem clone0 {w : World} {As : List Th} (hS : Sat w As) (s : Bs) (hs : s.length ≤ 281474976710656) : Calls Tryz.prog 94 #[strV s] w (Ret fun v w' => v = strV s ∧ Sat w' As) :=
  calls_below hS (Tryz.stringslite_Clone ⟨s.toArray⟩ w (by simpa [ByteArray.size] using hs))
theorem clone_sp {w : World} {F : Th} (hS : Sat w [F]) (s : Bs) (hs : s.length ≤ 281474976710656) :
    Calls Tryz.prog 58 #[strV s] w (Ret fun v w' => v = strV s ∧ Sat w' [F]) := by
 refine calls_enter Tryz.func58 rfl Tryz.ntmps58 rfl ?_
 refine wc_seq (wc_region (wl_assign rfl rfl (wl_nil (qs_seq (wc_seq (wc_region (wl_move rfl rfl ?_)))))))
 have hC1 := hS.split [] [false] rfl; dsimp only [selF, pickA, nthA, List.cons_append, List.nil_append] at hC1
 refine wl_call cal_94 rfl (clone0 hC1 s hs) rfl ?_
 rintro e w1 ⟨_, rfl, rfl, hS1⟩; refine ⟨_, rfl, ?_⟩
 replace hS1 := hS1.join rfl; dsimp only [List.dropLast, List.cons_append, List.nil_append] at hS1; clear hC1
 refine wl_assign rfl rfl (wl_nil (qs_seq (wc_ret ?_)))
 refine fin1 (.inr rfl) rfl rfl ?_
 exact ⟨_, rfl, rfl, hS1⟩
def emptyW : WS := ⟨fun _ => [], fun _ _ => none, fun _ => [], 0⟩
theorem cellsG_empty : cellsG (fun _ => []) = fun _ => none := by funext k; simp [cellsG]
theorem new_shut {w : World} {p a b c : Nat} {F : Th} (h : Sat w [blkT p [.map (some a), .map (some b), .map (some c), intV 0], mapT strK c (fun _ => none), mapT strK b (fun _ => none), mapT strK a (fun _ => none), F]) : Sat w [worldT p emptyW, F] := by
  refine worldT_shut ⟨a, b, c⟩ ⟨fun n p s h => by cases h⟩ ?_
  have h1 := h.pull 2 rfl; dsimp only [List.eraseIdx] at h1
  have h2 : Sat w (mapT strK b (namesG []) :: starL ([].map (thOf emptyW.objs)) :: _) := (Sat.fold (As := []) h1).perm (List.Perm.swap _ _ _)
  have h3 := objsT_shut [] ⟨by simp, fun n => by simp [emptyW]⟩ h2
  have h4 := h3.reorder [1, 3, 0, 2, 4] rfl; dsimp only [pickA, nthA] at h4
  show Sat w [blkT p _, mapT strK a (cellsG (fun _ => [])), objsT b _, mapT strK c (cellsG (fun _ => [])), F]
  rw [cellsG_empty]; exact h4
theorem new_sp {w : World} {F : Th} (hS : Sat w [F]) :
    Calls Tryz.prog 20 #[] w (Ret fun v w' => ∃ p, v = ptrV p 0 ∧ Sat w' [worldT p emptyW, F]) := by
 refine calls_enter Tryz.func20 rfl Tryz.ntmps20 rfl ?_
 refine wc_seq (wc_region (wl_assign rfl rfl (wl_nil (qs_seq (wc_seq (wc_region ?_))))))
 refine wl_makeMap strK hS rfl ?_
 intro b1 w1 hS1
 refine wl_makeMap strK hS1 rfl ?_
 intro b2 w2 hS2
 clear hS1
 refine wl_makeMap strK hS2 rfl ?_
 intro b3 w3 hS3
 clear hS2
 refine wl_buildS rfl pl_93_0_1_2 asz_93 zr_93 rfl rfl ?_
 refine wl_box hS3 rfl rfl rfl ?_
 intro b4 w4 hS4
 clear hS3
 refine wl_assign rfl rfl (wl_nil (qs_seq (wc_ret ?_)))
 refine fin1 (.inr rfl) rfl rfl ?_
 exact ⟨_, rfl, _, rfl, new_shut hS4⟩
theorem get_sp {w : World} {p : Nat} {W : WS} {F : Th} (hS : Sat w [worldT p W, F]) (k : Bs) :
    Calls Tryz.prog 16 #[ptrV p 0, strV k] w (Ret fun v w' => v = strV (W.cells k) ∧ Sat w' [worldT p W, F]) := by
 obtain ⟨LL, hI, hS⟩ := worldT_open hS
 refine calls_enter Tryz.func16 rfl Tryz.ntmps16 rfl ?_
 refine wc_seq (wc_region (wl_assign rfl rfl (wl_nil (qs_seq (wc_seq (wc_region (wl_move rfl rfl (wl_nilCheck rfl rfl ?_))))))))
 refine wl_fieldAddr rfl fo_93_0 rfl ?_
 refine wl_load rfl ag_89 (by first | assumption | exact hS.cell 0 rfl rfl) rfl ?_
 refine wl_move rfl rfl ?_
 refine wl_lookup 1 hS keysStr Tryz.underlying89 rfl rfl rfl zr_9 (cellsG_get W.cells k) rfl ?_
 refine wl_assign rfl rfl (wl_nil (qs_seq (wc_ret ?_)))
 refine fin1 (.inr rfl) rfl rfl ?_
 exact ⟨_, rfl, rfl, worldT_shut LL hI hS⟩
def putS (W : WS) (k x : Bs) : WS := { W with cells := updC W.cells k x }
theorem put_sp {w : World} {p : Nat} {W : WS} {F : Th} (hS : Sat w [worldT p W, F]) (k x : Bs) (hk : k.length ≤ 281474976710656) (hv0 : x.length ≤ 281474976710656) :
    Calls Tryz.prog 23 #[ptrV p 0, strV k, strV x] w (Ret fun v w' => v = .tuple #[] ∧ Sat w' [worldT p (putS W k x), F]) := by
 obtain ⟨LL, hI, hS⟩ := worldT_open hS
 refine calls_enter Tryz.func23 rfl Tryz.ntmps23 rfl ?_
 refine wc_seq (wc_seq (wc_region (wl_move rfl rfl ?_)))
 refine wl_eqlS rfl rfl rfl ?_
 refine wl_nil (qs_seq ?_)
 refine wc_condD rfl (fun h1 => ?_) (fun h1 => ?_)
 ·have hv : x = [] := h1
  refine wc_seq (wc_region (wl_move rfl rfl (wl_nilCheck rfl rfl ?_)))
  refine wl_fieldAddr rfl fo_93_0 rfl ?_
  refine wl_load rfl ag_89 (by first | assumption | exact hS.cell 0 rfl rfl) rfl ?_
  refine wl_move rfl rfl ?_
  refine wl_delete (k := k) 1 hS keysStr Tryz.underlying89 rfl rfl rfl rfl ?_
  intro w2 hS2; dsimp only [List.set] at hS2
  refine wl_nil (qs_seq (wc_ret (qs_then_ret ?_)))
  refine fin0 (.inr rfl) rfl ?_
  exact ⟨_, rfl, rfl, worldT_shut LL hI (by rw [show (putS W k x).cells = updC W.cells k [] by rw [putS, hv], ← cellsG_del]; exact hS2)⟩
 have hv : x ≠ [] := h1
 refine wc_skip (qs_seq ?_)
 have hS3 := hS.drew
 refine wc_draw [0, 1, 2, 3, 4, 6, 5, 7, 8] [5, 7, 8] mix (by kernel_rfl) ?_
 refine vc_p rfl rfl rfl (fun _ => (ev_move rfl)) ?_
 refine vc_p rfl rfl rfl (fun _ => (ev_nilCheck rfl)) ?_
 refine vc_p rfl rfl rfl (fun _ => (ev_fieldAddr rfl fo_93_0)) ?_
 refine vc_q rfl rfl rfl (ev_load rfl ag_89 (by first | assumption | exact hS3.cell 0 rfl rfl)) ?_
 refine vc_p rfl rfl rfl (fun _ => (ev_move rfl)) ?_
 refine vc_p rfl rfl rfl (fun _ => (ev_move rfl)) ?_
 refine vc_s rfl rfl rfl rfl rfl rfl ?_
 have hC4 := hS3.split [] [false, false, false, false, false] rfl; dsimp only [selF, pickA, nthA, List.cons_append, List.nil_append] at hC4
 refine wl_call cal_58 rfl (clone_sp hC4 _ (by assumption)) rfl ?_
 rintro e w4 ⟨_, rfl, rfl, hS4⟩; refine ⟨_, rfl, ?_⟩
 replace hS4 := hS4.join rfl; dsimp only [List.dropLast, List.cons_append, List.nil_append] at hS4; clear hC4
 clear hS3
 refine vc_e (.cons (.inl ⟨rfl, (ev_load rfl ag_89 (by first | assumption | exact hS4.cell 0 rfl rfl))⟩) .nil) ?_
 refine vc_s rfl rfl rfl rfl rfl rfl ?_
 have hC5 := hS4.split [] [false, false, false, false, false] rfl; dsimp only [selF, pickA, nthA, List.cons_append, List.nil_append] at hC5
 refine wl_call cal_58 rfl (clone_sp hC5 _ (by assumption)) rfl ?_
 rintro e w5 ⟨_, rfl, rfl, hS5⟩; refine ⟨_, rfl, ?_⟩
 replace hS5 := hS5.join rfl; dsimp only [List.dropLast, List.cons_append, List.nil_append] at hS5; clear hC5
 clear hS4
 refine vc_e (.cons (.inl ⟨rfl, (ev_load rfl ag_89 (by first | assumption | exact hS5.cell 0 rfl rfl))⟩) .nil) ?_
 refine vc_s rfl rfl rfl rfl rfl rfl ?_
 first | refine wl_mapUpdate (k := k) 1 hS5 keysStr Tryz.underlying89 rfl rfl rfl rfl ?_ | refine wl_mapUpdate (k := k) 3 hS5 keysStr Tryz.underlying89 rfl rfl rfl rfl ?_
 intro w6 hS6; dsimp only [List.set] at hS6
 clear hS5
 refine vc_e0 (.skip (by kernel_rfl) .nil) ?_
 refine VC.nil ?_
 refine fin0 (.inl rfl) rfl ?_
 exact ⟨_, rfl, rfl, worldT_shut LL hI (by rw [show (putS W k x).cells = updC W.cells k x from rfl, ← cellsG_put hv]; exact hS6)⟩
end Go.Proofs.YtkaikhcpcbjkcaaGreatDoor
/- wire: numbers -/
namespace Go.Proofs.YtkaikhcpcbjkcaaGreatDoor
open Go.RowKit M
set_option linter.unusedVariables false
theorem sat_grow {w : World} {As : List Th} (hS : Sat w As) (k : Nat) (os : Array Obj) : Sat (Go.Sort.grow (w.drewN k) os) As := by
  refine hS.only ⟨rfl, rfl, rfl, by simp [Go.Sort.grow], fun j hj _ => ?_⟩
  have : j < (w.drewN k).heap.size := hj
  show (w.heap ++ os)[j]? = w.heap[j]?
  rw [Array.getElem?_append_left hj]
structure WireG (w : World) : Prop where
  tab : Lib.TabIs Tryz.prog w "internal/strconv.uint64pow10" .u64 Lib.pow10Tab
  syn : ∃ tp p, w.var? Tryz.prog "strconv.ErrSyntax" = some #[.iface tp p]
  rng : ∃ tp p, w.var? Tryz.prog "strconv.ErrRange" = some #[.iface tp p]
theorem var_below {P : Program} {W w : World} {name : String} {v : Array Value} (h : W.var? P name = some v) (hb : RowKit.Below W.heap.size W w) : w.var? P name = some v := by
  unfold World.var? at *
  cases hg : P.globalNamed name with
  | none => simp [hg] at h
  | some g =>
    simp only [hg, Option.bind_some] at h ⊢
    have hlt : g < W.heap.size := by
      rcases Nat.lt_or_ge g W.heap.size with q | q
      · exact q
      · rw [Array.getElem?_eq_none q] at h; cases h
    rw [hb.block g hlt]; exact h
theorem WireG.below {W w : World} (h : WireG W) (hb : RowKit.Below W.heap.size W w) : WireG w :=
  ⟨var_below h.tab hb, let ⟨a, b, h⟩ := h.syn; ⟨a, b, var_below h hb⟩, let ⟨a, b, h⟩ := h.rng; ⟨a, b, var_below h hb⟩⟩
theorem itoa0 {w : World} {As : List Th} (hS : Sat w As) (hG : WireG w) (n : Int) (hn : inI n) : Calls Tryz.prog 122 #[intV n] w (Ret fun v w' => v = strV (Lib.itoa n) ∧ Sat w' As) :=
  (Tryz.strconv_Itoa n hn.1 hn.2 w hG.tab).mono fun e w' ⟨h1, k, os, h2⟩ => ⟨_, h1, rfl, by rw [h2]; exact sat_grow hS k os⟩
theorem wInt_sp {w : World} {F : Th} (hS : Sat w [F]) (hG : Ent F WireG) (n : Int) (hn : inI n) :
    Calls Tryz.prog 104 #[intV n] w (Ret fun v w' => v = strV (Lib.itoa n ++ [59]) ∧ Sat w' [F]) := by
 refine calls_enter Tryz.func104 rfl Tryz.ntmps104 rfl ?_
 have hil := (itoa_len hn).1
 refine wc_seq (wc_region (wl_assign rfl rfl (wl_nil (qs_seq (wc_seq (wc_region (wl_move rfl rfl ?_)))))))
 have hC1 := hS.split [] [false] rfl; dsimp only [selF, pickA, nthA, List.cons_append, List.nil_append] at hC1
 refine wl_call cal_122 rfl (itoa0 hC1 (Ent.sat (hG.starL 0 rfl) hC1 0 rfl) n hn) rfl ?_
 rintro e w1 ⟨_, rfl, rfl, hS1⟩; refine ⟨_, rfl, ?_⟩
 replace hS1 := hS1.join rfl; dsimp only [List.dropLast, List.cons_append, List.nil_append] at hS1; clear hC1
 refine wl_concat rfl rfl (by first | omega | (simp; omega)) rfl ?_
 refine wl_assign rfl rfl (wl_nil (qs_seq (wc_ret ?_)))
 refine fin1 (.inr rfl) rfl rfl ?_
 exact ⟨_, rfl, rfl, hS1⟩
def readT (b : Nat) (s : Bs × Bool) : Th := blkT b [strV s.1, .bool s.2]
theorem wOpen_sp {w : World} {F : Th} (hS : Sat w [F]) (s : Bs) :
    Calls Tryz.prog 74 #[strV s] w (Ret fun v w' => ∃ b, v = ptrV b 0 ∧ Sat w' [readT b (s, false), F]) := by
 refine calls_enter Tryz.func74 rfl Tryz.ntmps74 rfl ?_
 refine wc_seq (wc_region (wl_assign rfl rfl (wl_nil (qs_seq (wc_seq (wc_region (wl_move rfl rfl ?_)))))))
 refine wl_buildS rfl pl_132_0 asz_132 zr_132 rfl rfl ?_
 refine wl_box hS rfl rfl rfl ?_
 intro b1 w1 hS1
 refine wl_assign rfl rfl (wl_nil (qs_seq (wc_ret ?_)))
 refine fin1 (.inr rfl) rfl rfl ?_
 exact ⟨_, rfl, _, rfl, hS1⟩
theorem wFail_sp {w : World} {F : Th} {b : Nat} {s : Bs × Bool} (hS : Sat w [readT b s, F]) :
    Calls Tryz.prog 120 #[ptrV b 0] w (Ret fun v w' => v = .tuple #[] ∧ Sat w' [readT b ([], true), F]) := by
 refine calls_enter Tryz.func120 rfl Tryz.ntmps120 rfl ?_
 refine wc_region (wl_move rfl rfl (wl_move rfl rfl (wl_nilCheck rfl rfl ?_)))
 refine wl_fieldAddr rfl fo_132_0 rfl ?_
 first | (refine wl_store hS rfl rfl sz_9 (by first | rfl | assumption) (i := 0) rfl (by first | decide | exact Nat.le_of_ble_eq_true rfl | (simp; done) | omega) ?_)
 intro w1 hS2; dsimp only [List.set] at hS2
 refine wl_nilCheck rfl rfl ?_
 refine wl_fieldAddr rfl fo_132_1 rfl ?_
 first | (refine wl_store hS2 rfl rfl sz_4 (by first | rfl | assumption) (i := 0) rfl (by first | decide | exact Nat.le_of_ble_eq_true rfl | (simp; done) | omega) ?_)
 intro w3 hS4; dsimp only [List.set] at hS4
 clear hS2
 refine wl_nil ?_
 refine fin0 (.inl rfl) rfl ?_
 exact ⟨_, rfl, rfl, hS4⟩
theorem isErr : isIface Tryz.prog 156 = true := by kernel_rfl
theorem atoi0 {w : World} {As : List Th} (hS : Sat w As) (hG : WireG w) (s : Bs) (hs : s.length ≤ 1000000) : Calls Tryz.prog 121 #[strV s] w (Ret fun v w' => (∃ x ev g, v = .tuple #[intV x, ev] ∧ ((ev = .nilIface ∧ g = false) ∨ ∃ a b, ev = .iface a b ∧ g = true) ∧ (g = false → Lib.atoiAll s = .ok x) ∧ (g = true → ∀ n, Lib.atoiAll s ≠ .ok n)) ∧ Sat w' As) := by
  cases h : Lib.atoiAll s with
  | ok n =>
    refine (Tryz.strconv_Atoi_ok ⟨s.toArray⟩ (by simp [ByteArray.size]; omega) n h w).mono fun e w' ⟨h1, h2⟩ => ⟨_, h1, ⟨n, _, false, rfl, .inl ⟨rfl, rfl⟩, (fun _ => rfl), (fun q => by cases q)⟩, ?_⟩
    rcases h2 with rfl | ⟨t, rfl⟩
    · exact hS
    · exact hS.belowAll (Lib.bytesWorld_below _ _ _)
  | «syntax» =>
    obtain ⟨tp, p, hv⟩ := hG.syn
    exact (Tryz.strconv_Atoi_syntax_var ⟨s.toArray⟩ (by simp [ByteArray.size]; omega) h tp p w hv).mono fun e w' ⟨N, h1, _, _, h2⟩ => ⟨_, h1, ⟨0, _, true, rfl, .inr ⟨_, _, rfl, rfl⟩, (fun q => by cases q), (fun _ n q => by cases q)⟩, hS.belowAll h2⟩
  | range =>
    obtain ⟨tp, p, hv⟩ := hG.rng
    exact (Tryz.strconv_Atoi_range_var ⟨s.toArray⟩ (by simp [ByteArray.size]; omega) h tp p w hv).mono fun e w' ⟨N, h1, _, _, h2⟩ => ⟨_, h1, ⟨_, _, true, rfl, .inr ⟨_, _, rfl, rfl⟩, (fun q => by cases q), (fun _ n q => by cases q)⟩, hS.belowAll h2⟩
theorem ixb0 {w : World} {As : List Th} (hS : Sat w As) (s : Bs) (e : UInt8) : Calls Tryz.prog 119 #[strV s, byteV e] w (Ret fun v w' => v = intV (Lib.indexByte s e) ∧ Sat w' As) := by
  refine (Tryz.strings_IndexByte ⟨s.toArray⟩ (e.toNat : Int) w).mono fun e' w' ⟨h1, h2⟩ => ⟨_, h1, ?_, by rw [h2]; exact hS⟩
  simp
def numV (e : UInt8) (least : Int) (s : Bs × Bool) : Int := match numP e least s.1 with | some (n, _) => n | none => 0
def numR (e : UInt8) (least : Int) (s : Bs × Bool) : Bs × Bool := match numP e least s.1 with | some (_, r) => (r, s.2) | none => ([], true)
theorem num_none {e : UInt8} {least : Int} {s : Bs × Bool} (h : numP e least s.1 = none) : numV e least s = 0 ∧ numR e least s = ([], true) := by simp [numV, numR, h]
theorem num_some {e : UInt8} {least n : Int} {s : Bs × Bool} {r : Bs} (h : numP e least s.1 = some (n, r)) : numV e least s = n ∧ numR e least s = (r, s.2) := by simp [numV, numR, h]
theorem num_neg {e : UInt8} {least : Int} {r : Bs} (h : Lib.indexByte (r.take 21) e < 0) : numP e least r = none := by unfold numP; rw [if_pos h]
theorem num_at {e : UInt8} {least : Int} {r : Bs} {o : Nat} (h : Lib.indexByte (r.take 21) e = (o : Int)) : numP e least r = match Lib.atoiAll ((r.take 21).take o) with | .ok n => if Lib.itoa n = (r.take 21).take o ∧ least ≤ n then some (n, r.drop (o + 1)) else none | _ => none := by
  unfold numP; rw [h, if_neg (by omega)]; rfl
theorem num_bad {e : UInt8} {least : Int} {r : Bs} {o : Nat} (h : Lib.indexByte (r.take 21) e = (o : Int)) (h2 : ∀ n, Lib.atoiAll ((r.take 21).take o) ≠ .ok n) : numP e least r = none := by
  rw [num_at h]
  cases hq : Lib.atoiAll ((r.take 21).take o) with
  | ok n => exact absurd hq (h2 n)
  | «syntax» => rfl
  | range => rfl
theorem num_not {e : UInt8} {least x : Int} {r : Bs} {o : Nat} (h : Lib.indexByte (r.take 21) e = (o : Int)) (h2 : Lib.atoiAll ((r.take 21).take o) = .ok x) (h3 : ¬ (Lib.itoa x = (r.take 21).take o ∧ least ≤ x)) : numP e least r = none := by
  rw [num_at h, h2]; dsimp only; rw [if_neg h3]
theorem num_yes {e : UInt8} {least x : Int} {r : Bs} {o : Nat} (h : Lib.indexByte (r.take 21) e = (o : Int)) (h2 : Lib.atoiAll ((r.take 21).take o) = .ok x) (h3 : Lib.itoa x = (r.take 21).take o ∧ least ≤ x) : numP e least r = some (x, r.drop (o + 1)) := by
  rw [num_at h, h2]; dsimp only; rw [if_pos h3]
set_option maxRecDepth 100000 in
theorem number_sp {w : World} {F : Th} {b : Nat} {s : Bs × Bool} (hS : Sat w [readT b s, F]) (hG : Ent F WireG) (e : UInt8) (least : Int) (hrl : s.1.length ≤ 9223372036854775806) :
    Calls Tryz.prog 102 #[ptrV b 0, byteV e, intV least] w (Ret fun v w' => v = intV (numV e least s) ∧ Sat w' [readT b (numR e least s), F]) := by
 obtain ⟨r, q⟩ := s
 dsimp only at hrl
 change Sat w [blkT b [strV r, .bool q], F] at hS
 refine calls_enter Tryz.func102 rfl Tryz.ntmps102 rfl ?_
 refine wc_seq (wc_region (wl_assign rfl rfl (wl_nil (qs_seq (wc_seq ?_)))))
 have hS1 := hS.drew
 refine wc_draw [0, 1, 2, 3, 4, 5, 6, 7, 8, 9, 10, 11] [] mix (by kernel_rfl) ?_
 refine vc_p rfl rfl rfl (fun _ => (ev_move rfl)) ?_
 refine vc_p rfl rfl rfl (fun _ => (ev_nilCheck rfl)) ?_
 refine vc_p rfl rfl rfl (fun _ => (ev_fieldAddr rfl fo_132_0)) ?_
 refine vc_q rfl rfl rfl (ev_load rfl ag_9 (by first | assumption | exact hS1.cell 0 rfl rfl)) ?_
 refine vc_p rfl rfl rfl (fun _ => (ev_move rfl)) ?_
 refine vc_p rfl rfl rfl (fun _ => (ev_nilCheck rfl)) ?_
 refine vc_p rfl rfl rfl (fun _ => (ev_fieldAddr rfl fo_132_0)) ?_
 refine vc_q rfl rfl rfl (ev_load rfl ag_9 (by first | assumption | exact hS1.cell 0 rfl rfl)) ?_
 refine vc_p rfl rfl rfl (fun _ => (ev_lenS Tryz.underlying9 rfl)) ?_
 refine vc_p rfl rfl rfl (fun _ => (ev_minI rfl rfl)) ?_
 refine vc_p rfl rfl rfl (fun _ => (ev_sliceS 0 (min 21 r.length) Tryz.underlying9 rfl (bndN _) (bndS (min 21 r.length) _ rfl (by omega)) (by omega) (by omega))) ?_
 refine vc_p rfl rfl rfl (fun _ => (ev_assign rfl)) ?_
 refine VC.nil ?_
 rw [show List.drop 0 (List.take (min 21 r.length) r) = r.take 21 by rw [List.drop_zero, ← List.take_eq_take_min]]
 refine qs_seq ?_
 refine wc_sub (L' := [(7, _), (6, _), (0, _), (1, _), (2, _)]) (.cons rfl (.cons rfl (.cons rfl (.cons rfl (.cons rfl .nil))))) ?_
 refine wc_seq (wc_region (wl_move rfl rfl (wl_move rfl rfl ?_)))
 have hC2 := hS1.split [] [false, false] rfl; dsimp only [selF, pickA, nthA, List.cons_append, List.nil_append] at hC2
 refine wl_call cal_119 rfl (ixb0 hC2 _ e) rfl ?_
 rintro e w2 ⟨_, rfl, rfl, hS2⟩; refine ⟨_, rfl, ?_⟩
 replace hS2 := hS2.join rfl; dsimp only [List.dropLast, List.cons_append, List.nil_append] at hS2; clear hC2
 clear hS1
 refine wl_assign rfl rfl (wl_nil (qs_seq (wc_seq (wc_seq (wc_region (wl_move rfl rfl ?_))))))
 refine wl_lss rfl rfl rfl ?_
 refine wl_nil (qs_seq ?_)
 refine wc_sub (L' := [(26, _), (8, _), (7, _), (6, _), (0, _), (2, _)]) (.cons rfl (.cons rfl (.cons rfl (.cons rfl (.cons rfl (.cons rfl .nil)))))) ?_
 refine wc_condD rfl (fun h3 => ?_) (fun h3 => ?_)
 ·refine wc_seq (wc_region (wl_move rfl rfl ?_))
  have hC4 := hS2.split [0] [true, false] rfl; dsimp only [selF, pickA, nthA, List.cons_append, List.nil_append] at hC4
  refine wl_call cal_120 rfl (wFail_sp (s := (r, q)) hC4) rfl ?_
  rintro e w4 ⟨_, rfl, rfl, hS4⟩; refine ⟨_, rfl, ?_⟩
  replace hS4 := hS4.join rfl; dsimp only [List.dropLast, List.cons_append, List.nil_append] at hS4; clear hC4
  clear hS2
  refine wl_nil (qs_seq (wc_seq (wc_region (wl_assign rfl rfl (wl_nil (qs_seq (wc_ret (qs_then_ret ?_))))))))
  refine fin1 (.inr rfl) rfl rfl ?_
  have hnp : numP e least r = none := num_neg (by assumption)
  exact ⟨_, rfl, by rw [(num_none (s := (r, q)) hnp).1], by rw [(num_none (s := (r, q)) hnp).2]; exact hS4⟩
 obtain ⟨o, hio⟩ : ∃ o : Nat, Lib.indexByte (r.take 21) e = (o : Int) := ⟨(Lib.indexByte (r.take 21) e).toNat, by omega⟩
 have hol := (List.getElem?_eq_some_iff.1 (Lib.indexByte_some hio).1).1
 have hol2 : o < r.length := by simp at hol; omega
 have htl : (r.take 21).length ≤ 21 := by simp; omega
 rw [hio]
 refine wc_skip (qs_seq (wc_seq (wc_region (wl_move rfl rfl (wl_move rfl rfl ?_)))))
 refine wl_sliceS 0 o Tryz.underlying9 rfl (bndN _) (bndS o _ rfl rfl) (by omega) (by omega) rfl ?_
 rw [List.drop_zero]
 have hC5 := hS2.split [] [false, false] rfl; dsimp only [selF, pickA, nthA, List.cons_append, List.nil_append] at hC5
 refine wl_call cal_121 rfl (atoi0 hC5 (Ent.sat (hG.starL 1 rfl) hC5 0 rfl) _ (by simp; omega)) rfl ?_
 rintro e w5 ⟨_, rfl, ⟨x, ev, g, rfl, hev, hok, hbad⟩, hS5⟩; refine ⟨_, rfl, ?_⟩
 replace hS5 := hS5.join rfl; dsimp only [List.dropLast, List.cons_append, List.nil_append] at hS5; clear hC5
 clear hS2
 refine wl_move rfl rfl (wl_extract rfl rfl rfl (wl_extract rfl rfl rfl (wl_assign rfl rfl (wl_assign rfl rfl (wl_nil (qs_seq ?_))))))
 refine wc_sub (L' := [(10, _), (9, _), (8, _), (7, _), (6, _), (0, _), (2, _)]) (.cons rfl (.cons rfl (.cons rfl (.cons rfl (.cons rfl (.cons rfl (.cons rfl .nil))))))) ?_
 refine wc_seq (wc_seq ?_)
 have hS6 := hS5.drew
 refine wc_draw [0, 1, 2, 3, 5, 6, 7, 4, 8, 9, 10, 11, 12, 13, 14] [4] mix (by kernel_rfl) ?_
 refine vc_p rfl rfl rfl (fun _ => (ev_move rfl)) ?_
 refine vc_p rfl rfl rfl (fun _ => (ev_neqIfNil isErr hev rfl)) ?_
 refine vc_p rfl rfl rfl (fun _ => (ev_move rfl)) ?_
 refine vc_split 38 rfl (fun h7 => ?_) (fun h7 => ?_)
 ·refine vc_not rfl rfl (guard_no rfl rfl h7) ?_
  refine vc_not rfl rfl (guard_no rfl rfl h7) ?_
  refine vc_not rfl rfl (guard_no rfl rfl h7) ?_
  refine vc_not rfl rfl (guard_no rfl rfl h7) ?_
  refine VC.spineNot rfl rfl (guard_no rfl rfl h7) ?_
  refine vc_not rfl rfl (guard_no rfl rfl h7) ?_
  refine vc_p rfl rfl rfl (fun _ => (ev_pickT rfl h7 rfl)) ?_
  refine vc_p rfl rfl rfl (fun _ => (ev_move rfl)) ?_
  refine vc_not rfl rfl (guard_no rfl rfl rfl) ?_
  refine vc_not rfl rfl (guard_no rfl rfl rfl) ?_
  refine vc_not rfl rfl (guard_no rfl rfl rfl) ?_
  refine vc_p rfl rfl rfl (fun _ => (ev_pickT rfl rfl rfl)) ?_
  refine VC.nil (qs_seq ?_)
  refine wc_sub (L' := [(50, _), (9, _), (8, _), (6, _), (0, _)]) (.cons rfl (.cons rfl (.cons rfl (.cons rfl (.cons rfl .nil))))) ?_
  refine wc_condT rfl ?_
  refine wc_seq (wc_region (wl_move rfl rfl ?_))
  have hC8 := hS6.split [0] [true, false] rfl; dsimp only [selF, pickA, nthA, List.cons_append, List.nil_append] at hC8
  refine wl_call cal_120 rfl (wFail_sp (s := (r, q)) hC8) rfl ?_
  rintro e w8 ⟨_, rfl, rfl, hS8⟩; refine ⟨_, rfl, ?_⟩
  replace hS8 := hS8.join rfl; dsimp only [List.dropLast, List.cons_append, List.nil_append] at hS8; clear hC8
  clear hS6
  refine wl_nil (qs_seq (wc_seq (wc_region (wl_assign rfl rfl (wl_nil (qs_seq (wc_ret (qs_then_ret ?_))))))))
  refine fin1 (.inr rfl) rfl rfl ?_
  have hnp : numP e least r = none := num_bad hio (hbad (by assumption))
  exact ⟨_, rfl, by rw [(num_none (s := (r, q)) hnp).1], by rw [(num_none (s := (r, q)) hnp).2]; exact hS8⟩
 refine vc_p rfl rfl (guard_yes rfl rfl h7) (fun _ => (Ev.gd (ev_move rfl))) ?_
 refine vc_p rfl rfl (guard_yes rfl rfl h7) (fun _ => (Ev.gd (ev_move rfl))) ?_
 refine vc_p rfl rfl (guard_yes rfl rfl h7) (fun _ => (Ev.gd (ev_move rfl))) ?_
 refine vc_p rfl rfl (guard_yes rfl rfl h7) (fun _ => (Ev.gd (ev_sliceS 0 o Tryz.underlying9 rfl (bndN _) (bndS o _ rfl rfl) (by omega) (by omega)))) ?_
 refine vc_s rfl rfl (guard_yes rfl rfl h7) rfl rfl rfl ?_
 have hC9 := hS6.split [] [false, false] rfl; dsimp only [selF, pickA, nthA, List.cons_append, List.nil_append] at hC9
 refine wl_call cal_122 rfl (itoa0 hC9 (Ent.sat (hG.starL 1 rfl) hC9 0 rfl) x (atoi_in (hok (by assumption)))) rfl ?_
 rintro e w9 ⟨_, rfl, rfl, hS9⟩; refine ⟨_, rfl, ?_⟩
 replace hS9 := hS9.join rfl; dsimp only [List.dropLast, List.cons_append, List.nil_append] at hS9; clear hC9
 clear hS6
 refine vc_e .nil ?_
 refine vc_p rfl rfl (guard_yes rfl rfl h7) (fun _ => (Ev.gd (ev_neqS rfl rfl))) ?_
 refine vc_p rfl rfl rfl (fun _ => (ev_pickF rfl h7 rfl)) ?_
 refine vc_p rfl rfl rfl (fun _ => (ev_move rfl)) ?_
 refine vc_splitD 46 rfl (fun h10 => ?_) (fun h10 => ?_)
 ·refine vc_not rfl rfl (guard_no rfl rfl (decide_eq_true h10)) ?_
  refine vc_not rfl rfl (guard_no rfl rfl (decide_eq_true h10)) ?_
  refine vc_not rfl rfl (guard_no rfl rfl (decide_eq_true h10)) ?_
  refine vc_p rfl rfl rfl (fun _ => (ev_pickT rfl (decide_eq_true h10) rfl)) ?_
  refine VC.nil (qs_seq ?_)
  refine wc_sub (L' := [(50, _), (9, _), (8, _), (6, _), (0, _)]) (.cons rfl (.cons rfl (.cons rfl (.cons rfl (.cons rfl .nil))))) ?_
  refine wc_condT rfl ?_
  refine wc_seq (wc_region (wl_move rfl rfl ?_))
  have hC11 := hS9.split [0] [true, false] rfl; dsimp only [selF, pickA, nthA, List.cons_append, List.nil_append] at hC11
  refine wl_call cal_120 rfl (wFail_sp (s := (r, q)) hC11) rfl ?_
  rintro e w11 ⟨_, rfl, rfl, hS11⟩; refine ⟨_, rfl, ?_⟩
  replace hS11 := hS11.join rfl; dsimp only [List.dropLast, List.cons_append, List.nil_append] at hS11; clear hC11
  clear hS9
  refine wl_nil (qs_seq (wc_seq (wc_region (wl_assign rfl rfl (wl_nil (qs_seq (wc_ret (qs_then_ret ?_))))))))
  refine fin1 (.inr rfl) rfl rfl ?_
  have hnp : numP e least r = none := num_not hio (hok (by assumption)) (by rintro ⟨q1, q2⟩; first | omega | (rename_i hh; exact hh q1) | (simp_all; done))
  exact ⟨_, rfl, by rw [(num_none (s := (r, q)) hnp).1], by rw [(num_none (s := (r, q)) hnp).2]; exact hS11⟩
 refine vc_p rfl rfl (guard_yes rfl rfl (decide_eq_false h10)) (fun _ => (Ev.gd (ev_move rfl))) ?_
 refine vc_p rfl rfl (guard_yes rfl rfl (decide_eq_false h10)) (fun _ => (Ev.gd (ev_move rfl))) ?_
 refine vc_p rfl rfl (guard_yes rfl rfl (decide_eq_false h10)) (fun _ => (Ev.gd (ev_lss rfl rfl))) ?_
 refine vc_p rfl rfl rfl (fun _ => (ev_pickF rfl (decide_eq_false h10) rfl)) ?_
 refine VC.nil (qs_seq ?_)
 refine wc_sub (L' := [(50, _), (9, _), (8, _), (6, _), (0, _)]) (.cons rfl (.cons rfl (.cons rfl (.cons rfl (.cons rfl .nil))))) ?_
 refine wc_condD rfl (fun h12 => ?_) (fun h12 => ?_)
 ·refine wc_seq (wc_region (wl_move rfl rfl ?_))
  have hC13 := hS9.split [0] [true, false] rfl; dsimp only [selF, pickA, nthA, List.cons_append, List.nil_append] at hC13
  refine wl_call cal_120 rfl (wFail_sp (s := (r, q)) hC13) rfl ?_
  rintro e w13 ⟨_, rfl, rfl, hS13⟩; refine ⟨_, rfl, ?_⟩
  replace hS13 := hS13.join rfl; dsimp only [List.dropLast, List.cons_append, List.nil_append] at hS13; clear hC13
  clear hS9
  refine wl_nil (qs_seq (wc_seq (wc_region (wl_assign rfl rfl (wl_nil (qs_seq (wc_ret (qs_then_ret ?_))))))))
  refine fin1 (.inr rfl) rfl rfl ?_
  have hnp : numP e least r = none := num_not hio (hok (by assumption)) (by rintro ⟨q1, q2⟩; first | omega | (rename_i hh; exact hh q1) | (simp_all; done))
  exact ⟨_, rfl, by rw [(num_none (s := (r, q)) hnp).1], by rw [(num_none (s := (r, q)) hnp).2]; exact hS13⟩
 refine wc_skip (qs_seq (wc_seq (wc_region (wl_move rfl rfl (wl_move rfl rfl (wl_nilCheck rfl rfl ?_))))))
 refine wl_fieldAddr rfl fo_132_0 rfl ?_
 refine wl_load rfl ag_9 (by first | assumption | exact hS9.cell 0 rfl rfl) rfl ?_
 refine wl_move rfl rfl ?_
 refine wl_add rfl rfl (by omega) (by omega) rfl ?_
 refine wl_sliceS (o + 1) r.length Tryz.underlying9 rfl (bndS (o + 1) _ rfl rfl) (bndN _) (by omega) (by omega) rfl ?_
 rw [List.take_length]
 refine wl_nilCheck rfl rfl ?_
 refine wl_fieldAddr rfl fo_132_0 rfl ?_
 first | (refine wl_store hS9 rfl rfl sz_9 (by first | rfl | assumption) (i := 0) rfl (by first | decide | exact Nat.le_of_ble_eq_true rfl | (simp; done) | omega) ?_)
 intro w14 hS15; dsimp only [List.set] at hS15
 clear hS9
 refine wl_nil (qs_seq ?_)
 refine wc_sub (L' := [(9, _), (6, _)]) (.cons rfl (.cons rfl .nil)) ?_
 refine wc_seq (wc_region (wl_move rfl rfl (wl_assign rfl rfl (wl_nil (qs_seq (wc_ret ?_))))))
 refine fin1 (.inr rfl) rfl rfl ?_
 have hnp : numP e least r = some (x, r.drop (o + 1)) := num_yes hio (hok (by assumption)) ⟨Decidable.not_not.1 (by assumption), by omega⟩
 exact ⟨_, rfl, by rw [(num_some (s := (r, q)) hnp).1], by rw [(num_some (s := (r, q)) hnp).2]; exact hS15⟩
theorem rInt_sp {w : World} {F : Th} {b : Nat} {s : Bs × Bool} (hS : Sat w [readT b s, F]) (hG : Ent F WireG) (hrl : s.1.length ≤ 9223372036854775806) :
    Calls Tryz.prog 75 #[ptrV b 0] w (Ret fun v w' => v = intV (numV 59 (-9223372036854775808) s) ∧ Sat w' [readT b (numR 59 (-9223372036854775808) s), F]) := by
 refine calls_enter Tryz.func75 rfl Tryz.ntmps75 rfl ?_
 refine wc_seq (wc_region (wl_assign rfl rfl (wl_nil (qs_seq (wc_seq (wc_region (wl_move rfl rfl ?_)))))))
 have hC1 := hS.split [0] [true, false] rfl; dsimp only [selF, pickA, nthA, List.cons_append, List.nil_append] at hC1
 refine wl_call cal_102 rfl (number_sp hC1 (hG.starL 0 rfl) 59 (-9223372036854775808) hrl) rfl ?_
 rintro e w1 ⟨_, rfl, rfl, hS1⟩; refine ⟨_, rfl, ?_⟩
 replace hS1 := hS1.join rfl; dsimp only [List.dropLast, List.cons_append, List.nil_append] at hS1; clear hC1
 refine wl_assign rfl rfl (wl_nil (qs_seq (wc_ret ?_)))
 refine fin1 (.inr rfl) rfl rfl ?_
 exact ⟨_, rfl, rfl, hS1⟩
end Go.Proofs.YtkaikhcpcbjkcaaGreatDoor
/- pipes, in plain data -/
namespace Go.Proofs.YtkaikhcpcbjkcaaGreatDoor
open Go.RowKit M
set_option linter.unusedVariables false
def imin : Int := -9223372036854775808
structure PipeD where
  d : Bs
  r : Int
  w : Int
theorem numP_cons {e : UInt8} {least m : Int} {rest : Bs} (he : 57 < e.toNat) (hm : inI m) (hl : least ≤ m) : numP e least (Lib.itoa m ++ e :: rest) = some (m, rest) := by
  have := numP_back (e := e) (least := least) (m := m) (r := Lib.itoa m ++ e :: rest) (k := (Lib.itoa m).length) he (by rw [List.getElem?_append_right (Nat.le_refl _)]; simp) hm hl (by rw [List.take_left'] <;> rfl)
  rw [this, List.drop_append, List.drop_eq_nil_of_le (by omega)]
  simp
theorem num_cons {e : UInt8} {least m : Int} {rest : Bs} {b : Bool} (he : 57 < e.toNat) (hm : inI m) (hl : least ≤ m) : numV e least (Lib.itoa m ++ e :: rest, b) = m ∧ numR e least (Lib.itoa m ++ e :: rest, b) = (rest, b) := num_some (numP_cons he hm hl)
end Go.Proofs.YtkaikhcpcbjkcaaGreatDoor
/- wire: texts -/
namespace Go.Proofs.YtkaikhcpcbjkcaaGreatDoor
open Go.RowKit M
set_option linter.unusedVariables false
theorem numR_len (e : UInt8) (l : Int) (s : Bs × Bool) : (numR e l s).1.length ≤ s.1.length := by
  unfold numR
  split
  · rename_i n r h; rw [(numP_some h).1]; simp only [List.length_append, List.length_cons]; omega
  · simp
theorem numV_in (e : UInt8) (least : Int) (s : Bs × Bool) : inI (numV e least s) := by
  unfold numV
  split
  · rename_i n r h; exact (numP_some h).2.1
  · unfold inI; omega
end Go.Proofs.YtkaikhcpcbjkcaaGreatDoor
