/-
  DERIVED:THE SHELF's CONTRACTS AT THIS DUMP,IN PLAIN WORDS (tools/lay-plain.mjs out of 'TryzShelf.lean',which tools/lay-shelf.mjs wrote):THE SAME DECLARATIONS UNDER THE SAME NAMES: 'import', 'namespace', 'open', 'def', 'theorem' AND NOTHING ELSE:no command of the shelf's:FOR A HAND-IN. Each laying:the table of numbers ('.._ren') and one theorem,a field a fact of the dump's own or the kernel's comparison;each contract:ONE APPLICATION.
-/
import Derived.Shelf.Strings.Builder1
import Derived.Shelf.Strings.Trim
import Derived.Shelf.Small.Utf8
import Derived.Shelf.Small.Bits
import Derived.Shelf.Small.Strs
import Derived.Shelf.Small.Wraps
import Derived.Shelf.Strings.BuilderF
import Derived.Shelf.Strings.BuilderK
import Derived.Shelf.Strconv.Itoa0
import Derived.Shelf.LaysM
import Derived.Shelf.Strconv.Clone
import Derived.Shelf.Strings.Search1
import Derived.Shelf.Sort.Plain
import Derived.Shelf.Unicode.Decode
import Derived.Shelf.Strings.Runes
import Derived.Shelf.Strings.AsciiSet
import Derived.Shelf.Unicode.DecodeSlow
import Derived.Shelf.Unicode.DecodeAny
import Derived.Shelf.Unicode.DecodeLast
import Derived.Shelf.Strings.BuilderCap
import Derived.Shelf.Slices.Turned
import Derived.Ground.Names2Prog
import Derived.Shelf.Slices.Clone
import Derived.Shelf.Slices.SearchI
import Derived.Shelf.Slices.Delete
import Derived.Shelf.Slices.Cells
import Derived.Shelf.Slices.In.SortNone
import Derived.Shelf.Slices.Empties
import Derived.Test.YtkcjfoaejijdoaaGreatDoorProg
import Derived.Test.YtkcjfoaejijdoaaGreatDoorFw
import Derived.Test.YtkcjfoaejijdoaaGreatDoorSh3
import Derived.Lib.AppendStr
set_option linter.unusedVariables false
namespace Go.Proofs
open Go.Shelf
def Tryz.lays162_ren:Go.Shelf.Ren:=⟨fun | 162=>151 | 232=>181 | 227=>182 | 234=>183 | 236=>184 | 228=>217 | 271=>218 | 151=>219 | 120=>242 | 197=>243 | 152=>244 | 260=>250 | 137=>251 | 119=>252 | 224=>253 | 225=>254 | 217=>256 | 266=>257 | n=>n, fun | 9=>9 | 4=>4 | 3=>3 | 5=>5 | 117=>237 | 116=>236 | 0=>0 | 124=>240 | 21=>21 | 105=>264 | 46=>31 | 119=>292 | 139=>295 | 138=>294 | n=>n, fun | 3=>2 | 4=>3 | n=>n⟩
theorem Tryz.lays162:Go.Proofs.Lays.n162 Tryz.prog Tryz.lays162_ren:={
  mixed:= by kernel_rfl
  f119:=Tryz.func252.trans (congrArg some (by kernel_rfl))
  f120:=Tryz.func242.trans (congrArg some (by kernel_rfl))
  f137:=Tryz.func251.trans (congrArg some (by kernel_rfl))
  f151:=Tryz.func219.trans (congrArg some (by kernel_rfl))
  f152:=Tryz.func244.trans (congrArg some (by kernel_rfl))
  f162:=Tryz.func151.trans (congrArg some (by kernel_rfl))
  f197:=Tryz.func243.trans (congrArg some (by kernel_rfl))
  f217:=Tryz.func256.trans (congrArg some (by kernel_rfl))
  f224:=Tryz.func253.trans (congrArg some (by kernel_rfl))
  f225:=Tryz.func254.trans (congrArg some (by kernel_rfl))
  f227:=Tryz.func182.trans (congrArg some (by kernel_rfl))
  f228:=Tryz.func217.trans (congrArg some (by kernel_rfl))
  f232:=Tryz.func181.trans (congrArg some (by kernel_rfl))
  f234:=Tryz.func183.trans (congrArg some (by kernel_rfl))
  f236:=Tryz.func184.trans (congrArg some (by kernel_rfl))
  f260:=Tryz.func250.trans (congrArg some (by kernel_rfl))
  f266:=Tryz.func257.trans (congrArg some (by kernel_rfl))
  f271:=Tryz.func218.trans (congrArg some (by kernel_rfl))
  t0:=Tryz.underlying0
  a0:=Tryz.isAgg0
  z0:=Tryz.sizeOf0
  v0:=Tryz.zeroValue0
  t3:=Tryz.underlying3
  a3:=Tryz.isAgg3
  z3:=Tryz.sizeOf3
  v3:=Tryz.zeroValue3
  t4:=Tryz.underlying4
  a4:=Tryz.isAgg4
  z4:=Tryz.sizeOf4
  v4:=Tryz.zeroValue4
  t5:=Tryz.underlying5
  a5:=Tryz.isAgg5
  z5:=Tryz.sizeOf5
  v5:=Tryz.zeroValue5
  t9:=Tryz.underlying9
  a9:=Tryz.isAgg9
  z9:=Tryz.sizeOf9
  v9:=Tryz.zeroValue9
  t21:=Tryz.underlying21
  a21:=Tryz.isAgg21
  z21:=Tryz.sizeOf21
  v21:=Tryz.zeroValue21
  t46:=Tryz.underlying31
  a46:=Tryz.isAgg31
  z46:=Tryz.sizeOf31
  v46:=Tryz.zeroValue31
  t105:=Tryz.underlying264
  a105:=Tryz.isAgg264
  z105:=Tryz.sizeOf264
  v105:=Tryz.zeroValue264
  t116:=Tryz.underlying236
  a116:=Tryz.isAgg236
  z116:=Tryz.sizeOf236
  t117:=Tryz.underlying237
  a117:=Tryz.isAgg237
  z117:=Tryz.sizeOf237
  v117:=Tryz.zeroValue237
  t119:=Tryz.underlying292
  a119:=Tryz.isAgg292
  z119:=Tryz.sizeOf292
  t124:=Tryz.underlying240
  a124:=Tryz.isAgg240
  z124:=Tryz.sizeOf240
  v124:=Tryz.zeroValue240
  t138:=Tryz.underlying294
  a138:=Tryz.isAgg294
  z138:=Tryz.sizeOf294
  v138:=Tryz.zeroValue294
  t139:=Tryz.underlying295
  a139:=Tryz.isAgg295
  z139:=Tryz.sizeOf295
  v139:=Tryz.zeroValue295
  g3:= by kernel_rfl
  g4:= by kernel_rfl}
open Go.RowKit in
theorem Tryz.strings_TrimRight_one (s:ByteArray) (c:UInt8) (hc:c.toNat<128) (w:World) (hs:s.size≤9223372036854775807):
    Calls Tryz.prog 151 #[.string s,.string ⟨#[c]⟩] w fun e w'=>e= .returned (.string ⟨(Lib.trimRightB s.data.toList c).toArray⟩)∧w'=w:=Any.strings_TrimRight_one Tryz.lays162 s c hc w hs
def Tryz.lays106_ren:Go.Shelf.Ren:=⟨fun | 106=>113 | 213=>164 | 265=>191 | n=>n, fun | 9=>9 | 3=>3 | n=>n, fun | n=>n⟩
theorem Tryz.lays106:Go.Proofs.Lays.n106 Tryz.prog Tryz.lays106_ren:={
  mixed:= by kernel_rfl
  f106:=Tryz.func113.trans (congrArg some (by kernel_rfl))
  f213:=Tryz.func164.trans (congrArg some (by kernel_rfl))
  f265:=Tryz.func191.trans (congrArg some (by kernel_rfl))
  t3:=Tryz.underlying3
  a3:=Tryz.isAgg3
  z3:=Tryz.sizeOf3
  v3:=Tryz.zeroValue3
  t9:=Tryz.underlying9
  a9:=Tryz.isAgg9
  z9:=Tryz.sizeOf9
  v9:=Tryz.zeroValue9}
open Go.RowKit in
theorem Tryz.strings_Compare (a b:ByteArray) (w:World):
    Calls Tryz.prog 113 #[.string a,.string b] w fun e w'=>e= .returned (.int .i64 (Lib.compareBytes a.data.toList b.data.toList))∧w'=w:=Any.strings_Compare Tryz.lays106 a b w
def Tryz.lays122_ren:Go.Shelf.Ren:=⟨fun | 122=>114 | 215=>165 | n=>n, fun | 3=>3 | 4=>4 | n=>n, fun | n=>n⟩
theorem Tryz.lays122:Go.Proofs.Lays.n122 Tryz.prog Tryz.lays122_ren:={
  mixed:= by kernel_rfl
  f122:=Tryz.func114.trans (congrArg some (by kernel_rfl))
  f215:=Tryz.func165.trans (congrArg some (by kernel_rfl))
  t3:=Tryz.underlying3
  a3:=Tryz.isAgg3
  z3:=Tryz.sizeOf3
  v3:=Tryz.zeroValue3
  t4:=Tryz.underlying4
  a4:=Tryz.isAgg4
  z4:=Tryz.sizeOf4
  v4:=Tryz.zeroValue4}
open Go.RowKit in
theorem Tryz.cmp_Compare_int (x y:Int) (w:World):
    Calls Tryz.prog 114 #[.int .i64 x,.int .i64 y] w fun e w'=>e= .returned (.int .i64 (Lib.compareInt x y))∧w'=w:=Any.cmp_Compare_int Tryz.lays122 x y w
def Tryz.laysM316_ren:Go.Shelf.Ren:=⟨fun | 316=>137 | n=>n, fun | 9=>9 | 3=>3 | 4=>4 | 37=>143 | 0=>0 | 127=>230 | 5=>5 | n=>n, fun | n=>n⟩
theorem Tryz.laysM316:Go.Proofs.LaysM.n316 Tryz.prog Tryz.laysM316_ren:={
  mixed:= by kernel_rfl
  f316:=Tryz.func137.trans (congrArg some (by kernel_rfl))
  t0:=Tryz.underlying0
  a0:=Tryz.isAgg0
  z0:=Tryz.sizeOf0
  v0:=Tryz.zeroValue0
  t3:=Tryz.underlying3
  a3:=Tryz.isAgg3
  z3:=Tryz.sizeOf3
  v3:=Tryz.zeroValue3
  t4:=Tryz.underlying4
  a4:=Tryz.isAgg4
  z4:=Tryz.sizeOf4
  v4:=Tryz.zeroValue4
  t9:=Tryz.underlying9
  a9:=Tryz.isAgg9
  z9:=Tryz.sizeOf9
  v9:=Tryz.zeroValue9
  t37:=Tryz.underlying143
  a37:=Tryz.isAgg143
  z37:=Tryz.sizeOf143
  v37:=Tryz.zeroValue143
  t127:=Tryz.underlying230
  a127:=Tryz.isAgg230
  z127:=Tryz.sizeOf230
  v127:=Tryz.zeroValue230
  t5:=Tryz.underlying5
  a5:=Tryz.isAgg5
  z5:=Tryz.sizeOf5
  v5:=Tryz.zeroValue5
  i0:= by kernel_rfl
  i3:= by kernel_rfl
  i4:= by kernel_rfl
  i5:= by kernel_rfl
  i9:= by kernel_rfl
  i37:= by kernel_rfl
  i127:= by kernel_rfl}
open Go.RowKit in
theorem Tryz.stringslite_Clone (s:ByteArray) (w:World) (hlim:s.size≤281474976710656):
    Calls Tryz.prog 137 #[.string s] w fun e w'=>e= .returned (.string s)∧Below w.heap.size w w':=Any.stringslite_Clone Tryz.laysM316 s w hlim
def Tryz.lays189_ren:Go.Shelf.Ren:=⟨fun | 189=>122 | 125=>168 | 257=>174 | 128=>201 | 129=>202 | 294=>206 | 295=>207 | 296=>208 | 297=>209 | 298=>210 | 299=>211 | 216=>133 | 300=>212 | 301=>213 | 328=>239 | 329=>233 | 330=>234 | 331=>240 | 332=>241 | 215=>165 | 343=>249 | n=>n, fun | 28=>47 | 3=>3 | 46=>31 | 0=>0 | 51=>252 | 53=>22 | 4=>4 | 183=>245 | 182=>244 | 131=>63 | 5=>5 | 9=>9 | 218=>274 | 222=>132 | 228=>285 | 229=>286 | n=>n, fun | n=>n⟩
theorem Tryz.lays189:Go.Proofs.Lays.n189 Tryz.prog Tryz.lays189_ren:={
  mixed:= by kernel_rfl
  f125:=Tryz.func168.trans (congrArg some (by kernel_rfl))
  f128:=Tryz.func201.trans (congrArg some (by kernel_rfl))
  f129:=Tryz.func202.trans (congrArg some (by kernel_rfl))
  f189:=Tryz.func122.trans (congrArg some (by kernel_rfl))
  f215:=Tryz.func165.trans (congrArg some (by kernel_rfl))
  f216:=Tryz.func133.trans (congrArg some (by kernel_rfl))
  f257:=Tryz.func174.trans (congrArg some (by kernel_rfl))
  f294:=Tryz.func206.trans (congrArg some (by kernel_rfl))
  f295:=Tryz.func207.trans (congrArg some (by kernel_rfl))
  f296:=Tryz.func208.trans (congrArg some (by kernel_rfl))
  f297:=Tryz.func209.trans (congrArg some (by kernel_rfl))
  f298:=Tryz.func210.trans (congrArg some (by kernel_rfl))
  f299:=Tryz.func211.trans (congrArg some (by kernel_rfl))
  f300:=Tryz.func212.trans (congrArg some (by kernel_rfl))
  f301:=Tryz.func213.trans (congrArg some (by kernel_rfl))
  f328:=Tryz.func239.trans (congrArg some (by kernel_rfl))
  f329:=Tryz.func233.trans (congrArg some (by kernel_rfl))
  f330:=Tryz.func234.trans (congrArg some (by kernel_rfl))
  f331:=Tryz.func240.trans (congrArg some (by kernel_rfl))
  f332:=Tryz.func241.trans (congrArg some (by kernel_rfl))
  f343:=Tryz.func249.trans (congrArg some (by kernel_rfl))
  t0:=Tryz.underlying0
  a0:=Tryz.isAgg0
  z0:=Tryz.sizeOf0
  v0:=Tryz.zeroValue0
  t3:=Tryz.underlying3
  a3:=Tryz.isAgg3
  z3:=Tryz.sizeOf3
  v3:=Tryz.zeroValue3
  t4:=Tryz.underlying4
  a4:=Tryz.isAgg4
  z4:=Tryz.sizeOf4
  v4:=Tryz.zeroValue4
  t5:=Tryz.underlying5
  a5:=Tryz.isAgg5
  z5:=Tryz.sizeOf5
  v5:=Tryz.zeroValue5
  t9:=Tryz.underlying9
  a9:=Tryz.isAgg9
  z9:=Tryz.sizeOf9
  v9:=Tryz.zeroValue9
  t28:=Tryz.underlying47
  a28:=Tryz.isAgg47
  z28:=Tryz.sizeOf47
  v28:=Tryz.zeroValue47
  t46:=Tryz.underlying31
  a46:=Tryz.isAgg31
  z46:=Tryz.sizeOf31
  v46:=Tryz.zeroValue31
  t51:=Tryz.underlying252
  a51:=Tryz.isAgg252
  z51:=Tryz.sizeOf252
  v51:=Tryz.zeroValue252
  t53:=Tryz.underlying22
  a53:=Tryz.isAgg22
  z53:=Tryz.sizeOf22
  v53:=Tryz.zeroValue22
  t131:=Tryz.underlying63
  a131:=Tryz.isAgg63
  z131:=Tryz.sizeOf63
  v131:=Tryz.zeroValue63
  t182:=Tryz.underlying244
  a182:=Tryz.isAgg244
  z182:=Tryz.sizeOf244
  v182:=Tryz.zeroValue244
  t183:=Tryz.underlying245
  a183:=Tryz.isAgg245
  z183:=Tryz.sizeOf245
  v183:=Tryz.zeroValue245
  t218:=Tryz.underlying274
  a218:=Tryz.isAgg274
  z218:=Tryz.sizeOf274
  v218:=Tryz.zeroValue274
  t222:=Tryz.underlying132
  a222:=Tryz.isAgg132
  z222:=Tryz.sizeOf132
  v222:=Tryz.zeroValue132
  t228:=Tryz.underlying285
  a228:=Tryz.isAgg285
  z228:=Tryz.sizeOf285
  v228:=Tryz.zeroValue285
  t229:=Tryz.underlying286
  a229:=Tryz.isAgg286
  z229:=Tryz.sizeOf286
  v229:=Tryz.zeroValue286}
open Go.Sort Go.RowKit in
theorem Tryz.slices_Sort_int (blk off cap:Nat) (zs:List Int) (w:World) (hH:Holds (Value.int .i64) w blk off zs.toArray) (hblk:blk<w.heap.size) (hsz:zs.length<4611686018427387904):
    Calls Tryz.prog 122 #[.slice (some ⟨blk,off,none⟩) zs.length cap] w fun e w'=>
      e= .returned (.tuple #[])∧ ∃n os,w'=grow (putRow (Value.int .i64) (Sort.ahead w n) blk off (zs.mergeSort fun x y=>decide (x≤y)).toArray) os:=Any.slices_Sort_int Tryz.lays189 blk off cap zs w hH hblk hsz
def Tryz.lays190_ren:Go.Shelf.Ren:=⟨fun | 190=>117 | 125=>168 | 258=>167 | 128=>201 | 129=>202 | 302=>192 | 303=>193 | 304=>194 | 305=>195 | 306=>196 | 307=>197 | 308=>198 | 309=>199 | 310=>200 | 333=>232 | 329=>233 | 330=>234 | 334=>235 | 335=>236 | 336=>237 | 344=>248 | n=>n, fun | 31=>61 | 9=>9 | 3=>3 | 46=>31 | 0=>0 | 51=>252 | 53=>22 | 4=>4 | 183=>245 | 182=>244 | 131=>63 | 5=>5 | 218=>274 | 222=>132 | 228=>285 | 229=>286 | n=>n, fun | n=>n⟩
theorem Tryz.lays190:Go.Proofs.Lays.n190 Tryz.prog Tryz.lays190_ren:={
  mixed:= by kernel_rfl
  f125:=Tryz.func168.trans (congrArg some (by kernel_rfl))
  f128:=Tryz.func201.trans (congrArg some (by kernel_rfl))
  f129:=Tryz.func202.trans (congrArg some (by kernel_rfl))
  f190:=Tryz.func117.trans (congrArg some (by kernel_rfl))
  f258:=Tryz.func167.trans (congrArg some (by kernel_rfl))
  f302:=Tryz.func192.trans (congrArg some (by kernel_rfl))
  f303:=Tryz.func193.trans (congrArg some (by kernel_rfl))
  f304:=Tryz.func194.trans (congrArg some (by kernel_rfl))
  f305:=Tryz.func195.trans (congrArg some (by kernel_rfl))
  f306:=Tryz.func196.trans (congrArg some (by kernel_rfl))
  f307:=Tryz.func197.trans (congrArg some (by kernel_rfl))
  f308:=Tryz.func198.trans (congrArg some (by kernel_rfl))
  f309:=Tryz.func199.trans (congrArg some (by kernel_rfl))
  f310:=Tryz.func200.trans (congrArg some (by kernel_rfl))
  f329:=Tryz.func233.trans (congrArg some (by kernel_rfl))
  f330:=Tryz.func234.trans (congrArg some (by kernel_rfl))
  f333:=Tryz.func232.trans (congrArg some (by kernel_rfl))
  f334:=Tryz.func235.trans (congrArg some (by kernel_rfl))
  f335:=Tryz.func236.trans (congrArg some (by kernel_rfl))
  f336:=Tryz.func237.trans (congrArg some (by kernel_rfl))
  f344:=Tryz.func248.trans (congrArg some (by kernel_rfl))
  t0:=Tryz.underlying0
  a0:=Tryz.isAgg0
  z0:=Tryz.sizeOf0
  v0:=Tryz.zeroValue0
  t3:=Tryz.underlying3
  a3:=Tryz.isAgg3
  z3:=Tryz.sizeOf3
  v3:=Tryz.zeroValue3
  t4:=Tryz.underlying4
  a4:=Tryz.isAgg4
  z4:=Tryz.sizeOf4
  v4:=Tryz.zeroValue4
  t5:=Tryz.underlying5
  a5:=Tryz.isAgg5
  z5:=Tryz.sizeOf5
  v5:=Tryz.zeroValue5
  t9:=Tryz.underlying9
  a9:=Tryz.isAgg9
  z9:=Tryz.sizeOf9
  v9:=Tryz.zeroValue9
  t31:=Tryz.underlying61
  a31:=Tryz.isAgg61
  z31:=Tryz.sizeOf61
  v31:=Tryz.zeroValue61
  t46:=Tryz.underlying31
  a46:=Tryz.isAgg31
  z46:=Tryz.sizeOf31
  v46:=Tryz.zeroValue31
  t51:=Tryz.underlying252
  a51:=Tryz.isAgg252
  z51:=Tryz.sizeOf252
  v51:=Tryz.zeroValue252
  t53:=Tryz.underlying22
  a53:=Tryz.isAgg22
  z53:=Tryz.sizeOf22
  v53:=Tryz.zeroValue22
  t131:=Tryz.underlying63
  a131:=Tryz.isAgg63
  z131:=Tryz.sizeOf63
  v131:=Tryz.zeroValue63
  t182:=Tryz.underlying244
  a182:=Tryz.isAgg244
  z182:=Tryz.sizeOf244
  v182:=Tryz.zeroValue244
  t183:=Tryz.underlying245
  a183:=Tryz.isAgg245
  z183:=Tryz.sizeOf245
  v183:=Tryz.zeroValue245
  t218:=Tryz.underlying274
  a218:=Tryz.isAgg274
  z218:=Tryz.sizeOf274
  v218:=Tryz.zeroValue274
  t222:=Tryz.underlying132
  a222:=Tryz.isAgg132
  z222:=Tryz.sizeOf132
  v222:=Tryz.zeroValue132
  t228:=Tryz.underlying285
  a228:=Tryz.isAgg285
  z228:=Tryz.sizeOf285
  v228:=Tryz.zeroValue285
  t229:=Tryz.underlying286
  a229:=Tryz.isAgg286
  z229:=Tryz.sizeOf286
  v229:=Tryz.zeroValue286}
open Go.Sort Go.RowKit in
theorem Tryz.slices_Sort_string (blk off cap:Nat) (ss:List (List UInt8)) (w:World) (hH:Holds encStr w blk off ss.toArray) (hblk:blk<w.heap.size) (hsz:ss.length<4611686018427387904):
    Calls Tryz.prog 117 #[.slice (some ⟨blk,off,none⟩) ss.length cap] w fun e w'=>
      e= .returned (.tuple #[])∧ ∃n os,w'=grow (putRow encStr (Sort.ahead w n) blk off (ss.mergeSort fun x y=>decide (x≤y)).toArray) os:=Any.slices_Sort_string Tryz.lays190 blk off cap ss w hH hblk hsz
def Tryz.lays113_ren:Go.Shelf.Ren:=⟨fun | 113=>148 | n=>n, fun | 28=>47 | 3=>3 | 4=>4 | 9=>9 | 20=>20 | 0=>0 | n=>n, fun | n=>n⟩
theorem Tryz.lays113:Go.Proofs.Lays.n113 Tryz.prog Tryz.lays113_ren:={
  mixed:= by kernel_rfl
  f113:=Tryz.func148.trans (congrArg some (by kernel_rfl))
  t0:=Tryz.underlying0
  a0:=Tryz.isAgg0
  z0:=Tryz.sizeOf0
  v0:=Tryz.zeroValue0
  t3:=Tryz.underlying3
  a3:=Tryz.isAgg3
  z3:=Tryz.sizeOf3
  v3:=Tryz.zeroValue3
  t4:=Tryz.underlying4
  a4:=Tryz.isAgg4
  z4:=Tryz.sizeOf4
  v4:=Tryz.zeroValue4
  t9:=Tryz.underlying9
  a9:=Tryz.isAgg9
  z9:=Tryz.sizeOf9
  v9:=Tryz.zeroValue9
  t20:=Tryz.underlying20
  a20:=Tryz.isAgg20
  z20:=Tryz.sizeOf20
  v20:=Tryz.zeroValue20
  t28:=Tryz.underlying47
  a28:=Tryz.isAgg47
  z28:=Tryz.sizeOf47
  v28:=Tryz.zeroValue47}
open Go.Lib in
theorem Tryz.slices_Max_int (b off n c:Nat) (zs:List Int) (w:World) (hn:0<n) (hz:n≤zs.length) (hbig:n≤9223372036854775807) (hc: ∀j,j<zs.length→w.cell? ⟨b,off+j,none⟩=some (.int .i64 (zs.getD j 0))):
    Calls Tryz.prog 148 #[.slice (some ⟨b,off,none⟩) n c] w fun e w'=>e= .returned (.int .i64 (Lib.maxOf (zs.take n)))∧w'=w:=Any.slices_Max_int Tryz.lays113 b off n c zs w hn hz hbig hc
open Go.RowKit Go.Sort in
theorem Tryz.slices_Sort_string_none (p:Option Addr) (cap:Nat) (w:World):
    Calls Tryz.prog 117 #[.slice p 0 cap] w fun e w'=>e= .returned (.tuple #[])∧w'=w:=Any.slices_Sort_string_none Tryz.lays190 p cap w
open Go.RowKit Go.Sort in
theorem Tryz.slices_Sort_int_none (p:Option Addr) (cap:Nat) (w:World):
    Calls Tryz.prog 122 #[.slice p 0 cap] w fun e w'=>e= .returned (.tuple #[])∧w'=w:=Any.slices_Sort_int_none Tryz.lays189 p cap w
end Go.Proofs
namespace Go.Proofs.YtkcjfoaejijdoaaGreatDoor
open Go.RowKit M
theorem keysInt:KeyOk Tryz.prog 3 QX:=ES Tryz.underlying3
theorem keysStr:KeyOk Tryz.prog 9 Xq:=ER Tryz.underlying9
theorem clone0 {w:World} {As:List Th} (hS:Sat w As) (s:Bs) (hs:s.length≤281474976710656):Calls Tryz.prog 137 #[strV s] w (Ret fun v w'=>v=strV s∧Sat w' As):=
  PY hS (Tryz.stringslite_Clone ⟨s.toArray⟩ w (by simpa [ByteArray.size]using hs))
theorem ME {w:World} {F:Th} (hS:Sat w [F]) (s:Bs) (hs:s.length≤281474976710656):
    Calls Tryz.prog 90 #[strV s] w (Ret fun v w'=>v=strV s∧Sat w' [F]):= by
 refine Qo Tryz.func90 rfl Tryz.ntmps90 rfl ?_
 refine Qd (Qa (Qe rfl rfl (Qf (Qc (Qd (Qa (Qb rfl rfl (Qv cal_137 rfl (clone0 (hS.sp [] rfl) s hs) rfl ?_))))))))
 rintro _ w1 ⟨rfl,hS1⟩
 replace hS1:=hS1.jn rfl rfl
 exact Qe rfl rfl (Qf (Qc (Qu (QP (.inr rfl) rfl rfl (⟨_,rfl,rfl,hS1⟩)))))
def emptyW:WS:=⟨fun _=>[], fun _ _=>none, fun _=>[],0⟩
theorem CV:X6 (fun _=>[])= fun _=>none:= by funext k; simp [X6]
theorem OW {w:World} {p a b c:Nat} {F:Th} (h:Sat w [QG p [.map (some a),.map (some b),.map (some c),intV 0],Q0 Xq c (fun _=>none),Q0 Xq b (fun _=>none),Q0 Xq a (fun _=>none),F]):Sat w [Xp p emptyW,F]:= by
  refine Bp ⟨a,b,c⟩ ⟨fun n p s h=> by cases h⟩ ?_
  have h1:=h.pull 2 rfl; dsimp only[List.eraseIdx]at h1
  have h2:Sat w (Q0 Xq b (X4 [])::starL ([].map (Wn emptyW.objs))::_):=(Sat.fold (As:=[]) h1).perm (List.Perm.swap _ _ _)
  have h3:=Mh [] ⟨by simp, fun n=> by simp [emptyW]⟩ h2
  have h4:=h3.reorder [1,3,0,2,4] rfl; dsimp only[JN,Hq]at h4
  show Sat w [QG p _,Q0 Xq a (X6 (fun _=>[])),Mi b _,Q0 Xq c (X6 (fun _=>[])),F]
  rw[CV]; exact h4
theorem new_sp {w:World} {F:Th} (hS:Sat w [F]):
    Calls Tryz.prog 35 #[] w (Ret fun v w'=> ∃p,v=ptrV p 0∧Sat w' [Xp p emptyW,F]):= by
 refine Qo Tryz.func35 rfl Tryz.ntmps35 rfl ?_
 refine Qd (Qa (Qe rfl rfl (Qf (Qc (Qd (Qa (Za Xq hS rfl ?_)))))))
 intro b1 w1 hS1
 refine Za Xq hS1 rfl ?_
 intro b2 w2 hS2
 clear hS1
 refine Za Xq hS2 rfl ?_
 intro b3 w3 hS3
 clear hS2
 refine Zn rfl C5 Du Cp rfl rfl (XX hS3 rfl rfl rfl ?_)
 intro b4 w4 hS4
 clear hS3
 exact Qe rfl rfl (Qf (Qc (Qu (QP (.inr rfl) rfl rfl (⟨_,rfl,_,rfl,OW hS4⟩)))))
theorem N6 {w:World} {F:Th} (hS:Sat w [F]) (i:Int):
    Calls Tryz.prog 145 #[intV i] w (Ret fun v w'=>v= .bool (decide (0≤i∧i<16384))∧Sat w' [F]):= by
 refine Qo Tryz.func145 rfl Tryz.ntmps145 rfl ?_
 refine Qd (Qa (Qe rfl rfl (Qf (Qc (Qd (Qa (Qb rfl rfl (JQ rfl rfl rfl (Qb rfl rfl (QW 5 rfl (fun h1=> ?_) (fun h1=> ?_)))))))))))
 ·refine Qk rfl rfl (Xf h1) (Qb rfl rfl (Qk rfl rfl (Xf h1) (Xg rfl rfl rfl (QC rfl (Xf h1) rfl rfl (Qe rfl rfl (Qf (Qc (Qu (QP (.inr rfl) rfl rfl ?_)))))))))
  exact⟨_,rfl, by congr 1;(simp;omega),hS⟩
 refine Qi rfl rfl (Q6 h1) rfl (Qi rfl rfl (Q6 h1) rfl (QO rfl (Q6 h1) rfl rfl (Qe rfl rfl (Qf (Qc (Qu (QP (.inr rfl) rfl rfl ?_)))))))
 exact⟨_,rfl, by congr 1;(simp;omega),hS⟩
section
variable {P:Program} {n:Nat} {ops:Array Oper} {Q:Exit→Act→World→Prop} {rest:List Oper} {L:Env} {w:World} {d:Nat} {ty:TypeId} {pos:String} {aft:Array Edge} {As:List Th} {T e b:Nat} {cs:List Value}
theorem Bu (l:List UInt8):Lib.strCells ⟨l.toArray⟩=byC.cells l:= by
  rw[K1]
  simp [Lib.strCells,X7]
theorem Su {t t2:TypeId} {s x:Operand} {v:Value} {bs l2:List UInt8} (i:Nat) (hS:Sat w As) (hi:As[i]? =some (K7 e v bs)) (hs:M.look L s=some v) (hx:M.look L x=some (strV l2)) (hu:P.underlying t=some (.slice e)) (hu2:P.underlying t2=some .string)
    (hif:(P.info? e).map (fun i=>(i.zero,i.size,i.bytes))=some (some (.int .u8 0),1,1)) (hm:bs.length+l2.length≤140737488355328) (hd:Nat.blt d n=true)
    (hk: ∀v' w',Sat w' (As.set i (K7 e v' (bs++l2)))→wl P n ops Q rest ((d,v')::L) w'):wl P n ops Q (⟨some d,.call ⟨.builtin .append, #[s,x], #[t,t2]⟩,ty,pos,aft,none⟩::rest) L w:= by
  obtain⟨hown,hnil⟩:=hS.buf i hi
  obtain⟨foot,hO,hfoot⟩:=Mf hown
  obtain⟨inf,hi1,hi2,hi3,hi4⟩:=info_parts hif
  have hsz:(⟨l2.toArray⟩:ByteArray).size=l2.length:= by simp [ByteArray.size]
  refine XQ rfl hd (R:= fun v w'=>Sat w' (As.set i (K7 e v (bs++l2)))) (fun a ha=> ?_) (fun v w' hR=>hk v w' hR)
  obtain⟨v1,w1,hrun,foot',o1,o2,o3,_⟩:=VQ (P:=P) (o:=⟨some d,.call ⟨.builtin .append, #[s,x], #[t,t2]⟩,ty,pos,aft,none⟩) (a:=a) t t2 s x rfl (ha.eval hs) (ha.eval hx) hO hu hu2 (by intro k hk; cases hk) hif rfl (by decide) (m:=l2.length) (news:=byC.cells l2)
    (fun w1=> by simp [strV,Builtin.lenOf,hsz]) (fun w1 _=> by have :=Lib.run_firstCells_string (P:=P) w1 1 ⟨l2.toArray⟩; rw[hsz,Bu]at this; exact this) (byC.cells_len l2) (WV (byC.cells_one l2)) (by omega) (by omega)
  obtain⟨v2,w2,hr2,hown2,_,hiff⟩:=Lib.run_append_own_string (P:=P) w 0 t t2 ty e inf hu hu2 hi1 hi2 hi3 hi4 v bs.length (byC.cells bs) hown ⟨l2.toArray⟩ (by rw[hsz];unfold maxLen;omega) (by rw[hsz];omega) (Nat.zero_le _)
  rw[hsz]at hown2 hiff
  have hex:(execOp a.eval ⟨some d,.call ⟨.builtin .append, #[s,x], #[t,t2]⟩,ty,pos,aft,none⟩).run P w= .ok (.value v2) w2:= by
    have hr3:(Builtin.append_ #[t,t2] ty #[v,strV l2]).run P w= .ok v2 w2:=hr2
    simp [execOp,ha.eval hs,ha.eval hx,resolve,invoke,builtin,hr3]
  have heq:v1=v2∧w1=w2:= by
    rcases hrun with h | ⟨h,_⟩
    · rw[hex]at h; cases h; exact⟨rfl,rfl⟩
    · rw[hex]at h; cases h
  obtain⟨rfl,rfl⟩:=heq
  refine⟨v1,w1,.inl hex, ?_⟩
  have hfoot': ∀k,v1.ownBlock=some k→k∈foot':= by
    intro k hk'
    obtain⟨_,⟨e1,_,_⟩ | ⟨b1,c1,s1,e1,_,_,_,rfl⟩⟩:=o1
    · rw[e1]at hk'; cases hk'
    · rw[e1]at hk'; simp [Value.ownBlock]at hk'; simp [hk']
  refine hS.step i hi fun F ⟨eF,_⟩=>⟨fun k=>v1.ownBlock=some k,⟨rfl, ?_, fun q=> ?_⟩, fun k hk'=> ?_,o2.agree fun k hk'=> ?_⟩
  · rw[List.length_append,←RowC.cells_app,←Bu l2]; exact hown2
  · obtain⟨q1,q2⟩:=List.append_eq_nil_iff.1 q
    exact hiff.2 ⟨hnil q1, by rw[q2];rfl⟩
  · rcases o3 k (hfoot' k hk')with q | q
    · exact .inl (by rw[eF]; exact(hfoot k).1 q)
    · exact .inr q
  · exact .inl (by rw[eF]; exact(hfoot k).1 hk')
end
theorem ne1 : (Tryz.f214.name == "runtime.NumGoroutine") = false := by kernel_rfl
theorem ne2:Tryz.f214.body.isNone=true:= by kernel_rfl
theorem ne3:Extern.findNext Tryz.f214=none:= by kernel_rfl
theorem ne4:Extern.find Tryz.f214=some Extern.AbiNoEscape.same:= by kernel_rfl
theorem bl_info:(Tryz.prog.info? 205).map (fun j=>decide (j.size≠0))=some true:= by kernel_rfl
theorem bl_lies:liesAt Tryz.prog Tryz.prog.depth 205 (2/ Tryz.prog.cellsOf 205) 0 205 1=true:= by kernel_rfl
theorem LO:Tryz.prog.cellsOf 5=1:= by kernel_rfl
theorem LM: ∃j,Tryz.prog.info? 205=some j∧j.size≠0:= by
  have h:=bl_info
  cases hq:Tryz.prog.info? 205 with
  | none=> rw[hq]at h; cases h
  | some j=> rw[hq]at h; exact⟨j,rfl, by simpa using h⟩
theorem AE {w:World} {b:Nat} {v:Value} {F:Th} (hS:Sat w [JM 205 b [.pointer none,v],F]):
    Calls Tryz.prog 176 #[ptrV b 0] w (Ret fun u_ w'=>u_= .tuple #[]∧Sat w' [JM 205 b [ptrV b 0,v],F]):= by
 obtain⟨j,hj,hj0⟩:=LM
 refine Qo Tryz.func176 rfl Tryz.ntmps176 rfl ?_
 refine Qd (Qa (Qb rfl rfl (Qj rfl rfl (Qg rfl RV rfl (Qp rfl F9 (hS.tcell 0 rfl (o:=0) rfl) rfl (Yn Tryz.underlying203 rfl rfl rfl (Qf (Qc (Xl rfl (Qa (Qb rfl rfl (Qb rfl rfl (N2 rfl Tryz.underlying203 Tryz.underlying259 hj hj0 (hS.tshape 0 rfl) (by simp) rfl ?_)))))))))))))
 refine St Tryz.func214 ne1 ne2 ne3 ne4 rfl rfl ?_
 refine MV rfl Tryz.underlying259 Tryz.underlying203 hj (hS.tshape 0 rfl) bl_lies rfl (Qj rfl rfl (Qg rfl RV rfl (Kb hS rfl rfl sz_203 (by rfl) (i:=0) rfl (by simp) ?_)))
 intro w1 hS1; dsimp only[List.set]at hS1
 exact Qf (ZY (.inl rfl) rfl (⟨_,rfl,rfl,hS1⟩))
theorem AD {w:World} {b:Nat} {v:Value} {F:Th} (hS:Sat w [JM 205 b [ptrV b 0,v],F]):
    Calls Tryz.prog 176 #[ptrV b 0] w (Ret fun u_ w'=>u_= .tuple #[]∧Sat w' [JM 205 b [ptrV b 0,v],F]):= by
 obtain⟨j,hj,hj0⟩:=LM
 refine Qo Tryz.func176 rfl Tryz.ntmps176 rfl ?_
 exact Qd (Qa (Qb rfl rfl (Qj rfl rfl (Qg rfl RV rfl (Qp rfl F9 (hS.tcell 0 rfl (o:=0) rfl) rfl (Z8 Tryz.underlying203 rfl rfl rfl (Qf (Qc (QT rfl (Qd (Qa (Qb rfl rfl (Qj rfl rfl (Qg rfl RV rfl (Qp rfl F9 (hS.tcell 0 rfl (o:=0) rfl) rfl (Qb rfl rfl (MU Tryz.underlying203 hj rfl rfl rfl (Qf (Qc (Qh [19] rfl (QT rfl (Qr (ZY (.inl rfl) rfl (⟨_,rfl,rfl,hS⟩))))))))))))))))))))))))
def Va (b:Nat) (bs:Bs):Th:=CI fun q:Value×Value=>starL [WR (q.1= .pointer none∨q.1=ptrV b 0),JM 205 b [q.1,q.2],K7 5 q.2 bs]
theorem H8 {w:World} {b:Nat} {bs:Bs} {As:List Th} (h:Sat w (Va b bs::As)): ∃p v,(p= .pointer none∨p=ptrV b 0)∧Sat w (JM 205 b [p,v]::K7 5 v bs::As):= by
  obtain⟨⟨p,v⟩,h⟩:=h.ex
  obtain⟨h1,h2⟩:=h.flat.pure_elim
  exact⟨p,v,h1,h2⟩
theorem YJ {w:World} {b:Nat} {bs:Bs} {As:List Th} {p v:Value} (hp:p= .pointer none∨p=ptrV b 0) (h:Sat w (JM 205 b [p,v]::K7 5 v bs::As)):Sat w (Va b bs::As):=
  Sat.ex_intro (p,v) (Sat.fold (As:=[WR _,JM 205 b [p,v],K7 5 v bs]) (Sat.pure_intro hp h))
theorem MM {w:World} {b:Nat} {p v:Value} {F:Th} (hp:p= .pointer none∨p=ptrV b 0) (hS:Sat w [JM 205 b [p,v],F]):Calls Tryz.prog 176 #[ptrV b 0] w (Ret fun u w'=>u= .tuple #[]∧Sat w' [JM 205 b [ptrV b 0,v],F]):= by
  rcases hp with rfl | rfl
  · exact AE hS
  · exact AD hS
theorem MK {w:World} {As:List Th} {e:Nat} (h:Sat w As):Sat w (K7 e (.slice none 0 0) []::As):=
  h.new (Only.refl [] w) (A:=K7 e (.slice none 0 0) []) (F':= fun k=>Value.ownBlock (.slice none 0 0)=some k) ⟨rfl,World.ownsRow_nil w 0 e 1, fun _=>rfl⟩ (by simp [Value.ownBlock])
theorem Hv {w:World} {b:Nat} {bs:Bs} {F:Th} (hS:Sat w [Va b bs,F]) (c:UInt8) (hl:bs.length≤70368744177663):
    Calls Tryz.prog 139 #[ptrV b 0,XS c] w (Ret fun v w'=>v= .nilIface∧Sat w' [Va b (bs++[c]),F]):= by
 obtain⟨p,v,hp,hS⟩:=H8 hS
 refine Qo Tryz.func139 rfl Tryz.ntmps139 rfl ?_
 refine Qd (Qa (Qe rfl rfl (Qf (Qc (Qd (Qa (Qb rfl rfl (Qv Nd rfl (MM hp (hS.sp [0] rfl)) rfl ?_))))))))
 rintro _ w1 ⟨rfl,hS1⟩
 replace hS1:=hS1.jn rfl rfl
 refine Qf (Qc (Qd (Qa (Qb rfl rfl (Qb rfl rfl (Qj rfl rfl (Qg rfl J9 rfl (Qp rfl Uq (hS1.tcell 0 rfl (o:=1) rfl) rfl (Qb rfl rfl (Z7 byC [c] hS1 rfl Tryz.underlying143 ifz_5 rfl rfl rfl rfl (by rfl) rfl ?_))))))))))
 intro b2 w2 hS2
 clear hS1
 refine Ts 2 hS2 rfl rfl rfl (hS2.rd 0 rfl (by simp)) (by simp) Tryz.underlying143 rfl Pw rfl (by simp;omega) (by simp;omega) rfl ?_
 intro v3 w3 hS3; dsimp only[List.set]at hS3
 clear hS2
 obtain⟨_,_,_,h1v3,_⟩:=hS3.bufv 2 rfl
 refine Qj rfl rfl (Qg rfl J9 rfl (Kb hS3 rfl rfl S3 (by assumption) (i:=1) rfl (by simp) ?_))
 intro w4 hS4; dsimp only[List.set]at hS4
 clear hS3
 exact Qf (Qc (Qh [4] rfl (Qd (Qa (Qe rfl rfl (Qf (Qc (Qu (QP (.inr rfl) rfl rfl (⟨_,rfl,rfl,YJ (.inr rfl) (hS4.pick [1,2,3] rfl)⟩))))))))))
theorem VX {w:World} {b:Nat} {bs:Bs} {F:Th} (hS:Sat w [Va b bs,F]) (s:Bs) (hl:bs.length+s.length≤70368744177663):
    Calls Tryz.prog 140 #[ptrV b 0,strV s] w (Ret fun v w'=>v= .tuple #[intV (s.length:Int),.nilIface]∧Sat w' [Va b (bs++s),F]):= by
 obtain⟨p,v,hp,hS⟩:=H8 hS
 refine Qo Tryz.func140 rfl Tryz.ntmps140 rfl ?_
 refine Qd (Qa (Qe rfl rfl (Qe rfl rfl (Qf (Qc (Qd (Qa (Qb rfl rfl (Qv Nd rfl (MM hp (hS.sp [0] rfl)) rfl ?_)))))))))
 rintro _ w1 ⟨rfl,hS1⟩
 replace hS1:=hS1.jn rfl rfl
 refine Qf (Qc (Qd (Qa (Qb rfl rfl (Qb rfl rfl (Qj rfl rfl (Qg rfl J9 rfl (Qp rfl Uq (hS1.tcell 0 rfl (o:=1) rfl) rfl (Qb rfl rfl (Su 1 hS1 rfl rfl rfl Tryz.underlying143 Tryz.underlying9 Pw (by omega) rfl ?_))))))))))
 intro v2 w2 hS2; dsimp only[List.set]at hS2
 clear hS1
 obtain⟨_,_,_,h1v2,_⟩:=hS2.bufv 1 rfl
 refine Qj rfl rfl (Qg rfl J9 rfl (Kb hS2 rfl rfl S3 (by assumption) (i:=0) rfl (by simp) ?_))
 intro w3 hS3; dsimp only[List.set]at hS3
 clear hS2
 exact Qf (Qc (Qh [1,4,5] rfl (Qd (Qa (Qb rfl rfl (Wi Tryz.underlying9 rfl rfl (Qe rfl rfl (Qe rfl rfl (Qf (Qc (Qu (Wx (.inr rfl) rfl rfl rfl (⟨_,rfl,rfl,YJ (.inr rfl) (hS3.pick [0,1,2] rfl)⟩)))))))))))))
theorem Ci {w:World} {b:Nat} {bs:Bs} {F:Th} (hS:Sat w [Va b bs,F]) (hl:bs.length≤70368744177663):
    Calls Tryz.prog 142 #[ptrV b 0] w (Ret fun v w'=>v=strV bs∧Sat w' [F]):= by
 obtain⟨p,v,hp,hS⟩:=H8 hS
 obtain⟨ao,cap,rfl,h1v,hq⟩:=hS.bufv 1 rfl
 have hao:ao=none∨cap≠0:= by rcases hq with⟨h,_⟩ | ⟨_,_,h,_⟩; exact .inl h; exact .inr h
 refine Qo Tryz.func142 rfl Tryz.ntmps142 rfl ?_
 refine Qd (Qa (Qe rfl rfl (Qf (Qc (Qd ?_)))))
 have hS1:=hS.drew
 refine QI [0,1,2,3,5,6,7,8,9,4,10,11] [4,10] Wq (by kernel_rfl) ?_
 refine QE rfl rfl rfl (Xj rfl rfl rfl (QS rfl rfl rfl J9 (Q8 rfl rfl rfl (Qm rfl Uq (hS1.tcell 0 rfl (o:=1) rfl)) (QE rfl rfl rfl (Xj rfl rfl rfl (QS rfl rfl rfl J9 (Q8 rfl rfl rfl (Qm rfl Uq (hS1.tcell 0 rfl (o:=1) rfl)) (QZ rfl rfl rfl (fun _=>(Kv Tryz.underlying143 rfl)) ?_))))))))
 refine Xi rfl rfl rfl rfl rfl rfl ?_
 refine Rt rfl hao rfl (X9 (.cons (.inl ⟨rfl,(Qm rfl Uq (hS1.tcell 0 rfl (o:=1) rfl))⟩) (Xu (by kernel_rfl))) ?_)
 refine Xi rfl rfl rfl rfl rfl rfl ?_
 refine BE 1 hS1 rfl rfl rfl Tryz.underlying230 LO (by omega) rfl ?_
 intro w2 hS2; dsimp only[List.eraseIdx]at hS2
 clear hS1
 refine X9 (Xu (by kernel_rfl)) ?_
 exact XP rfl rfl rfl (VC.nil (Qc (Qh [2] rfl (Qu (QP (.inr rfl) rfl rfl (⟨_,rfl,rfl,hS2.tail⟩))))))
end Go.Proofs.YtkcjfoaejijdoaaGreatDoor
namespace Go.Proofs.YtkcjfoaejijdoaaGreatDoor.M
open Go.RowKit
theorem R6 {α:Type} {l:List α} {i:Nat} {a:α} (h:l[i]? =some a):l.set i a=l:= by
  apply List.ext_getElem?
  intro j
  by_cases e:i=j
  · subst e; rw[List.getElem?_set_self (XW h).1,h]
  · rw[List.getElem?_set_ne e]
def Gn (e:Nat) (v:Value) (bs:List UInt8):Th where
  at_:= fun w F=>(F= fun k=>v.ownBlock=some k)∧((v= .slice none 0 0∧bs=[])∨ ∃g cap cur fz,v= .slice (some ⟨g,0,none⟩) bs.length cap∧bs≠[]∧cap≠0∧w.heap[g]? =some (.cells cur e fz)∧bs.length≤cur.size∧cur.toList.take bs.length=byC.cells bs)
  fr:= fun {w w' F} a ⟨e1,h⟩=>⟨e1, by
    rcases h with h | ⟨g,cap,cur,fz,h1,h2,h3,h4,h5⟩
    · exact .inl h
    · exact .inr ⟨g,cap,cur,fz,h1,h2,h3, by rw[a.blk _ (by rw[e1,h1];rfl)]; exact h4,h5⟩⟩
  lt:= fun {w F} ⟨e1,h⟩ k hk=> by
    rw[e1]at hk
    rcases h with⟨rfl,_⟩ | ⟨g,cap,cur,fz,rfl,_,_,h4,_⟩
    · simp [Value.ownBlock]at hk
    · simp only[Value.ownBlock,Option.some.injEq]at hk
      subst hk
      rcases Nat.lt_or_ge g w.heap.size with q | q
      · exact q
      · rw[Array.getElem?_eq_none q]at h4; cases h4
section
variable {P:Program} {n:Nat} {ops:Array Oper} {Q:Exit→Act→World→Prop} {rest:List Oper} {L:Env} {w:World} {d:Nat} {ty:TypeId} {pos:String} {aft:Array Edge} {As:List Th} {T e b:Nat} {cs:List Value}
theorem Sat.bufZ_of {v:Value} {bs:List UInt8} (h:Sat w (K7 e v bs::As)):Sat w (Gn e v bs::As):= by
  obtain⟨F,F1,F2,rfl,dj,⟨e1,⟨hl,h1⟩,hn⟩,h2⟩:=h
  refine⟨_,F1,F2,rfl,dj,⟨e1, ?_⟩,h2⟩
  by_cases h0:bs=[]
  · exact .inl ⟨hn h0,h0⟩
  · rcases h1 with⟨_,h3⟩ | ⟨g,cap,cur,rfl,_,h3,h4,_,h6,h7⟩
    · exact absurd (List.eq_nil_of_length_eq_zero h3) h0
    · have hp:0<bs.length:=List.length_pos_iff.2 h0
      exact .inr ⟨g,cap,cur,(0,0),rfl,h0, by omega,h3, by omega, by rw[Nat.mul_one]at h7; exact h7⟩
theorem Sat.bufZv (h:Sat w As) (i:Nat) {v:Value} {bs:List UInt8} (hi:As[i]? =some (Gn e v bs)): ∃ao cap,v= .slice ao bs.length cap∧v.oneCell'=true∧(ao=none∨cap≠0):= by
  obtain⟨F,_,h⟩:=h.get i hi
  rcases h with⟨rfl,rfl⟩ | ⟨g,cap,cur,fz,rfl,_,h3,_⟩
  · exact⟨none,0,rfl,rfl,.inl rfl⟩
  · exact⟨_,cap,rfl,rfl,.inr h3⟩
theorem G3 {ao:Option Addr} {cap pt it:Nat} {bs:List UInt8} {x y:Operand} (i:Nat) (hS:Sat w As) (hi:As[i]? =some (Gn e (.slice ao bs.length cap) bs)) (hx:look L x=some (.pointer ao)) (hy:look L y=some (.int .i64 (bs.length:Int))) (hp:P.underlying pt=some (.pointer e)) (hc:P.cellsOf e=1) (hlen:bs.length≤9223372036854775807) (hd:Nat.blt d n=true)
    (hk: ∀w',Sat w' As→wl P n ops Q rest ((d,strV bs)::L) w'):wl P n ops Q (⟨some d,.call ⟨.builtin .unsafeString, #[x,y], #[pt,it]⟩,ty,pos,aft,none⟩::rest) L w:= by
  have hg: ∃w',(Builtin.unsafeString_ #[pt,it] ty #[.pointer ao,.int .i64 bs.length]).run P w= .ok (strV bs) w'∧Sat w' As:= by
    obtain⟨F,e1,h⟩:=hS.get i hi
    rcases h with⟨hv,rfl⟩ | ⟨g,cap',cur,fz,hv,h0,_,hgb,h5,h6⟩
    · simp only[Value.slice.injEq,List.length_nil,true_and]at hv
      obtain⟨rfl,_⟩:=hv
      exact⟨w,Lib.run_unsafeString_none w pt it ty none,hS⟩
    · simp only[Value.slice.injEq,true_and]at hv
      obtain⟨rfl,rfl⟩:=hv
      refine⟨w.freeze ⟨g,0,none⟩ bs.length,Lib.run_unsafeString_row w pt it ty e hp hc g cur.size (by simp [World.shape?,hgb]) bs h0 (by omega) hlen ?_, ?_⟩
      · intro j c hj
        rw[Wa]
        simp only[Nat.zero_add]
        rw[Lib.cell_of_heap hgb]
        have hj':=(XW hj).1
        have :(byC.cells bs)[j]? =some (.int .u8 (c.toNat:Int)):= by
          have :=RowC.cells_at (C:=byC) (l:=bs) (j:=j) hj
          have h3:=congrArg (fun q=>q[0]?) this
          simpa [byC,List.getElem?_take,List.getElem?_drop]using h3
        rw[←h6,List.getElem?_take,if_pos hj']at this
        simpa using this
      · have hlt:g<w.heap.size:= by
          rcases Nat.lt_or_ge g w.heap.size with q | q
          · exact q
          · rw[Array.getElem?_eq_none q]at hgb; cases hgb
        have hne:bs.length≠0:= fun q=>h0 (List.eq_nil_of_length_eq_zero q)
        have hfz: ∃fz',(w.freeze ⟨g,0,none⟩ bs.length).heap[g]? =some (.cells cur e fz'):= by
          unfold World.freeze
          rw[if_neg hne]
          obtain⟨lo,hi'⟩:=fz
          refine⟨if lo==hi' then(0,0+bs.length)else(min lo 0,max hi' (0+bs.length)), ?_⟩
          simp only[Array.getElem?_modify,if_true,hgb,Option.map_some]
        obtain⟨fz',hfz⟩:=hfz
        have hst:=hS.step i hi (w':=w.freeze ⟨g,0,none⟩ bs.length) (A':=Gn e (.slice (some ⟨g,0,none⟩) bs.length cap) bs) fun F0 hF0=> ?_
        · rwa [R6 hi]at hst
        · have e0:=hF0.1
          have hb:=Lib.below_freeze (B:=0) (Below.refl 0 w) (p:=⟨g,0,none⟩) (Nat.zero_le _) bs.length
          refine⟨F0,⟨e0,.inr ⟨g,cap,cur,fz',rfl,h0, by assumption,hfz,h5,h6⟩⟩, fun k hk=> .inl hk,hb.os,hb.tape,hb.output, fun k hk=> ?_⟩
          have hnk:k≠g:= by
            rintro rfl
            exact hk.2 (by rw[e0];rfl)
          unfold World.freeze
          rw[if_neg hne]
          simp only[Array.getElem?_modify]
          rw[if_neg (fun q=>hnk q.symm)]
  obtain⟨w',h1,h2⟩:=hg
  refine XQ rfl hd (R:= fun v u=>v=strV bs∧u=w') (fun a ha=>⟨_,_,.inl ?_,rfl,rfl⟩) (by rintro _ _ ⟨rfl,rfl⟩; exact hk _ h2)
  simp [execOp,ha.eval hx,ha.eval hy,resolve,invoke,builtin,h1]
end
end Go.Proofs.YtkcjfoaejijdoaaGreatDoor.M
