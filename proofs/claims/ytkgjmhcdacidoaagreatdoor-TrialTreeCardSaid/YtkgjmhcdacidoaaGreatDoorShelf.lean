/-
  DERIVED:THE SHELF's CONTRACTS AT THIS DUMP,IN PLAIN WORDS (tools/lay-plain.mjs out of 'TryzShelf.lean',which tools/lay-shelf.mjs wrote):THE SAME DECLARATIONS UNDER THE SAME NAMES: 'import', 'namespace', 'open', 'def', 'theorem' AND NOTHING ELSE:no command of the shelf's:FOR A HAND-IN. Each laying:the table of numbers ('.._ren') and one theorem,a field a fact of the dump's own or the kernel's comparison;each contract:ONE APPLICATION.
-/
import Derived.Shelf.Strings.Builder1
import Derived.Shelf.Small.Bits
import Derived.Shelf.Small.Strs
import Derived.Shelf.Small.Wraps
import Derived.Shelf.Strings.BuilderF
import Derived.Shelf.Strings.BuilderK
import Derived.Shelf.Strconv.Itoa0
import Derived.Shelf.LaysM
import Derived.Shelf.Strconv.Clone
import Derived.Shelf.Sort.Plain
import Derived.Shelf.Strings.Prefix
import Derived.Shelf.Slices.Turned
import Derived.Shelf.Slices.Equal
import Derived.Ground.Names2Prog
import Derived.Shelf.Slices.Clone
import Derived.Shelf.Slices.SearchI
import Derived.Shelf.Slices.In.SortNone
import Derived.Shelf.Slices.Empties2
import Derived.Test.YtkgjmhcdacidoaaGreatDoorProg
import Derived.Test.YtkgjmhcdacidoaaGreatDoorFw
import Derived.Test.YtkgjmhcdacidoaaGreatDoorFrm
import Derived.Lib.AppendStr
import Derived.Test.YtkgjmhcdacidoaaGreatDoorRow
import Derived.RangeFuncIn
import Derived.RangeFuncRecord
import Derived.RangeFuncLeaves
import Derived.RangeFuncSeq
import Derived.TacticsIn
set_option linter.unusedVariables false
namespace Go.Proofs
open Proofs.Tryz
open Go.Shelf
def Tryz.lays106_ren:Go.Shelf.Ren:=⟨fun | 106=>93 | 213=>130 | 265=>164 | n=>n, fun | 9=>9 | 3=>3 | n=>n, fun | n=>n⟩
theorem Tryz.lays106:Go.Proofs.Lays.n106 prog Tryz.lays106_ren:={
  mixed:= by kernel_rfl
  f106:=func93.trans (congrArg some (by kernel_rfl))
  f213:=func130.trans (congrArg some (by kernel_rfl))
  f265:=func164.trans (congrArg some (by kernel_rfl))
  t3:=underlying3
  a3:=Tryz.isAgg3
  z3:=Tryz.sizeOf3
  v3:=Tryz.zeroValue3
  t9:=underlying9
  a9:=Tryz.isAgg9
  z9:=Tryz.sizeOf9
  v9:=Tryz.zeroValue9}
open Go.RowKit in
theorem Tryz.strings_Compare (a b:ByteArray) (w:World):
    Calls prog 93 #[.string a,.string b] w fun e w'=>e= .returned (.int .i64 (Lib.compareBytes a.data.toList b.data.toList))∧w'=w:=Any.strings_Compare Tryz.lays106 a b w
def Tryz.lays122_ren:Go.Shelf.Ren:=⟨fun | 122=>94 | 215=>131 | n=>n, fun | 3=>3 | 4=>4 | n=>n, fun | n=>n⟩
theorem Tryz.lays122:Go.Proofs.Lays.n122 prog Tryz.lays122_ren:={
  mixed:= by kernel_rfl
  f122:=func94.trans (congrArg some (by kernel_rfl))
  f215:=func131.trans (congrArg some (by kernel_rfl))
  t3:=underlying3
  a3:=Tryz.isAgg3
  z3:=Tryz.sizeOf3
  v3:=Tryz.zeroValue3
  t4:=underlying4
  a4:=Tryz.isAgg4
  z4:=Tryz.sizeOf4
  v4:=Tryz.zeroValue4}
open Go.RowKit in
theorem Tryz.cmp_Compare_int (x y:Int) (w:World):
    Calls prog 94 #[.int .i64 x,.int .i64 y] w fun e w'=>e= .returned (.int .i64 (Lib.compareInt x y))∧w'=w:=Any.cmp_Compare_int Tryz.lays122 x y w
def Tryz.laysM316_ren:Go.Shelf.Ren:=⟨fun | 316=>119 | n=>n, fun | 9=>9 | 3=>3 | 4=>4 | 37=>176 | 0=>0 | 127=>223 | 5=>5 | n=>n, fun | n=>n⟩
theorem Tryz.laysM316:Go.Proofs.LaysM.n316 prog Tryz.laysM316_ren:={
  mixed:= by kernel_rfl
  f316:=func119.trans (congrArg some (by kernel_rfl))
  t0:=underlying0
  a0:=Tryz.isAgg0
  z0:=Tryz.sizeOf0
  v0:=Tryz.zeroValue0
  t3:=underlying3
  a3:=Tryz.isAgg3
  z3:=Tryz.sizeOf3
  v3:=Tryz.zeroValue3
  t4:=underlying4
  a4:=Tryz.isAgg4
  z4:=Tryz.sizeOf4
  v4:=Tryz.zeroValue4
  t9:=underlying9
  a9:=Tryz.isAgg9
  z9:=Tryz.sizeOf9
  v9:=Tryz.zeroValue9
  t37:=underlying176
  a37:=Tryz.isAgg176
  z37:=Tryz.sizeOf176
  v37:=Tryz.zeroValue176
  t127:=underlying223
  a127:=Tryz.isAgg223
  z127:=Tryz.sizeOf223
  v127:=Tryz.zeroValue223
  t5:=underlying5
  a5:=Tryz.isAgg5
  z5:=Tryz.sizeOf5
  v5:=Tryz.zeroValue5
  i0:= by kernel_rfl
  i3:= by kernel_rfl
  i4:= by kernel_rfl
  i5:= by kernel_rfl
  i9:= by kernel_rfl
  i37:= by kernel_rfl
  i127:= by kernel_rfl}
open Go.RowKit in
theorem Tryz.stringslite_Clone (s:ByteArray) (w:World) (hlim:s.size≤281474976710656):
    Calls prog 119 #[.string s] w fun e w'=>e= .returned (.string s)∧Below w.heap.size w w':=Any.stringslite_Clone Tryz.laysM316 s w hlim
def Tryz.lays189_ren:Go.Shelf.Ren:=⟨fun | 189=>71 | 125=>109 | 257=>108 | 128=>149 | 129=>150 | 294=>140 | 295=>141 | 296=>142 | 297=>143 | 298=>144 | 299=>145 | 216=>146 | 300=>147 | 301=>148 | 328=>177 | 329=>178 | 330=>179 | 331=>180 | 332=>181 | 215=>131 | 343=>202 | n=>n, fun | 28=>22 | 3=>3 | 46=>167 | 0=>0 | 51=>219 | 53=>118 | 4=>4 | 183=>212 | 182=>211 | 131=>133 | 5=>5 | 9=>9 | 218=>234 | 222=>183 | 228=>252 | 229=>253 | n=>n, fun | n=>n⟩
theorem Tryz.lays189:Go.Proofs.Lays.n189 prog Tryz.lays189_ren:={
  mixed:= by kernel_rfl
  f125:=func109.trans (congrArg some (by kernel_rfl))
  f128:=func149.trans (congrArg some (by kernel_rfl))
  f129:=func150.trans (congrArg some (by kernel_rfl))
  f189:=func71.trans (congrArg some (by kernel_rfl))
  f215:=func131.trans (congrArg some (by kernel_rfl))
  f216:=func146.trans (congrArg some (by kernel_rfl))
  f257:=func108.trans (congrArg some (by kernel_rfl))
  f294:=func140.trans (congrArg some (by kernel_rfl))
  f295:=func141.trans (congrArg some (by kernel_rfl))
  f296:=func142.trans (congrArg some (by kernel_rfl))
  f297:=func143.trans (congrArg some (by kernel_rfl))
  f298:=func144.trans (congrArg some (by kernel_rfl))
  f299:=func145.trans (congrArg some (by kernel_rfl))
  f300:=func147.trans (congrArg some (by kernel_rfl))
  f301:=func148.trans (congrArg some (by kernel_rfl))
  f328:=func177.trans (congrArg some (by kernel_rfl))
  f329:=func178.trans (congrArg some (by kernel_rfl))
  f330:=func179.trans (congrArg some (by kernel_rfl))
  f331:=func180.trans (congrArg some (by kernel_rfl))
  f332:=func181.trans (congrArg some (by kernel_rfl))
  f343:=func202.trans (congrArg some (by kernel_rfl))
  t0:=underlying0
  a0:=Tryz.isAgg0
  z0:=Tryz.sizeOf0
  v0:=Tryz.zeroValue0
  t3:=underlying3
  a3:=Tryz.isAgg3
  z3:=Tryz.sizeOf3
  v3:=Tryz.zeroValue3
  t4:=underlying4
  a4:=Tryz.isAgg4
  z4:=Tryz.sizeOf4
  v4:=Tryz.zeroValue4
  t5:=underlying5
  a5:=Tryz.isAgg5
  z5:=Tryz.sizeOf5
  v5:=Tryz.zeroValue5
  t9:=underlying9
  a9:=Tryz.isAgg9
  z9:=Tryz.sizeOf9
  v9:=Tryz.zeroValue9
  t28:=underlying22
  a28:=Tryz.isAgg22
  z28:=Tryz.sizeOf22
  v28:=Tryz.zeroValue22
  t46:=underlying167
  a46:=Tryz.isAgg167
  z46:=Tryz.sizeOf167
  v46:=Tryz.zeroValue167
  t51:=underlying219
  a51:=Tryz.isAgg219
  z51:=Tryz.sizeOf219
  v51:=Tryz.zeroValue219
  t53:=underlying118
  a53:=Tryz.isAgg118
  z53:=Tryz.sizeOf118
  v53:=Tryz.zeroValue118
  t131:=underlying133
  a131:=Tryz.isAgg133
  z131:=Tryz.sizeOf133
  v131:=Tryz.zeroValue133
  t182:=underlying211
  a182:=Tryz.isAgg211
  z182:=Tryz.sizeOf211
  v182:=Tryz.zeroValue211
  t183:=underlying212
  a183:=Tryz.isAgg212
  z183:=Tryz.sizeOf212
  v183:=Tryz.zeroValue212
  t218:=underlying234
  a218:=Tryz.isAgg234
  z218:=Tryz.sizeOf234
  v218:=Tryz.zeroValue234
  t222:=underlying183
  a222:=Tryz.isAgg183
  z222:=Tryz.sizeOf183
  v222:=Tryz.zeroValue183
  t228:=underlying252
  a228:=Tryz.isAgg252
  z228:=Tryz.sizeOf252
  v228:=Tryz.zeroValue252
  t229:=underlying253
  a229:=Tryz.isAgg253
  z229:=Tryz.sizeOf253
  v229:=Tryz.zeroValue253}
open Go.Sort Go.RowKit in
theorem Tryz.slices_Sort_int (blk off cap:Nat) (zs:List Int) (w:World) (hH:Holds (Value.int .i64) w blk off zs.toArray) (hblk:blk<w.heap.size) (hsz:zs.length<4611686018427387904):
    Calls prog 71 #[.slice (some ⟨blk,off,none⟩) zs.length cap] w fun e w'=>
      e= .returned (.tuple #[])∧ ∃n os,w'=grow (putRow (Value.int .i64) (Sort.ahead w n) blk off (zs.mergeSort fun x y=>decide (x≤y)).toArray) os:=Any.slices_Sort_int Tryz.lays189 blk off cap zs w hH hblk hsz
def Tryz.lays190_ren:Go.Shelf.Ren:=⟨fun | 190=>99 | 125=>109 | 258=>139 | 128=>149 | 129=>150 | 302=>168 | 303=>169 | 304=>170 | 305=>171 | 306=>172 | 307=>173 | 308=>174 | 309=>175 | 310=>176 | 333=>198 | 329=>178 | 330=>179 | 334=>199 | 335=>200 | 336=>201 | 344=>213 | n=>n, fun | 31=>92 | 9=>9 | 3=>3 | 46=>167 | 0=>0 | 51=>219 | 53=>118 | 4=>4 | 183=>212 | 182=>211 | 131=>133 | 5=>5 | 218=>234 | 222=>183 | 228=>252 | 229=>253 | n=>n, fun | n=>n⟩
theorem Tryz.lays190:Go.Proofs.Lays.n190 prog Tryz.lays190_ren:={
  mixed:= by kernel_rfl
  f125:=func109.trans (congrArg some (by kernel_rfl))
  f128:=func149.trans (congrArg some (by kernel_rfl))
  f129:=func150.trans (congrArg some (by kernel_rfl))
  f190:=func99.trans (congrArg some (by kernel_rfl))
  f258:=func139.trans (congrArg some (by kernel_rfl))
  f302:=func168.trans (congrArg some (by kernel_rfl))
  f303:=func169.trans (congrArg some (by kernel_rfl))
  f304:=func170.trans (congrArg some (by kernel_rfl))
  f305:=func171.trans (congrArg some (by kernel_rfl))
  f306:=func172.trans (congrArg some (by kernel_rfl))
  f307:=func173.trans (congrArg some (by kernel_rfl))
  f308:=func174.trans (congrArg some (by kernel_rfl))
  f309:=func175.trans (congrArg some (by kernel_rfl))
  f310:=func176.trans (congrArg some (by kernel_rfl))
  f329:=func178.trans (congrArg some (by kernel_rfl))
  f330:=func179.trans (congrArg some (by kernel_rfl))
  f333:=func198.trans (congrArg some (by kernel_rfl))
  f334:=func199.trans (congrArg some (by kernel_rfl))
  f335:=func200.trans (congrArg some (by kernel_rfl))
  f336:=func201.trans (congrArg some (by kernel_rfl))
  f344:=func213.trans (congrArg some (by kernel_rfl))
  t0:=underlying0
  a0:=Tryz.isAgg0
  z0:=Tryz.sizeOf0
  v0:=Tryz.zeroValue0
  t3:=underlying3
  a3:=Tryz.isAgg3
  z3:=Tryz.sizeOf3
  v3:=Tryz.zeroValue3
  t4:=underlying4
  a4:=Tryz.isAgg4
  z4:=Tryz.sizeOf4
  v4:=Tryz.zeroValue4
  t5:=underlying5
  a5:=Tryz.isAgg5
  z5:=Tryz.sizeOf5
  v5:=Tryz.zeroValue5
  t9:=underlying9
  a9:=Tryz.isAgg9
  z9:=Tryz.sizeOf9
  v9:=Tryz.zeroValue9
  t31:=underlying92
  a31:=Tryz.isAgg92
  z31:=Tryz.sizeOf92
  v31:=Tryz.zeroValue92
  t46:=underlying167
  a46:=Tryz.isAgg167
  z46:=Tryz.sizeOf167
  v46:=Tryz.zeroValue167
  t51:=underlying219
  a51:=Tryz.isAgg219
  z51:=Tryz.sizeOf219
  v51:=Tryz.zeroValue219
  t53:=underlying118
  a53:=Tryz.isAgg118
  z53:=Tryz.sizeOf118
  v53:=Tryz.zeroValue118
  t131:=underlying133
  a131:=Tryz.isAgg133
  z131:=Tryz.sizeOf133
  v131:=Tryz.zeroValue133
  t182:=underlying211
  a182:=Tryz.isAgg211
  z182:=Tryz.sizeOf211
  v182:=Tryz.zeroValue211
  t183:=underlying212
  a183:=Tryz.isAgg212
  z183:=Tryz.sizeOf212
  v183:=Tryz.zeroValue212
  t218:=underlying234
  a218:=Tryz.isAgg234
  z218:=Tryz.sizeOf234
  v218:=Tryz.zeroValue234
  t222:=underlying183
  a222:=Tryz.isAgg183
  z222:=Tryz.sizeOf183
  v222:=Tryz.zeroValue183
  t228:=underlying252
  a228:=Tryz.isAgg252
  z228:=Tryz.sizeOf252
  v228:=Tryz.zeroValue252
  t229:=underlying253
  a229:=Tryz.isAgg253
  z229:=Tryz.sizeOf253
  v229:=Tryz.zeroValue253}
open Go.Sort Go.RowKit in
theorem Tryz.slices_Sort_string (blk off cap:Nat) (ss:List (List UInt8)) (w:World) (hH:Holds encStr w blk off ss.toArray) (hblk:blk<w.heap.size) (hsz:ss.length<4611686018427387904):
    Calls prog 99 #[.slice (some ⟨blk,off,none⟩) ss.length cap] w fun e w'=>
      e= .returned (.tuple #[])∧ ∃n os,w'=grow (putRow encStr (Sort.ahead w n) blk off (ss.mergeSort fun x y=>decide (x≤y)).toArray) os:=Any.slices_Sort_string Tryz.lays190 blk off cap ss w hH hblk hsz
open Go.RowKit Go.Sort in
theorem Tryz.slices_Sort_string_none (p:Option Addr) (cap:Nat) (w:World):
    Calls prog 99 #[.slice p 0 cap] w fun e w'=>e= .returned (.tuple #[])∧w'=w:=Any.slices_Sort_string_none Tryz.lays190 p cap w
open Go.RowKit Go.Sort in
theorem Tryz.slices_Sort_int_none (p:Option Addr) (cap:Nat) (w:World):
    Calls prog 71 #[.slice p 0 cap] w fun e w'=>e= .returned (.tuple #[])∧w'=w:=Any.slices_Sort_int_none Tryz.lays189 p cap w
end Go.Proofs
namespace Go.Proofs.YtkgjmhcdacidoaaGreatDoor
open Go.RowKit M Proofs.Tryz
theorem keysInt:KeyOk prog 3 QX:=SE underlying3
theorem keysStr:KeyOk prog 9 Zl:=SD underlying9
theorem clone0 {w:World} {As:List Th} (hS:Sat w As) (s:Bs) (hs:s.length≤281474976710656):Calls prog 119 #[strV s] w (Ret fun v w'=>v=strV s∧Sat w' As):=
  Cr hS (Tryz.stringslite_Clone ⟨s.toArray⟩ w (by simpa [ByteArray.size]using hs))
theorem Cn {w:World} {F:Th} (hS:Sat w [F]) (s:Bs) (hs:s.length≤281474976710656):
    Calls prog 85 #[strV s] w (Ret fun v w'=>v=strV s∧Sat w' [F]):= by
 refine Qn func85 U ntmps85 U ?_
 refine Qe (Qa (Qd U U (Qf (Qc (Qe (Qa (Qb U U (Q0 cal_119 U (clone0 (hS.sp [] U) s hs) U ?_))))))))
 rintro _ w1 ⟨rfl,j1⟩
 replace j1:=j1.jn U U
 exact Qd U U (Qf (Qc (Qv (QR (.inr U) U U (⟨_,U,U,j1⟩)))))
section
variable {P:Program} {n:Nat} {ops:Array Oper} {Q:Exit→Act→World→Prop} {rest:List Oper} {L:Env} {w:World} {d:Nat} {ty:TypeId} {pos:String} {aft:Array Edge} {As:List Th} {T e b:Nat} {cs:List Value}
theorem R5 (l:List UInt8):Lib.strCells ⟨l.toArray⟩=byC.cells l:= by
  rw[Vf]
  simp [Lib.strCells,Ze]
theorem CM {t t2:TypeId} {s x:Operand} {v:Value} {bs l2:List UInt8} (i:Nat) (hS:Sat w As) (hi:As[i]? =some (Vo e v bs)) (hs:M.look L s=some v) (hx:M.look L x=some (strV l2)) (hu:P.underlying t=some (.slice e)) (hu2:P.underlying t2=some .string)
    (hif:(P.info? e).map (fun i=>(i.zero,i.size,i.bytes))=some (some (.int .u8 0),1,1)) (hm:bs.length+l2.length≤140737488355328) (hd:Nat.blt d n=true)
    (hk: ∀v' w',Sat w' (As.set i (Vo e v' (bs++l2)))→wl P n ops Q rest ((d,v')::L) w'):wl P n ops Q (⟨some d,.call ⟨.builtin .append, #[s,x], #[t,t2]⟩,ty,pos,aft,none⟩::rest) L w:= by
  obtain⟨hown,hnil⟩:=hS.buf i hi
  obtain⟨foot,hO,hfoot⟩:=Be hown
  obtain⟨inf,hi1,hi2,hi3,hi4⟩:=info_parts hif
  have hsz:(⟨l2.toArray⟩:ByteArray).size=l2.length:= by simp [ByteArray.size]
  refine XG U hd (R:= fun v w'=>Sat w' (As.set i (Vo e v (bs++l2)))) (fun a ha=> ?_) (fun v w' hR=>hk v w' hR)
  obtain⟨v1,w1,hrun,foot',o1,o2,o3,_⟩:=UA (P:=P) (o:=⟨some d,.call ⟨.builtin .append, #[s,x], #[t,t2]⟩,ty,pos,aft,none⟩) (a:=a) t t2 s x rfl (ha.eval hs) (ha.eval hx) hO hu hu2 (by intro k hk; cases hk) hif rfl (by decide) (m:=l2.length) (news:=byC.cells l2)
    (fun w1=> by simp [strV,Builtin.lenOf,hsz]) (fun w1 _=> by have :=Lib.run_firstCells_string (P:=P) w1 1 ⟨l2.toArray⟩; rw[hsz,R5]at this; exact this) (byC.cells_len l2) (WA (byC.cells_one l2)) (by omega) (by omega)
  obtain⟨v2,w2,hr2,hown2,_,hiff⟩:=Lib.run_append_own_string (P:=P) w 0 t t2 ty e inf hu hu2 hi1 hi2 hi3 hi4 v bs.length (byC.cells bs) hown ⟨l2.toArray⟩ (by rw[hsz];unfold maxLen;omega) (by rw[hsz];omega) (Nat.zero_le _)
  rw[hsz]at hown2 hiff
  have hex:(execOp a.eval ⟨some d,.call ⟨.builtin .append, #[s,x], #[t,t2]⟩,ty,pos,aft,none⟩).run P w= .ok (.value v2) w2:= by
    have hr3:(Builtin.append_ #[t,t2] ty #[v,strV l2]).run P w= .ok v2 w2:=hr2
    simp [execOp,ha.eval hs,ha.eval hx,resolve,invoke,builtin,hr3]
  have heq:v1=v2∧w1=w2:= by
    rcases hrun with h | ⟨h,_⟩
    · rw[hex]at h; cases h; exact⟨rfl,rfl⟩
    · rw[hex]at h; cases h
  obtain⟨rfl,rfl⟩:=heq
  refine⟨v1,w1,.inl hex, ?_⟩
  have hfoot': ∀k,v1.ownBlock=some k→k∈foot':= by
    intro k hk'
    obtain⟨_,⟨e1,_,_⟩ | ⟨b1,c1,s1,e1,_,_,_,rfl⟩⟩:=o1
    · rw[e1]at hk'; cases hk'
    · rw[e1]at hk'; simp [Value.ownBlock]at hk'; simp [hk']
  refine hS.step i hi fun F ⟨eF,_⟩=>⟨fun k=>v1.ownBlock=some k,⟨rfl, ?_, fun q=> ?_⟩, fun k hk'=> ?_,o2.agree fun k hk'=> ?_⟩
  · rw[List.length_append,←RowC.cells_app,←R5 l2]; exact hown2
  · obtain⟨q1,q2⟩:=List.append_eq_nil_iff.1 q
    exact hiff.2 ⟨hnil q1, by rw[q2];rfl⟩
  · rcases o3 k (hfoot' k hk')with q | q
    · exact .inl (by rw[eF]; exact(hfoot k).1 q)
    · exact .inr q
  · exact .inl (by rw[eF]; exact(hfoot k).1 hk')
end
theorem ne1 : (Tryz.f186.name == "runtime.NumGoroutine") = false := by kernel_rfl
theorem ne2:Tryz.f186.body.isNone=true:= by kernel_rfl
theorem ne3:Extern.findNext Tryz.f186=none:= by kernel_rfl
theorem ne4:Extern.find Tryz.f186=some Extern.AbiNoEscape.same:= by kernel_rfl
theorem bl_info:(prog.info? 196).map (fun j=>decide (j.size≠0))=some true:= by kernel_rfl
theorem bl_lies:liesAt prog prog.depth 196 (2/ prog.cellsOf 196) 0 196 1=true:= by kernel_rfl
theorem PN:prog.cellsOf 5=1:= by kernel_rfl
theorem PM: ∃j,prog.info? 196=some j∧j.size≠0:= by
  have h:=bl_info
  cases hq:prog.info? 196 with
  | none=> rw[hq]at h; cases h
  | some j=> rw[hq]at h; exact⟨j,rfl, by simpa using h⟩
theorem Fo {w:World} {b:Nat} {v:Value} {F:Th} (hS:Sat w [Jn 196 b [.pointer none,v],F]):
    Calls prog 159 #[ptrV b 0] w (Ret fun u_ w'=>u_= .tuple #[]∧Sat w' [Jn 196 b [ptrV b 0,v],F]):= by
 obtain⟨j,hj,hj0⟩:=PM
 refine Qn func159 U ntmps159 U ?_
 refine Qe (Qa (Qb U U (Qi U U (Qg U K3 U (Qo U NL (hS.tcell 0 U (o:=0) U) U (Jh underlying194 U U U (Qf (Qc (XD U (Qa (Qb U U (Qb U U (MV U underlying194 underlying240 hj hj0 (hS.tshape 0 U) (by simp) U ?_)))))))))))))
 refine CL func186 ne1 ne2 ne3 ne4 U U ?_
 refine BO U underlying240 underlying194 hj (hS.tshape 0 U) bl_lies U (Qi U U (Qg U K3 U (KV hS U U sz_194 (by first | rfl | assumption) (i:=0) U (by simp) ?_)))
 intro w1 j1; dsimp only[List.set]at j1
 exact Qf (ZP (.inl U) U (⟨_,U,U,j1⟩))
theorem Fm {w:World} {b:Nat} {v:Value} {F:Th} (hS:Sat w [Jn 196 b [ptrV b 0,v],F]):
    Calls prog 159 #[ptrV b 0] w (Ret fun u_ w'=>u_= .tuple #[]∧Sat w' [Jn 196 b [ptrV b 0,v],F]):= by
 obtain⟨j,hj,hj0⟩:=PM
 refine Qn func159 U ntmps159 U ?_
 exact Qe (Qa (Qb U U (Qi U U (Qg U K3 U (Qo U NL (hS.tcell 0 U (o:=0) U) U (XI underlying194 U U U (Qf (Qc (QL U (Qe (Qa (Qb U U (Qi U U (Qg U K3 U (Qo U NL (hS.tcell 0 U (o:=0) U) U (Qb U U (BM underlying194 hj U U U (Qf (Qc (Qh [19] U (QL U (Qs (ZP (.inl U) U (⟨_,U,U,hS⟩))))))))))))))))))))))))
def Vp (b:Nat) (bs:Bs):Th:=CH fun q:Value×Value=>starL [JN (q.1= .pointer none∨q.1=ptrV b 0),Jn 196 b [q.1,q.2],Vo 5 q.2 bs]
theorem HI {w:World} {b:Nat} {bs:Bs} {As:List Th} (h:Sat w (Vp b bs::As)): ∃p v,(p= .pointer none∨p=ptrV b 0)∧Sat w (Jn 196 b [p,v]::Vo 5 v bs::As):= by
  obtain⟨⟨p,v⟩,h⟩:=h.ex
  obtain⟨h1,h2⟩:=h.flat.pure_elim
  exact⟨p,v,h1,h2⟩
theorem HH {w:World} {b:Nat} {bs:Bs} {As:List Th} {p v:Value} (hp:p= .pointer none∨p=ptrV b 0) (h:Sat w (Jn 196 b [p,v]::Vo 5 v bs::As)):Sat w (Vp b bs::As):=
  Sat.ex_intro (p,v) (Sat.fold (As:=[JN _,Jn 196 b [p,v],Vo 5 v bs]) (Sat.pure_intro hp h))
theorem Ct {w:World} {b:Nat} {p v:Value} {F:Th} (hp:p= .pointer none∨p=ptrV b 0) (hS:Sat w [Jn 196 b [p,v],F]):Calls prog 159 #[ptrV b 0] w (Ret fun u w'=>u= .tuple #[]∧Sat w' [Jn 196 b [ptrV b 0,v],F]):= by
  rcases hp with rfl | rfl
  · exact Fo hS
  · exact Fm hS
theorem Cs {w:World} {As:List Th} {e:Nat} (h:Sat w As):Sat w (Vo e (.slice none 0 0) []::As):=
  h.new (Only.refl [] w) (A:=Vo e (.slice none 0 0) []) (F':= fun k=>Value.ownBlock (.slice none 0 0)=some k) ⟨rfl,World.ownsRow_nil w 0 e 1, fun _=>rfl⟩ (by simp [Value.ownBlock])
theorem YF {w:World} {b:Nat} {bs:Bs} {F:Th} (hS:Sat w [Vp b bs,F]) (c:UInt8) (hl:bs.length≤70368744177663):
    Calls prog 121 #[ptrV b 0,Y3 c] w (Ret fun v w'=>v= .nilIface∧Sat w' [Vp b (bs++[c]),F]):= by
 obtain⟨p,v,hp,hS⟩:=HI hS
 refine Qn func121 U ntmps121 U ?_
 refine Qe (Qa (Qd U U (Qf (Qc (Qe (Qa (Qb U U (Q0 PD U (Ct hp (hS.sp [0] U)) U ?_))))))))
 rintro _ w1 ⟨rfl,j1⟩
 replace j1:=j1.jn U U
 refine Qf (Qc (Qe (Qa (Qb U U (Qb U U (Qi U U (Qg U JW U (Qo U Uh (j1.tcell 0 U (o:=1) U) U (Qb U U (ZV byC [c] j1 U underlying176 ifz_5 U U U U (by first | rfl | simp [RowC.cells,Wu,Xz]) U ?_))))))))))
 intro b2 w2 j2
 refine Sb 2 j2 U U U (j2.rd 0 U (by simp)) (by simp) underlying176 U ifo_5 U (by simp;omega) (by simp;omega) U ?_
 intro v3 w3 j3; dsimp only[List.set]at j3
 obtain⟨_,_,_,h1v3,_⟩:=j3.bufv 2 rfl
 refine Qi U U (Qg U JW U (KV j3 U U FP (by first | rfl | assumption) (i:=1) U (by simp) ?_))
 intro w4 j4; dsimp only[List.set]at j4
 exact Qf (Qc (Qh [4] U (Qe (Qa (Qd U U (Qf (Qc (Qv (QR (.inr U) U U (⟨_,U,U,HH (.inr U) (j4.pick [1,2,3] U)⟩))))))))))
theorem UC {w:World} {b:Nat} {bs:Bs} {F:Th} (hS:Sat w [Vp b bs,F]) (s:Bs) (hl:bs.length+s.length≤70368744177663):
    Calls prog 122 #[ptrV b 0,strV s] w (Ret fun v w'=>v= .tuple #[intV (s.length:Int),.nilIface]∧Sat w' [Vp b (bs++s),F]):= by
 obtain⟨p,v,hp,hS⟩:=HI hS
 refine Qn func122 U ntmps122 U ?_
 refine Qe (Qa (Qd U U (Qd U U (Qf (Qc (Qe (Qa (Qb U U (Q0 PD U (Ct hp (hS.sp [0] U)) U ?_)))))))))
 rintro _ w1 ⟨rfl,j1⟩
 replace j1:=j1.jn U U
 refine Qf (Qc (Qe (Qa (Qb U U (Qb U U (Qi U U (Qg U JW U (Qo U Uh (j1.tcell 0 U (o:=1) U) U (Qb U U (CM 1 j1 U U U underlying176 underlying9 ifo_5 (by omega) U ?_))))))))))
 intro v2 w2 j2; dsimp only[List.set]at j2
 obtain⟨_,_,_,h1v2,_⟩:=j2.bufv 1 rfl
 refine Qi U U (Qg U JW U (KV j2 U U FP (by first | rfl | assumption) (i:=0) U (by simp) ?_))
 intro w3 j3; dsimp only[List.set]at j3
 exact Qf (Qc (Qh [1,4,5] U (Qe (Qa (Qb U U (WO underlying9 U U (Qd U U (Qd U U (Qf (Qc (Qv (Jm (.inr U) U U U (⟨_,U,U,HH (.inr U) (j3.pick [0,1,2] U)⟩)))))))))))))
theorem Fk {w:World} {b:Nat} {bs:Bs} {F:Th} (hS:Sat w [Vp b bs,F]) (hl:bs.length≤70368744177663):
    Calls prog 124 #[ptrV b 0] w (Ret fun v w'=>v=strV bs∧Sat w' [F]):= by
 obtain⟨p,v,hp,hS⟩:=HI hS
 obtain⟨ao,cap,rfl,h1v,hq⟩:=hS.bufv 1 rfl
 have hao:ao=none∨cap≠0:= by rcases hq with⟨h,_⟩ | ⟨_,_,h,_⟩; exact .inl h; exact .inr h
 refine Qn func124 U ntmps124 U ?_
 refine Qe (Qa (Qd U U (Qf (Qc (Qe ?_)))))
 have j1:=hS.drew
 refine QH [0,1,2,3,5,6,7,8,9,4,10,11] [4,10] ZW (by kernel_rfl) ?_
 refine QJ U U U (Xd U U U (QP U U U JW (Q3 U U U (Qm U Uh (j1.tcell 0 U (o:=1) U)) (QJ U U U (Xd U U U (QP U U U JW (Q3 U U U (Qm U Uh (j1.tcell 0 U (o:=1) U)) (Xh U U U (fun _=>(UZ underlying176 U)) ?_))))))))
 refine Xl U U U U U U ?_
 refine Kb U hao U (XH (.cons (.inl ⟨rfl,(Qm U Uh (j1.tcell 0 U (o:=1) U))⟩) (Xq (by kernel_rfl))) ?_)
 refine Xl U U U U U U ?_
 refine RH 1 j1 U U U underlying223 PN (by omega) U ?_
 intro w2 j2; dsimp only[List.eraseIdx]at j2
 refine XH (Xq (by kernel_rfl)) ?_
 exact Zo U U U (VC.nil (Qc (Qh [2] U (Qv (QR (.inr U) U U (⟨_,U,U,j2.tail⟩))))))
end Go.Proofs.YtkgjmhcdacidoaaGreatDoor
namespace Go.Proofs.YtkgjmhcdacidoaaGreatDoor.M
open Go.RowKit Proofs.Tryz
theorem Kk {α:Type} {l:List α} {i:Nat} {a:α} (h:l[i]? =some a):l.set i a=l:= by
  apply List.ext_getElem?
  intro j
  by_cases e:i=j
  · subst e; rw[List.getElem?_set_self (XL h).1,h]
  · rw[List.getElem?_set_ne e]
def KG (e:Nat) (v:Value) (bs:List UInt8):Th where
  at_:= fun w F=>(F= fun k=>v.ownBlock=some k)∧((v= .slice none 0 0∧bs=[])∨ ∃g cap cur fz,v= .slice (some ⟨g,0,none⟩) bs.length cap∧bs≠[]∧cap≠0∧w.heap[g]? =some (.cells cur e fz)∧bs.length≤cur.size∧cur.toList.take bs.length=byC.cells bs)
  fr:= fun {w w' F} a ⟨e1,h⟩=>⟨e1, by
    rcases h with h | ⟨g,cap,cur,fz,h1,h2,h3,h4,h5⟩
    · exact .inl h
    · exact .inr ⟨g,cap,cur,fz,h1,h2,h3, by rw[a.blk _ (by rw[e1,h1];rfl)]; exact h4,h5⟩⟩
  lt:= fun {w F} ⟨e1,h⟩ k hk=> by
    rw[e1]at hk
    rcases h with⟨rfl,_⟩ | ⟨g,cap,cur,fz,rfl,_,_,h4,_⟩
    · simp [Value.ownBlock]at hk
    · simp only[Value.ownBlock,Option.some.injEq]at hk
      subst hk
      rcases Nat.lt_or_ge g w.heap.size with q | q
      · exact q
      · rw[Array.getElem?_eq_none q]at h4; cases h4
section
variable {P:Program} {n:Nat} {ops:Array Oper} {Q:Exit→Act→World→Prop} {rest:List Oper} {L:Env} {w:World} {d:Nat} {ty:TypeId} {pos:String} {aft:Array Edge} {As:List Th} {T e b:Nat} {cs:List Value}
theorem Sat.bufZ_of {v:Value} {bs:List UInt8} (h:Sat w (Vo e v bs::As)):Sat w (KG e v bs::As):= by
  obtain⟨F,F1,F2,rfl,dj,⟨e1,⟨hl,h1⟩,hn⟩,h2⟩:=h
  refine⟨_,F1,F2,U,dj,⟨e1, ?_⟩,h2⟩
  by_cases h0:bs=[]
  · exact .inl ⟨hn h0,h0⟩
  · rcases h1 with⟨_,h3⟩ | ⟨g,cap,cur,rfl,_,h3,h4,_,h6,h7⟩
    · exact absurd (List.eq_nil_of_length_eq_zero h3) h0
    · have hp:0<bs.length:=List.length_pos_iff.2 h0
      exact .inr ⟨g,cap,cur,(0,0),rfl,h0, by omega,h3, by omega, by rw[Nat.mul_one]at h7; exact h7⟩
theorem Sat.bufZv (h:Sat w As) (i:Nat) {v:Value} {bs:List UInt8} (hi:As[i]? =some (KG e v bs)): ∃ao cap,v= .slice ao bs.length cap∧v.oneCell'=true∧(ao=none∨cap≠0):= by
  obtain⟨F,_,h⟩:=h.get i hi
  rcases h with⟨rfl,rfl⟩ | ⟨g,cap,cur,fz,rfl,_,h3,_⟩
  · exact⟨none,0,U,U,.inl U⟩
  · exact⟨_,cap,U,U,.inr h3⟩
theorem KU {ao:Option Addr} {cap pt it:Nat} {bs:List UInt8} {x y:Operand} (i:Nat) (hS:Sat w As) (hi:As[i]? =some (KG e (.slice ao bs.length cap) bs)) (hx:look L x=some (.pointer ao)) (hy:look L y=some (.int .i64 (bs.length:Int))) (hp:P.underlying pt=some (.pointer e)) (hc:P.cellsOf e=1) (hlen:bs.length≤9223372036854775807) (hd:Nat.blt d n=true)
    (hk: ∀w',Sat w' As→wl P n ops Q rest ((d,strV bs)::L) w'):wl P n ops Q (⟨some d,.call ⟨.builtin .unsafeString, #[x,y], #[pt,it]⟩,ty,pos,aft,none⟩::rest) L w:= by
  have hg: ∃w',(Builtin.unsafeString_ #[pt,it] ty #[.pointer ao,.int .i64 bs.length]).run P w= .ok (strV bs) w'∧Sat w' As:= by
    obtain⟨F,e1,h⟩:=hS.get i hi
    rcases h with⟨hv,rfl⟩ | ⟨g,cap',cur,fz,hv,h0,_,hgb,h5,h6⟩
    · simp only[Value.slice.injEq,List.length_nil,true_and]at hv
      obtain⟨rfl,_⟩:=hv
      exact⟨w,Lib.run_unsafeString_none w pt it ty none,hS⟩
    · simp only[Value.slice.injEq,true_and]at hv
      obtain⟨rfl,rfl⟩:=hv
      refine⟨w.freeze ⟨g,0,none⟩ bs.length,Lib.run_unsafeString_row w pt it ty e hp hc g cur.size (by simp [World.shape?,hgb]) bs h0 (by omega) hlen ?_, ?_⟩
      · intro j c hj
        rw[ZL]
        simp only[Nat.zero_add]
        rw[Lib.cell_of_heap hgb]
        have hj':=(XL hj).1
        have :(byC.cells bs)[j]? =some (.int .u8 (c.toNat:Int)):= by
          have :=RowC.cells_at (C:=byC) (l:=bs) (j:=j) hj
          have h3:=congrArg (fun q=>q[0]?) this
          simpa [byC,List.getElem?_take,List.getElem?_drop]using h3
        rw[←h6,List.getElem?_take,if_pos hj']at this
        simpa using this
      · have hlt:g<w.heap.size:= by
          rcases Nat.lt_or_ge g w.heap.size with q | q
          · exact q
          · rw[Array.getElem?_eq_none q]at hgb; cases hgb
        have hne:bs.length≠0:= fun q=>h0 (List.eq_nil_of_length_eq_zero q)
        have hfz: ∃fz',(w.freeze ⟨g,0,none⟩ bs.length).heap[g]? =some (.cells cur e fz'):= by
          unfold World.freeze
          rw[if_neg hne]
          obtain⟨lo,hi'⟩:=fz
          refine⟨if lo==hi' then(0,0+bs.length)else(min lo 0,max hi' (0+bs.length)), ?_⟩
          simp only[Array.getElem?_modify,if_true,hgb,Option.map_some]
        obtain⟨fz',hfz⟩:=hfz
        have hst:=hS.step i hi (w':=w.freeze ⟨g,0,none⟩ bs.length) (A':=KG e (.slice (some ⟨g,0,none⟩) bs.length cap) bs) fun F0 hF0=> ?_
        · rwa [Kk hi]at hst
        · have e0:=hF0.1
          have hb:=Lib.below_freeze (B:=0) (Below.refl 0 w) (p:=⟨g,0,none⟩) (Nat.zero_le _) bs.length
          refine⟨F0,⟨e0,.inr ⟨g,cap,cur,fz',rfl,h0, by assumption,hfz,h5,h6⟩⟩, fun k hk=> .inl hk,hb.os,hb.tape,hb.output, fun k hk=> ?_⟩
          have hnk:k≠g:= by
            rintro rfl
            exact hk.2 (by rw[e0];rfl)
          unfold World.freeze
          rw[if_neg hne]
          simp only[Array.getElem?_modify]
          rw[if_neg (fun q=>hnk q.symm)]
  obtain⟨w',h1,h2⟩:=hg
  refine XG rfl hd (R:= fun v u=>v=strV bs∧u=w') (fun a ha=>⟨_,_,.inl ?_,rfl,rfl⟩) (by rintro _ _ ⟨rfl,rfl⟩; exact hk _ h2)
  simp [execOp,ha.eval hx,ha.eval hy,resolve,invoke,builtin,h1]
end
section
variable {P:Program} {n m l:Nat} {ops:Array Oper} {Q:Exit→Act→World→Prop} {L:Env} {w:World}
abbrev RF (l:Nat):Fence:=Fence.wide.inRound l
theorem BW {f:FuncId} {args:Array Value} {R:Ending→World→Prop} (h:Calls P f args w R):CallsIn (RF l) m P f args w R:=(callsIn_wide (n:=m)).2 h
theorem Ml {row:String} {args:Array Value} {R:Value→World→Prop} (h:Rows P row args w R):RowsIn (RF l) m P row args w R:= fun c cs _=> by
  obtain⟨v,w',r,s⟩:=h c cs
  exact⟨v,w',r,stepsIn_wide.2 s⟩
theorem GF {o:Oper} {a:Act} {next:Act→World→Prop} {r:Result Next} (h:o.upon P a next Q r):o.uponIn (RF l) m P a next Q r:= by
  unfold Oper.upon at h
  split at h
  · exact h
  · exact h
  · exact h
  · exact⟨fun q=> by simp [RF,Fence.wide,Fence.inRound]at q,BW h⟩
  · exact⟨fun q=> by simp [RF,Fence.wide,Fence.inRound]at q,Ml h⟩
  · exact h
  · exact h.elim
def Ge (rest:List Oper):Prop:= ∀o∈rest,∀c,o.op≠ .defer c
theorem WJ (hQ: ¬LetsOut Q): ∀(rest:List Oper) (a:Act) (w:World),Ge rest→wpList P ops Q rest a w→wpListIn (RF l) m P ops Q rest a w
  | [],_,_,_,h=>h
  | o::rest,a,w,hd,h=> by
    unfold wpList at h
    unfold wpListIn
    have hr:Ge rest:= fun q hq=>hd q (List.mem_cons_of_mem _ hq)
    split
    · rename_i hw
      rw[if_pos hw]at h
      rcases h with h | h
      · refine⟨fun _ _=>trivial, ?_⟩
        rw[Oper.semAt_eq _ _ _ (hd o (by simp))]
        have h2:=GF (l:=l) (m:=m) h
        revert h2
        generalize (execOp a.eval o).run P w=r
        intro h2
        unfold Oper.uponIn at h2⊢
        split at h2
        · exact WJ hQ rest _ _ hr h2
        · exact WJ hQ rest _ _ hr h2
        · exact WJ hQ rest _ _ hr h2
        · refine⟨h2.1,h2.2.mono fun e w' he=> ?_⟩
          cases e with
          | returned v=> exact WJ hQ rest _ _ hr he
          | panicked c=> exact he
          | outgrown=> exact he
        · exact⟨h2.1,h2.2.mono fun v w' he=>WJ hQ rest _ _ hr he⟩
        · refine⟨h2.1,h2.2.mono fun e w' he=> ?_⟩
          cases e with
          | returned v=> exact WJ hQ rest _ _ hr he
          | panicked c=> exact he
          | outgrown=> exact he
        · exact h2
        · exact h2.elim
      · exact absurd h.2 hQ
    · rename_i hw
      rw[if_neg hw]at h
      exact⟨fun _ _=>trivial,WJ hQ rest _ _ hr h⟩
theorem G6 {t:Nat} {x:Value} {rec:Loop} {idA idB idR:Nat} {opsA opsR:Array Oper} {L0:Env} {R:World→Prop}
    (hrec:w.heap[l]? =some (.loop rec)) (hst:rec.state= .ready) (hpd:rec.pending=none) (hps:rec.params= #[t]) (has:rec.assign= .region idA opsA false) (hbo:rec.body= .block idB (.region idR opsR false)) (htn:rec.tmps.size=n)
    (hfr: ∀t v,Xm L0 t=some v→rec.tmps[t]? =some v) (ht:Nat.blt t n=true) (hdA:Ge opsA.toList) (hdR:Ge opsR.toList)
    (h: ∀QA:Exit→Act→World→Prop,
      (∀L1 w1,w1.heap[l]? =some (.loop rec)→(∀QB:Exit→Act→World→Prop,(∀L2 w2,w2.heap[l]? =some (.loop {rec with state:= .busy})→R (w2.putObj l (.loop rec))→qs n QB .normal L2 w2)→wl P n opsR QB opsR.toList L1 (w1.putObj l (.loop {rec with state:= .busy})))→qs n QA .normal L1 w1)→
      wl P n opsA QA opsA.toList ((t,x)::L0) w):
    YieldAt Fence.wide m P l #[x] w (fun e w'=>e= .returned (.bool true)∧R w'):= by
  refine⟨rec.fn,rec.tmps.setIfInBounds t x,rec.assign,rec.body, ?_,roundIn_of_wpIn trivial ?_⟩
  · have :=run_yield (P:=P) (args:= #[x]) hrec (by simp [hps])
    simpa [hps]using this
  · have hA:=h (Exit.then (fun a₁ w₁=> ∃w₂,(Instr.beginRound l).run P w₁= .ok () w₂∧rec.body.wpIn (RF l) m P (roundPost P l fun e w'=>e= .returned (.bool true)∧R w') a₁ w₂) (fun _ _ _=>False)) ?_
    · unfold wl at hA
      have ha0:Fr n L0 {tmps:=rec.tmps,defers:=[]}:=⟨htn,rfl,hfr⟩
      have h1:=hA _ (ha0.put (some t) x ht)
      rw[has]
      exact wpIn_region_list (WJ (by rintro⟨a,w,q⟩; exact q) _ _ _ hdA h1)
    · intro L1 w1 hr1 hB
      unfold qs
      intro a ha
      refine⟨_,run_beginRound hr1 hst, ?_⟩
      have key: ∀c:Code,c= .block idB (.region idR opsR false)→c.wpIn (RF l) m P (roundPost P l fun e w'=>e= .returned (.bool true)∧R w') a (w1.putObj l (.loop {rec with state:= .busy})):= ?_
      · exact key _ hbo
      rintro _ rfl
      refine wpIn_block (wpIn_region_list ?_)
      have h2:=hB (Exit.inBlock idB (roundPost P l fun e w'=>e= .returned (.bool true)∧R w')) ?_
      · unfold wl at h2
        exact WJ (by rintro⟨a,w,q⟩; exact q) _ _ _ hdR (h2 a ha)
      · intro L2 w2 hr2 hR
        unfold qs
        intro a2 _
        refine⟨_,_,run_endRound none hr2,U, ?_⟩
        have e:({{rec with state:= .busy}with state:= if(none:Option Code).isNone then .ready else .done,pending:=none}:Loop)=rec:= by
          cases rec; simp at hst hpd; subst hst hpd;rfl
        rw[e]; exact hR
theorem Y6 {g:Operand} {ps:Array Tmp} {assign body:Code} {gf:Nat} {caps:List Value} (hg:look L g=some (.func (.func gf) #[] caps.toArray)) (hc:Q8 P gf=true)
    (h: ∀rec:Loop,rec.state= .ready→rec.pending=none→rec.params=ps→rec.assign=assign→rec.body=body→rec.tmps.size=n→(∀t v,Xm L t=some v→rec.tmps[t]? =some v)→
      Calls P gf (Value.func (.yield (w.heap.size+1)) #[] #[]::caps).toArray ((w.alloc (.deferred (some []))).alloc (.loop rec)) (fun e w3=>(∃v,e= .returned v)∧ ∃rec':Loop,w3.heap[w.heap.size+1]? =some (.loop rec')∧rec'.state≠ .busy∧rec'.pending=none∧
        ∀a:Act,a.tmps=rec.tmps→a.defers=[{target:= .collected w.heap.size,args:= #[]}]→Q .normal a (w3.putObj (w.heap.size+1) (.loop {rec' with state:= .exhausted})))):
    wc P n (.rangeFunc g ps assign body) Q L w:= by
  unfold wc
  intro a ha
  refine(wpIn_wide (n:=0)).1 (wpIn_rangeFunc fun fn _=> ?_)
  obtain⟨W1,hW1⟩: ∃W1,W1=(w.alloc (.deferred (some []))).alloc (.loop {state:= .ready,pending:=none,fn,tmps:=a.tmps,params:=ps,assign,body,defers:=w.heap.size}):=⟨_,rfl⟩
  have e1:(Instr.enterLoop fn a.tmps ps assign body none).run P w= .ok (w.heap.size+1,[{target:= .collected w.heap.size,args:= #[]}]) W1:= by rw[hW1]; exact run_enterLoop_outer fn a.tmps ps assign body
  have e2:(resolve a.eval (rangeCall g (w.heap.size+1)) 0).run P W1= .ok {target:= .fn (.func gf) caps.toArray,args:= #[Value.func (.yield (w.heap.size+1)) #[] #[]]} W1:= by
    simp only[resolve,rangeCall,ha.eval hg,Deferred.ofValue]
    simp [Act.eval]
  have e3:(invoke (.fn (.func gf) caps.toArray) #[Value.func (.yield (w.heap.size+1)) #[] #[]]).run P W1= .ok (.enter gf (Value.func (.yield (w.heap.size+1)) #[] #[]::caps).toArray) W1:= by
    have :=Vd hc (Value.func (.yield (w.heap.size+1)) #[] #[]::caps).toArray W1
    simp only[invoke]
    simpa using this
  refine⟨w.heap.size+1,[{target:= .collected w.heap.size,args:= #[]}],W1,{target:= .fn (.func gf) caps.toArray,args:= #[Value.func (.yield (w.heap.size+1)) #[] #[]]},W1,gf,(Value.func (.yield (w.heap.size+1)) #[] #[]::caps).toArray,W1,e1,e2, fun _ _=>trivial,e3, fun q=> by simp [Fence.wide]at q, ?_⟩
  subst hW1
  · refine callsIn_wide.2 ((h {state:= .ready,pending:=none,fn,tmps:=a.tmps,params:=ps,assign,body,defers:=w.heap.size} rfl U U U U ha.size ha.get).mono fun e w3 ⟨⟨v,he⟩,rec,h1,h2,h3,h4⟩=> ?_)
    subst he
    obtain⟨st,pd,f1,t1,p1,a1,b1,d1⟩:=rec
    simp only at h3
    subst h3
    exact⟨none,_,run_endLoop h1 h2,h4 {a with defers:=[{target:= .collected w.heap.size,args:= #[]}]++a.defers} rfl (by rw[ha.defers];rfl)⟩
theorem YE {f:FuncId} {fn:Func} {c:Code} {args:List Value} {R:Ending→World→Prop} (hf:P.funcs[f]? =some fn) (hb:fn.body=some c) (hn:fn.ntmps=n) (hl:Nat.ble args.length n=true)
    (h:wc P n c (bodyPostM Fence.wide 0 P fn R) (RE 0 args) w):Calls P f args.toArray w R:= by
  have hle:args.length≤n:=Q7 hl
  unfold wc at h
  refine callsIn_wide.1 (callsIn_of_wp_marks (F:=Fence.wide) (n:=0) hf hb trivial ((wpIn_wide (n:=0)).2 (h _ ⟨by simp [hn];omega,rfl, fun t v ht=> ?_⟩)))
  obtain⟨_,h2⟩:=HJ args 0 t v ht
  simp only[Nat.sub_zero]at h2
  have hlt:=(XL h2).1
  rw[Array.getElem?_append_left (by simpa using hlt)]
  simpa using h2
@[irreducible] def wlI (P:Program) (n:Nat) (ops:Array Oper) (Q:Exit→Act→World→Prop) (rest:List Oper) (L:Env) (w:World):Prop:= ∀a,Fr n L a→wpListIn Fence.wide 0 P ops Q rest a w
theorem WB {id:Nat} (h:wlI P n ops Q ops.toList L w):wc P n (.region id ops false) Q L w:= by
  unfold wlI at h;unfold wc
  intro a ha
  exact(wpIn_wide (n:=0)).1 (wpIn_region_list (h a ha))
theorem Y5 (h:qs n Q .normal L w):wlI P n ops Q [] L w:= by
  unfold wlI;unfold qs at h
  exact h
theorem Xu {rest:List Oper} {d:Nat} {op:Op} {v:Value} {ty:TypeId} {pos:String} {aft:Array Edge} (hd:Nat.blt d n=true) (h:Ev P L w ⟨some d,op,ty,pos,aft,none⟩ v) (hk:wlI P n ops Q rest ((d,v)::L) w):wlI P n ops Q (⟨some d,op,ty,pos,aft,none⟩::rest) L w:= by
  unfold wlI at *
  intro a ha
  unfold wpListIn
  rw[if_pos (by simp [Region.wanted])]
  refine⟨fun _ _=>trivial, ?_⟩
  have h1:=h a.eval (fun x u hx=>ha.eval hx)
  show Oper.uponIn _ _ _ _ _ _ _ ((Oper.semAt none a.eval _).run P w)
  rw[Oper.semAt_none,h1]
  exact hk _ (ha.put (some d) v hd)
theorem YM {rest:List Oper} {d:Nat} {x y:Operand} {u v:Value} {ts:Array TypeId} {ty:TypeId} {pos:String} {aft:Array Edge} {R:World→Prop} (hx:look L x=some (.func (.yield l) #[] #[])) (hy:look L y=some v) (hd:Nat.blt d n=true)
    (hY:YieldAt Fence.wide 0 P l #[v] w (fun e w'=>e= .returned u∧R w')) (hk: ∀w',R w'→wlI P n ops Q rest ((d,u)::L) w'):wlI P n ops Q (⟨some d,.call ⟨.value x, #[y],ts⟩,ty,pos,aft,none⟩::rest) L w:= by
  obtain⟨fn,tmps,assign,body,h1,h2⟩:=hY
  unfold wlI at *
  intro a ha
  unfold wpListIn
  rw[if_pos (by simp [Region.wanted])]
  refine⟨fun _ _=>trivial, ?_⟩
  have h3:(execOp a.eval ⟨some d,.call ⟨.value x, #[y],ts⟩,ty,pos,aft,none⟩).run P w= .ok (.round l fn tmps assign body) w:= by
    simp only[execOp,resolve,ha.eval hx,Deferred.ofValue,invoke]
    simp [ha.eval hy,h1]
  show Oper.uponIn _ _ _ _ _ _ _ ((Oper.semAt none a.eval _).run P w)
  rw[Oper.semAt_none,h3]
  refine⟨fun q=> by simp [Fence.wide]at q,h2.mono fun e w' ⟨he,hR⟩=> ?_⟩
  subst he
  exact hk w' hR _ (ha.put (some d) u hd)
def WQ (l:Nat) (rec:Loop):Th where
  at_:= fun w F=>(F= fun k=>k=l)∧w.heap[l]? =some (.loop rec)
  fr:= fun a ⟨e,h⟩=>⟨e, by rw[a.blk _ (by rw[e])]; exact h⟩
  lt:= fun {w F} ⟨e,h⟩ k hk=> by
    rw[e]at hk; subst hk
    rcases Nat.lt_or_ge k w.heap.size with g | g
    · exact g
    · rw[Array.getElem?_eq_none g]at h; cases h
def Wa (b:Nat):Th where
  at_:= fun w F=>(F= fun k=>k=b)∧w.heap[b]? =some (.deferred (some []))
  fr:= fun a ⟨e,h⟩=>⟨e, by rw[a.blk _ (by rw[e])]; exact h⟩
  lt:= fun {w F} ⟨e,h⟩ k hk=> by
    rw[e]at hk; subst hk
    rcases Nat.lt_or_ge k w.heap.size with g | g
    · exact g
    · rw[Array.getElem?_eq_none g]at h; cases h
variable {As:List Th}
theorem Sat.loop (h:Sat w As) (i:Nat) {rec:Loop} (hi:As[i]? =some (WQ l rec)):w.heap[l]? =some (.loop rec):= by
  obtain⟨F,_,h⟩:=h.get i hi; exact h
theorem Sat.loop_put (h:Sat w As) (i:Nat) {rec rec':Loop} (hi:As[i]? =some (WQ l rec)):Sat (w.putObj l (.loop rec')) (As.set i (WQ l rec')):= by
  have hl:=h.loop i hi
  have hlt:l<w.heap.size:= by
    rcases Nat.lt_or_ge l w.heap.size with g | g
    · exact g
    · rw[Array.getElem?_eq_none g]at hl; cases hl
  refine h.step i hi fun F ⟨e,_⟩=>⟨F,⟨e,World.putObj_heap_same hlt⟩, fun k hk=> .inl hk,rfl,rfl,rfl, fun k hk=>World.putObj_heap_other fun q=>hk.2 (by rw[e]; exact q)⟩
theorem Sat.enter_loop (h:Sat w As) (rec:Loop):Sat ((w.alloc (.deferred (some []))).alloc (.loop rec)) (WQ (w.heap.size+1) rec::Wa w.heap.size::As):= by
  have h1:Sat (w.alloc (.deferred (some []))) (Wa w.heap.size::As):=h.new ((Only.refl _ _).alloc _) (A:=Wa w.heap.size) (F':= fun k=>k=w.heap.size) ⟨rfl,heap_alloc_new w _⟩ (fun k hk=> by rw[hk]; exact Nat.le_refl _)
  have h2:=h1.new (w':=(w.alloc (.deferred (some []))).alloc (.loop rec)) ((Only.refl _ _).alloc _) (A:=WQ (w.heap.size+1) rec) (F':= fun k=>k=w.heap.size+1) ⟨rfl, by have :=heap_alloc_new (w.alloc (.deferred (some []))) (.loop rec);simpa using this⟩ (fun k hk=> by rw[hk]; simp)
  exact h2
def YJ {κ:Type} (P:Program) (l:Nat) (kv:κ→Value) (ok:List κ→κ→Prop) (J:List κ→Th):Prop:=
  ∀(ks:List κ) (k:κ) (R:Th) (w:World),ok ks k→Sat w [J ks,R]→YieldAt Fence.wide 0 P l #[kv k] w (fun e w'=>e= .returned (.bool true)∧Sat w' [J (ks++[k]),R])
structure Came {κ:Type} (g:κ→Option Value) (ks:List κ):Prop where
  nodup:ks.Nodup
  has: ∀k∈ks,g k≠none
def okC {κ:Type} (g:κ→Option Value) (ks:List κ) (k:κ):Prop:=Came g (ks++[k])
structure CSt {κ:Type} (g:κ→Option Value) (dn:κ→Prop) (ks:List κ):Prop where
  came:Came g ks
  mem: ∀k,k∈ks↔dn k
theorem CSt.start {κ:Type} (g:κ→Option Value):CSt g (fun _=>False) []:=⟨⟨List.nodup_nil, by simp⟩, by simp⟩
theorem CSt.ok {κ:Type} {g:κ→Option Value} {dn:κ→Prop} {ks:List κ} {k:κ} {v:Value} (h:CSt g dn ks) (hn: ¬dn k) (hg:g k=some v):okC g ks k:= by
  refine⟨List.nodup_append.2 ⟨h.came.nodup, by simp, ?_⟩, fun j hj=> ?_⟩
  · rintro a ha b hb rfl
    simp at hb; subst hb
    exact hn ((h.mem _).1 ha)
  · rcases List.mem_append.1 hj with hj | hj
    · exact h.came.has j hj
    · simp at hj; subst hj; rw[hg]; simp
theorem CSt.step {κ:Type} {g:κ→Option Value} {dn:κ→Prop} {ks:List κ} {k:κ} {v:Value} (h:CSt g dn ks) (hn: ¬dn k) (hg:g k=some v):CSt g (fun j=>dn j∨j=k) (ks++[k]):=
  ⟨h.ok hn hg, fun j=> by rw[List.mem_append,h.mem j]; simp⟩
structure AllC {κ:Type} (g:κ→Option Value) (ks:List κ):Prop where
  nodup:ks.Nodup
  mem: ∀k,k∈ks↔g k≠none
theorem CSt.all {κ:Type} {g:κ→Option Value} {dn:κ→Prop} {ks:List κ} (h:CSt g dn ks) (hd: ∀k v,g k=some v→dn k):AllC g ks:=
  ⟨h.came.nodup, fun k=>⟨h.came.has k, fun hk=> by
    cases hq:g k with
    | none=> exact absurd hq hk
    | some v=> exact(h.mem k).2 (hd k v hq)⟩⟩
theorem GN {fn:Func} {R:Ending→World→Prop} {a:Act} {id d1 d2 t b D:Nat} {x:Operand} {v:Value} {ty1 ty2:TypeId} {p1 p2:String} {f1 f2:Array Edge} (hsz:a.tmps.size=n) (hget: ∀t v,Xm L t=some v→a.tmps[t]? =some v) (hdef:a.defers=[{target:= .collected D,args:= #[]}])
    (hx:look L x=some (ptrV b 0)) (ha:Z5 P t=some false) (hc:w.cell? ⟨b,0,none⟩=some v) (hD:w.heap[D]? =some (.deferred (some []))) (h1:Nat.blt d1 n=true) (h2:Nat.blt d2 n=true) (hres:fn.results= #[.tmp d2])
    (hR:R (.returned v) (w.putObj D (.deferred none))):
    (Code.seq (.region id #[⟨some d1,.load t x,ty1,p1,f1,none⟩,⟨some d2,.assign (.tmp d1),ty2,p2,f2,none⟩] false) .ret).wp P (bodyPostM Fence.wide 0 P fn R) a w:= by
  have ha0:Fr n L {tmps:=a.tmps,defers:=[]}:=⟨hsz,rfl,hget⟩
  have hev: ∀y,a.eval y=({tmps:=a.tmps,defers:=[]}:Act).eval y:= fun y=> by cases y<;>rfl
  refine Go.wp_seq (Go.wp_region_lit ?_)
  refine Uq (R:= fun u w'=>u=v∧w'=w) U ⟨v,w,.inl (Qm (d:=d1) (ty:=ty1) (pos:=p1) (aft:=f1) hx ha hc a.eval fun y u hy=> by rw[hev]; exact ha0.eval hy),rfl,rfl⟩ ?_
  rintro v1 w1 ⟨q1,q2⟩
  rw[q1,q2]
  have hd1:d1<a.tmps.size:= by rw[hsz];simpa using h1
  have e1:(a.put (some d1) v).eval (.tmp d1)=v:= by simp [Act.put,Act.eval,hd1]
  refine Uq (R:= fun u w'=>u=v∧w'=w) U ⟨v,w,.inl ?_,rfl,rfl⟩ ?_
  · simp [execOp,e1]
  rintro v2 w2 ⟨q3,q4⟩
  rw[q3,q4]
  show Code.wp P .ret _ _ w
  refine Go.wp_ret ?_
  show LeavesInM Fence.wide 0 P fn _ R _ .returning w
  have hdf:((a.put (some d1) v).put (some d2) v).defers=[{target:= .collected D,args:= #[]}]:= by simp [Act.put,hdef]
  rw[hdf]
  refine⟨by simp,.inl ⟨D,_,rfl,run_takeDeferred hD, ?_⟩⟩
  refine⟨v, ?_,hR⟩
  have hd2:d2<a.tmps.size:= by rw[hsz];simpa using h2
  simp [results,hres,Act.put,hd2]
theorem Sat.defer_put {As:List Th} (h:Sat w As) (i:Nat) {D:Nat} {o:Obj} (hi:As[i]? =some (Wa D)):w.heap[D]? =some (.deferred (some []))∧Sat (w.putObj D o) (As.eraseIdx i):= by
  have hp:=h.pull i hi
  obtain⟨F,F1,F2,rfl,dj,⟨e1,h1⟩,h2⟩:=hp
  have hag:Agree F2 w (w.putObj D o):=⟨rfl,rfl,rfl, fun k hk=>World.putObj_heap_other fun q=>dj k (by rw[e1]; exact q) hk⟩
  exact⟨h1,F2,(starL (As.eraseIdx i)).fr hag h2⟩
end
