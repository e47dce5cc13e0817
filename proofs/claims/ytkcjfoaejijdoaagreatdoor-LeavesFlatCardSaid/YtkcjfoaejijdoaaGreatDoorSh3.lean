/- frames: Alloc, Free, Set, Page, Fill, New, Copy -/
import Derived.Test.YtkcjfoaejijdoaaGreatDoorSh1
import Derived.Test.YtkcjfoaejijdoaaGreatDoorRow
import Derived.Lib.Builder
import Derived.Lib.UnsafeStr
import Derived.Laws.AppendOwn
import Derived.Laws.Externs
import Derived.LaidEql
import Derived.Shelf.Strings.Builder1
import Derived.Shelf.Strings.Trim
import Derived.Shelf.Small.Utf8
import Derived.Shelf.Small.Bits
import Derived.Shelf.Small.Strs
import Derived.Shelf.Small.Wraps
import Derived.Shelf.Strings.BuilderF
import Derived.Shelf.Strings.BuilderK
import Derived.Shelf.Strconv.Itoa0
import Derived.Shelf.LaysM
import Derived.Shelf.Strconv.Clone
import Derived.Shelf.Strings.Search1
import Derived.Shelf.Sort.Plain
import Derived.Shelf.Unicode.Decode
import Derived.Shelf.Strings.Runes
import Derived.Shelf.Strings.AsciiSet
import Derived.Shelf.Unicode.DecodeSlow
import Derived.Shelf.Unicode.DecodeAny
import Derived.Shelf.Unicode.DecodeLast
import Derived.Shelf.Strings.BuilderCap
import Derived.Shelf.Slices.Turned
import Derived.Ground.Names2Prog
import Derived.Shelf.Slices.Clone
import Derived.Shelf.Slices.SearchI
import Derived.Shelf.Slices.Delete
import Derived.Shelf.Slices.Cells
import Derived.Shelf.Slices.In.SortNone
import Derived.Shelf.Slices.Empties
import Derived.Test.YtkcjfoaejijdoaaGreatDoorProg
set_option linter.unusedVariables false
set_option maxRecDepth 100000
namespace Go.Proofs.YtkcjfoaejijdoaaGreatDoor
open Go.RowKit M
theorem IA {cl:List FrD} {j:Nat} {x:FrD} (h:cl[j]? =some x):((frC.cells cl).drop (0+j*65+1)).take 64=X8 (Nv x.b):= by
  have h1:=RowC.cells_at (C:=frC) h
  have h2:=congrArg (List.drop 1) h1
  rw[List.drop_take,List.drop_drop]at h2
  rw[show 0+j*65+1=j*65+1 by omega]
  exact h2
theorem SJ {cl:List FrD} {j:Nat} {x:FrD} (h:cl[j]? =some x):0+j*65+1+64≤(frC.cells cl).length:= by
  have :=(XQ h).1
  rw[RowC.cells_len]
  show _≤cl.length*65
  omega
theorem fr_copy {cl:List FrD} {j:Nat} {x:FrD} {s:Bs} (h:cl[j]? =some x) (hs:s.length=64):X3 (frC.cells cl) (0+j*65+1) (X8 (s.take 64))=frC.cells (cl.set j ⟨x.u,s⟩):= by
  have hj:=(XQ h).1
  have hE:=RowC.cells_at (C:=frC) h
  have hf:=SJ h
  rw[←RowC.cells_set (C:=frC) (X:=P7 ⟨x.u,s⟩) rfl hj,List.take_of_length_le (by omega)]
  have e:P7 ⟨x.u,s⟩= .bool x.u::X8 s:= by unfold P7; rw[Gr hs]
  rw[e]
  have h0:(frC.cells cl)[j*65]? =some (.bool x.u):= by
    have :=congrArg (fun q=>q[0]?) hE
    simp only[List.getElem?_take,List.getElem?_drop]at this
    exact this
  have hbl:(X8 s).length=64:= by rw[MJ,hs]
  unfold X3
  show _=(frC.cells cl).take (j*65)++(.bool x.u::X8 s)++(frC.cells cl).drop (j*65+(Value.bool x.u::X8 s).length)
  rw[List.length_cons,hbl, show 0+j*65+1=j*65+1 by omega,List.take_add_one,h0]
  simp [List.append_assoc]
theorem CD {cl:List FrD} {k:Nat} {y:FrD}:(cl.set k y).map Mv=(cl.map Mv).set k (Mv y):=List.map_set
theorem GV {w:World} {p:Nat} {fl:List (Option Bs)} {F:Th} (hS:Sat w [RQ p fl,F]) (f:Int):
    Calls Tryz.prog 91 #[ptrV p 0,intV f] w (Ret fun v w'=>v=strV ((ZZ fl f).getD [])∧Sat w' [RQ p fl,F]):= by
 refine Qq Tryz.func91 rfl Tryz.ntmps91 rfl ?_
 refine Qd (Qa (Qe rfl rfl (Qf (Qc (Qd (Qd (Qa (Qb rfl rfl (Qb rfl rfl (Qv Do rfl (RP (hS.sp [0] rfl) f) rfl ?_))))))))))
 rintro _ w1 ⟨rfl,hS1⟩
 replace hS1:=hS1.jn rfl rfl
 refine QR rfl rfl (Qf (Qc (QM rfl (fun h2=> ?_) (fun h2=> ?_))))
 ·refine Qd (Qa (Qe rfl rfl (Qf (Qc (Qu (Qn (QQ (.inr rfl) rfl rfl ?_)))))))
  exact⟨_,rfl, by rw[show ZZ fl f=none from by cases hq:ZZ fl f with | none=>rfl | some b=>simp_all];rfl,hS1.pick [0,1] rfl⟩
 obtain⟨cb,hcb⟩:=Option.isSome_iff_exists.1 (show(ZZ fl f).isSome=true by simpa using h2)
 refine Qr (Qc (Qd ?_))
 obtain⟨fa,fc,cl,hfl,hcl,hSo⟩:=Uz (hS1.pick [0,1] rfl)
 have hul:=Vr fl; have hfll:=congrArg List.length hfl; rw[List.length_map]at hfll
 obtain⟨hf0,hfk⟩:=YB hcb
 have hfk2:=hfk
 rw[hfl,List.getElem?_map]at hfk2
 obtain⟨x,hx,hxo⟩:=Option.map_eq_some_iff.1 hfk2
 have hxu:x.u=true∧Nv x.b=cb:= by unfold Mv at hxo;split at hxo;(rename_i q; cases hxo; exact⟨q,rfl⟩); cases hxo
 have hxl:=(XQ hx).1
 obtain⟨ob,oc9,hq9,_⟩:=hSo.own_at 1 rfl (by omega)
 cases hq9
 refine Qa (Qb rfl rfl (Qk rfl rfl (Qg rfl Yy rfl (Qo rfl Ve (hSo.cell 0 rfl rfl) rfl (Qb rfl rfl (XI f.toNat rfl rfl (by omega) hxl VH rfl ?_))))))
 refine Qg rfl RX rfl (HK Tryz.underlying166 rfl rfl UH rfl (Xo rfl (ev_strR 1 hSo cb rfl rfl rfl Tryz.underlying143 Tryz.underlying5 Tryz.underlying9 (by rw[IA hx,hxu.2]) (by rw[←hxu.2,Gs])) ?_))
 refine Qe rfl rfl (Qf (Qc (Qi [4] rfl (Qu (QQ (.inr rfl) rfl rfl ?_)))))
 exact⟨_,rfl, by rw[hcb];rfl,JW hfl hcl (hSo.pick [0,1,2] rfl)⟩
def V8 (fl:List (Option Bs)) (f:Int) (b:Bs):List (Option Bs):= match ZZ fl f with | some _=>fl.set f.toNat (some b) | none=>fl
theorem Mu {fl:List (Option Bs)} {f:Int} {b c:Bs} (h:ZZ fl f=some c):V8 fl f b=fl.set f.toNat (some b):= by unfold V8; rw[h]
theorem SK {fl:List (Option Bs)} {f:Int} {b:Bs} (h:ZZ fl f=none):V8 fl f b=fl:= by unfold V8; rw[h]
theorem Uy {w:World} {p:Nat} {fl:List (Option Bs)} {F:Th} (hS:Sat w [RQ p fl,F]) (f:Int) (s:Bs) (hs:s.length=64):
    Calls Tryz.prog 160 #[ptrV p 0,intV f,strV s] w (Ret fun v w'=> ∃e,v=intV e∧Sat w' [RQ p (V8 fl f s),F]):= by
 refine Qq Tryz.func160 rfl Tryz.ntmps160 rfl ?_
 refine Qd (Qa (Qe rfl rfl (Qf (Qc (Qd (Qd (Qa (Qb rfl rfl (Qb rfl rfl (Qv Do rfl (RP (hS.sp [0] rfl) f) rfl ?_))))))))))
 rintro _ w1 ⟨rfl,hS1⟩
 replace hS1:=hS1.jn rfl rfl
 refine QR rfl rfl (Qf (Qc (QM rfl (fun h2=> ?_) (fun h2=> ?_))))
 ·refine Qd (Qa (Qe rfl rfl (Qf (Qc (Qu (Qn (QQ (.inr rfl) rfl rfl ?_)))))))
  exact⟨_,rfl,_,rfl, by rw[SK (by cases hq:ZZ fl f with | none=>rfl | some b=>simp_all)]; exact hS1.pick [0,1] rfl⟩
 obtain⟨cb,hcb⟩:=Option.isSome_iff_exists.1 (show(ZZ fl f).isSome=true by simpa using h2)
 refine Qr (Qc (Qd ?_))
 obtain⟨fa,fc,cl,hfl,hcl,hSo⟩:=Uz (hS1.pick [0,1] rfl)
 have hul:=Vr fl; have hfll:=congrArg List.length hfl; rw[List.length_map]at hfll
 obtain⟨hf0,hfk⟩:=YB hcb
 have hfk2:=hfk
 rw[hfl,List.getElem?_map]at hfk2
 obtain⟨x,hx,hxo⟩:=Option.map_eq_some_iff.1 hfk2
 have hxu:x.u=true∧Nv x.b=cb:= by unfold Mv at hxo;split at hxo;(rename_i q; cases hxo; exact⟨q,rfl⟩); cases hxo
 have hxl:=(XQ hx).1
 obtain⟨ob,oc9,hq9,_⟩:=hSo.own_at 1 rfl (by omega)
 cases hq9
 refine Qa (Qb rfl rfl (Qk rfl rfl (Qg rfl Yy rfl (Qo rfl Ve (hSo.cell 0 rfl rfl) rfl (Qb rfl rfl (XI f.toNat rfl rfl (by omega) hxl VH rfl ?_))))))
 refine Qg rfl RX rfl (HK Tryz.underlying166 rfl rfl UH rfl (Qb rfl rfl ?_))
 refine AK 1 hSo rfl rfl rfl rfl Tryz.underlying143 UH (by have :=SJ hx;omega) (fr_copy hx hs) rfl ?_
 intro w3 hS3; dsimp only[List.set]at hS3
 clear hSo
 refine Qe rfl rfl (Qf (Qc (Qi [1,0,6,7] rfl (Qd (Qa (Qb rfl rfl (Qk rfl rfl (Qg rfl Yy rfl (Qo rfl Ve (hS3.cell 0 rfl rfl) rfl (Qb rfl rfl (XI f.toNat rfl rfl (by omega) hxl VH rfl ?_)))))))))))
 refine Qg rfl RX rfl (Qb rfl rfl ?_)
 refine Dz Tryz.underlying166 rfl rfl rfl (by rw[hs];rfl) UH rfl ?_
 refine Tq 1 hS3 rfl rfl rfl Tryz.underlying143 zr_5 rfl (by have :=SJ (cl:=cl.set f.toNat ⟨x.u,s⟩) (j:=f.toNat) (x:=⟨x.u,s⟩) (by rw[List.getElem?_set_self hxl]); simp only[Nat.zero_mul];omega) (xs':=frC.cells (cl.set f.toNat ⟨x.u,s⟩)) (by simp [X3]) rfl ?_
 intro w4 hS4a; dsimp only[List.set]at hS4a
 have hS4:=Sat.row_cast (C:=frC) (l:=cl.set f.toNat ⟨x.u,s⟩) (hS4a.pull 1 rfl) (by rw[List.length_set]) rfl rfl; dsimp only[List.eraseIdx]at hS4
 clear hS3
 refine Qf (Qc (Qi [6] rfl (Qd (Qa (Qe rfl rfl (Qf (Qc (Qu (QQ (.inr rfl) rfl rfl ?_)))))))))
 have hfs:fl.set f.toNat (some s)=(cl.set f.toNat ⟨x.u,s⟩).map Mv:= by rw[CD,hfl];congr 1;unfold Mv; rw[if_pos hxu.1,Gr hs]
 exact⟨_,rfl,_,rfl, by rw[Mu hcb]; exact JW hfs (by rw[List.length_set]; exact hcl) (by rw[KL hfk]; exact hS4.pick [1,0,2] rfl)⟩
theorem frE_set {x:FrD} {at_:Nat} {b:UInt8} (h:at_<64):(P7 x).set (1+at_) (XS b)=P7 ⟨x.u,(Nv x.b).set at_ b⟩:= by
  unfold P7
  rw[Nat.add_comm 1 at_,List.set_cons_succ]
  congr 1
  dsimp only
  rw[Gr (b:=(Nv x.b).set at_ b) (by rw[List.length_set,Gs])]
  simp [X8,List.map_set,XS]
theorem fru_sp {w:World} {F:Th} (hS:Sat w [F]) (x:FrD):
    Calls Tryz.prog 222 #[.agg (P7 x).toArray] w (Ret fun v w'=>v= .bool (!x.u)∧Sat w' [F]):= by
 refine Qq Tryz.func222 rfl Tryz.ntmps222 rfl ?_
 refine Qd (Qa (XU hS rfl rfl rfl ?_))
 intro bp wbp hSbp0
 have hSbp:Sat wbp [QF bp (P7 x),F]:=hSbp0
 exact Qe rfl rfl (Qf (Qc (Qd (Qa (Qg rfl Mx rfl (Qo rfl MQ (hSbp.cell 0 rfl rfl) rfl (QR rfl rfl (Qe rfl rfl (Qf (Qc (Qu (QQ (.inr rfl) rfl rfl (⟨_,rfl,rfl,hSbp.pick [1] rfl⟩)))))))))))))
theorem frix_sp {w:World} {F:Th} (hS:Sat w [F]) {lv:Value} {l:List FrD} (hL:Ent F (RdL frC lv l)):
    Calls Tryz.prog 221 #[lv,.func (.func 222) #[] #[]] w (Ret fun v w'=>(v=intV (-1)∧(∀y∈l,y.u=true)∧Sat w' [F])∨(∃(k:Nat) (x:FrD),v=intV (k:Int)∧l[k]? =some x∧x.u=false∧Sat w' [F])):= by
 obtain⟨ao,cap,rfl,hmax⟩:=(hL.sat hS 0 rfl).shape
 refine Qq Tryz.func221 rfl Tryz.ntmps221 rfl ?_
 refine Qd (Qa (Qe rfl rfl (Qf (Qc (Qd (Qd (Qa (Qb rfl rfl (X5 Tryz.underlying181 rfl rfl (Qb rfl rfl (Qf (Qc (Qw ?_)))))))))))))
 refine Xe (fun K0 E0 W0=> ∃(i:Nat),K0=l.length -i∧E0=[(0,.slice ao l.length cap),(1,.func (.func 222) #[] #[]),(7,intV (l.length:Int)),(8,intV (i:Int))]∧Sat W0 [F]∧(i≤l.length)∧(∀j y,j<i→l[j]? =some y→y.u=true)) (L0:=[(0,_),(1,_),(7,_),(8,_)]) (l.length -0) (Vk rfl rfl rfl rfl) ⟨0,rfl,rfl,hS, by omega, by omega⟩ ?_
 rintro _ _ w1 ⟨i,rfl,rfl,hS1,hi,hno⟩
 refine Qd (Qa (Xb rfl rfl rfl (Qf (Qc (Qd (Qs rfl (fun h2=> ?_) (fun h2=> ?_)))))))
 ·obtain⟨x,hx⟩: ∃x,l[i]? =some x:=⟨_,Zd (by omega)⟩
  obtain⟨b,off,rfl,_⟩:=(hL.sat hS1 0 rfl).get hx
  refine Qr (Qc (Qd (Qw (Qd (Qa (Qb rfl rfl (Qe rfl rfl (Qf (Qc (Qd (Qa (Qb rfl rfl (Qb rfl rfl (Qb rfl rfl (XI i rfl rfl (by first | rfl | omega) ((XQ hx).1) VH rfl ?_)))))))))))))))
  refine Jh rfl ag_195 (by rw[Lf]; exact AX) (vs:=P7 x) ((hL.sat hS1 0 rfl).at_ hx) rfl ?_
  refine D3 rfl cal_222 rfl (fru_sp (hS1.sp [] rfl) x) rfl ?_
  rintro e w3 ⟨_,rfl,rfl,hS3⟩; refine⟨_,rfl, ?_⟩
  replace hS3:=hS3.jn rfl rfl
  clear hS1
  refine Qf (Qc (Qi [8,7,1,0,5,16] rfl (QM rfl (fun h4=> ?_) (fun h4=> ?_))))
  ·have hux:x.u=false:= by simpa using h4
   exact Qd (Qa (Qb rfl rfl (Qe rfl rfl (Qf (Qc (Qu (Qx (Qn (Qn (Qx (Qn (QQ (.inr rfl) rfl rfl (⟨_,rfl,.inr ⟨i,x,rfl,hx,hux,hS3.pick [0] rfl⟩⟩)))))))))))))
  have hux:x.u=true:= by simpa using h4
  refine Qr (Ql (Qc (Qa (QK rfl rfl (by omega) (by omega) rfl ?_))))
  refine Qb rfl rfl (Qf ?_)
  exact Q6 (L1:=[(0,_),(1,_),(7,_),(8,intV ((i+1:Nat):Int))]) (Vk rfl rfl rfl rfl) (k1:=l.length -(i+1)) (by omega) ⟨i+1,rfl,rfl,hS3.pick [0] rfl, by omega, fun j y hj hq=> by by_cases e:j=i;(subst e; rw[hx]at hq; cases hq; exact hux); exact hno j y (by omega) hq⟩
 refine QS (Qp (Qp (Qz (Qc (Qd (Qa (Qe rfl rfl (Qf (Qc (Qu (QQ (.inr rfl) rfl rfl ?_)))))))))))
 exact⟨_,rfl,.inl ⟨rfl, fun y hm=> by obtain⟨j,hj⟩:=List.mem_iff_getElem?.1 hm; exact hno j y (by have :=(XQ hj).1;omega) hj,hS1.pick [0] rfl⟩⟩
theorem Mt {w:World} {p:Nat} {fl:List (Option Bs)} {F:Th} (hS:Sat w [RQ p fl,F]):
    Calls Tryz.prog 187 #[ptrV p 0] w (Ret fun v w'=>(v= .tuple #[intV 0,.bool false]∧(∀o∈fl,o≠none)∧Sat w' [RQ p fl,F])∨(∃k:Nat,fl[k]? =some none∧v= .tuple #[intV (k:Int),.bool true]∧Sat w' [RQ p (fl.set k (some (Nv []))),F])):= by
 refine Qq Tryz.func187 rfl Tryz.ntmps187 rfl ?_
 refine Qd (Qa (Qe rfl rfl (Qe rfl rfl (Qf (Qc (Qd ?_))))))
 obtain⟨fa,fc,cl,hfl,hcl,hSo⟩:=Uz (hS.pick [0,1] rfl)
 have hul:=Vr fl; have hfll:=congrArg List.length hfl; rw[List.length_map]at hfll
 refine Qa (Qb rfl rfl (Qk rfl rfl (Qg rfl Yy rfl (Qo rfl Ve (hSo.cell 0 rfl rfl) rfl (XY cal_221 rfl (frix_sp (hSo.sp [] rfl) (Ent.starL (Hj (C:=frC) (l:=cl) (by omega)) 1 rfl)) rfl ?_)))))
 rintro e w1 ⟨_,rfl,(⟨rfl,hno,hS1⟩ | ⟨k,x,rfl,hx,hux,hS1⟩)⟩
 ·refine⟨_,rfl, ?_⟩
  replace hS1:=hS1.jn rfl rfl
  clear hSo
  refine Qe rfl rfl (Qf (Qc (Qd (Qd (Qa (Qb rfl rfl (Xb rfl rfl rfl (Qf (Qc (Qi [0,2,3,4,11] rfl (Qs rfl (fun h2=> ?_) (fun h2=> ?_))))))))))))
  ·refine Qd (Qa (Qe rfl rfl (Qe rfl rfl (Qf (Qc (Qu (Qn (Wx (.inr rfl) rfl rfl rfl ?_))))))))
   exact⟨_,rfl,.inl ⟨rfl, fun o ho=> by rw[hfl]at ho; obtain⟨y,hy,rfl⟩:=List.mem_map.1 ho;unfold Mv; rw[if_pos (hno y hy)]; simp,JW hfl hcl (hS1.pick [0,1,2] rfl)⟩⟩
  exact absurd h2 (by decide)
 refine⟨_,rfl, ?_⟩
 replace hS1:=hS1.jn rfl rfl
 clear hSo
 refine Qe rfl rfl (Qf (Qc (Qd (Qd (Qa (Qb rfl rfl (Xb rfl rfl rfl (Qf (Qc (Qi [0,2,3,4,11] rfl (Qs rfl (fun h3=> ?_) (fun h3=> ?_))))))))))))
 ·exact absurd h3 (by omega)
 refine Qr (Qc (Qd (Qa (Qb rfl rfl (Qk rfl rfl (Qg rfl Yy rfl (Qo rfl Ve (hS1.cell 0 rfl rfl) rfl (Qb rfl rfl (Zl rfl OF asz_195 zr_195 rfl rfl (Xu frC 1 k hS1 rfl rfl rfl (by rfl) hx VH rfl ?_))))))))))
 intro bx4 capx4 hvx4
 refine W6 1 k ⟨true,[]⟩ hS1 rfl hvx4 rfl rfl AX (by rfl) ((XQ hx).1) ?_
 intro w5 hS6; dsimp only[List.set]at hS6
 clear hS1
 refine Qf (Qc (Qi [0,2,3,4] rfl (Qd (Qa (Qb rfl rfl (Qk rfl rfl (Qg rfl RZ rfl (Qo rfl QO (hS6.cell 0 rfl rfl) rfl (QK rfl rfl (by omega) (by omega) rfl ?_)))))))))
 refine Qk rfl rfl (Qg rfl RZ rfl ?_)
 first | (refine QL hS6 rfl rfl Ug (by rfl) (i:=0) rfl (Xn rfl) ?_)
 intro w7 hS8; dsimp only[List.set]at hS8
 clear hS6
 refine Qf (Qc (Qi [2,3,4] rfl (Qd (Qa (Qb rfl rfl (Qe rfl rfl (Qe rfl rfl (Qf (Qc (Qu (Wx (.inr rfl) rfl rfl rfl ?_)))))))))))
 have hfk:fl[k]? =some none:= by rw[hfl,List.getElem?_map,hx,Option.map_some];unfold Mv; rw[if_neg (by rw[hux];decide)]
 have hfs:fl.set k (some (Nv []))=(cl.set k ⟨true,[]⟩).map Mv:= by rw[CD,hfl];rfl
 exact⟨_,rfl,.inr ⟨k,hfk,rfl,JW hfs (by rw[List.length_set]; exact hcl) (by rw[Tv hfk,Int.natCast_add]; exact hS8.pick [0,1,2] rfl)⟩⟩
def Re (fl:List (Option Bs)) (f:Int):List (Option Bs):= match ZZ fl f with | some _=>fl.set f.toNat none | none=>fl
theorem EQ {w:World} {p:Nat} {fl:List (Option Bs)} {F:Th} (hS:Sat w [RQ p fl,F]) (f:Int):
    Calls Tryz.prog 185 #[ptrV p 0,intV f] w (Ret fun v w'=> ∃e,v=intV e∧Sat w' [RQ p (Re fl f),F]):= by
 refine Qq Tryz.func185 rfl Tryz.ntmps185 rfl ?_
 refine Qd (Qa (Qe rfl rfl (Qf (Qc (Qd (Qd (Qa (Qb rfl rfl (Qb rfl rfl (Qv Do rfl (RP (hS.sp [0] rfl) f) rfl ?_))))))))))
 rintro _ w1 ⟨rfl,hS1⟩
 replace hS1:=hS1.jn rfl rfl
 refine QR rfl rfl (Qf (Qc (QM rfl (fun h2=> ?_) (fun h2=> ?_))))
 ·refine Qd (Qa (Qe rfl rfl (Qf (Qc (Qu (Qn (QQ (.inr rfl) rfl rfl ?_)))))))
  exact⟨_,rfl,_,rfl, by rw[show Re fl f=fl by unfold Re; rw[show ZZ fl f=none from by cases hq:ZZ fl f with | none=>rfl | some b=>simp_all]]; exact hS1.pick [0,1] rfl⟩
 obtain⟨cb,hcb⟩:=Option.isSome_iff_exists.1 (show(ZZ fl f).isSome=true by simpa using h2)
 refine Qr (Qc (Qd ?_))
 obtain⟨fa,fc,cl,hfl,hcl,hSo⟩:=Uz (hS1.pick [0,1] rfl)
 have hul:=Vr fl; have hfll:=congrArg List.length hfl; rw[List.length_map]at hfll
 obtain⟨hf0,hfk⟩:=YB hcb
 have hfk2:=hfk
 rw[hfl,List.getElem?_map]at hfk2
 obtain⟨x,hx,hxo⟩:=Option.map_eq_some_iff.1 hfk2
 have hxu:x.u=true∧Nv x.b=cb:= by unfold Mv at hxo;split at hxo;(rename_i q; cases hxo; exact⟨q,rfl⟩); cases hxo
 have hxl:=(XQ hx).1
 obtain⟨ob,oc9,hq9,_⟩:=hSo.own_at 1 rfl (by omega)
 cases hq9
 refine Qa (Qb rfl rfl (Qk rfl rfl (Qg rfl Yy rfl (Qo rfl Ve (hSo.cell 0 rfl rfl) rfl (Qb rfl rfl (XI f.toNat rfl rfl (by omega) hxl VH rfl ?_))))))
 refine Qg rfl Mx rfl ?_
 refine JA 1 f.toNat 0 ⟨false,x.b⟩ hSo rfl rfl rfl (by show 0+f.toNat*65+0=f.toNat*65+0;omega) rfl AW hx rfl (by decide) rfl rfl ?_
 intro w3 hS3; dsimp only[List.set]at hS3
 clear hSo
 refine Qf (Qc (Qi [0,4] rfl (Qd (Qa (Qb rfl rfl (Qk rfl rfl (Qg rfl RZ rfl (Qo rfl QO (hS3.cell 0 rfl rfl) rfl (Hf rfl rfl (by omega) (by omega) rfl ?_)))))))))
 refine Qk rfl rfl (Qg rfl RZ rfl ?_)
 first | (refine QL hS3 rfl rfl Ug (by rfl) (i:=0) rfl (Xn rfl) ?_)
 intro w4 hS5; dsimp only[List.set]at hS5
 clear hS3
 refine Qf (Qc (Qd (Qa (Qe rfl rfl (Qf (Qc (Qu (QQ (.inr rfl) rfl rfl ?_))))))))
 have hfs:fl.set f.toNat none=(cl.set f.toNat ⟨false,x.b⟩).map Mv:= by rw[CD,hfl];rfl
 have hus:=D9 hfk
 exact⟨_,rfl,_,rfl, by rw[show Re fl f=fl.set f.toNat none by unfold Re; rw[hcb]]; exact JW hfs (by rw[List.length_set]; exact hcl) (by rw[show((Yd (fl.set f.toNat none):Nat):Int)=(Yd fl:Nat) -1 by omega]; exact hS5.pick [0,1,2] rfl)⟩
theorem P6 {w:World} {p:Nat} {fl:List (Option Bs)} {F:Th} (hS:Sat w [RQ p fl,F]) (f at_:Int) (b:UInt8):
    Calls Tryz.prog 108 #[ptrV p 0,intV f,intV at_,XS b] w (Ret fun v w'=>(((ZZ fl f).isSome=false∨at_<0∨64≤at_)∧Sat w' [RQ p fl,F])∨(v=intV 0∧ ∃cb,ZZ fl f=some cb∧(0≤at_∧at_<64)∧Sat w' [RQ p (fl.set f.toNat (some (cb.set at_.toNat b))),F])):= by
 refine Qq Tryz.func108 rfl Tryz.ntmps108 rfl ?_
 refine Qd (Qa (Qe rfl rfl (Qf (Qc (Qd (Qw (Qd (Qa (Qb rfl rfl (Qb rfl rfl (Qv Do rfl (RP (hS.sp [0] rfl) f) rfl ?_)))))))))))
 rintro _ w1 ⟨rfl,hS1⟩
 replace hS1:=hS1.jn rfl rfl
 refine QR rfl rfl (Qe rfl rfl (Qf (Qc (QM rfl (fun h2=> ?_) (fun h2=> ?_)))))
 ·refine Qd (Qa (Qe rfl rfl (Qf (Qc (Qu (Qx (Qn (QQ (.inr rfl) rfl rfl ?_))))))))
  exact⟨_,rfl, by rw[show ZZ fl f=none from by cases hq:ZZ fl f with | none=>rfl | some b=>simp_all]; exact .inl ⟨by simp,hS1.pick [0,1] rfl⟩⟩
 obtain⟨cb,hcb⟩:=Option.isSome_iff_exists.1 (show(ZZ fl f).isSome=true by simpa using h2)
 refine Qd (Qa (Qb rfl rfl (Xb rfl rfl rfl (Qb rfl rfl (QN 17 rfl (fun h3=> ?_) (fun h3=> ?_))))))
 ·refine Qh rfl rfl (QW h3) rfl (Qh rfl rfl (QW h3) rfl (QC rfl (QW h3) rfl rfl (Qe rfl rfl (Qf (Qc (Qi [3,2,1,0,8,14] rfl (Xr rfl (Qd (Qa (Qe rfl rfl (Qf (Qc (Qu (Qx (Qn (QQ (.inr rfl) rfl rfl ?_))))))))))))))))
  exact⟨_,rfl,.inl ⟨by omega,hS1.pick [0,1] rfl⟩⟩
 refine Qj rfl rfl (Q0 h3) (Qb rfl rfl (Qj rfl rfl (Q0 h3) (JJ rfl rfl rfl (QG rfl (Q0 h3) rfl rfl (Qe rfl rfl (Qf (Qc (Qi [3,2,1,0,8,14] rfl (Qs rfl (fun h4=> ?_) (fun h4=> ?_))))))))))
 ·refine Qd (Qa (Qe rfl rfl (Qf (Qc (Qu (Qx (Qn (QQ (.inr rfl) rfl rfl ?_))))))))
  exact⟨_,rfl,.inl ⟨by omega,hS1.pick [0,1] rfl⟩⟩
 refine Qr (Ql (Qc (Qd ?_)))
 obtain⟨fa,fc,cl,hfl,hcl,hSo⟩:=Uz (hS1.pick [0,1] rfl)
 have hul:=Vr fl; have hfll:=congrArg List.length hfl; rw[List.length_map]at hfll
 obtain⟨hf0,hfk⟩:=YB hcb
 have hfk2:=hfk
 rw[hfl,List.getElem?_map]at hfk2
 obtain⟨x,hx,hxo⟩:=Option.map_eq_some_iff.1 hfk2
 have hxu:x.u=true∧Nv x.b=cb:= by unfold Mv at hxo;split at hxo;(rename_i q; cases hxo; exact⟨q,rfl⟩); cases hxo
 have hxl:=(XQ hx).1
 obtain⟨ob,oc9,hq9,_⟩:=hSo.own_at 1 rfl (by omega)
 cases hq9
 refine Qa (Qb rfl rfl (Qk rfl rfl (Qg rfl Yy rfl (Qo rfl Ve (hSo.cell 0 rfl rfl) rfl (Qb rfl rfl (Qb rfl rfl (Qb rfl rfl (XI f.toNat rfl rfl (by omega) hxl VH rfl ?_))))))))
 refine Qg rfl RX rfl (Ud at_.toNat Tryz.underlying166 rfl rfl (by omega) (by omega) UH rfl ?_)
 refine JA 1 f.toNat (1+at_.toNat) (⟨x.u,(Nv x.b).set at_.toNat b⟩:FrD) hSo rfl rfl rfl (by show 0+f.toNat*65+1+at_.toNat*1=f.toNat*65+(1+at_.toNat);omega) rfl UH hx rfl (by show 1+at_.toNat<65;omega) (show(P7 x).set (1+at_.toNat) (XS b)=P7 ⟨x.u,(Nv x.b).set at_.toNat b⟩ from frE_set (by omega)) rfl ?_
 intro w5 hS5; dsimp only[List.set]at hS5
 clear hSo
 refine Qf (Qc (Qi [8] rfl (Qd (Qa (Qe rfl rfl (Qf (Qc (Qu (QQ (.inr rfl) rfl rfl ?_)))))))))
 have hfs:fl.set f.toNat (some (cb.set at_.toNat b))=(cl.set f.toNat ⟨x.u,(Nv x.b).set at_.toNat b⟩).map Mv:= by rw[CD,hfl];congr 1;unfold Mv; rw[if_pos hxu.1,Gr (by rw[List.length_set,Gs]),hxu.2]
 exact⟨_,rfl,.inr ⟨rfl,cb,hcb, by omega,JW hfs (by rw[List.length_set]; exact hcl) (by rw[KL hfk]; exact hS5.pick [0,1,2] rfl)⟩⟩
theorem Su (m:Nat):Yd (List.replicate m none)=0:= by unfold Yd; simp
theorem frow {Z:List Value} (hZ:Z=P7 ⟨false,[]⟩) (m:Nat):(List.replicate m Z).flatten=frC.cells (List.replicate m ⟨false,[]⟩):= by
  subst hZ
  induction m with
  | zero=>rfl
  | succ m ih=> rw[List.replicate_succ,List.flatten_cons,ih,List.replicate_succ];rfl
theorem I8 {w:World} {F:Th} (hS:Sat w [F]) (n:Int):
    Calls Tryz.prog 57 #[intV n] w (Ret fun v w'=> ∃p,v=ptrV p 0∧Sat w' [RQ p (List.replicate (min (max n 0) 4096).toNat none),F]):= by
 refine Qq Tryz.func57 rfl Tryz.ntmps57 rfl ?_
 refine Qd (Qa (Qe rfl rfl (Qf (Qc (Qd (Qa (Qb rfl rfl (Yj rfl rfl rfl (HL rfl rfl rfl (Rt hS (min (max n 0) 4096).toNat rfl rfl (by omega) Tryz.underlying181 ifo_195 rfl (by omega) (by omega) rfl ?_))))))))))
 intro db w1 hS1a; have hS1:=hS1a.row_cast (l:=List.replicate (min (max n 0) 4096).toNat ⟨false,[]⟩) (C:=frC) (by simp) rfl (frow rfl _)
 refine Zl rfl OH asz_183 zr_183 rfl rfl (XU hS1 rfl rfl rfl ?_)
 intro bp wbp hSbp
 clear hS1
 refine Qe rfl rfl (Qf (Qc (Qu (QQ (.inr rfl) rfl rfl ?_))))
 exact⟨_,rfl,_,rfl,JW (cl:=List.replicate (min (max n 0) 4096).toNat ⟨false,[]⟩) (by rw[List.map_replicate];rfl) (by rw[List.length_replicate];omega) (by rw[Su]; exact hSbp.pick [0,1,2] rfl)⟩
end Go.Proofs.YtkcjfoaejijdoaaGreatDoor
namespace Go.Proofs.YtkcjfoaejijdoaaGreatDoor.M
open Go.RowKit
def JF (T b:Nat) (cs:List Value):Th where
  at_:= fun w F=>(F= fun k=>k=b)∧w.heap[b]? =some (.cells cs.toArray T (0,0))
  fr:= fun a ⟨e,h⟩=>⟨e, by rw[a.blk _ (by rw[e])]; exact h⟩
  lt:= fun {w F} ⟨e,h⟩ k hk=> by
    rw[e]at hk; subst hk
    rcases Nat.lt_or_ge k w.heap.size with g | g
    · exact g
    · rw[Array.getElem?_eq_none g]at h; cases h
def K3 (e:Nat) (v:Value) (bs:List UInt8):Th where
  at_:= fun w F=>(F= fun k=>v.ownBlock=some k)∧w.ownsRow 0 e 1 v bs.length (byC.cells bs)∧(bs=[]→v= .slice none 0 0)
  fr:= fun {w w' F} a ⟨e1,⟨hl,h⟩,hn⟩=>⟨e1,⟨hl, by
    rcases h with h | ⟨g,cap,cur,h1,h2,h3,h4⟩
    · exact .inl h
    · exact .inr ⟨g,cap,cur,h1,h2, by rw[a.blk _ (by rw[e1,h1];rfl)]; exact h3,h4⟩⟩,hn⟩
  lt:= fun {w F} ⟨e1,h,_⟩ k hk=> by rw[e1]at hk; exact(h.lt k hk).2
theorem Mh {w:World} {e n:Nat} {v:Value} {xs:List Value} (h:w.ownsRow 0 e 1 v n xs): ∃foot,Own w v n 1 xs foot∧ ∀k,k∈foot↔v.ownBlock=some k:= by
  obtain⟨hl,⟨rfl,rfl⟩ | ⟨g,cap,cur,rfl,_,hg,hc,_,hs,ht⟩⟩:=h
  · exact⟨[],⟨hl,.inl ⟨rfl,rfl,rfl⟩⟩, by simp [Value.ownBlock]⟩
  · have he:xs++cur.toList.drop (n*1)=cur.toList:= by rw[←ht]; exact List.take_append_drop _ _
    refine⟨[g],⟨hl,.inr ⟨g,cap,cur.toList.drop (n*1),rfl,hc,⟨e,0,0, ?_,.inl (Nat.le_refl _)⟩, ?_,rfl⟩⟩, by simp [Value.ownBlock,eq_comm]⟩
    · rw[he]; exact hg
    · rw[he];simpa using hs
section
variable {P:Program} {n:Nat} {ops:Array Oper} {Q:Exit→Act→World→Prop} {rest:List Oper} {L:Env} {w:World} {d:Nat} {ty:TypeId} {pos:String} {aft:Array Edge} {As:List Th} {T e b:Nat} {cs:List Value}
theorem Sat.tblk (h:Sat w As) (i:Nat) (hi:As[i]? =some (JF T b cs)):w.heap[b]? =some (.cells cs.toArray T (0,0)):= by
  obtain⟨F,_,h⟩:=h.get i hi; exact h
theorem Sat.tcell (h:Sat w As) (i:Nat) (hi:As[i]? =some (JF T b cs)) {o:Nat} {v:Value} (hv:cs[o]? =some v):w.cell? ⟨b,o,none⟩=some v:= by
  rw[Lib.cell_of_heap (h.tblk i hi)];simpa using hv
theorem Sat.tshape (h:Sat w As) (i:Nat) (hi:As[i]? =some (JF T b cs)):w.shape? b=some (T,cs.length):= by
  simp [World.shape?,h.tblk i hi]
theorem Sat.buf (h:Sat w As) (i:Nat) {v:Value} {bs:List UInt8} (hi:As[i]? =some (K3 e v bs)):w.ownsRow 0 e 1 v bs.length (byC.cells bs)∧(bs=[]→v= .slice none 0 0):= by
  obtain⟨F,_,h⟩:=h.get i hi; exact h
theorem Sat.bufv (h:Sat w As) (i:Nat) {v:Value} {bs:List UInt8} (hi:As[i]? =some (K3 e v bs)): ∃ao cap,v= .slice ao bs.length cap∧v.oneCell'=true∧(ao=none∧bs=[]∨ ∃g,ao=some ⟨g,0,none⟩∧cap≠0∧bs≠[]):= by
  obtain⟨⟨_,⟨rfl,h1⟩ | ⟨g,cap,cur,rfl,_,_,h1,_⟩⟩,hn⟩:=h.buf i hi
  · have :bs=[]:=List.eq_nil_of_length_eq_zero h1
    subst this
    exact⟨none,0,rfl,rfl,.inl ⟨rfl,rfl⟩⟩
  · have hb:bs≠[]:= fun e=> by have :=hn e; cases this
    have :0<bs.length:=List.length_pos_iff.2 hb
    exact⟨_,cap,rfl,rfl,.inr ⟨g,rfl, by omega,hb⟩⟩
theorem G6 {t:Nat} {z:Value} (hS:Sat w As) (hz:XZ P t=some (some z)) (hcs:z.cells.toList=cs) (hd:Nat.blt d n=true) (hk: ∀b w',Sat w' (JF t b cs::As)→wl P n ops Q rest ((d,ptrV b 0)::L) w'):wl P n ops Q (⟨some d,.alloc t,ty,pos,aft,none⟩::rest) L w:= by
  subst hcs
  refine XR rfl hd (R:= fun v w'=>v=ptrV w.heap.size 0∧w'=w.alloc (.cells z.cells t)) (fun a ha=>⟨_,_,.inl ?_,rfl,rfl⟩) (fun v w' ⟨e1,e2⟩=> ?_)
  · simp [execOp,Instr.alloc,WW hz,newVar,newRow]
  · subst e1 e2
    refine hk _ _ (hS.new ((Only.refl _ _).alloc _) (A:=JF t w.heap.size z.cells.toList) (F':= fun k=>k=w.heap.size) ⟨rfl, ?_⟩ (fun k hk=> by rw[hk]; exact Nat.le_refl _))
    simpa using heap_alloc_new w (.cells z.cells t)
theorem VY {x y:Operand} {t o i:Nat} {v:Value} (hS:Sat w As) (hx:look L x=some (ptrV b o)) (hy:look L y=some v) (hs:ZW P t=some 1) (h1:v.oneCell'=true) (hi:As[i]? =some (JF T b cs)) (ho:o<cs.length)
    (hk: ∀w',Sat w' (As.set i (JF T b (cs.set o v)))→wl P n ops Q rest L w'):wl P n ops Q (⟨none,.store t x y,ty,pos,aft,none⟩::rest) L w:= by
  have hb:=hS.tblk i hi
  have hc:=hS.tcell i hi (o:=o) (Zd ho)
  have hf:w.frozen? ⟨b,o,none⟩=false:=Lib.frozen_of_heap hb o
  have hcs:v.cells= #[v]:= by cases v<;>first | rfl | cases h1
  refine XR rfl rfl (R:= fun _ w'=>w'=w.setCell ⟨b,o,none⟩ v) (fun a ha=>⟨undef,_,.inr ⟨?_,rfl⟩,rfl⟩) (fun _ w' e=> ?_)
  · have hst:(store ⟨b,o,none⟩ v).run P w= .ok () (w.setCell ⟨b,o,none⟩ v):= by
      rw[run_store P w _ v _ h1,hc]; simp [hf]
    have e0:(⟨b,o,none⟩:Addr).add 0=⟨b,o,none⟩:= by simp [Addr.add]
    simp [execOp,ha.eval hx,ha.eval hy,Instr.storeAt,Instr.sureAddr,storeVar,hcs,run_sizeOf hs,storeCells,e0,hst]
  · subst e
    refine hk _ (hS.step i hi fun F ⟨e1,_⟩=>⟨F,⟨e1, ?_⟩, fun k hk=> .inl hk,((Only.refl [b] w).setCell (.inl (by simp)) v).agree (fun x hx=> .inl (by simp only[List.mem_singleton]at hx; subst hx; rw[e1]))⟩)
    simp [World.setCell,Array.getElem?_modify,hb]
theorem Tt {t t2:TypeId} {s x:Operand} {v xv z:Value} {bs l2:List UInt8} {bytes:Nat} (i:Nat) (hS:Sat w As) (hi:As[i]? =some (K3 e v bs)) (hs:look L s=some v) (hx:look L x=some xv) (hr:RdL byC xv l2 w) (h0:l2≠[]) (hu:P.underlying t=some (.slice e)) (ht:t2=t)
    (hif:(P.info? e).map (fun i=>(i.zero,i.size,i.bytes))=some (some z,1,bytes)) (hz:z.cells.size=1) (hb:(bs.length+l2.length)*bytes≤140737488355328) (hm:bs.length+l2.length≤281474976710656) (hd:Nat.blt d n=true)
    (hk: ∀v' w',Sat w' (As.set i (K3 e v' (bs++l2)))→wl P n ops Q rest ((d,v')::L) w'):wl P n ops Q (⟨some d,.call ⟨.builtin .append, #[s,x], #[t,t2]⟩,ty,pos,aft,none⟩::rest) L w:= by
  subst ht
  obtain⟨hown,hnil⟩:=hS.buf i hi
  obtain⟨foot,hO,hfoot⟩:=Mh hown
  obtain⟨ao,cap,rfl,hmax,hcells⟩:=hr
  obtain⟨c0,hc0⟩: ∃c0,l2[0]? =some c0:=⟨_,Zd (List.length_pos_iff.2 h0)⟩
  obtain⟨g0,off0,rfl,_⟩:=hcells 0 c0 hc0
  have hnews: ∀j u,(byC.cells l2)[j]? =some u→w.cell? ((⟨g0,off0,none⟩:Addr).add j)=some u:= by
    intro j u hu'
    rw[Wb]
    have hj:=(XQ hu').1
    rw[byC.cells_len]at hj
    have hj':j<l2.length:= by simpa [byC]using hj
    obtain⟨g1,o1,e1,hc⟩:=hcells j l2[j] (Zd hj')
    cases e1
    have h2:(byC.cells l2)[j]? =some (.int .u8 (l2[j].toNat:Int)):= by
      have :=RowC.cells_at (C:=byC) (l:=l2) (j:=j) (Zd hj')
      have h3:=congrArg (fun q=>q[0]?) this
      simpa [byC,List.getElem?_take,List.getElem?_drop]using h3
    rw[h2]at hu'; cases hu'
    have :=hc 0 _ rfl
    simpa [byC]using this
  have hrd:RdL byC (.slice (some ⟨g0,off0,none⟩) l2.length cap) l2 w:=⟨_,cap,rfl,hmax,hcells⟩
  obtain⟨inf,hi1,hi2,hi3,hi4⟩:=info_parts hif
  refine XR rfl hd (R:= fun v w'=>Sat w' (As.set i (K3 e v (bs++l2)))) (fun a ha=> ?_) (fun v w' hR=>hk v w' hR)
  obtain⟨v1,w1,hrun,foot',o1,o2,o3,_⟩:=VJ (P:=P) (o:=⟨some d,.call ⟨.builtin .append, #[s,x], #[t2,t2]⟩,ty,pos,aft,none⟩) (a:=a) t2 t2 s x rfl (ha.eval hs) (ha.eval hx) hO hu hu (by intro k hk; cases hk) hif hz (by decide) (hrd.lenOf) (hrd.first) (byC.cells_len l2) (WQ (byC.cells_one l2)) hb (by omega)
  obtain⟨v2,w2,hr2,hown2,_,_⟩:=run_append_own (P:=P) w 0 t2 ty e inf z 1 bytes hu hi1 hi2 hi3 hi4 hz (by decide) v bs.length (byC.cells bs) hown ⟨g0,off0,none⟩ l2.length cap (byC.cells l2) (byC.cells_len l2) hnews (WQ (byC.cells_one l2)) (by unfold maxLen;omega) hb (Nat.zero_le _)
  have hex:(execOp a.eval ⟨some d,.call ⟨.builtin .append, #[s,x], #[t2,t2]⟩,ty,pos,aft,none⟩).run P w= .ok (.value v2) w2:= by
    simp [execOp,ha.eval hs,ha.eval hx,resolve,invoke,builtin,hr2]
  have heq:v1=v2∧w1=w2:= by
    rcases hrun with h | ⟨h,_⟩
    · rw[hex]at h; cases h; exact⟨rfl,rfl⟩
    · rw[hex]at h; cases h
  obtain⟨rfl,rfl⟩:=heq
  refine⟨v1,w1,.inl hex, ?_⟩
  have hfoot': ∀k,v1.ownBlock=some k→k∈foot':= by
    intro k hk'
    obtain⟨_,⟨e1,_,_⟩ | ⟨b1,c1,s1,e1,_,_,_,rfl⟩⟩:=o1
    · rw[e1]at hk'; cases hk'
    · rw[e1]at hk'; simp [Value.ownBlock]at hk'; simp [hk']
  refine hS.step i hi fun F ⟨eF,_⟩=>⟨fun k=>v1.ownBlock=some k,⟨rfl, ?_, fun q=>absurd (List.append_eq_nil_iff.1 q).2 h0⟩, fun k hk'=> ?_,o2.agree fun k hk'=> ?_⟩
  · rw[List.length_append,←RowC.cells_app]; exact hown2
  · rcases o3 k (hfoot' k hk')with q | q
    · exact .inl (by rw[eF]; exact(hfoot k).1 q)
    · exact .inr q
  · exact .inl (by rw[eF]; exact(hfoot k).1 hk')
theorem Ro {ao:Option Addr} {m cap:Nat} {ts:Array TypeId} {x:Operand} (hx:look L x=some (.slice ao m cap)) (h0:ao=none∨cap≠0) (hd:Nat.blt d n=true) (hk:wl P n ops Q rest ((d,.pointer ao)::L) w):wl P n ops Q (⟨some d,.call ⟨.builtin .unsafeSliceData, #[x],ts⟩,ty,pos,aft,none⟩::rest) L w:= by
  refine XR rfl hd (R:= fun v w'=>v= .pointer ao∧w'=w) (fun a ha=>⟨_,_,.inl ?_,rfl,rfl⟩) (by rintro _ _ ⟨rfl,rfl⟩; exact hk)
  have hr:(Builtin.unsafeSliceData_ ts ty #[.slice ao m cap]).run P w= .ok (.pointer ao) w:= by
    cases ao with
    | none=> exact Lib.run_unsafeSliceData_nil w ts ty m cap
    | some q=> exact Lib.run_unsafeSliceData_row w ts ty q m cap (by rcases h0 with h0 | h0; cases h0; exact h0)
  simp [execOp,ha.eval hx,resolve,invoke,builtin,hr]
theorem BA {ao:Option Addr} {cap pt it:Nat} {bs:List UInt8} {x y:Operand} (i:Nat) (hS:Sat w As) (hi:As[i]? =some (K3 e (.slice ao bs.length cap) bs)) (hx:look L x=some (.pointer ao)) (hy:look L y=some (.int .i64 (bs.length:Int))) (hp:P.underlying pt=some (.pointer e)) (hc:P.cellsOf e=1) (hlen:bs.length≤9223372036854775807) (hd:Nat.blt d n=true)
    (hk: ∀w',Sat w' (As.eraseIdx i)→wl P n ops Q rest ((d,strV bs)::L) w'):wl P n ops Q (⟨some d,.call ⟨.builtin .unsafeString, #[x,y], #[pt,it]⟩,ty,pos,aft,none⟩::rest) L w:= by
  obtain⟨hown,hnil⟩:=hS.buf i hi
  have hg: ∃w',(Builtin.unsafeString_ #[pt,it] ty #[.pointer ao,.int .i64 bs.length]).run P w= .ok (strV bs) w'∧Sat w' (As.eraseIdx i):= by
    by_cases h0:bs=[]
    · subst h0
      have hv:=hnil rfl
      simp only[Value.slice.injEq,List.length_nil,true_and]at hv
      obtain⟨rfl,_⟩:=hv
      exact⟨w,Lib.run_unsafeString_none w pt it ty none,hS.drop i hi⟩
    · obtain⟨_,⟨hv,h1⟩ | ⟨g,cap',cur,hv,_,hgb,h1,_,h2,h3⟩⟩:=hown
      · exact absurd (List.eq_nil_of_length_eq_zero h1) h0
      · simp only[Value.slice.injEq,true_and]at hv
        obtain⟨rfl,rfl⟩:=hv
        refine⟨w.freeze ⟨g,0,none⟩ bs.length,Lib.run_unsafeString_row w pt it ty e hp hc g cur.size (by simp [World.shape?,hgb]) bs h0 (by omega) hlen ?_, ?_⟩
        · intro j c hj
          rw[Wb]
          simp only[Nat.zero_add]
          rw[Lib.cell_of_heap hgb]
          have hj':=(XQ hj).1
          have :(byC.cells bs)[j]? =some (.int .u8 (c.toNat:Int)):= by
            have :=RowC.cells_at (C:=byC) (l:=bs) (j:=j) hj
            have h3:=congrArg (fun q=>q[0]?) this
            simpa [byC,List.getElem?_take,List.getElem?_drop]using h3
          rw[←h3,List.getElem?_take]at this
          split at this
          · simpa using this
          · cases this
        · have hp1:=hS.pull i hi
          obtain⟨F,F1,F2,rfl,dj,⟨e1,_⟩,h2'⟩:=hp1
          refine⟨F2,(starL _).fr (F:=F2) ?_ h2'⟩
          have hb:=Lib.below_freeze (B:=0) (Below.refl 0 w) (p:=⟨g,0,none⟩) (Nat.zero_le _) bs.length
          refine⟨hb.os,hb.tape,hb.output, fun k hk'=> ?_⟩
          have hne:k≠g:= by
            rintro rfl
            exact dj k (by rw[e1];rfl) hk'
          unfold World.freeze
          split
          · rfl
          · simp only[Array.getElem?_modify]
            rw[if_neg (fun q=>hne q.symm)]
  obtain⟨w',h1,h2⟩:=hg
  refine XR rfl hd (R:= fun v u=>v=strV bs∧u=w') (fun a ha=>⟨_,_,.inl ?_,rfl,rfl⟩) (by rintro _ _ ⟨rfl,rfl⟩; exact hk _ h2)
  simp [execOp,ha.eval hx,ha.eval hy,resolve,invoke,builtin,h1]
theorem N9 {src dst t o:Nat} {x:Operand} {j:TypeInfo} {S:Nat×Nat} (hx:look L x=some (ptrV b o)) (hs:P.underlying src=some (.pointer t)) (hd':P.underlying dst=some .unsafePointer) (ht:P.info? t=some j) (hj:j.size≠0) (hsh:w.shape? b=some S) (ho:o<S.2) (hd:Nat.blt d n=true) (hk:wl P n ops Q rest ((d,ptrV b o)::L) w):wl P n ops Q (⟨some d,.convert src dst x,ty,pos,aft,none⟩::rest) L w:=
  Xo hd (fun ρ hρ=> by
    have :=Lib.run_to_unsafe (P:=P) (w:=w) (e:=S.1) (cells:=S.2) (⟨b,o,none⟩:Addr) hs hd' ht hj hsh ho
    simp [execOp,hρ _ _ hx,ptrV,this]) hk
theorem MV {src dst u o:Nat} {x:Operand} {j:TypeInfo} {S:Nat×Nat} (hx:look L x=some (ptrV b o)) (hs:P.underlying src=some .unsafePointer) (hd':P.underlying dst=some (.pointer u)) (hu:P.info? u=some j) (hsh:w.shape? b=some S) (hl:liesAt P P.depth S.1 (S.2/ P.cellsOf S.1) o u 1=true) (hd:Nat.blt d n=true) (hk:wl P n ops Q rest ((d,ptrV b o)::L) w):wl P n ops Q (⟨some d,.convert src dst x,ty,pos,aft,none⟩::rest) L w:=
  Xo hd (fun ρ hρ=> by
    have :=Lib.run_from_unsafe (P:=P) (w:=w) (e:=S.1) (cells:=S.2) (⟨b,o,none⟩:Addr) hs hd' hu hsh hl
    simp [execOp,hρ _ _ hx,ptrV,this]) hk
theorem MU {x y:Operand} {t t2 u:TypeId} {q:Addr} {j:TypeInfo} (hu:P.underlying t=some (.pointer u)) (hj:P.info? u=some j) (hx:look L x=some (.pointer (some q))) (hy:look L y=some (.pointer (some q))) (hd:Nat.blt d n=true) (hk:wl P n ops Q rest ((d,.bool false)::L) w):wl P n ops Q (⟨some d,.binOp .neq t x y t2,ty,pos,aft,none⟩::rest) L w:=
  Xo hd (fun ρ hρ=> by
    have h:(Op.equal t (.pointer (some q)) (.pointer (some q))).run P w= .ok true w:= by
      unfold Op.equal Op.maxDepth Op.equalIn
      simp [run_underlying hu,sizeOf,typeInfo,hj,run_sameAddr_same]
    simp [execOp,hρ _ _ hx,hρ _ _ hy,eqGuard,binOp,h]) hk
theorem Sp {f : Nat} {fn : Func} {x : Operand} {ts : Array TypeId} {v : Value} (hf : P.funcs[f]? = some fn) (hname : (fn.name == "runtime.NumGoroutine") = false) (hb : fn.body.isNone = true) (hn : Extern.findNext fn = none) (he : Extern.find fn = some Extern.AbiNoEscape.same)
    (hx:look L x=some v) (hd:Nat.blt d n=true) (hk:wl P n ops Q rest ((d,v)::L) w):wl P n ops Q (⟨some d,.call ⟨.value (.func f), #[x],ts⟩,ty,pos,aft,none⟩::rest) L w:= by
  refine XR rfl hd (R:= fun u w'=>u=v∧w'=w) (fun a ha=>⟨_,_,.inl ?_,rfl,rfl⟩) (by rintro _ _ ⟨rfl,rfl⟩; exact hk)
  have hr:(Extern.AbiNoEscape.same #[v]).run P w= .ok v w:=rfl
  have hc:=run_callFunc_extern hf hname hb hn he #[v] w
  rw[hr]at hc
  simp only[execOp,resolve,Act.eval,Deferred.ofValue,invoke]
  have hxe:=ha.eval hx
  simp
  rw[hxe,hc];rfl
end
end Go.Proofs.YtkcjfoaejijdoaaGreatDoor.M
namespace Go.Proofs
open Go.Shelf
def Tryz.lays162_ren:Go.Shelf.Ren:=⟨fun | 162=>151 | 232=>181 | 227=>182 | 234=>183 | 236=>184 | 228=>217 | 271=>218 | 151=>219 | 120=>242 | 197=>243 | 152=>244 | 260=>250 | 137=>251 | 119=>252 | 224=>253 | 225=>254 | 217=>256 | 266=>257 | n=>n, fun | 9=>9 | 4=>4 | 3=>3 | 5=>5 | 117=>237 | 116=>236 | 0=>0 | 124=>240 | 21=>21 | 105=>264 | 46=>31 | 119=>292 | 139=>295 | 138=>294 | n=>n, fun | 3=>2 | 4=>3 | n=>n⟩
theorem Tryz.lays162:Go.Proofs.Lays.n162 Tryz.prog Tryz.lays162_ren:={
  mixed:= by kernel_rfl
  f119:=Tryz.func252.trans (congrArg some (by kernel_rfl))
  f120:=Tryz.func242.trans (congrArg some (by kernel_rfl))
  f137:=Tryz.func251.trans (congrArg some (by kernel_rfl))
  f151:=Tryz.func219.trans (congrArg some (by kernel_rfl))
  f152:=Tryz.func244.trans (congrArg some (by kernel_rfl))
  f162:=Tryz.func151.trans (congrArg some (by kernel_rfl))
  f197:=Tryz.func243.trans (congrArg some (by kernel_rfl))
  f217:=Tryz.func256.trans (congrArg some (by kernel_rfl))
  f224:=Tryz.func253.trans (congrArg some (by kernel_rfl))
  f225:=Tryz.func254.trans (congrArg some (by kernel_rfl))
  f227:=Tryz.func182.trans (congrArg some (by kernel_rfl))
  f228:=Tryz.func217.trans (congrArg some (by kernel_rfl))
  f232:=Tryz.func181.trans (congrArg some (by kernel_rfl))
  f234:=Tryz.func183.trans (congrArg some (by kernel_rfl))
  f236:=Tryz.func184.trans (congrArg some (by kernel_rfl))
  f260:=Tryz.func250.trans (congrArg some (by kernel_rfl))
  f266:=Tryz.func257.trans (congrArg some (by kernel_rfl))
  f271:=Tryz.func218.trans (congrArg some (by kernel_rfl))
  t0:=Tryz.underlying0
  a0:=Tryz.isAgg0
  z0:=Tryz.sizeOf0
  v0:=Tryz.zeroValue0
  t3:=Tryz.underlying3
  a3:=Tryz.isAgg3
  z3:=Tryz.sizeOf3
  v3:=Tryz.zeroValue3
  t4:=Tryz.underlying4
  a4:=Tryz.isAgg4
  z4:=Tryz.sizeOf4
  v4:=Tryz.zeroValue4
  t5:=Tryz.underlying5
  a5:=Tryz.isAgg5
  z5:=Tryz.sizeOf5
  v5:=Tryz.zeroValue5
  t9:=Tryz.underlying9
  a9:=Tryz.isAgg9
  z9:=Tryz.sizeOf9
  v9:=Tryz.zeroValue9
  t21:=Tryz.underlying21
  a21:=Tryz.isAgg21
  z21:=Tryz.sizeOf21
  v21:=Tryz.zeroValue21
  t46:=Tryz.underlying31
  a46:=Tryz.isAgg31
  z46:=Tryz.sizeOf31
  v46:=Tryz.zeroValue31
  t105:=Tryz.underlying264
  a105:=Tryz.isAgg264
  z105:=Tryz.sizeOf264
  v105:=Tryz.zeroValue264
  t116:=Tryz.underlying236
  a116:=Tryz.isAgg236
  z116:=Tryz.sizeOf236
  t117:=Tryz.underlying237
  a117:=Tryz.isAgg237
  z117:=Tryz.sizeOf237
  v117:=Tryz.zeroValue237
  t119:=Tryz.underlying292
  a119:=Tryz.isAgg292
  z119:=Tryz.sizeOf292
  t124:=Tryz.underlying240
  a124:=Tryz.isAgg240
  z124:=Tryz.sizeOf240
  v124:=Tryz.zeroValue240
  t138:=Tryz.underlying294
  a138:=Tryz.isAgg294
  z138:=Tryz.sizeOf294
  v138:=Tryz.zeroValue294
  t139:=Tryz.underlying295
  a139:=Tryz.isAgg295
  z139:=Tryz.sizeOf295
  v139:=Tryz.zeroValue295
  g3:= by kernel_rfl
  g4:= by kernel_rfl}
open Go.RowKit in
theorem Tryz.strings_TrimRight_one (s:ByteArray) (c:UInt8) (hc:c.toNat<128) (w:World) (hs:s.size≤9223372036854775807):
    Calls Tryz.prog 151 #[.string s,.string ⟨#[c]⟩] w fun e w'=>e= .returned (.string ⟨(Lib.trimRightB s.data.toList c).toArray⟩)∧w'=w:=Any.strings_TrimRight_one Tryz.lays162 s c hc w hs
def Tryz.lays106_ren:Go.Shelf.Ren:=⟨fun | 106=>113 | 213=>164 | 265=>191 | n=>n, fun | 9=>9 | 3=>3 | n=>n, fun | n=>n⟩
theorem Tryz.lays106:Go.Proofs.Lays.n106 Tryz.prog Tryz.lays106_ren:={
  mixed:= by kernel_rfl
  f106:=Tryz.func113.trans (congrArg some (by kernel_rfl))
  f213:=Tryz.func164.trans (congrArg some (by kernel_rfl))
  f265:=Tryz.func191.trans (congrArg some (by kernel_rfl))
  t3:=Tryz.underlying3
  a3:=Tryz.isAgg3
  z3:=Tryz.sizeOf3
  v3:=Tryz.zeroValue3
  t9:=Tryz.underlying9
  a9:=Tryz.isAgg9
  z9:=Tryz.sizeOf9
  v9:=Tryz.zeroValue9}
open Go.RowKit in
theorem Tryz.strings_Compare (a b:ByteArray) (w:World):
    Calls Tryz.prog 113 #[.string a,.string b] w fun e w'=>e= .returned (.int .i64 (Lib.compareBytes a.data.toList b.data.toList))∧w'=w:=Any.strings_Compare Tryz.lays106 a b w
def Tryz.lays122_ren:Go.Shelf.Ren:=⟨fun | 122=>114 | 215=>165 | n=>n, fun | 3=>3 | 4=>4 | n=>n, fun | n=>n⟩
theorem Tryz.lays122:Go.Proofs.Lays.n122 Tryz.prog Tryz.lays122_ren:={
  mixed:= by kernel_rfl
  f122:=Tryz.func114.trans (congrArg some (by kernel_rfl))
  f215:=Tryz.func165.trans (congrArg some (by kernel_rfl))
  t3:=Tryz.underlying3
  a3:=Tryz.isAgg3
  z3:=Tryz.sizeOf3
  v3:=Tryz.zeroValue3
  t4:=Tryz.underlying4
  a4:=Tryz.isAgg4
  z4:=Tryz.sizeOf4
  v4:=Tryz.zeroValue4}
open Go.RowKit in
theorem Tryz.cmp_Compare_int (x y:Int) (w:World):
    Calls Tryz.prog 114 #[.int .i64 x,.int .i64 y] w fun e w'=>e= .returned (.int .i64 (Lib.compareInt x y))∧w'=w:=Any.cmp_Compare_int Tryz.lays122 x y w
def Tryz.laysM316_ren:Go.Shelf.Ren:=⟨fun | 316=>137 | n=>n, fun | 9=>9 | 3=>3 | 4=>4 | 37=>143 | 0=>0 | 127=>230 | 5=>5 | n=>n, fun | n=>n⟩
theorem Tryz.laysM316:Go.Proofs.LaysM.n316 Tryz.prog Tryz.laysM316_ren:={
  mixed:= by kernel_rfl
  f316:=Tryz.func137.trans (congrArg some (by kernel_rfl))
  t0:=Tryz.underlying0
  a0:=Tryz.isAgg0
  z0:=Tryz.sizeOf0
  v0:=Tryz.zeroValue0
  t3:=Tryz.underlying3
  a3:=Tryz.isAgg3
  z3:=Tryz.sizeOf3
  v3:=Tryz.zeroValue3
  t4:=Tryz.underlying4
  a4:=Tryz.isAgg4
  z4:=Tryz.sizeOf4
  v4:=Tryz.zeroValue4
  t9:=Tryz.underlying9
  a9:=Tryz.isAgg9
  z9:=Tryz.sizeOf9
  v9:=Tryz.zeroValue9
  t37:=Tryz.underlying143
  a37:=Tryz.isAgg143
  z37:=Tryz.sizeOf143
  v37:=Tryz.zeroValue143
  t127:=Tryz.underlying230
  a127:=Tryz.isAgg230
  z127:=Tryz.sizeOf230
  v127:=Tryz.zeroValue230
  t5:=Tryz.underlying5
  a5:=Tryz.isAgg5
  z5:=Tryz.sizeOf5
  v5:=Tryz.zeroValue5
  i0:= by kernel_rfl
  i3:= by kernel_rfl
  i4:= by kernel_rfl
  i5:= by kernel_rfl
  i9:= by kernel_rfl
  i37:= by kernel_rfl
  i127:= by kernel_rfl}
open Go.RowKit in
theorem Tryz.stringslite_Clone (s:ByteArray) (w:World) (hlim:s.size≤281474976710656):
    Calls Tryz.prog 137 #[.string s] w fun e w'=>e= .returned (.string s)∧Below w.heap.size w w':=Any.stringslite_Clone Tryz.laysM316 s w hlim
def Tryz.lays190_ren:Go.Shelf.Ren:=⟨fun | 190=>117 | 125=>168 | 258=>167 | 128=>201 | 129=>202 | 302=>192 | 303=>193 | 304=>194 | 305=>195 | 306=>196 | 307=>197 | 308=>198 | 309=>199 | 310=>200 | 333=>232 | 329=>233 | 330=>234 | 334=>235 | 335=>236 | 336=>237 | 344=>248 | n=>n, fun | 31=>61 | 9=>9 | 3=>3 | 46=>31 | 0=>0 | 51=>252 | 53=>22 | 4=>4 | 183=>245 | 182=>244 | 131=>63 | 5=>5 | 218=>274 | 222=>132 | 228=>285 | 229=>286 | n=>n, fun | n=>n⟩
theorem Tryz.lays190:Go.Proofs.Lays.n190 Tryz.prog Tryz.lays190_ren:={
  mixed:= by kernel_rfl
  f125:=Tryz.func168.trans (congrArg some (by kernel_rfl))
  f128:=Tryz.func201.trans (congrArg some (by kernel_rfl))
  f129:=Tryz.func202.trans (congrArg some (by kernel_rfl))
  f190:=Tryz.func117.trans (congrArg some (by kernel_rfl))
  f258:=Tryz.func167.trans (congrArg some (by kernel_rfl))
  f302:=Tryz.func192.trans (congrArg some (by kernel_rfl))
  f303:=Tryz.func193.trans (congrArg some (by kernel_rfl))
  f304:=Tryz.func194.trans (congrArg some (by kernel_rfl))
  f305:=Tryz.func195.trans (congrArg some (by kernel_rfl))
  f306:=Tryz.func196.trans (congrArg some (by kernel_rfl))
  f307:=Tryz.func197.trans (congrArg some (by kernel_rfl))
  f308:=Tryz.func198.trans (congrArg some (by kernel_rfl))
  f309:=Tryz.func199.trans (congrArg some (by kernel_rfl))
  f310:=Tryz.func200.trans (congrArg some (by kernel_rfl))
  f329:=Tryz.func233.trans (congrArg some (by kernel_rfl))
  f330:=Tryz.func234.trans (congrArg some (by kernel_rfl))
  f333:=Tryz.func232.trans (congrArg some (by kernel_rfl))
  f334:=Tryz.func235.trans (congrArg some (by kernel_rfl))
  f335:=Tryz.func236.trans (congrArg some (by kernel_rfl))
  f336:=Tryz.func237.trans (congrArg some (by kernel_rfl))
  f344:=Tryz.func248.trans (congrArg some (by kernel_rfl))
  t0:=Tryz.underlying0
  a0:=Tryz.isAgg0
  z0:=Tryz.sizeOf0
  v0:=Tryz.zeroValue0
  t3:=Tryz.underlying3
  a3:=Tryz.isAgg3
  z3:=Tryz.sizeOf3
  v3:=Tryz.zeroValue3
  t4:=Tryz.underlying4
  a4:=Tryz.isAgg4
  z4:=Tryz.sizeOf4
  v4:=Tryz.zeroValue4
  t5:=Tryz.underlying5
  a5:=Tryz.isAgg5
  z5:=Tryz.sizeOf5
  v5:=Tryz.zeroValue5
  t9:=Tryz.underlying9
  a9:=Tryz.isAgg9
  z9:=Tryz.sizeOf9
  v9:=Tryz.zeroValue9
  t31:=Tryz.underlying61
  a31:=Tryz.isAgg61
  z31:=Tryz.sizeOf61
  v31:=Tryz.zeroValue61
  t46:=Tryz.underlying31
  a46:=Tryz.isAgg31
  z46:=Tryz.sizeOf31
  v46:=Tryz.zeroValue31
  t51:=Tryz.underlying252
  a51:=Tryz.isAgg252
  z51:=Tryz.sizeOf252
  v51:=Tryz.zeroValue252
  t53:=Tryz.underlying22
  a53:=Tryz.isAgg22
  z53:=Tryz.sizeOf22
  v53:=Tryz.zeroValue22
  t131:=Tryz.underlying63
  a131:=Tryz.isAgg63
  z131:=Tryz.sizeOf63
  v131:=Tryz.zeroValue63
  t182:=Tryz.underlying244
  a182:=Tryz.isAgg244
  z182:=Tryz.sizeOf244
  v182:=Tryz.zeroValue244
  t183:=Tryz.underlying245
  a183:=Tryz.isAgg245
  z183:=Tryz.sizeOf245
  v183:=Tryz.zeroValue245
  t218:=Tryz.underlying274
  a218:=Tryz.isAgg274
  z218:=Tryz.sizeOf274
  v218:=Tryz.zeroValue274
  t222:=Tryz.underlying132
  a222:=Tryz.isAgg132
  z222:=Tryz.sizeOf132
  v222:=Tryz.zeroValue132
  t228:=Tryz.underlying285
  a228:=Tryz.isAgg285
  z228:=Tryz.sizeOf285
  v228:=Tryz.zeroValue285
  t229:=Tryz.underlying286
  a229:=Tryz.isAgg286
  z229:=Tryz.sizeOf286
  v229:=Tryz.zeroValue286}
open Go.Sort Go.RowKit in
theorem Tryz.slices_Sort_string (blk off cap:Nat) (ss:List (List UInt8)) (w:World) (hH:Holds encStr w blk off ss.toArray) (hblk:blk<w.heap.size) (hsz:ss.length<4611686018427387904):
    Calls Tryz.prog 117 #[.slice (some ⟨blk,off,none⟩) ss.length cap] w fun e w'=>
      e= .returned (.tuple #[])∧ ∃n os,w'=grow (putRow encStr (Sort.ahead w n) blk off (ss.mergeSort fun x y=>decide (x≤y)).toArray) os:=Any.slices_Sort_string Tryz.lays190 blk off cap ss w hH hblk hsz
def Tryz.lays113_ren:Go.Shelf.Ren:=⟨fun | 113=>148 | n=>n, fun | 28=>47 | 3=>3 | 4=>4 | 9=>9 | 20=>20 | 0=>0 | n=>n, fun | n=>n⟩
theorem Tryz.lays113:Go.Proofs.Lays.n113 Tryz.prog Tryz.lays113_ren:={
  mixed:= by kernel_rfl
  f113:=Tryz.func148.trans (congrArg some (by kernel_rfl))
  t0:=Tryz.underlying0
  a0:=Tryz.isAgg0
  z0:=Tryz.sizeOf0
  v0:=Tryz.zeroValue0
  t3:=Tryz.underlying3
  a3:=Tryz.isAgg3
  z3:=Tryz.sizeOf3
  v3:=Tryz.zeroValue3
  t4:=Tryz.underlying4
  a4:=Tryz.isAgg4
  z4:=Tryz.sizeOf4
  v4:=Tryz.zeroValue4
  t9:=Tryz.underlying9
  a9:=Tryz.isAgg9
  z9:=Tryz.sizeOf9
  v9:=Tryz.zeroValue9
  t20:=Tryz.underlying20
  a20:=Tryz.isAgg20
  z20:=Tryz.sizeOf20
  v20:=Tryz.zeroValue20
  t28:=Tryz.underlying47
  a28:=Tryz.isAgg47
  z28:=Tryz.sizeOf47
  v28:=Tryz.zeroValue47}
open Go.Lib in
theorem Tryz.slices_Max_int (b off n c:Nat) (zs:List Int) (w:World) (hn:0<n) (hz:n≤zs.length) (hbig:n≤9223372036854775807) (hc: ∀j,j<zs.length→w.cell? ⟨b,off+j,none⟩=some (.int .i64 (zs.getD j 0))):
    Calls Tryz.prog 148 #[.slice (some ⟨b,off,none⟩) n c] w fun e w'=>e= .returned (.int .i64 (Lib.maxOf (zs.take n)))∧w'=w:=Any.slices_Max_int Tryz.lays113 b off n c zs w hn hz hbig hc
open Go.RowKit Go.Sort in
theorem Tryz.slices_Sort_string_none (p:Option Addr) (cap:Nat) (w:World):
    Calls Tryz.prog 117 #[.slice p 0 cap] w fun e w'=>e= .returned (.tuple #[])∧w'=w:=Any.slices_Sort_string_none Tryz.lays190 p cap w
end Go.Proofs
