/- frames: Alloc, Free, Set, Page, Fill, New, Copy -/
import Derived.Test.YtkcjfoaejijdoaaGreatDoorDk
import Derived.Test.YtkcjfoaejijdoaaGreatDoorRow
import Derived.Lib.Builder
import Derived.Lib.UnsafeStr
import Derived.Laws.AppendOwn
import Derived.Laws.Externs
import Derived.LaidEql
import Derived.Shelf.Strings.Builder1
import Derived.Shelf.Small.Utf8
import Derived.Shelf.Small.Bits
import Derived.Shelf.Small.Strs
import Derived.Shelf.Small.Wraps
import Derived.Shelf.Strings.BuilderF
import Derived.Shelf.Strings.BuilderK
import Derived.Shelf.Strconv.Itoa0
import Derived.Shelf.LaysM
import Derived.Shelf.Strconv.Clone
import Derived.Shelf.Strings.Search1
import Derived.Shelf.Sort.Plain
import Derived.Shelf.Strings.Runes
import Derived.Shelf.Strings.AsciiSet
import Derived.Shelf.Unicode.DecodeSlow
import Derived.Shelf.Strings.BuilderCap
import Derived.Shelf.Slices.Turned
import Derived.Ground.Names2Prog
import Derived.Shelf.Slices.Clone
import Derived.Shelf.Slices.SearchI
import Derived.Shelf.Slices.Delete
import Derived.Shelf.Slices.Cells
import Derived.Shelf.Slices.In.SortNone
import Derived.Shelf.Slices.Empties
import Derived.Test.YtkcjfoaejijdoaaGreatDoorProg
import Derived.Lib.AppendStr
namespace Go.Proofs.YtkcjfoaejijdoaaGreatDoor
open Go.RowKit M
set_option linter.unusedVariables false
theorem Sl {cl : List FrD} {j : Nat} {x : FrD} (h : cl[j]? = some x) : ((frC.cells cl).drop (0 + j * 65 + 1)).take 64 = X0 (Du x.b) := by
  have h1 := RowC.cells_at (C := frC) h
  have h2 := congrArg (List.drop 1) h1
  rw [List.drop_take, List.drop_drop] at h2
  rw [show 0 + j * 65 + 1 = j * 65 + 1 by omega]
  exact h2
theorem Tq {cl : List FrD} {j : Nat} {x : FrD} (h : cl[j]? = some x) : 0 + j * 65 + 1 + 64 ≤ (frC.cells cl).length := by
  have := (List.getElem?_eq_some_iff.1 h).1
  rw [RowC.cells_len]
  show _ ≤ cl.length * 65
  omega
theorem fr_copy {cl : List FrD} {j : Nat} {x : FrD} {s : Bs} (h : cl[j]? = some x) (hs : s.length = 64) : XC (frC.cells cl) (0 + j * 65 + 1) (X0 (s.take 64)) = frC.cells (cl.set j ⟨x.u, s⟩) := by
  have hj := (List.getElem?_eq_some_iff.1 h).1
  have hE := RowC.cells_at (C := frC) h
  have hf := Tq h
  rw [← RowC.cells_set (C := frC) (X := Ml ⟨x.u, s⟩) rfl hj, List.take_of_length_le (by omega)]
  have e : Ml ⟨x.u, s⟩ = .bool x.u :: X0 s := by unfold Ml; rw [VQ hs]
  rw [e]
  have h0 : (frC.cells cl)[j * 65]? = some (.bool x.u) := by
    have := congrArg (fun q => q[0]?) hE
    simp only [List.getElem?_take, List.getElem?_drop] at this
    exact this
  have hbl : (X0 s).length = 64 := by rw [Gv, hs]
  unfold XC
  show _ = (frC.cells cl).take (j * 65) ++ (.bool x.u :: X0 s) ++ (frC.cells cl).drop (j * 65 + (Value.bool x.u :: X0 s).length)
  rw [List.length_cons, hbl, show 0 + j * 65 + 1 = j * 65 + 1 by omega, List.take_add_one, h0]
  simp [List.append_assoc]
theorem BT {cl : List FrD} {k : Nat} {y : FrD} : (cl.set k y).map RZ = (cl.map RZ).set k (RZ y) := List.map_set
set_option maxRecDepth 100000 in
theorem Kv {w : World} {p : Nat} {fl : List (Option Bs)} {F : Th} (hS : Sat w [Vy p fl, F]) (f : Int) :
    Calls Tryz.prog 91 #[ptrV p 0, intV f] w (Ret fun v w' => v = strV ((Z2 fl f).getD []) ∧ Sat w' [Vy p fl, F]) := by
 refine Qt Tryz.func91 rfl Tryz.ntmps91 rfl ?_
 refine Qd (Qa (Qe rfl rfl (Qf (Qc (Qd (Qd (Qa (Qb rfl rfl (Qb rfl rfl ?_)))))))))
 have hC1 := hS.split [0] [true, false] rfl; dsimp only [QC, Qz, Q9, Q8, Q7] at hC1
 refine Qo Rt rfl (Vx hC1 f) rfl ?_
 rintro e w1 ⟨_, rfl, rfl, hS1⟩; refine ⟨_, rfl, ?_⟩
 replace hS1 := hS1.join rfl; dsimp only [QU, QT, Q8, Q7] at hS1; clear hC1
 refine QS rfl rfl ?_
 refine Qf (Qc ?_)
 refine QR rfl (fun h2 => ?_) (fun h2 => ?_)
 ·refine Qd (Qa (Qe rfl rfl (Qf (Qc (Q0 (Qs ?_))))))
  refine QV (.inr rfl) rfl rfl ?_
  exact ⟨_, rfl, by rw [show Z2 fl f = none from by cases hq : Z2 fl f with | none => rfl | some b => simp_all]; rfl, hS1.pick [0, 1] rfl⟩
 obtain ⟨cb, hcb⟩ := Option.isSome_iff_exists.1 (show (Z2 fl f).isSome = true by simpa using h2)
 refine Qy (Qc (Qd ?_))
 obtain ⟨fa, fc, cl, hfl, hcl, hSo⟩ := YT (hS1.pick [0, 1] rfl)
 have hul := H6 fl; have hfll := congrArg List.length hfl; rw [List.length_map] at hfll
 obtain ⟨hf0, hfk⟩ := Jy hcb
 have hfk2 := hfk
 rw [hfl, List.getElem?_map] at hfk2
 obtain ⟨x, hx, hxo⟩ := Option.map_eq_some_iff.1 hfk2
 have hxu : x.u = true ∧ Du x.b = cb := by unfold RZ at hxo; split at hxo; (rename_i q; cases hxo; exact ⟨q, rfl⟩); cases hxo
 have hxl := (List.getElem?_eq_some_iff.1 hx).1
 obtain ⟨ob, oc9, hq9, _⟩ := hSo.own_at 1 rfl (by omega)
 cases hq9
 refine Qa (Qb rfl rfl (Qj rfl rfl ?_))
 refine Qg rfl Jn rfl ?_
 refine Qu rfl Hw (by exact hSo.cell 0 rfl rfl) rfl ?_
 refine Qb rfl rfl ?_
 refine Z1 f.toNat rfl rfl (by omega) hxl HK rfl ?_
 refine Qg rfl V8 rfl ?_
 refine K7 Tryz.underlying166 rfl rfl D8 rfl ?_
 refine Xq rfl (ev_strR 1 hSo cb rfl rfl rfl Tryz.underlying143 Tryz.underlying5 Tryz.underlying9 (by rw [Sl hx, hxu.2]) (by rw [← hxu.2, VR])) ?_
 refine Qe rfl rfl (Qf (Qc ?_))
 refine Qh (L' := [(4, _)]) (Hd rfl) ?_
 refine Q0 ?_
 refine QV (.inr rfl) rfl rfl ?_
 exact ⟨_, rfl, by rw [hcb]; rfl, WR hfl hcl (hSo.pick [0, 1, 2] rfl)⟩
def HE (fl : List (Option Bs)) (f : Int) (b : Bs) : List (Option Bs) := match Z2 fl f with | some _ => fl.set f.toNat (some b) | none => fl
theorem RY {fl : List (Option Bs)} {f : Int} {b c : Bs} (h : Z2 fl f = some c) : HE fl f b = fl.set f.toNat (some b) := by unfold HE; rw [h]
theorem Tr {fl : List (Option Bs)} {f : Int} {b : Bs} (h : Z2 fl f = none) : HE fl f b = fl := by unfold HE; rw [h]
set_option maxRecDepth 100000 in
theorem YS {w : World} {p : Nat} {fl : List (Option Bs)} {F : Th} (hS : Sat w [Vy p fl, F]) (f : Int) (s : Bs) (hs : s.length = 64) :
    Calls Tryz.prog 160 #[ptrV p 0, intV f, strV s] w (Ret fun v w' => ∃ e, v = intV e ∧ Sat w' [Vy p (HE fl f s), F]) := by
 refine Qt Tryz.func160 rfl Tryz.ntmps160 rfl ?_
 refine Qd (Qa (Qe rfl rfl (Qf (Qc (Qd (Qd (Qa (Qb rfl rfl (Qb rfl rfl ?_)))))))))
 have hC1 := hS.split [0] [true, false] rfl; dsimp only [QC, Qz, Q9, Q8, Q7] at hC1
 refine Qo Rt rfl (Vx hC1 f) rfl ?_
 rintro e w1 ⟨_, rfl, rfl, hS1⟩; refine ⟨_, rfl, ?_⟩
 replace hS1 := hS1.join rfl; dsimp only [QU, QT, Q8, Q7] at hS1; clear hC1
 refine QS rfl rfl ?_
 refine Qf (Qc ?_)
 refine QR rfl (fun h2 => ?_) (fun h2 => ?_)
 ·refine Qd (Qa (Qe rfl rfl (Qf (Qc (Q0 (Qs ?_))))))
  refine QV (.inr rfl) rfl rfl ?_
  exact ⟨_, rfl, _, rfl, by rw [Tr (by cases hq : Z2 fl f with | none => rfl | some b => simp_all)]; exact hS1.pick [0, 1] rfl⟩
 obtain ⟨cb, hcb⟩ := Option.isSome_iff_exists.1 (show (Z2 fl f).isSome = true by simpa using h2)
 refine Qy (Qc (Qd ?_))
 obtain ⟨fa, fc, cl, hfl, hcl, hSo⟩ := YT (hS1.pick [0, 1] rfl)
 have hul := H6 fl; have hfll := congrArg List.length hfl; rw [List.length_map] at hfll
 obtain ⟨hf0, hfk⟩ := Jy hcb
 have hfk2 := hfk
 rw [hfl, List.getElem?_map] at hfk2
 obtain ⟨x, hx, hxo⟩ := Option.map_eq_some_iff.1 hfk2
 have hxu : x.u = true ∧ Du x.b = cb := by unfold RZ at hxo; split at hxo; (rename_i q; cases hxo; exact ⟨q, rfl⟩); cases hxo
 have hxl := (List.getElem?_eq_some_iff.1 hx).1
 obtain ⟨ob, oc9, hq9, _⟩ := hSo.own_at 1 rfl (by omega)
 cases hq9
 refine Qa (Qb rfl rfl (Qj rfl rfl ?_))
 refine Qg rfl Jn rfl ?_
 refine Qu rfl Hw (by exact hSo.cell 0 rfl rfl) rfl ?_
 refine Qb rfl rfl ?_
 refine Z1 f.toNat rfl rfl (by omega) hxl HK rfl ?_
 refine Qg rfl V8 rfl ?_
 refine K7 Tryz.underlying166 rfl rfl D8 rfl ?_
 refine Qb rfl rfl ?_
 refine NY 1 hSo rfl rfl rfl rfl Tryz.underlying143 D8 (by have := Tq hx; omega) (fr_copy hx hs) rfl ?_
 intro w3 hS3; dsimp only [List.set] at hS3
 clear hSo
 refine Qe rfl rfl (Qf (Qc ?_))
 refine Qh (L' := [(7, _), (6, _), (0, _), (1, _)]) (Jr rfl rfl rfl rfl) ?_
 refine Qd (Qa (Qb rfl rfl (Qj rfl rfl ?_)))
 refine Qg rfl Jn rfl ?_
 refine Qu rfl Hw (by exact hS3.cell 0 rfl rfl) rfl ?_
 refine Qb rfl rfl ?_
 refine Z1 f.toNat rfl rfl (by omega) hxl HK rfl ?_
 refine Qg rfl V8 rfl ?_
 refine Qb rfl rfl ?_
 refine Ry Tryz.underlying166 rfl rfl rfl (by rw [hs]; rfl) D8 rfl ?_
 refine GP 1 hS3 rfl rfl rfl Tryz.underlying143 zr_5 rfl (by have := Tq (cl := cl.set f.toNat ⟨x.u, s⟩) (j := f.toNat) (x := ⟨x.u, s⟩) (by rw [List.getElem?_set_self hxl]); simp only [Nat.zero_mul]; omega) (xs' := frC.cells (cl.set f.toNat ⟨x.u, s⟩)) (by simp [XC]) rfl ?_
 intro w4 hS4a; dsimp only [List.set] at hS4a
 have hS4 := Sat.row_cast (C := frC) (l := cl.set f.toNat ⟨x.u, s⟩) (hS4a.pull 1 rfl) (by rw [List.length_set]) rfl rfl; dsimp only [List.eraseIdx] at hS4
 clear hS3
 refine Qf (Qc ?_)
 refine Qh (L' := [(6, _)]) (Hd rfl) ?_
 refine Qd (Qa (Qe rfl rfl (Qf (Qc (Q0 ?_)))))
 refine QV (.inr rfl) rfl rfl ?_
 have hfs : fl.set f.toNat (some s) = (cl.set f.toNat ⟨x.u, s⟩).map RZ := by rw [BT, hfl]; congr 1; unfold RZ; rw [if_pos hxu.1, VQ hs]
 exact ⟨_, rfl, _, rfl, by rw [RY hcb]; exact WR hfs (by rw [List.length_set]; exact hcl) (by rw [UC hfk]; exact hS4.pick [1, 0, 2] rfl)⟩
theorem frE_set {x : FrD} {at_ : Nat} {b : UInt8} (h : at_ < 64) : (Ml x).set (1 + at_) (WA b) = Ml ⟨x.u, (Du x.b).set at_ b⟩ := by
  unfold Ml
  rw [Nat.add_comm 1 at_, List.set_cons_succ]
  congr 1
  dsimp only
  rw [VQ (b := (Du x.b).set at_ b) (by rw [List.length_set, VR])]
  simp [X0, List.map_set, WA]
set_option maxRecDepth 100000 in
theorem fru_sp {w : World} {F : Th} (hS : Sat w [F]) (x : FrD) :
    Calls Tryz.prog 222 #[.agg (Ml x).toArray] w (Ret fun v w' => v = .bool (!x.u) ∧ Sat w' [F]) := by
 refine Qt Tryz.func222 rfl Tryz.ntmps222 rfl ?_
 refine Qd (Qa ?_)
 refine Zf hS rfl rfl rfl ?_
 intro bp wbp hSbp0
 have hSbp : Sat wbp [QO bp (Ml x), F] := hSbp0
 refine Qe rfl rfl (Qf (Qc (Qd (Qa ?_))))
 refine Qg rfl Gb rfl ?_
 refine Qu rfl Gz (by exact hSbp.cell 0 rfl rfl) rfl ?_
 refine QS rfl rfl ?_
 refine Qe rfl rfl (Qf (Qc (Q0 ?_)))
 refine QV (.inr rfl) rfl rfl ?_
 exact ⟨_, rfl, rfl, hSbp.pick [1] rfl⟩
set_option maxRecDepth 100000 in
theorem frix_sp {w : World} {F : Th} (hS : Sat w [F]) {lv : Value} {l : List FrD} (hL : Ent F (RdL frC lv l)) :
    Calls Tryz.prog 221 #[lv, .func (.func 222) #[] #[]] w (Ret fun v w' => (v = intV (-1) ∧ (∀ y ∈ l, y.u = true) ∧ Sat w' [F]) ∨ (∃ (k : Nat) (x : FrD), v = intV (k : Int) ∧ l[k]? = some x ∧ x.u = false ∧ Sat w' [F])) := by
 obtain ⟨ao, cap, rfl, hmax⟩ := (hL.sat hS 0 rfl).shape
 refine Qt Tryz.func221 rfl Tryz.ntmps221 rfl ?_
 refine Qd (Qa (Qe rfl rfl (Qf (Qc (Qd (Qd (Qa (Qb rfl rfl ?_))))))))
 refine XU Tryz.underlying181 rfl rfl ?_
 refine Qb rfl rfl (Qf (Qc (Q1 ?_)))
 refine Xw (fun K0 E0 W0 => ∃ (i : Nat), K0 = l.length - i ∧ E0 = [(0, .slice ao l.length cap), (1, .func (.func 222) #[] #[]), (7, intV (l.length : Int)), (8, intV (i : Int))] ∧ Sat W0 [F] ∧ (i ≤ l.length) ∧ (∀ j y, j < i → l[j]? = some y → y.u = true)) (L0 := [(0, _), (1, _), (7, _), (8, _)]) (l.length - 0) (Jr rfl rfl rfl rfl) ⟨0, rfl, rfl, hS, by omega, by omega⟩ ?_
 rintro _ _ w1 ⟨i, rfl, rfl, hS1, hi, hno⟩
 refine Qd (Qa ?_)
 refine Xt rfl rfl rfl ?_
 refine Qf (Qc (Qd ?_))
 refine Qx rfl (fun h2 => ?_) (fun h2 => ?_)
 ·obtain ⟨x, hx⟩ : ∃ x, l[i]? = some x := ⟨_, List.getElem?_eq_getElem (by omega)⟩
  obtain ⟨b, off, rfl, _⟩ := (hL.sat hS1 0 rfl).get hx
  refine Qy (Qc (Qd (Q1 (Qd (Qa (Qb rfl rfl (Qe rfl rfl (Qf (Qc (Qd (Qa (Qb rfl rfl (Qb rfl rfl (Qb rfl rfl ?_))))))))))))))
  refine Z1 i rfl rfl (by rfl) (by exact (List.getElem?_eq_some_iff.1 hx).1) HK rfl ?_
  refine GO rfl ag_195 (by rw [Ce]; exact Pf) (vs := Ml x) ((hL.sat hS1 0 rfl).at_ hx) rfl ?_
  have hC3 := hS1.split [] [false] rfl; dsimp only [QC, Qz, Q9, Q8, Q7] at hC3
  refine R1 rfl cal_222 rfl (fru_sp hC3 x) rfl ?_
  rintro e w3 ⟨_, rfl, rfl, hS3⟩; refine ⟨_, rfl, ?_⟩
  replace hS3 := hS3.join rfl; dsimp only [QU, QT, Q8, Q7] at hS3; clear hC3
  clear hS1
  refine Qf (Qc ?_)
  refine Qh (L' := [(16, _), (5, _), (0, _), (1, _), (7, _), (8, _)]) (Wf rfl rfl rfl rfl rfl rfl) ?_
  refine QR rfl (fun h4 => ?_) (fun h4 => ?_)
  ·have hux : x.u = false := by simpa using h4
   refine Qd (Qa (Qb rfl rfl (Qe rfl rfl (Qf (Qc (Q0 (QE (Qs (Qs (QE (Qs ?_)))))))))))
   refine QV (.inr rfl) rfl rfl ?_
   exact ⟨_, rfl, .inr ⟨i, x, rfl, hx, hux, hS3.pick [0] rfl⟩⟩
  have hux : x.u = true := by simpa using h4
  refine Qy (Qp (Qc (Qa ?_)))
  refine QN rfl rfl (by omega) (by omega) rfl ?_
  refine Qb rfl rfl (Qf ?_)
  exact QG (L1 := [(0, _), (1, _), (7, _), (8, intV ((i + 1 : Nat) : Int))]) (Jr rfl rfl rfl rfl) (k1 := l.length - (i + 1)) (by omega) ⟨i + 1, rfl, rfl, hS3.pick [0] rfl, by omega, fun j y hj hq => by by_cases e : j = i; (subst e; rw [hx] at hq; cases hq; exact hux); exact hno j y (by omega) hq⟩
 refine QZ (Qv (Qv (Q4 (Qc (Qd (Qa (Qe rfl rfl (Qf (Qc (Q0 ?_))))))))))
 refine QV (.inr rfl) rfl rfl ?_
 exact ⟨_, rfl, .inl ⟨rfl, fun y hm => by obtain ⟨j, hj⟩ := List.mem_iff_getElem?.1 hm; exact hno j y (by have := (List.getElem?_eq_some_iff.1 hj).1; omega) hj, hS1.pick [0] rfl⟩⟩
set_option maxRecDepth 100000 in
theorem RX {w : World} {p : Nat} {fl : List (Option Bs)} {F : Th} (hS : Sat w [Vy p fl, F]) :
    Calls Tryz.prog 187 #[ptrV p 0] w (Ret fun v w' => (v = .tuple #[intV 0, .bool false] ∧ (∀ o ∈ fl, o ≠ none) ∧ Sat w' [Vy p fl, F]) ∨ (∃ k : Nat, fl[k]? = some none ∧ v = .tuple #[intV (k : Int), .bool true] ∧ Sat w' [Vy p (fl.set k (some (Du []))), F])) := by
 refine Qt Tryz.func187 rfl Tryz.ntmps187 rfl ?_
 refine Qd (Qa (Qe rfl rfl (Qe rfl rfl (Qf (Qc (Qd ?_))))))
 obtain ⟨fa, fc, cl, hfl, hcl, hSo⟩ := YT (hS.pick [0, 1] rfl)
 have hul := H6 fl; have hfll := congrArg List.length hfl; rw [List.length_map] at hfll
 refine Qa (Qb rfl rfl (Qj rfl rfl ?_))
 refine Qg rfl Jn rfl ?_
 refine Qu rfl Hw (by exact hSo.cell 0 rfl rfl) rfl ?_
 have hC1 := hSo.split [] [false, false, false] rfl; dsimp only [QC, Qz, Q9, Q8, Q7] at hC1
 refine Qo cal_221 rfl (frix_sp hC1 (Ent.starL (Hr (C := frC) (l := cl) (by omega)) 1 rfl)) rfl ?_
 rintro e w1 ⟨_, rfl, (⟨rfl, hno, hS1⟩ | ⟨k, x, rfl, hx, hux, hS1⟩)⟩
 ·refine ⟨_, rfl, ?_⟩
  replace hS1 := hS1.join rfl; dsimp only [QU, QT, Q8, Q7] at hS1; clear hC1
  clear hSo
  refine Qe rfl rfl (Qf (Qc (Qd (Qd (Qa (Qb rfl rfl ?_))))))
  refine Xt rfl rfl rfl ?_
  refine Qf (Qc ?_)
  refine Qh (L' := [(11, _), (4, _), (3, _), (2, _), (0, _)]) (ZH rfl rfl rfl rfl rfl) ?_
  refine Qx rfl (fun h2 => ?_) (fun h2 => ?_)
  ·refine Qd (Qa (Qe rfl rfl (Qe rfl rfl (Qf (Qc (Q0 (Qs ?_)))))))
   refine Wo (.inr rfl) rfl rfl rfl ?_
   exact ⟨_, rfl, .inl ⟨rfl, fun o ho => by rw [hfl] at ho; obtain ⟨y, hy, rfl⟩ := List.mem_map.1 ho; unfold RZ; rw [if_pos (hno y hy)]; simp, WR hfl hcl (hS1.pick [0, 1, 2] rfl)⟩⟩
  exact absurd h2 (by decide)
 refine ⟨_, rfl, ?_⟩
 replace hS1 := hS1.join rfl; dsimp only [QU, QT, Q8, Q7] at hS1; clear hC1
 clear hSo
 refine Qe rfl rfl (Qf (Qc (Qd (Qd (Qa (Qb rfl rfl ?_))))))
 refine Xt rfl rfl rfl ?_
 refine Qf (Qc ?_)
 refine Qh (L' := [(11, _), (4, _), (3, _), (2, _), (0, _)]) (ZH rfl rfl rfl rfl rfl) ?_
 refine Qx rfl (fun h3 => ?_) (fun h3 => ?_)
 ·exact absurd h3 (by omega)
 refine Qy (Qc (Qd (Qa (Qb rfl rfl (Qj rfl rfl ?_)))))
 refine Qg rfl Jn rfl ?_
 refine Qu rfl Hw (by exact hS1.cell 0 rfl rfl) rfl ?_
 refine Qb rfl rfl ?_
 refine Zy rfl PB asz_195 zr_195 rfl rfl ?_
 refine Xp frC 1 k hS1 rfl rfl rfl (by rfl) hx HK rfl ?_
 intro bx4 capx4 hvx4
 refine ZJ 1 k ⟨true, []⟩ hS1 rfl hvx4 rfl rfl Pf (by rfl) (by exact (List.getElem?_eq_some_iff.1 hx).1) ?_
 intro w5 hS6; dsimp only [List.set] at hS6
 clear hS1
 refine Qf (Qc ?_)
 refine Qh (L' := [(4, _), (3, _), (2, _), (0, _)]) (Jr rfl rfl rfl rfl) ?_
 refine Qd (Qa (Qb rfl rfl (Qj rfl rfl ?_)))
 refine Qg rfl VB rfl ?_
 refine Qu rfl QW (by exact hS6.cell 0 rfl rfl) rfl ?_
 refine QN rfl rfl (by omega) (by omega) rfl ?_
 refine Qj rfl rfl ?_
 refine Qg rfl VB rfl ?_
 first | (refine Xb hS6 rfl rfl YM (by rfl) (i := 0) rfl (by exact Nat.le_of_ble_eq_true rfl) ?_)
 intro w7 hS8; dsimp only [List.set] at hS8
 clear hS6
 refine Qf (Qc ?_)
 refine Qh (L' := [(4, _), (3, _), (2, _)]) (Y2 rfl rfl rfl) ?_
 refine Qd (Qa (Qb rfl rfl (Qe rfl rfl (Qe rfl rfl (Qf (Qc (Q0 ?_)))))))
 refine Wo (.inr rfl) rfl rfl rfl ?_
 have hfk : fl[k]? = some none := by rw [hfl, List.getElem?_map, hx, Option.map_some]; unfold RZ; rw [if_neg (by rw [hux]; decide)]
 have hfs : fl.set k (some (Du [])) = (cl.set k ⟨true, []⟩).map RZ := by rw [BT, hfl]; rfl
 exact ⟨_, rfl, .inr ⟨k, hfk, rfl, WR hfs (by rw [List.length_set]; exact hcl) (by rw [GU hfk, Int.natCast_add]; exact hS8.pick [0, 1, 2] rfl)⟩⟩
def UP (fl : List (Option Bs)) (f : Int) : List (Option Bs) := match Z2 fl f with | some _ => fl.set f.toNat none | none => fl
set_option maxRecDepth 100000 in
theorem Nu {w : World} {p : Nat} {fl : List (Option Bs)} {F : Th} (hS : Sat w [Vy p fl, F]) (f : Int) :
    Calls Tryz.prog 185 #[ptrV p 0, intV f] w (Ret fun v w' => ∃ e, v = intV e ∧ Sat w' [Vy p (UP fl f), F]) := by
 refine Qt Tryz.func185 rfl Tryz.ntmps185 rfl ?_
 refine Qd (Qa (Qe rfl rfl (Qf (Qc (Qd (Qd (Qa (Qb rfl rfl (Qb rfl rfl ?_)))))))))
 have hC1 := hS.split [0] [true, false] rfl; dsimp only [QC, Qz, Q9, Q8, Q7] at hC1
 refine Qo Rt rfl (Vx hC1 f) rfl ?_
 rintro e w1 ⟨_, rfl, rfl, hS1⟩; refine ⟨_, rfl, ?_⟩
 replace hS1 := hS1.join rfl; dsimp only [QU, QT, Q8, Q7] at hS1; clear hC1
 refine QS rfl rfl ?_
 refine Qf (Qc ?_)
 refine QR rfl (fun h2 => ?_) (fun h2 => ?_)
 ·refine Qd (Qa (Qe rfl rfl (Qf (Qc (Q0 (Qs ?_))))))
  refine QV (.inr rfl) rfl rfl ?_
  exact ⟨_, rfl, _, rfl, by rw [show UP fl f = fl by unfold UP; rw [show Z2 fl f = none from by cases hq : Z2 fl f with | none => rfl | some b => simp_all]]; exact hS1.pick [0, 1] rfl⟩
 obtain ⟨cb, hcb⟩ := Option.isSome_iff_exists.1 (show (Z2 fl f).isSome = true by simpa using h2)
 refine Qy (Qc (Qd ?_))
 obtain ⟨fa, fc, cl, hfl, hcl, hSo⟩ := YT (hS1.pick [0, 1] rfl)
 have hul := H6 fl; have hfll := congrArg List.length hfl; rw [List.length_map] at hfll
 obtain ⟨hf0, hfk⟩ := Jy hcb
 have hfk2 := hfk
 rw [hfl, List.getElem?_map] at hfk2
 obtain ⟨x, hx, hxo⟩ := Option.map_eq_some_iff.1 hfk2
 have hxu : x.u = true ∧ Du x.b = cb := by unfold RZ at hxo; split at hxo; (rename_i q; cases hxo; exact ⟨q, rfl⟩); cases hxo
 have hxl := (List.getElem?_eq_some_iff.1 hx).1
 obtain ⟨ob, oc9, hq9, _⟩ := hSo.own_at 1 rfl (by omega)
 cases hq9
 refine Qa (Qb rfl rfl (Qj rfl rfl ?_))
 refine Qg rfl Jn rfl ?_
 refine Qu rfl Hw (by exact hSo.cell 0 rfl rfl) rfl ?_
 refine Qb rfl rfl ?_
 refine Z1 f.toNat rfl rfl (by omega) hxl HK rfl ?_
 refine Qg rfl Gb rfl ?_
 refine WB 1 f.toNat 0 ⟨false, x.b⟩ hSo rfl rfl rfl (by show 0 + f.toNat * 65 + 0 = f.toNat * 65 + 0; omega) rfl Pe hx rfl (by decide) rfl rfl ?_
 intro w3 hS3; dsimp only [List.set] at hS3
 clear hSo
 refine Qf (Qc ?_)
 refine Qh (L' := [(4, _), (0, _)]) (H0 rfl rfl) ?_
 refine Qd (Qa (Qb rfl rfl (Qj rfl rfl ?_)))
 refine Qg rfl VB rfl ?_
 refine Qu rfl QW (by exact hS3.cell 0 rfl rfl) rfl ?_
 refine UZ rfl rfl (by omega) (by omega) rfl ?_
 refine Qj rfl rfl ?_
 refine Qg rfl VB rfl ?_
 first | (refine Xb hS3 rfl rfl YM (by rfl) (i := 0) rfl (by exact Nat.le_of_ble_eq_true rfl) ?_)
 intro w4 hS5; dsimp only [List.set] at hS5
 clear hS3
 refine Qf (Qc (Qd (Qa (Qe rfl rfl (Qf (Qc (Q0 ?_)))))))
 refine QV (.inr rfl) rfl rfl ?_
 have hfs : fl.set f.toNat none = (cl.set f.toNat ⟨false, x.b⟩).map RZ := by rw [BT, hfl]; rfl
 have hus := R6 hfk
 exact ⟨_, rfl, _, rfl, by rw [show UP fl f = fl.set f.toNat none by unfold UP; rw [hcb]]; exact WR hfs (by rw [List.length_set]; exact hcl) (by rw [show ((WZ (fl.set f.toNat none) : Nat) : Int) = (WZ fl : Nat) - 1 by omega]; exact hS5.pick [0, 1, 2] rfl)⟩
set_option maxRecDepth 100000 in
theorem Mk {w : World} {p : Nat} {fl : List (Option Bs)} {F : Th} (hS : Sat w [Vy p fl, F]) (f at_ : Int) (b : UInt8) :
    Calls Tryz.prog 108 #[ptrV p 0, intV f, intV at_, WA b] w (Ret fun v w' => (((Z2 fl f).isSome = false ∨ at_ < 0 ∨ 64 ≤ at_) ∧ Sat w' [Vy p fl, F]) ∨ (v = intV 0 ∧ ∃ cb, Z2 fl f = some cb ∧ (0 ≤ at_ ∧ at_ < 64) ∧ Sat w' [Vy p (fl.set f.toNat (some (cb.set at_.toNat b))), F])) := by
 refine Qt Tryz.func108 rfl Tryz.ntmps108 rfl ?_
 refine Qd (Qa (Qe rfl rfl (Qf (Qc (Qd (Q1 (Qd (Qa (Qb rfl rfl (Qb rfl rfl ?_))))))))))
 have hC1 := hS.split [0] [true, false] rfl; dsimp only [QC, Qz, Q9, Q8, Q7] at hC1
 refine Qo Rt rfl (Vx hC1 f) rfl ?_
 rintro e w1 ⟨_, rfl, rfl, hS1⟩; refine ⟨_, rfl, ?_⟩
 replace hS1 := hS1.join rfl; dsimp only [QU, QT, Q8, Q7] at hS1; clear hC1
 refine QS rfl rfl ?_
 refine Qe rfl rfl (Qf (Qc ?_))
 refine QR rfl (fun h2 => ?_) (fun h2 => ?_)
 ·refine Qd (Qa (Qe rfl rfl (Qf (Qc (Q0 (QE (Qs ?_)))))))
  refine QV (.inr rfl) rfl rfl ?_
  exact ⟨_, rfl, by rw [show Z2 fl f = none from by cases hq : Z2 fl f with | none => rfl | some b => simp_all]; exact .inl ⟨by simp, hS1.pick [0, 1] rfl⟩⟩
 obtain ⟨cb, hcb⟩ := Option.isSome_iff_exists.1 (show (Z2 fl f).isSome = true by simpa using h2)
 refine Qd (Qa (Qb rfl rfl ?_))
 refine Xt rfl rfl rfl ?_
 refine Qb rfl rfl ?_
 refine Xk 17 rfl (fun h3 => ?_) (fun h3 => ?_)
 ·refine Ql rfl rfl (decide_eq_true h3) rfl ?_
  refine Ql rfl rfl (decide_eq_true h3) rfl ?_
  refine Xg rfl (decide_eq_true h3) rfl rfl ?_
  refine Qe rfl rfl (Qf (Qc ?_))
  refine Qh (L' := [(14, _), (8, _), (0, _), (1, _), (2, _), (3, _)]) (Wf rfl rfl rfl rfl rfl rfl) ?_
  refine XP rfl ?_
  refine Qd (Qa (Qe rfl rfl (Qf (Qc (Q0 (QE (Qs ?_)))))))
  refine QV (.inr rfl) rfl rfl ?_
  exact ⟨_, rfl, .inl ⟨by omega, hS1.pick [0, 1] rfl⟩⟩
 refine Qn rfl rfl (decide_eq_false h3) ?_
 refine Qb rfl rfl ?_
 refine Qn rfl rfl (decide_eq_false h3) ?_
 refine JE rfl rfl rfl ?_
 refine QX rfl (decide_eq_false h3) rfl rfl ?_
 refine Qe rfl rfl (Qf (Qc ?_))
 refine Qh (L' := [(14, _), (8, _), (0, _), (1, _), (2, _), (3, _)]) (Wf rfl rfl rfl rfl rfl rfl) ?_
 refine Qx rfl (fun h4 => ?_) (fun h4 => ?_)
 ·refine Qd (Qa (Qe rfl rfl (Qf (Qc (Q0 (QE (Qs ?_)))))))
  refine QV (.inr rfl) rfl rfl ?_
  exact ⟨_, rfl, .inl ⟨by omega, hS1.pick [0, 1] rfl⟩⟩
 refine Qy (Qp (Qc (Qd ?_)))
 obtain ⟨fa, fc, cl, hfl, hcl, hSo⟩ := YT (hS1.pick [0, 1] rfl)
 have hul := H6 fl; have hfll := congrArg List.length hfl; rw [List.length_map] at hfll
 obtain ⟨hf0, hfk⟩ := Jy hcb
 have hfk2 := hfk
 rw [hfl, List.getElem?_map] at hfk2
 obtain ⟨x, hx, hxo⟩ := Option.map_eq_some_iff.1 hfk2
 have hxu : x.u = true ∧ Du x.b = cb := by unfold RZ at hxo; split at hxo; (rename_i q; cases hxo; exact ⟨q, rfl⟩); cases hxo
 have hxl := (List.getElem?_eq_some_iff.1 hx).1
 obtain ⟨ob, oc9, hq9, _⟩ := hSo.own_at 1 rfl (by omega)
 cases hq9
 refine Qa (Qb rfl rfl (Qj rfl rfl ?_))
 refine Qg rfl Jn rfl ?_
 refine Qu rfl Hw (by exact hSo.cell 0 rfl rfl) rfl ?_
 refine Qb rfl rfl (Qb rfl rfl (Qb rfl rfl ?_))
 refine Z1 f.toNat rfl rfl (by omega) hxl HK rfl ?_
 refine Qg rfl V8 rfl ?_
 refine G8 at_.toNat Tryz.underlying166 rfl rfl (by omega) (by omega) D8 rfl ?_
 refine WB 1 f.toNat (1 + at_.toNat) (⟨x.u, (Du x.b).set at_.toNat b⟩ : FrD) hSo rfl rfl rfl (by show 0 + f.toNat * 65 + 1 + at_.toNat * 1 = f.toNat * 65 + (1 + at_.toNat); omega) rfl D8 hx rfl (by show 1 + at_.toNat < 65; omega) (show (Ml x).set (1 + at_.toNat) (WA b) = Ml ⟨x.u, (Du x.b).set at_.toNat b⟩ from frE_set (by omega)) rfl ?_
 intro w5 hS5; dsimp only [List.set] at hS5
 clear hSo
 refine Qf (Qc ?_)
 refine Qh (L' := [(8, _)]) (Hd rfl) ?_
 refine Qd (Qa (Qe rfl rfl (Qf (Qc (Q0 ?_)))))
 refine QV (.inr rfl) rfl rfl ?_
 have hfs : fl.set f.toNat (some (cb.set at_.toNat b)) = (cl.set f.toNat ⟨x.u, (Du x.b).set at_.toNat b⟩).map RZ := by rw [BT, hfl]; congr 1; unfold RZ; rw [if_pos hxu.1, VQ (by rw [List.length_set, VR]), hxu.2]
 exact ⟨_, rfl, .inr ⟨rfl, cb, hcb, by omega, WR hfs (by rw [List.length_set]; exact hcl) (by rw [UC hfk]; exact hS5.pick [0, 1, 2] rfl)⟩⟩
theorem MV (m : Nat) : WZ (List.replicate m none) = 0 := by unfold WZ; simp
theorem frow {Z : List Value} (hZ : Z = Ml ⟨false, []⟩) (m : Nat) : (List.replicate m Z).flatten = frC.cells (List.replicate m ⟨false, []⟩) := by
  subst hZ
  induction m with
  | zero => rfl
  | succ m ih => rw [List.replicate_succ, List.flatten_cons, ih, List.replicate_succ]; rfl
set_option maxRecDepth 100000 in
theorem Sj {w : World} {F : Th} (hS : Sat w [F]) (n : Int) :
    Calls Tryz.prog 57 #[intV n] w (Ret fun v w' => ∃ p, v = ptrV p 0 ∧ Sat w' [Vy p (List.replicate (min (max n 0) 4096).toNat none), F]) := by
 refine Qt Tryz.func57 rfl Tryz.ntmps57 rfl ?_
 refine Qd (Qa (Qe rfl rfl (Qf (Qc (Qd (Qa (Qb rfl rfl ?_)))))))
 refine JL rfl rfl rfl ?_
 refine HS rfl rfl rfl ?_
 refine BA hS (min (max n 0) 4096).toNat rfl rfl (by omega) Tryz.underlying181 ifo_195 rfl (by omega) (by omega) rfl ?_
 intro db w1 hS1a; have hS1 := hS1a.row_cast (l := List.replicate (min (max n 0) 4096).toNat ⟨false, []⟩) (C := frC) (by simp) rfl (frow rfl _)
 refine Zy rfl PD asz_183 zr_183 rfl rfl ?_
 refine Zf hS1 rfl rfl rfl ?_
 intro bp wbp hSbp
 clear hS1
 refine Qe rfl rfl (Qf (Qc (Q0 ?_)))
 refine QV (.inr rfl) rfl rfl ?_
 exact ⟨_, rfl, _, rfl, WR (cl := List.replicate (min (max n 0) 4096).toNat ⟨false, []⟩) (by rw [List.map_replicate]; rfl) (by rw [List.length_replicate]; omega) (by rw [MV]; exact hSbp.pick [0, 1, 2] rfl)⟩
end Go.Proofs.YtkcjfoaejijdoaaGreatDoor
/- strings.Builder as things: its block (typed) and its buffer (typed). Conditions: each rule's own hypotheses. -/
namespace Go.Proofs.YtkcjfoaejijdoaaGreatDoor.M
open Go.RowKit
/-- a block of type T -/
def WF (T b : Nat) (cs : List Value) : Th where
  at_ := fun w F => (F = fun k => k = b) ∧ w.heap[b]? = some (.cells cs.toArray T (0, 0))
  fr := fun a ⟨e, h⟩ => ⟨e, by rw [a.blk _ (by rw [e])]; exact h⟩
  lt := fun {w F} ⟨e, h⟩ k hk => by
    rw [e] at hk; subst hk
    rcases Nat.lt_or_ge k w.heap.size with g | g
    · exact g
    · rw [Array.getElem?_eq_none g] at h; cases h
/-- a row of bytes, typed e -/
def Uz (e : Nat) (v : Value) (bs : List UInt8) : Th where
  at_ := fun w F => (F = fun k => v.ownBlock = some k) ∧ w.ownsRow 0 e 1 v bs.length (byC.cells bs) ∧ (bs = [] → v = .slice none 0 0)
  fr := fun {w w' F} a ⟨e1, ⟨hl, h⟩, hn⟩ => ⟨e1, ⟨hl, by
    rcases h with h | ⟨g, cap, cur, h1, h2, h3, h4⟩
    · exact .inl h
    · exact .inr ⟨g, cap, cur, h1, h2, by rw [a.blk _ (by rw [e1, h1]; rfl)]; exact h3, h4⟩⟩, hn⟩
  lt := fun {w F} ⟨e1, h, _⟩ k hk => by rw [e1] at hk; exact (h.lt k hk).2
/-- what a typed row is, untyped -/
theorem RO {w : World} {e n : Nat} {v : Value} {xs : List Value} (h : w.ownsRow 0 e 1 v n xs) : ∃ foot, Own w v n 1 xs foot ∧ ∀ k, k ∈ foot ↔ v.ownBlock = some k := by
  obtain ⟨hl, ⟨rfl, rfl⟩ | ⟨g, cap, cur, rfl, _, hg, hc, _, hs, ht⟩⟩ := h
  · exact ⟨[], ⟨hl, .inl ⟨rfl, rfl, rfl⟩⟩, by simp [Value.ownBlock]⟩
  · have he : xs ++ cur.toList.drop (n * 1) = cur.toList := by rw [← ht]; exact List.take_append_drop _ _
    refine ⟨[g], ⟨hl, .inr ⟨g, cap, cur.toList.drop (n * 1), rfl, hc, ⟨e, 0, 0, ?_, .inl (Nat.le_refl _)⟩, ?_, rfl⟩⟩, by simp [Value.ownBlock, eq_comm]⟩
    · rw [he]; exact hg
    · rw [he]; simpa using hs
section
variable {P : Program} {n : Nat} {ops : Array Oper} {Q : Exit → Act → World → Prop} {rest : List Oper} {L : Env} {w : World} {d : Nat} {ty : TypeId} {pos : String} {aft : Array Edge} {As : List Th} {T e b : Nat} {cs : List Value}
theorem Sat.tblk (h : Sat w As) (i : Nat) (hi : As[i]? = some (WF T b cs)) : w.heap[b]? = some (.cells cs.toArray T (0, 0)) := by
  obtain ⟨F, _, h⟩ := h.get i hi; exact h
theorem Sat.tcell (h : Sat w As) (i : Nat) (hi : As[i]? = some (WF T b cs)) {o : Nat} {v : Value} (hv : cs[o]? = some v) : w.cell? ⟨b, o, none⟩ = some v := by
  rw [Lib.cell_of_heap (h.tblk i hi)]; simpa using hv
theorem Sat.tshape (h : Sat w As) (i : Nat) (hi : As[i]? = some (WF T b cs)) : w.shape? b = some (T, cs.length) := by
  simp [World.shape?, h.tblk i hi]
theorem Sat.buf (h : Sat w As) (i : Nat) {v : Value} {bs : List UInt8} (hi : As[i]? = some (Uz e v bs)) : w.ownsRow 0 e 1 v bs.length (byC.cells bs) ∧ (bs = [] → v = .slice none 0 0) := by
  obtain ⟨F, _, h⟩ := h.get i hi; exact h
/-- the shape of a buffer -/
theorem Sat.bufv (h : Sat w As) (i : Nat) {v : Value} {bs : List UInt8} (hi : As[i]? = some (Uz e v bs)) : ∃ ao cap, v = .slice ao bs.length cap ∧ v.oneCell' = true ∧ (ao = none ∧ bs = [] ∨ ∃ g, ao = some ⟨g, 0, none⟩ ∧ cap ≠ 0 ∧ bs ≠ []) := by
  obtain ⟨⟨_, ⟨rfl, h1⟩ | ⟨g, cap, cur, rfl, _, _, h1, _⟩⟩, hn⟩ := h.buf i hi
  · have : bs = [] := List.eq_nil_of_length_eq_zero h1
    subst this
    exact ⟨none, 0, rfl, rfl, .inl ⟨rfl, rfl⟩⟩
  · have hb : bs ≠ [] := fun e => by have := hn e; cases this
    have : 0 < bs.length := List.length_pos_iff.2 hb
    exact ⟨_, cap, rfl, rfl, .inr ⟨g, rfl, by omega, hb⟩⟩
/-- a new variable, its type kept -/
theorem GR {t : Nat} {z : Value} (hS : Sat w As) (hz : XW P t = some (some z)) (hcs : z.cells.toList = cs) (hd : Nat.blt d n = true) (hk : ∀ b w', Sat w' (WF t b cs :: As) → wl P n ops Q rest ((d, ptrV b 0) :: L) w') : wl P n ops Q (⟨some d, .alloc t, ty, pos, aft, none⟩ :: rest) L w := by
  subst hcs
  refine XI rfl hd (R := fun v w' => v = ptrV w.heap.size 0 ∧ w' = w.alloc (.cells z.cells t)) (fun a ha => ⟨_, _, .inl ?_, rfl, rfl⟩) (fun v w' ⟨e1, e2⟩ => ?_)
  · simp [execOp, Instr.alloc, WX hz, newVar, newRow]
  · subst e1 e2
    refine hk _ _ (hS.new ((Only.refl _ _).alloc _) (A := WF t w.heap.size z.cells.toList) (F' := fun k => k = w.heap.size) ⟨rfl, ?_⟩ (fun k hk => by rw [hk]; exact Nat.le_refl _))
    simpa using heap_alloc_new w (.cells z.cells t)
/-- a cell of a typed block is stored into -/
theorem Kd {x y : Operand} {t o i : Nat} {v : Value} (hS : Sat w As) (hx : look L x = some (ptrV b o)) (hy : look L y = some v) (hs : ZQ P t = some 1) (h1 : v.oneCell' = true) (hi : As[i]? = some (WF T b cs)) (ho : o < cs.length)
    (hk : ∀ w', Sat w' (As.set i (WF T b (cs.set o v))) → wl P n ops Q rest L w') : wl P n ops Q (⟨none, .store t x y, ty, pos, aft, none⟩ :: rest) L w := by
  have hb := hS.tblk i hi
  have hc := hS.tcell i hi (o := o) (List.getElem?_eq_getElem ho)
  have hf : w.frozen? ⟨b, o, none⟩ = false := Lib.frozen_of_heap hb o
  have hcs : v.cells = #[v] := by cases v <;> first | rfl | cases h1
  refine XI rfl rfl (R := fun _ w' => w' = w.setCell ⟨b, o, none⟩ v) (fun a ha => ⟨undef, _, .inr ⟨?_, rfl⟩, rfl⟩) (fun _ w' e => ?_)
  · have hst : (store ⟨b, o, none⟩ v).run P w = .ok () (w.setCell ⟨b, o, none⟩ v) := by
      rw [run_store P w _ v _ h1, hc]; simp [hf]
    have e0 : (⟨b, o, none⟩ : Addr).add 0 = ⟨b, o, none⟩ := by simp [Addr.add]
    simp [execOp, ha.eval hx, ha.eval hy, Instr.storeAt, Instr.sureAddr, storeVar, hcs, Zm hs, storeCells, e0, hst]
  · subst e
    refine hk _ (hS.step i hi fun F ⟨e1, _⟩ => ⟨F, ⟨e1, ?_⟩, fun k hk => .inl hk, ((Only.refl [b] w).setCell (.inl (by simp)) v).agree (fun x hx => .inl (by simp only [List.mem_singleton] at hx; subst hx; rw [e1]))⟩)
    simp [World.setCell, Array.getElem?_modify, hb]
/-- append to a buffer -/
theorem CE {t t2 : TypeId} {s x : Operand} {v xv z : Value} {bs l2 : List UInt8} {bytes : Nat} (i : Nat) (hS : Sat w As) (hi : As[i]? = some (Uz e v bs)) (hs : look L s = some v) (hx : look L x = some xv) (hr : RdL byC xv l2 w) (h0 : l2 ≠ []) (hu : P.underlying t = some (.slice e)) (ht : t2 = t)
    (hif : (P.info? e).map (fun i => (i.zero, i.size, i.bytes)) = some (some z, 1, bytes)) (hz : z.cells.size = 1) (hb : (bs.length + l2.length) * bytes ≤ 140737488355328) (hm : bs.length + l2.length ≤ 281474976710656) (hd : Nat.blt d n = true)
    (hk : ∀ v' w', Sat w' (As.set i (Uz e v' (bs ++ l2))) → wl P n ops Q rest ((d, v') :: L) w') : wl P n ops Q (⟨some d, .call ⟨.builtin .append, #[s, x], #[t, t2]⟩, ty, pos, aft, none⟩ :: rest) L w := by
  subst ht
  obtain ⟨hown, hnil⟩ := hS.buf i hi
  obtain ⟨foot, hO, hfoot⟩ := RO hown
  obtain ⟨ao, cap, rfl, hmax, hcells⟩ := hr
  obtain ⟨c0, hc0⟩ : ∃ c0, l2[0]? = some c0 := ⟨_, List.getElem?_eq_getElem (List.length_pos_iff.2 h0)⟩
  obtain ⟨g0, off0, rfl, _⟩ := hcells 0 c0 hc0
  have hnews : ∀ j u, (byC.cells l2)[j]? = some u → w.cell? ((⟨g0, off0, none⟩ : Addr).add j) = some u := by
    intro j u hu'
    rw [Z3]
    have hj := (List.getElem?_eq_some_iff.1 hu').1
    rw [byC.cells_len] at hj
    have hj' : j < l2.length := by simpa [byC] using hj
    obtain ⟨g1, o1, e1, hc⟩ := hcells j l2[j] (List.getElem?_eq_getElem hj')
    cases e1
    have h2 : (byC.cells l2)[j]? = some (.int .u8 (l2[j].toNat : Int)) := by
      have := RowC.cells_at (C := byC) (l := l2) (j := j) (List.getElem?_eq_getElem hj')
      have h3 := congrArg (fun q => q[0]?) this
      simpa [byC, List.getElem?_take, List.getElem?_drop] using h3
    rw [h2] at hu'; cases hu'
    have := hc 0 _ rfl
    simpa [byC] using this
  have hrd : RdL byC (.slice (some ⟨g0, off0, none⟩) l2.length cap) l2 w := ⟨_, cap, rfl, hmax, hcells⟩
  obtain ⟨inf, hi1, hi2, hi3, hi4⟩ := info_parts hif
  refine XI rfl hd (R := fun v w' => Sat w' (As.set i (Uz e v (bs ++ l2)))) (fun a ha => ?_) (fun v w' hR => hk v w' hR)
  obtain ⟨v1, w1, hrun, foot', o1, o2, o3, _⟩ := HM (P := P) (o := ⟨some d, .call ⟨.builtin .append, #[s, x], #[t2, t2]⟩, ty, pos, aft, none⟩) (a := a) t2 t2 s x rfl (ha.eval hs) (ha.eval hx) hO hu hu (by intro k hk; cases hk) hif hz (by decide) (hrd.lenOf) (hrd.first) (byC.cells_len l2) (We (byC.cells_one l2)) hb (by omega)
  obtain ⟨v2, w2, hr2, hown2, _, _⟩ := run_append_own (P := P) w 0 t2 ty e inf z 1 bytes hu hi1 hi2 hi3 hi4 hz (by decide) v bs.length (byC.cells bs) hown ⟨g0, off0, none⟩ l2.length cap (byC.cells l2) (byC.cells_len l2) hnews (We (byC.cells_one l2)) (by unfold maxLen; omega) hb (Nat.zero_le _)
  have hex : (execOp a.eval ⟨some d, .call ⟨.builtin .append, #[s, x], #[t2, t2]⟩, ty, pos, aft, none⟩).run P w = .ok (.value v2) w2 := by
    simp [execOp, ha.eval hs, ha.eval hx, resolve, invoke, builtin, hr2]
  have heq : v1 = v2 ∧ w1 = w2 := by
    rcases hrun with h | ⟨h, _⟩
    · rw [hex] at h; cases h; exact ⟨rfl, rfl⟩
    · rw [hex] at h; cases h
  obtain ⟨rfl, rfl⟩ := heq
  refine ⟨v1, w1, .inl hex, ?_⟩
  have hfoot' : ∀ k, v1.ownBlock = some k → k ∈ foot' := by
    intro k hk'
    obtain ⟨_, ⟨e1, _, _⟩ | ⟨b1, c1, s1, e1, _, _, _, rfl⟩⟩ := o1
    · rw [e1] at hk'; cases hk'
    · rw [e1] at hk'; simp [Value.ownBlock] at hk'; simp [hk']
  refine hS.step i hi fun F ⟨eF, _⟩ => ⟨fun k => v1.ownBlock = some k, ⟨rfl, ?_, fun q => absurd (List.append_eq_nil_iff.1 q).2 h0⟩, fun k hk' => ?_, o2.agree fun k hk' => ?_⟩
  · rw [List.length_append, ← RowC.cells_app]; exact hown2
  · rcases o3 k (hfoot' k hk') with q | q
    · exact .inl (by rw [eF]; exact (hfoot k).1 q)
    · exact .inr q
  · exact .inl (by rw [eF]; exact (hfoot k).1 hk')
/-- unsafe.SliceData of a buffer -/
theorem Va {ao : Option Addr} {m cap : Nat} {ts : Array TypeId} {x : Operand} (hx : look L x = some (.slice ao m cap)) (h0 : ao = none ∨ cap ≠ 0) (hd : Nat.blt d n = true) (hk : wl P n ops Q rest ((d, .pointer ao) :: L) w) : wl P n ops Q (⟨some d, .call ⟨.builtin .unsafeSliceData, #[x], ts⟩, ty, pos, aft, none⟩ :: rest) L w := by
  refine XI rfl hd (R := fun v w' => v = .pointer ao ∧ w' = w) (fun a ha => ⟨_, _, .inl ?_, rfl, rfl⟩) (by rintro _ _ ⟨rfl, rfl⟩; exact hk)
  have hr : (Builtin.unsafeSliceData_ ts ty #[.slice ao m cap]).run P w = .ok (.pointer ao) w := by
    cases ao with
    | none => exact Lib.run_unsafeSliceData_nil w ts ty m cap
    | some q => exact Lib.run_unsafeSliceData_row w ts ty q m cap (by rcases h0 with h0 | h0; cases h0; exact h0)
  simp [execOp, ha.eval hx, resolve, invoke, builtin, hr]
/-- unsafe.String of a buffer: the buffer is given up -/
theorem KQ {ao : Option Addr} {cap pt it : Nat} {bs : List UInt8} {x y : Operand} (i : Nat) (hS : Sat w As) (hi : As[i]? = some (Uz e (.slice ao bs.length cap) bs)) (hx : look L x = some (.pointer ao)) (hy : look L y = some (.int .i64 (bs.length : Int))) (hp : P.underlying pt = some (.pointer e)) (hc : P.cellsOf e = 1) (hlen : bs.length ≤ 9223372036854775807) (hd : Nat.blt d n = true)
    (hk : ∀ w', Sat w' (As.eraseIdx i) → wl P n ops Q rest ((d, strV bs) :: L) w') : wl P n ops Q (⟨some d, .call ⟨.builtin .unsafeString, #[x, y], #[pt, it]⟩, ty, pos, aft, none⟩ :: rest) L w := by
  obtain ⟨hown, hnil⟩ := hS.buf i hi
  have hg : ∃ w', (Builtin.unsafeString_ #[pt, it] ty #[.pointer ao, .int .i64 bs.length]).run P w = .ok (strV bs) w' ∧ Sat w' (As.eraseIdx i) := by
    by_cases h0 : bs = []
    · subst h0
      have hv := hnil rfl
      simp only [Value.slice.injEq, List.length_nil, true_and] at hv
      obtain ⟨rfl, _⟩ := hv
      exact ⟨w, Lib.run_unsafeString_none w pt it ty none, hS.drop i hi⟩
    · obtain ⟨_, ⟨hv, h1⟩ | ⟨g, cap', cur, hv, _, hgb, h1, _, h2, h3⟩⟩ := hown
      · exact absurd (List.eq_nil_of_length_eq_zero h1) h0
      · simp only [Value.slice.injEq, true_and] at hv
        obtain ⟨rfl, rfl⟩ := hv
        refine ⟨w.freeze ⟨g, 0, none⟩ bs.length, Lib.run_unsafeString_row w pt it ty e hp hc g cur.size (by simp [World.shape?, hgb]) bs h0 (by omega) hlen ?_, ?_⟩
        · intro j c hj
          rw [Z3]
          simp only [Nat.zero_add]
          rw [Lib.cell_of_heap hgb]
          have hj' := (List.getElem?_eq_some_iff.1 hj).1
          have : (byC.cells bs)[j]? = some (.int .u8 (c.toNat : Int)) := by
            have := RowC.cells_at (C := byC) (l := bs) (j := j) hj
            have h3 := congrArg (fun q => q[0]?) this
            simpa [byC, List.getElem?_take, List.getElem?_drop] using h3
          rw [← h3, List.getElem?_take] at this
          split at this
          · simpa using this
          · cases this
        · have hp1 := hS.pull i hi
          obtain ⟨F, F1, F2, rfl, dj, ⟨e1, _⟩, h2'⟩ := hp1
          refine ⟨F2, (starL _).fr (F := F2) ?_ h2'⟩
          have hb := Lib.below_freeze (B := 0) (Below.refl 0 w) (p := ⟨g, 0, none⟩) (Nat.zero_le _) bs.length
          refine ⟨hb.os, hb.tape, hb.output, fun k hk' => ?_⟩
          have hne : k ≠ g := by
            rintro rfl
            exact dj k (by rw [e1]; rfl) hk'
          unfold World.freeze
          split
          · rfl
          · simp only [Array.getElem?_modify]
            rw [if_neg (fun q => hne q.symm)]
  obtain ⟨w', h1, h2⟩ := hg
  refine XI rfl hd (R := fun v u => v = strV bs ∧ u = w') (fun a ha => ⟨_, _, .inl ?_, rfl, rfl⟩) (by rintro _ _ ⟨rfl, rfl⟩; exact hk _ h2)
  simp [execOp, ha.eval hx, ha.eval hy, resolve, invoke, builtin, h1]
/-- a pointer to an unsafe one, and back -/
theorem D0 {src dst t o : Nat} {x : Operand} {j : TypeInfo} {S : Nat × Nat} (hx : look L x = some (ptrV b o)) (hs : P.underlying src = some (.pointer t)) (hd' : P.underlying dst = some .unsafePointer) (ht : P.info? t = some j) (hj : j.size ≠ 0) (hsh : w.shape? b = some S) (ho : o < S.2) (hd : Nat.blt d n = true) (hk : wl P n ops Q rest ((d, ptrV b o) :: L) w) : wl P n ops Q (⟨some d, .convert src dst x, ty, pos, aft, none⟩ :: rest) L w :=
  Xq hd (fun ρ hρ => by
    have := Lib.run_to_unsafe (P := P) (w := w) (e := S.1) (cells := S.2) (⟨b, o, none⟩ : Addr) hs hd' ht hj hsh ho
    simp [execOp, hρ _ _ hx, ptrV, this]) hk
theorem G9 {src dst u o : Nat} {x : Operand} {j : TypeInfo} {S : Nat × Nat} (hx : look L x = some (ptrV b o)) (hs : P.underlying src = some .unsafePointer) (hd' : P.underlying dst = some (.pointer u)) (hu : P.info? u = some j) (hsh : w.shape? b = some S) (hl : liesAt P P.depth S.1 (S.2 / P.cellsOf S.1) o u 1 = true) (hd : Nat.blt d n = true) (hk : wl P n ops Q rest ((d, ptrV b o) :: L) w) : wl P n ops Q (⟨some d, .convert src dst x, ty, pos, aft, none⟩ :: rest) L w :=
  Xq hd (fun ρ hρ => by
    have := Lib.run_from_unsafe (P := P) (w := w) (e := S.1) (cells := S.2) (⟨b, o, none⟩ : Addr) hs hd' hu hsh hl
    simp [execOp, hρ _ _ hx, ptrV, this]) hk
/-- p != p -/
theorem G7 {x y : Operand} {t t2 u : TypeId} {q : Addr} {j : TypeInfo} (hu : P.underlying t = some (.pointer u)) (hj : P.info? u = some j) (hx : look L x = some (.pointer (some q))) (hy : look L y = some (.pointer (some q))) (hd : Nat.blt d n = true) (hk : wl P n ops Q rest ((d, .bool false) :: L) w) : wl P n ops Q (⟨some d, .binOp .neq t x y t2, ty, pos, aft, none⟩ :: rest) L w :=
  Xq hd (fun ρ hρ => by
    have h : (Op.equal t (.pointer (some q)) (.pointer (some q))).run P w = .ok true w := by
      unfold Op.equal Op.maxDepth Op.equalIn
      simp [run_underlying hu, sizeOf, typeInfo, hj, run_sameAddr_same]
    simp [execOp, hρ _ _ hx, hρ _ _ hy, eqGuard, binOp, h]) hk
/-- a function without a body that gives its argument back -/
theorem MR {f : Nat} {fn : Func} {x : Operand} {ts : Array TypeId} {v : Value} (hf : P.funcs[f]? = some fn) (hname : (fn.name == "runtime.NumGoroutine") = false) (hb : fn.body.isNone = true) (hn : Extern.findNext fn = none) (he : Extern.find fn = some Extern.AbiNoEscape.same)
    (hx : look L x = some v) (hd : Nat.blt d n = true) (hk : wl P n ops Q rest ((d, v) :: L) w) : wl P n ops Q (⟨some d, .call ⟨.value (.func f), #[x], ts⟩, ty, pos, aft, none⟩ :: rest) L w := by
  refine XI rfl hd (R := fun u w' => u = v ∧ w' = w) (fun a ha => ⟨_, _, .inl ?_, rfl, rfl⟩) (by rintro _ _ ⟨rfl, rfl⟩; exact hk)
  have hr : (Extern.AbiNoEscape.same #[v]).run P w = .ok v w := rfl
  have hc := run_callFunc_extern hf hname hb hn he #[v] w
  rw [hr] at hc
  simp only [execOp, resolve, Act.eval, Deferred.ofValue, invoke]
  have hxe := ha.eval hx
  simp
  rw [hxe, hc]; rfl
end
end Go.Proofs.YtkcjfoaejijdoaaGreatDoor.M
/-
  DERIVED: THE SHELF's CONTRACTS AT THIS DUMP, IN PLAIN WORDS (tools/lay-plain.mjs out of 'TryzShelf.lean', which tools/lay-shelf.mjs wrote): THE SAME DECLARATIONS UNDER THE SAME NAMES: 'import', 'namespace', 'open', 'def', 'theorem' AND NOTHING ELSE: no command of the shelf's: FOR A HAND-IN. Each laying: the table of numbers ('.._ren') and one theorem, a field a fact of the dump's own or the kernel's comparison; each contract: ONE APPLICATION.
-/
namespace Go.Proofs
open Go.Shelf
def Tryz.lays106_ren : Go.Shelf.Ren := ⟨fun | 106 => 113 | 213 => 164 | 265 => 191 | n => n, fun | 9 => 9 | 3 => 3 | n => n, fun | n => n⟩
theorem Tryz.lays106 : Go.Proofs.Lays.n106 Tryz.prog Tryz.lays106_ren := {
  mixed := by kernel_rfl
  f106 := Tryz.func113.trans (congrArg some (by kernel_rfl))
  f213 := Tryz.func164.trans (congrArg some (by kernel_rfl))
  f265 := Tryz.func191.trans (congrArg some (by kernel_rfl))
  t3 := Tryz.underlying3
  a3 := Tryz.isAgg3
  z3 := Tryz.sizeOf3
  v3 := Tryz.zeroValue3
  t9 := Tryz.underlying9
  a9 := Tryz.isAgg9
  z9 := Tryz.sizeOf9
  v9 := Tryz.zeroValue9 }
open Go.RowKit in
/-- strings.Compare: "Compare returns an integer comparing two strings lexicographically. The result will be 0 if a == b, -1 if a < b, and +1 if a > b.": IT RETURNS 'Lib.compareBytes a b'; the world is as it was. (LAID: no walk: one application.) -/
theorem Tryz.strings_Compare (a b : ByteArray) (w : World) :
    Calls Tryz.prog 113 #[.string a, .string b] w fun e w' => e = .returned (.int .i64 (Lib.compareBytes a.data.toList b.data.toList)) ∧ w' = w := Any.strings_Compare Tryz.lays106 a b w
def Tryz.lays122_ren : Go.Shelf.Ren := ⟨fun | 122 => 114 | 215 => 165 | n => n, fun | 3 => 3 | 4 => 4 | n => n, fun | n => n⟩
theorem Tryz.lays122 : Go.Proofs.Lays.n122 Tryz.prog Tryz.lays122_ren := {
  mixed := by kernel_rfl
  f122 := Tryz.func114.trans (congrArg some (by kernel_rfl))
  f215 := Tryz.func165.trans (congrArg some (by kernel_rfl))
  t3 := Tryz.underlying3
  a3 := Tryz.isAgg3
  z3 := Tryz.sizeOf3
  v3 := Tryz.zeroValue3
  t4 := Tryz.underlying4
  a4 := Tryz.isAgg4
  z4 := Tryz.sizeOf4
  v4 := Tryz.zeroValue4 }
open Go.RowKit in
/-- cmp.Compare at int: "Compare returns -1 if x is less than y, 0 if x equals y, +1 if x is greater than y.": IT RETURNS 'Lib.compareInt x y'; the world is as it was. (LAID: no walk: one application.) -/
theorem Tryz.cmp_Compare_int (x y : Int) (w : World) :
    Calls Tryz.prog 114 #[.int .i64 x, .int .i64 y] w fun e w' => e = .returned (.int .i64 (Lib.compareInt x y)) ∧ w' = w := Any.cmp_Compare_int Tryz.lays122 x y w
def Tryz.laysM316_ren : Go.Shelf.Ren := ⟨fun | 316 => 137 | n => n, fun | 9 => 9 | 3 => 3 | 4 => 4 | 37 => 143 | 0 => 0 | 127 => 230 | 5 => 5 | n => n, fun | n => n⟩
theorem Tryz.laysM316 : Go.Proofs.LaysM.n316 Tryz.prog Tryz.laysM316_ren := {
  mixed := by kernel_rfl
  f316 := Tryz.func137.trans (congrArg some (by kernel_rfl))
  t0 := Tryz.underlying0
  a0 := Tryz.isAgg0
  z0 := Tryz.sizeOf0
  v0 := Tryz.zeroValue0
  t3 := Tryz.underlying3
  a3 := Tryz.isAgg3
  z3 := Tryz.sizeOf3
  v3 := Tryz.zeroValue3
  t4 := Tryz.underlying4
  a4 := Tryz.isAgg4
  z4 := Tryz.sizeOf4
  v4 := Tryz.zeroValue4
  t9 := Tryz.underlying9
  a9 := Tryz.isAgg9
  z9 := Tryz.sizeOf9
  v9 := Tryz.zeroValue9
  t37 := Tryz.underlying143
  a37 := Tryz.isAgg143
  z37 := Tryz.sizeOf143
  v37 := Tryz.zeroValue143
  t127 := Tryz.underlying230
  a127 := Tryz.isAgg230
  z127 := Tryz.sizeOf230
  v127 := Tryz.zeroValue230
  t5 := Tryz.underlying5
  a5 := Tryz.isAgg5
  z5 := Tryz.sizeOf5
  v5 := Tryz.zeroValue5
  i0 := by kernel_rfl
  i3 := by kernel_rfl
  i4 := by kernel_rfl
  i5 := by kernel_rfl
  i9 := by kernel_rfl
  i37 := by kernel_rfl
  i127 := by kernel_rfl }
open Go.RowKit in
/-- internal/stringslite.Clone (what strings.Clone calls): "Clone returns a fresh copy of s.": THE SAME BYTES. Of what was there nothing has turned (a new row is laid, and frozen, where s is not empty). (LAID: no walk: one application.) -/
theorem Tryz.stringslite_Clone (s : ByteArray) (w : World) (hlim : s.size ≤ 281474976710656) :
    Calls Tryz.prog 137 #[.string s] w fun e w' => e = .returned (.string s) ∧ Below w.heap.size w w' := Any.stringslite_Clone Tryz.laysM316 s w hlim
def Tryz.lays190_ren : Go.Shelf.Ren := ⟨fun | 190 => 117 | 125 => 168 | 258 => 167 | 128 => 201 | 129 => 202 | 302 => 192 | 303 => 193 | 304 => 194 | 305 => 195 | 306 => 196 | 307 => 197 | 308 => 198 | 309 => 199 | 310 => 200 | 333 => 232 | 329 => 233 | 330 => 234 | 334 => 235 | 335 => 236 | 336 => 237 | 344 => 248 | n => n, fun | 31 => 61 | 9 => 9 | 3 => 3 | 46 => 31 | 0 => 0 | 51 => 252 | 53 => 22 | 4 => 4 | 183 => 245 | 182 => 244 | 131 => 63 | 5 => 5 | 218 => 274 | 222 => 132 | 228 => 285 | 229 => 286 | n => n, fun | n => n⟩
theorem Tryz.lays190 : Go.Proofs.Lays.n190 Tryz.prog Tryz.lays190_ren := {
  mixed := by kernel_rfl
  f125 := Tryz.func168.trans (congrArg some (by kernel_rfl))
  f128 := Tryz.func201.trans (congrArg some (by kernel_rfl))
  f129 := Tryz.func202.trans (congrArg some (by kernel_rfl))
  f190 := Tryz.func117.trans (congrArg some (by kernel_rfl))
  f258 := Tryz.func167.trans (congrArg some (by kernel_rfl))
  f302 := Tryz.func192.trans (congrArg some (by kernel_rfl))
  f303 := Tryz.func193.trans (congrArg some (by kernel_rfl))
  f304 := Tryz.func194.trans (congrArg some (by kernel_rfl))
  f305 := Tryz.func195.trans (congrArg some (by kernel_rfl))
  f306 := Tryz.func196.trans (congrArg some (by kernel_rfl))
  f307 := Tryz.func197.trans (congrArg some (by kernel_rfl))
  f308 := Tryz.func198.trans (congrArg some (by kernel_rfl))
  f309 := Tryz.func199.trans (congrArg some (by kernel_rfl))
  f310 := Tryz.func200.trans (congrArg some (by kernel_rfl))
  f329 := Tryz.func233.trans (congrArg some (by kernel_rfl))
  f330 := Tryz.func234.trans (congrArg some (by kernel_rfl))
  f333 := Tryz.func232.trans (congrArg some (by kernel_rfl))
  f334 := Tryz.func235.trans (congrArg some (by kernel_rfl))
  f335 := Tryz.func236.trans (congrArg some (by kernel_rfl))
  f336 := Tryz.func237.trans (congrArg some (by kernel_rfl))
  f344 := Tryz.func248.trans (congrArg some (by kernel_rfl))
  t0 := Tryz.underlying0
  a0 := Tryz.isAgg0
  z0 := Tryz.sizeOf0
  v0 := Tryz.zeroValue0
  t3 := Tryz.underlying3
  a3 := Tryz.isAgg3
  z3 := Tryz.sizeOf3
  v3 := Tryz.zeroValue3
  t4 := Tryz.underlying4
  a4 := Tryz.isAgg4
  z4 := Tryz.sizeOf4
  v4 := Tryz.zeroValue4
  t5 := Tryz.underlying5
  a5 := Tryz.isAgg5
  z5 := Tryz.sizeOf5
  v5 := Tryz.zeroValue5
  t9 := Tryz.underlying9
  a9 := Tryz.isAgg9
  z9 := Tryz.sizeOf9
  v9 := Tryz.zeroValue9
  t31 := Tryz.underlying61
  a31 := Tryz.isAgg61
  z31 := Tryz.sizeOf61
  v31 := Tryz.zeroValue61
  t46 := Tryz.underlying31
  a46 := Tryz.isAgg31
  z46 := Tryz.sizeOf31
  v46 := Tryz.zeroValue31
  t51 := Tryz.underlying252
  a51 := Tryz.isAgg252
  z51 := Tryz.sizeOf252
  v51 := Tryz.zeroValue252
  t53 := Tryz.underlying22
  a53 := Tryz.isAgg22
  z53 := Tryz.sizeOf22
  v53 := Tryz.zeroValue22
  t131 := Tryz.underlying63
  a131 := Tryz.isAgg63
  z131 := Tryz.sizeOf63
  v131 := Tryz.zeroValue63
  t182 := Tryz.underlying244
  a182 := Tryz.isAgg244
  z182 := Tryz.sizeOf244
  v182 := Tryz.zeroValue244
  t183 := Tryz.underlying245
  a183 := Tryz.isAgg245
  z183 := Tryz.sizeOf245
  v183 := Tryz.zeroValue245
  t218 := Tryz.underlying274
  a218 := Tryz.isAgg274
  z218 := Tryz.sizeOf274
  v218 := Tryz.zeroValue274
  t222 := Tryz.underlying132
  a222 := Tryz.isAgg132
  z222 := Tryz.sizeOf132
  v222 := Tryz.zeroValue132
  t228 := Tryz.underlying285
  a228 := Tryz.isAgg285
  z228 := Tryz.sizeOf285
  v228 := Tryz.zeroValue285
  t229 := Tryz.underlying286
  a229 := Tryz.isAgg286
  z229 := Tryz.sizeOf286
  v229 := Tryz.zeroValue286 }
open Go.Sort Go.RowKit in
theorem Tryz.slices_Sort_string (blk off cap : Nat) (ss : List (List UInt8)) (w : World) (hH : Holds encStr w blk off ss.toArray) (hblk : blk < w.heap.size) (hsz : ss.length < 4611686018427387904) :
    Calls Tryz.prog 117 #[.slice (some ⟨blk, off, none⟩) ss.length cap] w fun e w' =>
      e = .returned (.tuple #[]) ∧ ∃ n os, w' = grow (putRow encStr (Sort.ahead w n) blk off (ss.mergeSort fun x y => decide (x ≤ y)).toArray) os := Any.slices_Sort_string Tryz.lays190 blk off cap ss w hH hblk hsz
open Go.RowKit Go.Sort in
/-- .. and plain. (LAID: no walk: one application.) -/
theorem Tryz.slices_Sort_string_none (p : Option Addr) (cap : Nat) (w : World) :
    Calls Tryz.prog 117 #[.slice p 0 cap] w fun e w' => e = .returned (.tuple #[]) ∧ w' = w := Any.slices_Sort_string_none Tryz.lays190 p cap w
end Go.Proofs
/- world: cells -/
namespace Go.Proofs.YtkcjfoaejijdoaaGreatDoor
open Go.RowKit M
set_option linter.unusedVariables false
theorem keysInt : KeyOk Tryz.prog 3 Xd := Nq Tryz.underlying3
theorem keysStr : KeyOk Tryz.prog 9 WM := Np Tryz.underlying9
theorem clone0 {w : World} {As : List Th} (hS : Sat w As) (s : Bs) (hs : s.length ≤ 281474976710656) : Calls Tryz.prog 137 #[strV s] w (Ret fun v w' => v = strV s ∧ Sat w' As) :=
  M7 hS (Tryz.stringslite_Clone ⟨s.toArray⟩ w (by simpa [ByteArray.size] using hs))
theorem M5 {w : World} {F : Th} (hS : Sat w [F]) (s : Bs) (hs : s.length ≤ 281474976710656) :
    Calls Tryz.prog 90 #[strV s] w (Ret fun v w' => v = strV s ∧ Sat w' [F]) := by
 refine Qt Tryz.func90 rfl Tryz.ntmps90 rfl ?_
 refine Qd (Qa (Qe rfl rfl (Qf (Qc (Qd (Qa (Qb rfl rfl ?_)))))))
 have hC1 := hS.split [] [false] rfl; dsimp only [QC, Qz, Q9, Q8, Q7] at hC1
 refine Qo cal_137 rfl (clone0 hC1 s hs) rfl ?_
 rintro e w1 ⟨_, rfl, rfl, hS1⟩; refine ⟨_, rfl, ?_⟩
 replace hS1 := hS1.join rfl; dsimp only [QU, QT, Q8, Q7] at hS1; clear hC1
 refine Qe rfl rfl (Qf (Qc (Q0 ?_)))
 refine QV (.inr rfl) rfl rfl ?_
 exact ⟨_, rfl, rfl, hS1⟩
end Go.Proofs.YtkcjfoaejijdoaaGreatDoor
/- Appending a string's bytes to a builder's buffer. Conditions: each lemma's own hypotheses. -/
namespace Go.Proofs.YtkcjfoaejijdoaaGreatDoor
open Go.RowKit M
section
variable {P : Program} {n : Nat} {ops : Array Oper} {Q : Exit → Act → World → Prop} {rest : List Oper} {L : Env} {w : World} {d : Nat} {ty : TypeId} {pos : String} {aft : Array Edge} {As : List Th} {T e b : Nat} {cs : List Value}
theorem KB (l : List UInt8) : Lib.strCells ⟨l.toArray⟩ = byC.cells l := by
  rw [Uv]
  simp [Lib.strCells, X0]
theorem MS {t t2 : TypeId} {s x : Operand} {v : Value} {bs l2 : List UInt8} (i : Nat) (hS : Sat w As) (hi : As[i]? = some (Uz e v bs)) (hs : M.look L s = some v) (hx : M.look L x = some (strV l2)) (hu : P.underlying t = some (.slice e)) (hu2 : P.underlying t2 = some .string)
    (hif : (P.info? e).map (fun i => (i.zero, i.size, i.bytes)) = some (some (.int .u8 0), 1, 1)) (hm : bs.length + l2.length ≤ 140737488355328) (hd : Nat.blt d n = true)
    (hk : ∀ v' w', Sat w' (As.set i (Uz e v' (bs ++ l2))) → wl P n ops Q rest ((d, v') :: L) w') : wl P n ops Q (⟨some d, .call ⟨.builtin .append, #[s, x], #[t, t2]⟩, ty, pos, aft, none⟩ :: rest) L w := by
  obtain ⟨hown, hnil⟩ := hS.buf i hi
  obtain ⟨foot, hO, hfoot⟩ := RO hown
  obtain ⟨inf, hi1, hi2, hi3, hi4⟩ := info_parts hif
  have hsz : (⟨l2.toArray⟩ : ByteArray).size = l2.length := by simp [ByteArray.size]
  refine XI rfl hd (R := fun v w' => Sat w' (As.set i (Uz e v (bs ++ l2)))) (fun a ha => ?_) (fun v w' hR => hk v w' hR)
  obtain ⟨v1, w1, hrun, foot', o1, o2, o3, _⟩ := HM (P := P) (o := ⟨some d, .call ⟨.builtin .append, #[s, x], #[t, t2]⟩, ty, pos, aft, none⟩) (a := a) t t2 s x rfl (ha.eval hs) (ha.eval hx) hO hu hu2 (by intro k hk; cases hk) hif rfl (by decide) (m := l2.length) (news := byC.cells l2)
    (fun w1 => by simp [strV, Builtin.lenOf, hsz]) (fun w1 _ => by have := Lib.run_firstCells_string (P := P) w1 1 ⟨l2.toArray⟩; rw [hsz, KB] at this; exact this) (byC.cells_len l2) (We (byC.cells_one l2)) (by omega) (by omega)
  obtain ⟨v2, w2, hr2, hown2, _, hiff⟩ := Lib.run_append_own_string (P := P) w 0 t t2 ty e inf hu hu2 hi1 hi2 hi3 hi4 v bs.length (byC.cells bs) hown ⟨l2.toArray⟩ (by rw [hsz]; unfold maxLen; omega) (by rw [hsz]; omega) (Nat.zero_le _)
  rw [hsz] at hown2 hiff
  have hex : (execOp a.eval ⟨some d, .call ⟨.builtin .append, #[s, x], #[t, t2]⟩, ty, pos, aft, none⟩).run P w = .ok (.value v2) w2 := by
    have hr3 : (Builtin.append_ #[t, t2] ty #[v, strV l2]).run P w = .ok v2 w2 := hr2
    simp [execOp, ha.eval hs, ha.eval hx, resolve, invoke, builtin, hr3]
  have heq : v1 = v2 ∧ w1 = w2 := by
    rcases hrun with h | ⟨h, _⟩
    · rw [hex] at h; cases h; exact ⟨rfl, rfl⟩
    · rw [hex] at h; cases h
  obtain ⟨rfl, rfl⟩ := heq
  refine ⟨v1, w1, .inl hex, ?_⟩
  have hfoot' : ∀ k, v1.ownBlock = some k → k ∈ foot' := by
    intro k hk'
    obtain ⟨_, ⟨e1, _, _⟩ | ⟨b1, c1, s1, e1, _, _, _, rfl⟩⟩ := o1
    · rw [e1] at hk'; cases hk'
    · rw [e1] at hk'; simp [Value.ownBlock] at hk'; simp [hk']
  refine hS.step i hi fun F ⟨eF, _⟩ => ⟨fun k => v1.ownBlock = some k, ⟨rfl, ?_, fun q => ?_⟩, fun k hk' => ?_, o2.agree fun k hk' => ?_⟩
  · rw [List.length_append, ← RowC.cells_app, ← KB l2]; exact hown2
  · obtain ⟨q1, q2⟩ := List.append_eq_nil_iff.1 q
    exact hiff.2 ⟨hnil q1, by rw [q2]; rfl⟩
  · rcases o3 k (hfoot' k hk') with q | q
    · exact .inl (by rw [eF]; exact (hfoot k).1 q)
    · exact .inr q
  · exact .inl (by rw [eF]; exact (hfoot k).1 hk')
end
end Go.Proofs.YtkcjfoaejijdoaaGreatDoor
