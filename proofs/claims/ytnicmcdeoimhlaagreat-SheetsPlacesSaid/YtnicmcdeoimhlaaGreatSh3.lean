/- frames: Alloc, Free, Set, Page, Fill, New, Copy -/
import Derived.Test.YtnicmcdeoimhlaaGreatSh1
import Derived.Test.YtnicmcdeoimhlaaGreatRow
import Derived.Lib.Builder
import Derived.Lib.UnsafeStr
import Derived.Laws.AppendOwn
import Derived.Laws.Externs
import Derived.LaidEql
import Derived.Shelf.Strings.Builder1
import Derived.Shelf.Small.Bits
import Derived.Shelf.Small.Wraps
import Derived.Shelf.Strings.BuilderF
import Derived.Shelf.Strings.BuilderK
import Derived.Shelf.Strconv.Itoa0
import Derived.Shelf.LaysM
import Derived.Shelf.Strconv.Clone
import Derived.Shelf.Sort.Plain
import Derived.Shelf.Slices.Turned
import Derived.Ground.Names2Prog
import Derived.Shelf.Slices.Clone
import Derived.Shelf.Slices.SearchI
import Derived.Shelf.Slices.In.SortNone
import Derived.Test.YtnicmcdeoimhlaaGreatProg
import Derived.Lib.AppendStr
namespace Go.Proofs.YtnicmcdeoimhlaaGreat
open Go.RowKit M
set_option linter.unusedVariables false
theorem fr_bytes {cl : List FrD} {j : Nat} {x : FrD} (h : cl[j]? = some x) : ((frC.cells cl).drop (0 + j * 65 + 1)).take 64 = bytesV (b64 x.b) := by
  have h1 := RowC.cells_at (C := frC) h
  have h2 := congrArg (List.drop 1) h1
  rw [List.drop_take, List.drop_drop] at h2
  rw [show 0 + j * 65 + 1 = j * 65 + 1 by omega]
  exact h2
theorem fr_fit {cl : List FrD} {j : Nat} {x : FrD} (h : cl[j]? = some x) : 0 + j * 65 + 1 + 64 ≤ (frC.cells cl).length := by
  have := (List.getElem?_eq_some_iff.1 h).1
  rw [RowC.cells_len]
  show _ ≤ cl.length * 65
  omega
theorem fr_copy {cl : List FrD} {j : Nat} {x : FrD} {s : Bs} (h : cl[j]? = some x) (hs : s.length = 64) : splice (frC.cells cl) (0 + j * 65 + 1) (bytesV (s.take 64)) = frC.cells (cl.set j ⟨x.u, s⟩) := by
  have hj := (List.getElem?_eq_some_iff.1 h).1
  have hE := RowC.cells_at (C := frC) h
  have hf := fr_fit h
  rw [← RowC.cells_set (C := frC) (X := frE ⟨x.u, s⟩) rfl hj, List.take_of_length_le (by omega)]
  have e : frE ⟨x.u, s⟩ = .bool x.u :: bytesV s := by unfold frE; rw [b64_self hs]
  rw [e]
  have h0 : (frC.cells cl)[j * 65]? = some (.bool x.u) := by
    have := congrArg (fun q => q[0]?) hE
    simp only [List.getElem?_take, List.getElem?_drop] at this
    exact this
  have hbl : (bytesV s).length = 64 := by rw [bytesV_len, hs]
  unfold splice
  show _ = (frC.cells cl).take (j * 65) ++ (.bool x.u :: bytesV s) ++ (frC.cells cl).drop (j * 65 + (Value.bool x.u :: bytesV s).length)
  rw [List.length_cons, hbl, show 0 + j * 65 + 1 = j * 65 + 1 by omega, List.take_add_one, h0]
  simp [List.append_assoc]
theorem fr_map {cl : List FrD} {k : Nat} {y : FrD} : (cl.set k y).map frO = (cl.map frO).set k (frO y) := List.map_set
set_option maxRecDepth 100000 in
theorem frpage_sp {w : World} {p : Nat} {fl : List (Option Bs)} {F : Th} (hS : Sat w [frT p fl, F]) (f : Int) :
    Calls Tryz.prog 50 #[ptrV p 0, intV f] w (Ret fun v w' => v = strV ((frAt fl f).getD []) ∧ Sat w' [frT p fl, F]) := by
 refine calls_enter Tryz.func50 rfl Tryz.ntmps50 rfl ?_
 refine wc_seq (wc_region (wl_assign rfl rfl (wl_nil (qs_seq (wc_seq (wc_seq (wc_region (wl_move rfl rfl (wl_move rfl rfl ?_)))))))))
 have hC1 := hS.split [0] [true, false] rfl; dsimp only [selF, pickA, nthA, List.cons_append, List.nil_append] at hC1
 refine wl_call cal_81 rfl (frhas_sp hC1 f) rfl ?_
 rintro e w1 ⟨_, rfl, rfl, hS1⟩; refine ⟨_, rfl, ?_⟩
 replace hS1 := hS1.join rfl; dsimp only [List.dropLast, List.cons_append, List.nil_append] at hS1; clear hC1
 refine wl_not rfl rfl ?_
 refine wl_nil (qs_seq ?_)
 refine wc_cond rfl (fun h2 => ?_) (fun h2 => ?_)
 ·refine wc_seq (wc_region (wl_assign rfl rfl (wl_nil (qs_seq (wc_ret (qs_then_ret ?_))))))
  refine fin1 (.inr rfl) rfl rfl ?_
  exact ⟨_, rfl, by rw [show frAt fl f = none from by cases hq : frAt fl f with | none => rfl | some b => simp_all]; rfl, hS1.pick [0, 1] rfl⟩
 obtain ⟨cb, hcb⟩ := Option.isSome_iff_exists.1 (show (frAt fl f).isSome = true by simpa using h2)
 refine wc_skip (qs_seq (wc_seq ?_))
 obtain ⟨fa, fc, cl, hfl, hcl, hSo⟩ := frT_open (hS1.pick [0, 1] rfl)
 have hul := usedF_le fl; have hfll := congrArg List.length hfl; rw [List.length_map] at hfll
 obtain ⟨hf0, hfk⟩ := frAt_some hcb
 have hfk2 := hfk
 rw [hfl, List.getElem?_map] at hfk2
 obtain ⟨x, hx, hxo⟩ := Option.map_eq_some_iff.1 hfk2
 have hxu : x.u = true ∧ b64 x.b = cb := by unfold frO at hxo; split at hxo; (rename_i q; cases hxo; exact ⟨q, rfl⟩); cases hxo
 have hxl := (List.getElem?_eq_some_iff.1 hx).1
 obtain ⟨ob, oc9, hq9, _⟩ := hSo.own_at 1 rfl (by omega)
 cases hq9
 refine wc_region (wl_move rfl rfl (wl_nilCheck rfl rfl ?_))
 refine wl_fieldAddr rfl fo_103_0 rfl ?_
 refine wl_load rfl ag_101 (by first | assumption | exact hSo.cell 0 rfl rfl) rfl ?_
 refine wl_move rfl rfl ?_
 refine wl_indexAddr f.toNat rfl rfl (by omega) hxl es_101 rfl ?_
 refine wl_fieldAddr rfl fo_115_1 rfl ?_
 refine wl_sliceArr Tryz.underlying113 rfl rfl sz_5 rfl ?_
 refine wl_val rfl (ev_strR 1 hSo cb rfl rfl rfl Tryz.underlying70 Tryz.underlying5 Tryz.underlying9 (by rw [fr_bytes hx, hxu.2]) (by rw [← hxu.2, b64_len])) ?_
 refine wl_assign rfl rfl (wl_nil (qs_seq ?_))
 refine wc_sub (L' := [(4, _)]) (.cons rfl .nil) ?_
 refine wc_ret ?_
 refine fin1 (.inr rfl) rfl rfl ?_
 exact ⟨_, rfl, by rw [hcb]; rfl, frT_shut hfl hcl (hSo.pick [0, 1, 2] rfl)⟩
def frSet (fl : List (Option Bs)) (f : Int) (b : Bs) : List (Option Bs) := match frAt fl f with | some _ => fl.set f.toNat (some b) | none => fl
theorem frSet_some {fl : List (Option Bs)} {f : Int} {b c : Bs} (h : frAt fl f = some c) : frSet fl f b = fl.set f.toNat (some b) := by unfold frSet; rw [h]
theorem frSet_none {fl : List (Option Bs)} {f : Int} {b : Bs} (h : frAt fl f = none) : frSet fl f b = fl := by unfold frSet; rw [h]
set_option maxRecDepth 100000 in
theorem frfill_sp {w : World} {p : Nat} {fl : List (Option Bs)} {F : Th} (hS : Sat w [frT p fl, F]) (f : Int) (s : Bs) (hs : s.length = 64) :
    Calls Tryz.prog 64 #[ptrV p 0, intV f, strV s] w (Ret fun v w' => ∃ e, v = intV e ∧ Sat w' [frT p (frSet fl f s), F]) := by
 refine calls_enter Tryz.func64 rfl Tryz.ntmps64 rfl ?_
 refine wc_seq (wc_region (wl_assign rfl rfl (wl_nil (qs_seq (wc_seq (wc_seq (wc_region (wl_move rfl rfl (wl_move rfl rfl ?_)))))))))
 have hC1 := hS.split [0] [true, false] rfl; dsimp only [selF, pickA, nthA, List.cons_append, List.nil_append] at hC1
 refine wl_call cal_81 rfl (frhas_sp hC1 f) rfl ?_
 rintro e w1 ⟨_, rfl, rfl, hS1⟩; refine ⟨_, rfl, ?_⟩
 replace hS1 := hS1.join rfl; dsimp only [List.dropLast, List.cons_append, List.nil_append] at hS1; clear hC1
 refine wl_not rfl rfl ?_
 refine wl_nil (qs_seq ?_)
 refine wc_cond rfl (fun h2 => ?_) (fun h2 => ?_)
 ·refine wc_seq (wc_region (wl_assign rfl rfl (wl_nil (qs_seq (wc_ret (qs_then_ret ?_))))))
  refine fin1 (.inr rfl) rfl rfl ?_
  exact ⟨_, rfl, _, rfl, by rw [frSet_none (by cases hq : frAt fl f with | none => rfl | some b => simp_all)]; exact hS1.pick [0, 1] rfl⟩
 obtain ⟨cb, hcb⟩ := Option.isSome_iff_exists.1 (show (frAt fl f).isSome = true by simpa using h2)
 refine wc_skip (qs_seq (wc_seq ?_))
 obtain ⟨fa, fc, cl, hfl, hcl, hSo⟩ := frT_open (hS1.pick [0, 1] rfl)
 have hul := usedF_le fl; have hfll := congrArg List.length hfl; rw [List.length_map] at hfll
 obtain ⟨hf0, hfk⟩ := frAt_some hcb
 have hfk2 := hfk
 rw [hfl, List.getElem?_map] at hfk2
 obtain ⟨x, hx, hxo⟩ := Option.map_eq_some_iff.1 hfk2
 have hxu : x.u = true ∧ b64 x.b = cb := by unfold frO at hxo; split at hxo; (rename_i q; cases hxo; exact ⟨q, rfl⟩); cases hxo
 have hxl := (List.getElem?_eq_some_iff.1 hx).1
 obtain ⟨ob, oc9, hq9, _⟩ := hSo.own_at 1 rfl (by omega)
 cases hq9
 refine wc_region (wl_move rfl rfl (wl_nilCheck rfl rfl ?_))
 refine wl_fieldAddr rfl fo_103_0 rfl ?_
 refine wl_load rfl ag_101 (by first | assumption | exact hSo.cell 0 rfl rfl) rfl ?_
 refine wl_move rfl rfl ?_
 refine wl_indexAddr f.toNat rfl rfl (by omega) hxl es_101 rfl ?_
 refine wl_fieldAddr rfl fo_115_1 rfl ?_
 refine wl_sliceArr Tryz.underlying113 rfl rfl sz_5 rfl ?_
 refine wl_move rfl rfl ?_
 refine wl_copyR 1 hSo rfl rfl rfl rfl Tryz.underlying70 sz_5 (by have := fr_fit hx; omega) (fr_copy hx hs) rfl ?_
 intro w3 hS3; dsimp only [List.set] at hS3
 clear hSo
 refine wl_assign rfl rfl (wl_nil (qs_seq ?_))
 refine wc_sub (L' := [(7, _), (6, _), (0, _), (1, _)]) (.cons rfl (.cons rfl (.cons rfl (.cons rfl .nil)))) ?_
 refine wc_seq (wc_region (wl_move rfl rfl (wl_nilCheck rfl rfl ?_)))
 refine wl_fieldAddr rfl fo_103_0 rfl ?_
 refine wl_load rfl ag_101 (by first | assumption | exact hS3.cell 0 rfl rfl) rfl ?_
 refine wl_move rfl rfl ?_
 refine wl_indexAddr f.toNat rfl rfl (by omega) hxl es_101 rfl ?_
 refine wl_fieldAddr rfl fo_115_1 rfl ?_
 refine wl_move rfl rfl ?_
 refine wl_sliceArrEnd Tryz.underlying113 rfl rfl rfl (by rw [hs]; rfl) sz_5 rfl ?_
 refine wl_clearO 1 hS3 rfl rfl rfl Tryz.underlying70 zr_5 rfl (by have := fr_fit (cl := cl.set f.toNat ⟨x.u, s⟩) (j := f.toNat) (x := ⟨x.u, s⟩) (by rw [List.getElem?_set_self hxl]); simp only [Nat.zero_mul]; omega) (xs' := frC.cells (cl.set f.toNat ⟨x.u, s⟩)) (by simp [splice]) rfl ?_
 intro w4 hS4a; dsimp only [List.set] at hS4a
 have hS4 := Sat.row_cast (C := frC) (l := cl.set f.toNat ⟨x.u, s⟩) (hS4a.pull 1 rfl) (by rw [List.length_set]) rfl rfl; dsimp only [List.eraseIdx] at hS4
 clear hS3
 refine wl_nil (qs_seq ?_)
 refine wc_sub (L' := [(6, _)]) (.cons rfl .nil) ?_
 refine wc_seq (wc_region (wl_assign rfl rfl (wl_nil (qs_seq (wc_ret ?_)))))
 refine fin1 (.inr rfl) rfl rfl ?_
 have hfs : fl.set f.toNat (some s) = (cl.set f.toNat ⟨x.u, s⟩).map frO := by rw [fr_map, hfl]; congr 1; unfold frO; rw [if_pos hxu.1, b64_self hs]
 exact ⟨_, rfl, _, rfl, by rw [frSet_some hcb]; exact frT_shut hfs (by rw [List.length_set]; exact hcl) (by rw [usedF_same hfk]; exact hS4.pick [1, 0, 2] rfl)⟩
theorem frE_set {x : FrD} {at_ : Nat} {b : UInt8} (h : at_ < 64) : (frE x).set (1 + at_) (byteV b) = frE ⟨x.u, (b64 x.b).set at_ b⟩ := by
  unfold frE
  rw [Nat.add_comm 1 at_, List.set_cons_succ]
  congr 1
  dsimp only
  rw [b64_self (b := (b64 x.b).set at_ b) (by rw [List.length_set, b64_len])]
  simp [bytesV, List.map_set, byteV]
set_option maxRecDepth 100000 in
theorem fru_sp {w : World} {F : Th} (hS : Sat w [F]) (x : FrD) :
    Calls Tryz.prog 102 #[.agg (frE x).toArray] w (Ret fun v w' => v = .bool (!x.u) ∧ Sat w' [F]) := by
 refine calls_enter Tryz.func102 rfl Tryz.ntmps102 rfl ?_
 refine wc_seq (wc_region ?_)
 refine wl_box hS rfl rfl rfl ?_
 intro bp wbp hSbp0
 have hSbp : Sat wbp [blkT bp (frE x), F] := hSbp0
 refine wl_assign rfl rfl (wl_nil (qs_seq (wc_seq (wc_region ?_))))
 refine wl_fieldAddr rfl fo_115_0 rfl ?_
 refine wl_load rfl ag_4 (by first | assumption | exact hSbp.cell 0 rfl rfl) rfl ?_
 refine wl_not rfl rfl ?_
 refine wl_assign rfl rfl (wl_nil (qs_seq (wc_ret ?_)))
 refine fin1 (.inr rfl) rfl rfl ?_
 exact ⟨_, rfl, rfl, hSbp.pick [1] rfl⟩
set_option maxRecDepth 100000 in
theorem frix_sp {w : World} {F : Th} (hS : Sat w [F]) {lv : Value} {l : List FrD} (hL : Ent F (RdL frC lv l)) :
    Calls Tryz.prog 101 #[lv, .func (.func 102) #[] #[]] w (Ret fun v w' => (v = intV (-1) ∧ (∀ y ∈ l, y.u = true) ∧ Sat w' [F]) ∨ (∃ (k : Nat) (x : FrD), v = intV (k : Int) ∧ l[k]? = some x ∧ x.u = false ∧ Sat w' [F])) := by
 obtain ⟨ao, cap, rfl, hmax⟩ := (hL.sat hS 0 rfl).shape
 refine calls_enter Tryz.func101 rfl Tryz.ntmps101 rfl ?_
 refine wc_seq (wc_region (wl_assign rfl rfl (wl_nil (qs_seq (wc_seq (wc_seq (wc_region (wl_move rfl rfl ?_))))))))
 refine wl_lenL Tryz.underlying101 rfl rfl ?_
 refine wl_move rfl rfl (wl_nil (qs_seq (wc_block ?_)))
 refine wc_loop (fun K0 E0 W0 => ∃ (i : Nat), K0 = l.length - i ∧ E0 = [(0, .slice ao l.length cap), (1, .func (.func 102) #[] #[]), (7, intV (l.length : Int)), (8, intV (i : Int))] ∧ Sat W0 [F] ∧ (i ≤ l.length) ∧ (∀ j y, j < i → l[j]? = some y → y.u = true)) (L0 := [(0, _), (1, _), (7, _), (8, _)]) (l.length - 0) (.cons rfl (.cons rfl (.cons rfl (.cons rfl .nil)))) ⟨0, rfl, rfl, hS, by omega, by omega⟩ ?_
 rintro _ _ w1 ⟨i, rfl, rfl, hS1, hi, hno⟩
 refine wc_seq (wc_region ?_)
 refine wl_lss rfl rfl rfl ?_
 refine wl_nil (qs_seq (wc_seq ?_))
 refine wc_condD rfl (fun h2 => ?_) (fun h2 => ?_)
 ·obtain ⟨x, hx⟩ : ∃ x, l[i]? = some x := ⟨_, List.getElem?_eq_getElem (by omega)⟩
  obtain ⟨b, off, rfl, _⟩ := (hL.sat hS1 0 rfl).get hx
  refine wc_skip (qs_seq (wc_seq (wc_block (wc_seq (wc_region (wl_move rfl rfl (wl_assign rfl rfl (wl_nil (qs_seq (wc_seq (wc_region (wl_move rfl rfl (wl_move rfl rfl (wl_move rfl rfl ?_))))))))))))))
  refine wl_indexAddr i rfl rfl (by first | rfl | omega) (by exact (List.getElem?_eq_some_iff.1 hx).1) es_101 rfl ?_
  refine wl_loadAt rfl ag_115 (by rw [frE_len]; exact sz_115) (vs := frE x) ((hL.sat hS1 0 rfl).at_ hx) rfl ?_
  have hC3 := hS1.split [] [false] rfl; dsimp only [selF, pickA, nthA, List.cons_append, List.nil_append] at hC3
  refine wl_callV rfl cal_102 rfl (fru_sp hC3 x) rfl ?_
  rintro e w3 ⟨_, rfl, rfl, hS3⟩; refine ⟨_, rfl, ?_⟩
  replace hS3 := hS3.join rfl; dsimp only [List.dropLast, List.cons_append, List.nil_append] at hS3; clear hC3
  clear hS1
  refine wl_nil (qs_seq ?_)
  refine wc_sub (L' := [(16, _), (5, _), (0, _), (1, _), (7, _), (8, _)]) (.cons rfl (.cons rfl (.cons rfl (.cons rfl (.cons rfl (.cons rfl .nil)))))) ?_
  refine wc_cond rfl (fun h4 => ?_) (fun h4 => ?_)
  ·have hux : x.u = false := by simpa using h4
   refine wc_seq (wc_region (wl_move rfl rfl (wl_assign rfl rfl (wl_nil (qs_seq (wc_ret (qs_block_ret (qs_then_ret (qs_then_ret (qs_block_ret (qs_then_ret ?_)))))))))))
   refine fin1 (.inr rfl) rfl rfl ?_
   exact ⟨_, rfl, .inr ⟨i, x, rfl, hx, hux, hS3.pick [0] rfl⟩⟩
  have hux : x.u = true := by simpa using h4
  refine wc_skip (qs_block_normal (qs_seq (wc_region ?_)))
  refine wl_add rfl rfl (by omega) (by omega) rfl ?_
  refine wl_move rfl rfl (wl_nil ?_)
  exact qs_round (L1 := [(0, _), (1, _), (7, _), (8, intV ((i + 1 : Nat) : Int))]) (.cons rfl (.cons rfl (.cons rfl (.cons rfl .nil)))) (k1 := l.length - (i + 1)) (by omega) ⟨i + 1, rfl, rfl, hS3.pick [0] rfl, by omega, fun j y hj hq => by by_cases e : j = i; (subst e; rw [hx] at hq; cases hq; exact hux); exact hno j y (by omega) hq⟩
 refine wc_exit (qs_then_exit (qs_then_exit (qs_block_exit (qs_seq (wc_seq (wc_region (wl_assign rfl rfl (wl_nil (qs_seq (wc_ret ?_))))))))))
 refine fin1 (.inr rfl) rfl rfl ?_
 exact ⟨_, rfl, .inl ⟨rfl, fun y hm => by obtain ⟨j, hj⟩ := List.mem_iff_getElem?.1 hm; exact hno j y (by have := (List.getElem?_eq_some_iff.1 hj).1; omega) hj, hS1.pick [0] rfl⟩⟩
set_option maxRecDepth 100000 in
theorem fralloc_sp {w : World} {p : Nat} {fl : List (Option Bs)} {F : Th} (hS : Sat w [frT p fl, F]) :
    Calls Tryz.prog 89 #[ptrV p 0] w (Ret fun v w' => (v = .tuple #[intV 0, .bool false] ∧ (∀ o ∈ fl, o ≠ none) ∧ Sat w' [frT p fl, F]) ∨ (∃ k : Nat, fl[k]? = some none ∧ v = .tuple #[intV (k : Int), .bool true] ∧ Sat w' [frT p (fl.set k (some (b64 []))), F])) := by
 refine calls_enter Tryz.func89 rfl Tryz.ntmps89 rfl ?_
 refine wc_seq (wc_region (wl_assign rfl rfl (wl_assign rfl rfl (wl_nil (qs_seq (wc_seq ?_))))))
 obtain ⟨fa, fc, cl, hfl, hcl, hSo⟩ := frT_open (hS.pick [0, 1] rfl)
 have hul := usedF_le fl; have hfll := congrArg List.length hfl; rw [List.length_map] at hfll
 refine wc_region (wl_move rfl rfl (wl_nilCheck rfl rfl ?_))
 refine wl_fieldAddr rfl fo_103_0 rfl ?_
 refine wl_load rfl ag_101 (by first | assumption | exact hSo.cell 0 rfl rfl) rfl ?_
 have hC1 := hSo.split [] [false, false, false] rfl; dsimp only [selF, pickA, nthA, List.cons_append, List.nil_append] at hC1
 refine wl_call cal_101 rfl (frix_sp hC1 (Ent.starL (ent_row (C := frC) (l := cl) (by omega)) 1 rfl)) rfl ?_
 rintro e w1 ⟨_, rfl, (⟨rfl, hno, hS1⟩ | ⟨k, x, rfl, hx, hux, hS1⟩)⟩
 ·refine ⟨_, rfl, ?_⟩
  replace hS1 := hS1.join rfl; dsimp only [List.dropLast, List.cons_append, List.nil_append] at hS1; clear hC1
  clear hSo
  refine wl_assign rfl rfl (wl_nil (qs_seq (wc_seq (wc_seq (wc_region (wl_move rfl rfl ?_))))))
  refine wl_lss rfl rfl rfl ?_
  refine wl_nil (qs_seq ?_)
  refine wc_sub (L' := [(11, _), (4, _), (3, _), (2, _), (0, _)]) (.cons rfl (.cons rfl (.cons rfl (.cons rfl (.cons rfl .nil))))) ?_
  refine wc_condD rfl (fun h2 => ?_) (fun h2 => ?_)
  ·refine wc_seq (wc_region (wl_assign rfl rfl (wl_assign rfl rfl (wl_nil (qs_seq (wc_ret (qs_then_ret ?_)))))))
   refine fin2 (.inr rfl) rfl rfl rfl ?_
   exact ⟨_, rfl, .inl ⟨rfl, fun o ho => by rw [hfl] at ho; obtain ⟨y, hy, rfl⟩ := List.mem_map.1 ho; unfold frO; rw [if_pos (hno y hy)]; simp, frT_shut hfl hcl (hS1.pick [0, 1, 2] rfl)⟩⟩
  exact absurd h2 (by decide)
 refine ⟨_, rfl, ?_⟩
 replace hS1 := hS1.join rfl; dsimp only [List.dropLast, List.cons_append, List.nil_append] at hS1; clear hC1
 clear hSo
 refine wl_assign rfl rfl (wl_nil (qs_seq (wc_seq (wc_seq (wc_region (wl_move rfl rfl ?_))))))
 refine wl_lss rfl rfl rfl ?_
 refine wl_nil (qs_seq ?_)
 refine wc_sub (L' := [(11, _), (4, _), (3, _), (2, _), (0, _)]) (.cons rfl (.cons rfl (.cons rfl (.cons rfl (.cons rfl .nil))))) ?_
 refine wc_condD rfl (fun h3 => ?_) (fun h3 => ?_)
 ·exact absurd h3 (by omega)
 refine wc_skip (qs_seq (wc_seq (wc_region (wl_move rfl rfl (wl_nilCheck rfl rfl ?_)))))
 refine wl_fieldAddr rfl fo_103_0 rfl ?_
 refine wl_load rfl ag_101 (by first | assumption | exact hS1.cell 0 rfl rfl) rfl ?_
 refine wl_move rfl rfl ?_
 refine wl_buildS rfl pl_115_0 asz_115 zr_115 rfl rfl ?_
 refine wl_rowIdx frC 1 k hS1 rfl rfl rfl (by first | rfl | omega) hx es_101 rfl ?_
 intro bx4 capx4 hvx4
 refine wl_rowStore 1 k ⟨true, []⟩ hS1 rfl hvx4 rfl rfl sz_115 (by first | rfl | (simp; done)) (by first | omega | exact (List.getElem?_eq_some_iff.1 hx).1) ?_
 intro w5 hS6; dsimp only [List.set] at hS6
 clear hS1
 refine wl_nil (qs_seq ?_)
 refine wc_sub (L' := [(4, _), (3, _), (2, _), (0, _)]) (.cons rfl (.cons rfl (.cons rfl (.cons rfl .nil)))) ?_
 refine wc_seq (wc_region (wl_move rfl rfl (wl_nilCheck rfl rfl ?_)))
 refine wl_fieldAddr rfl fo_103_1 rfl ?_
 refine wl_load rfl ag_3 (by first | assumption | exact hS6.cell 0 rfl rfl) rfl ?_
 refine wl_add rfl rfl (by omega) (by omega) rfl ?_
 refine wl_nilCheck rfl rfl ?_
 refine wl_fieldAddr rfl fo_103_1 rfl ?_
 first | (refine wl_store hS6 rfl rfl sz_3 (by first | rfl | assumption | exact hS6.own_one 1 rfl) (i := 0) rfl (by first | decide | exact Nat.le_of_ble_eq_true rfl | (simp; done) | omega) ?_)
 intro w7 hS8; dsimp only [List.set] at hS8
 clear hS6
 refine wl_nil (qs_seq ?_)
 refine wc_sub (L' := [(4, _), (3, _), (2, _)]) (.cons rfl (.cons rfl (.cons rfl .nil))) ?_
 refine wc_seq (wc_region (wl_move rfl rfl (wl_assign rfl rfl (wl_assign rfl rfl (wl_nil (qs_seq (wc_ret ?_)))))))
 refine fin2 (.inr rfl) rfl rfl rfl ?_
 have hfk : fl[k]? = some none := by rw [hfl, List.getElem?_map, hx, Option.map_some]; unfold frO; rw [if_neg (by rw [hux]; decide)]
 have hfs : fl.set k (some (b64 [])) = (cl.set k ⟨true, []⟩).map frO := by rw [fr_map, hfl]; rfl
 exact ⟨_, rfl, .inr ⟨k, hfk, rfl, frT_shut hfs (by rw [List.length_set]; exact hcl) (by rw [usedF_put hfk, Int.natCast_add]; exact hS8.pick [0, 1, 2] rfl)⟩⟩
def frFree (fl : List (Option Bs)) (f : Int) : List (Option Bs) := match frAt fl f with | some _ => fl.set f.toNat none | none => fl
set_option maxRecDepth 100000 in
theorem frfree_sp {w : World} {p : Nat} {fl : List (Option Bs)} {F : Th} (hS : Sat w [frT p fl, F]) (f : Int) :
    Calls Tryz.prog 90 #[ptrV p 0, intV f] w (Ret fun v w' => ∃ e, v = intV e ∧ Sat w' [frT p (frFree fl f), F]) := by
 refine calls_enter Tryz.func90 rfl Tryz.ntmps90 rfl ?_
 refine wc_seq (wc_region (wl_assign rfl rfl (wl_nil (qs_seq (wc_seq (wc_seq (wc_region (wl_move rfl rfl (wl_move rfl rfl ?_)))))))))
 have hC1 := hS.split [0] [true, false] rfl; dsimp only [selF, pickA, nthA, List.cons_append, List.nil_append] at hC1
 refine wl_call cal_81 rfl (frhas_sp hC1 f) rfl ?_
 rintro e w1 ⟨_, rfl, rfl, hS1⟩; refine ⟨_, rfl, ?_⟩
 replace hS1 := hS1.join rfl; dsimp only [List.dropLast, List.cons_append, List.nil_append] at hS1; clear hC1
 refine wl_not rfl rfl ?_
 refine wl_nil (qs_seq ?_)
 refine wc_cond rfl (fun h2 => ?_) (fun h2 => ?_)
 ·refine wc_seq (wc_region (wl_assign rfl rfl (wl_nil (qs_seq (wc_ret (qs_then_ret ?_))))))
  refine fin1 (.inr rfl) rfl rfl ?_
  exact ⟨_, rfl, _, rfl, by rw [show frFree fl f = fl by unfold frFree; rw [show frAt fl f = none from by cases hq : frAt fl f with | none => rfl | some b => simp_all]]; exact hS1.pick [0, 1] rfl⟩
 obtain ⟨cb, hcb⟩ := Option.isSome_iff_exists.1 (show (frAt fl f).isSome = true by simpa using h2)
 refine wc_skip (qs_seq (wc_seq ?_))
 obtain ⟨fa, fc, cl, hfl, hcl, hSo⟩ := frT_open (hS1.pick [0, 1] rfl)
 have hul := usedF_le fl; have hfll := congrArg List.length hfl; rw [List.length_map] at hfll
 obtain ⟨hf0, hfk⟩ := frAt_some hcb
 have hfk2 := hfk
 rw [hfl, List.getElem?_map] at hfk2
 obtain ⟨x, hx, hxo⟩ := Option.map_eq_some_iff.1 hfk2
 have hxu : x.u = true ∧ b64 x.b = cb := by unfold frO at hxo; split at hxo; (rename_i q; cases hxo; exact ⟨q, rfl⟩); cases hxo
 have hxl := (List.getElem?_eq_some_iff.1 hx).1
 obtain ⟨ob, oc9, hq9, _⟩ := hSo.own_at 1 rfl (by omega)
 cases hq9
 refine wc_region (wl_move rfl rfl (wl_nilCheck rfl rfl ?_))
 refine wl_fieldAddr rfl fo_103_0 rfl ?_
 refine wl_load rfl ag_101 (by first | assumption | exact hSo.cell 0 rfl rfl) rfl ?_
 refine wl_move rfl rfl ?_
 refine wl_indexAddr f.toNat rfl rfl (by omega) hxl es_101 rfl ?_
 refine wl_fieldAddr rfl fo_115_0 rfl ?_
 refine wl_rowStoreF 1 f.toNat 0 ⟨false, x.b⟩ hSo rfl rfl rfl (by show 0 + f.toNat * 65 + 0 = f.toNat * 65 + 0; omega) rfl sz_4 hx rfl (by decide) rfl rfl ?_
 intro w3 hS3; dsimp only [List.set] at hS3
 clear hSo
 refine wl_nil (qs_seq ?_)
 refine wc_sub (L' := [(4, _), (0, _)]) (.cons rfl (.cons rfl .nil)) ?_
 refine wc_seq (wc_region (wl_move rfl rfl (wl_nilCheck rfl rfl ?_)))
 refine wl_fieldAddr rfl fo_103_1 rfl ?_
 refine wl_load rfl ag_3 (by first | assumption | exact hS3.cell 0 rfl rfl) rfl ?_
 refine wl_sub' rfl rfl (by first | omega | (have := usedF_free hfk; have := usedF_le fl; omega)) (by first | omega | (have := usedF_free hfk; have := usedF_le fl; omega)) rfl ?_
 refine wl_nilCheck rfl rfl ?_
 refine wl_fieldAddr rfl fo_103_1 rfl ?_
 first | (refine wl_store hS3 rfl rfl sz_3 (by first | rfl | assumption | exact hS3.own_one 1 rfl) (i := 0) rfl (by first | decide | exact Nat.le_of_ble_eq_true rfl | (simp; done) | omega) ?_)
 intro w4 hS5; dsimp only [List.set] at hS5
 clear hS3
 refine wl_nil (qs_seq (wc_seq (wc_region (wl_assign rfl rfl (wl_nil (qs_seq (wc_ret ?_)))))))
 refine fin1 (.inr rfl) rfl rfl ?_
 have hfs : fl.set f.toNat none = (cl.set f.toNat ⟨false, x.b⟩).map frO := by rw [fr_map, hfl]; rfl
 have hus := usedF_free hfk
 exact ⟨_, rfl, _, rfl, by rw [show frFree fl f = fl.set f.toNat none by unfold frFree; rw [hcb]]; exact frT_shut hfs (by rw [List.length_set]; exact hcl) (by rw [show ((usedF (fl.set f.toNat none) : Nat) : Int) = (usedF fl : Nat) - 1 by omega]; exact hS5.pick [0, 1, 2] rfl)⟩
set_option maxRecDepth 100000 in
theorem frset_sp {w : World} {p : Nat} {fl : List (Option Bs)} {F : Th} (hS : Sat w [frT p fl, F]) (f at_ : Int) (b : UInt8) :
    Calls Tryz.prog 67 #[ptrV p 0, intV f, intV at_, byteV b] w (Ret fun v w' => (((frAt fl f).isSome = false ∨ at_ < 0 ∨ 64 ≤ at_) ∧ Sat w' [frT p fl, F]) ∨ (v = intV 0 ∧ ∃ cb, frAt fl f = some cb ∧ (0 ≤ at_ ∧ at_ < 64) ∧ Sat w' [frT p (fl.set f.toNat (some (cb.set at_.toNat b))), F])) := by
 refine calls_enter Tryz.func67 rfl Tryz.ntmps67 rfl ?_
 refine wc_seq (wc_region (wl_assign rfl rfl (wl_nil (qs_seq (wc_seq (wc_block (wc_seq (wc_region (wl_move rfl rfl (wl_move rfl rfl ?_))))))))))
 have hC1 := hS.split [0] [true, false] rfl; dsimp only [selF, pickA, nthA, List.cons_append, List.nil_append] at hC1
 refine wl_call cal_81 rfl (frhas_sp hC1 f) rfl ?_
 rintro e w1 ⟨_, rfl, rfl, hS1⟩; refine ⟨_, rfl, ?_⟩
 replace hS1 := hS1.join rfl; dsimp only [List.dropLast, List.cons_append, List.nil_append] at hS1; clear hC1
 refine wl_not rfl rfl ?_
 refine wl_assign rfl rfl (wl_nil (qs_seq ?_))
 refine wc_cond rfl (fun h2 => ?_) (fun h2 => ?_)
 ·refine wc_seq (wc_region (wl_assign rfl rfl (wl_nil (qs_seq (wc_ret (qs_block_ret (qs_then_ret ?_)))))))
  refine fin1 (.inr rfl) rfl rfl ?_
  exact ⟨_, rfl, by rw [show frAt fl f = none from by cases hq : frAt fl f with | none => rfl | some b => simp_all]; exact .inl ⟨by simp, hS1.pick [0, 1] rfl⟩⟩
 obtain ⟨cb, hcb⟩ := Option.isSome_iff_exists.1 (show (frAt fl f).isSome = true by simpa using h2)
 refine wc_seq (wc_region (wl_move rfl rfl ?_))
 refine wl_lss rfl rfl rfl ?_
 refine wl_move rfl rfl ?_
 refine wl_splitD 17 rfl (fun h3 => ?_) (fun h3 => ?_)
 ·refine wl_unwanted rfl rfl (decide_eq_true h3) rfl ?_
  refine wl_unwanted rfl rfl (decide_eq_true h3) rfl ?_
  refine wl_pickT rfl (decide_eq_true h3) rfl rfl ?_
  refine wl_assign rfl rfl (wl_nil (qs_seq ?_))
  refine wc_sub (L' := [(14, _), (8, _), (0, _), (1, _), (2, _), (3, _)]) (.cons rfl (.cons rfl (.cons rfl (.cons rfl (.cons rfl (.cons rfl .nil)))))) ?_
  refine wc_condT rfl ?_
  refine wc_seq (wc_region (wl_assign rfl rfl (wl_nil (qs_seq (wc_ret (qs_block_ret (qs_then_ret ?_)))))))
  refine fin1 (.inr rfl) rfl rfl ?_
  exact ⟨_, rfl, .inl ⟨by omega, hS1.pick [0, 1] rfl⟩⟩
 refine wl_guard rfl rfl (decide_eq_false h3) ?_
 refine wl_move rfl rfl ?_
 refine wl_guard rfl rfl (decide_eq_false h3) ?_
 refine wl_geq rfl rfl rfl ?_
 refine wl_pickF rfl (decide_eq_false h3) rfl rfl ?_
 refine wl_assign rfl rfl (wl_nil (qs_seq ?_))
 refine wc_sub (L' := [(14, _), (8, _), (0, _), (1, _), (2, _), (3, _)]) (.cons rfl (.cons rfl (.cons rfl (.cons rfl (.cons rfl (.cons rfl .nil)))))) ?_
 refine wc_condD rfl (fun h4 => ?_) (fun h4 => ?_)
 ·refine wc_seq (wc_region (wl_assign rfl rfl (wl_nil (qs_seq (wc_ret (qs_block_ret (qs_then_ret ?_)))))))
  refine fin1 (.inr rfl) rfl rfl ?_
  exact ⟨_, rfl, .inl ⟨by omega, hS1.pick [0, 1] rfl⟩⟩
 refine wc_skip (qs_block_normal (qs_seq (wc_seq ?_)))
 obtain ⟨fa, fc, cl, hfl, hcl, hSo⟩ := frT_open (hS1.pick [0, 1] rfl)
 have hul := usedF_le fl; have hfll := congrArg List.length hfl; rw [List.length_map] at hfll
 obtain ⟨hf0, hfk⟩ := frAt_some hcb
 have hfk2 := hfk
 rw [hfl, List.getElem?_map] at hfk2
 obtain ⟨x, hx, hxo⟩ := Option.map_eq_some_iff.1 hfk2
 have hxu : x.u = true ∧ b64 x.b = cb := by unfold frO at hxo; split at hxo; (rename_i q; cases hxo; exact ⟨q, rfl⟩); cases hxo
 have hxl := (List.getElem?_eq_some_iff.1 hx).1
 obtain ⟨ob, oc9, hq9, _⟩ := hSo.own_at 1 rfl (by omega)
 cases hq9
 refine wc_region (wl_move rfl rfl (wl_nilCheck rfl rfl ?_))
 refine wl_fieldAddr rfl fo_103_0 rfl ?_
 refine wl_load rfl ag_101 (by first | assumption | exact hSo.cell 0 rfl rfl) rfl ?_
 refine wl_move rfl rfl (wl_move rfl rfl (wl_move rfl rfl ?_))
 refine wl_indexAddr f.toNat rfl rfl (by omega) hxl es_101 rfl ?_
 refine wl_fieldAddr rfl fo_115_1 rfl ?_
 refine wl_indexAddrA at_.toNat Tryz.underlying113 rfl rfl (by omega) (by omega) sz_5 rfl ?_
 refine wl_rowStoreF 1 f.toNat (1 + at_.toNat) (⟨x.u, (b64 x.b).set at_.toNat b⟩ : FrD) hSo rfl rfl rfl (by show 0 + f.toNat * 65 + 1 + at_.toNat * 1 = f.toNat * 65 + (1 + at_.toNat); omega) rfl sz_5 hx rfl (by show 1 + at_.toNat < 65; omega) (show (frE x).set (1 + at_.toNat) (byteV b) = frE ⟨x.u, (b64 x.b).set at_.toNat b⟩ from frE_set (by omega)) rfl ?_
 intro w5 hS5; dsimp only [List.set] at hS5
 clear hSo
 refine wl_nil (qs_seq ?_)
 refine wc_sub (L' := [(8, _)]) (.cons rfl .nil) ?_
 refine wc_seq (wc_region (wl_assign rfl rfl (wl_nil (qs_seq (wc_ret ?_)))))
 refine fin1 (.inr rfl) rfl rfl ?_
 have hfs : fl.set f.toNat (some (cb.set at_.toNat b)) = (cl.set f.toNat ⟨x.u, (b64 x.b).set at_.toNat b⟩).map frO := by rw [fr_map, hfl]; congr 1; unfold frO; rw [if_pos hxu.1, b64_self (by rw [List.length_set, b64_len]), hxu.2]
 exact ⟨_, rfl, .inr ⟨rfl, cb, hcb, by omega, frT_shut hfs (by rw [List.length_set]; exact hcl) (by rw [usedF_same hfk]; exact hS5.pick [0, 1, 2] rfl)⟩⟩
theorem usedF_none (m : Nat) : usedF (List.replicate m none) = 0 := by unfold usedF; simp
theorem frow {Z : List Value} (hZ : Z = frE ⟨false, []⟩) (m : Nat) : (List.replicate m Z).flatten = frC.cells (List.replicate m ⟨false, []⟩) := by
  subst hZ
  induction m with
  | zero => rfl
  | succ m ih => rw [List.replicate_succ, List.flatten_cons, ih, List.replicate_succ]; rfl
set_option maxRecDepth 100000 in
theorem frnew_sp {w : World} {F : Th} (hS : Sat w [F]) (n : Int) :
    Calls Tryz.prog 29 #[intV n] w (Ret fun v w' => ∃ p, v = ptrV p 0 ∧ Sat w' [frT p (List.replicate (min (max n 0) 4096).toNat none), F]) := by
 refine calls_enter Tryz.func29 rfl Tryz.ntmps29 rfl ?_
 refine wc_seq (wc_region (wl_assign rfl rfl (wl_nil (qs_seq (wc_seq (wc_region (wl_move rfl rfl ?_)))))))
 refine wl_maxI rfl rfl rfl ?_
 refine wl_minI rfl rfl rfl ?_
 refine wl_make hS (min (max n 0) 4096).toNat rfl rfl (by omega) Tryz.underlying101 ifo_115 rfl (by omega) (by omega) rfl ?_
 intro db w1 hS1a; have hS1 := hS1a.row_cast (l := List.replicate (min (max n 0) 4096).toNat ⟨false, []⟩) (C := frC) (by simp) rfl (frow rfl _)
 refine wl_buildS rfl pl_103_0 asz_103 zr_103 rfl rfl ?_
 refine wl_box hS1 rfl rfl rfl ?_
 intro bp wbp hSbp
 clear hS1
 refine wl_assign rfl rfl (wl_nil (qs_seq (wc_ret ?_)))
 refine fin1 (.inr rfl) rfl rfl ?_
 exact ⟨_, rfl, _, rfl, frT_shut (cl := List.replicate (min (max n 0) 4096).toNat ⟨false, []⟩) (by rw [List.map_replicate]; rfl) (by rw [List.length_replicate]; omega) (by rw [usedF_none]; exact hSbp.pick [0, 1, 2] rfl)⟩
end Go.Proofs.YtnicmcdeoimhlaaGreat
/- strings.Builder as things: its block (typed) and its buffer (typed). Conditions: each rule's own hypotheses. -/
namespace Go.Proofs.YtnicmcdeoimhlaaGreat.M
open Go.RowKit
/-- a block of type T -/
def tblkT (T b : Nat) (cs : List Value) : Th where
  at_ := fun w F => (F = fun k => k = b) ∧ w.heap[b]? = some (.cells cs.toArray T (0, 0))
  fr := fun a ⟨e, h⟩ => ⟨e, by rw [a.blk _ (by rw [e])]; exact h⟩
  lt := fun {w F} ⟨e, h⟩ k hk => by
    rw [e] at hk; subst hk
    rcases Nat.lt_or_ge k w.heap.size with g | g
    · exact g
    · rw [Array.getElem?_eq_none g] at h; cases h
/-- a row of bytes, typed e -/
def bufT (e : Nat) (v : Value) (bs : List UInt8) : Th where
  at_ := fun w F => (F = fun k => v.ownBlock = some k) ∧ w.ownsRow 0 e 1 v bs.length (byC.cells bs) ∧ (bs = [] → v = .slice none 0 0)
  fr := fun {w w' F} a ⟨e1, ⟨hl, h⟩, hn⟩ => ⟨e1, ⟨hl, by
    rcases h with h | ⟨g, cap, cur, h1, h2, h3, h4⟩
    · exact .inl h
    · exact .inr ⟨g, cap, cur, h1, h2, by rw [a.blk _ (by rw [e1, h1]; rfl)]; exact h3, h4⟩⟩, hn⟩
  lt := fun {w F} ⟨e1, h, _⟩ k hk => by rw [e1] at hk; exact (h.lt k hk).2
/-- what a typed row is, untyped -/
theorem own_of_row {w : World} {e n : Nat} {v : Value} {xs : List Value} (h : w.ownsRow 0 e 1 v n xs) : ∃ foot, Own w v n 1 xs foot ∧ ∀ k, k ∈ foot ↔ v.ownBlock = some k := by
  obtain ⟨hl, ⟨rfl, rfl⟩ | ⟨g, cap, cur, rfl, _, hg, hc, _, hs, ht⟩⟩ := h
  · exact ⟨[], ⟨hl, .inl ⟨rfl, rfl, rfl⟩⟩, by simp [Value.ownBlock]⟩
  · have he : xs ++ cur.toList.drop (n * 1) = cur.toList := by rw [← ht]; exact List.take_append_drop _ _
    refine ⟨[g], ⟨hl, .inr ⟨g, cap, cur.toList.drop (n * 1), rfl, hc, ⟨e, 0, 0, ?_, .inl (Nat.le_refl _)⟩, ?_, rfl⟩⟩, by simp [Value.ownBlock, eq_comm]⟩
    · rw [he]; exact hg
    · rw [he]; simpa using hs
section
variable {P : Program} {n : Nat} {ops : Array Oper} {Q : Exit → Act → World → Prop} {rest : List Oper} {L : Env} {w : World} {d : Nat} {ty : TypeId} {pos : String} {aft : Array Edge} {As : List Th} {T e b : Nat} {cs : List Value}
theorem Sat.tblk (h : Sat w As) (i : Nat) (hi : As[i]? = some (tblkT T b cs)) : w.heap[b]? = some (.cells cs.toArray T (0, 0)) := by
  obtain ⟨F, _, h⟩ := h.get i hi; exact h
theorem Sat.tcell (h : Sat w As) (i : Nat) (hi : As[i]? = some (tblkT T b cs)) {o : Nat} {v : Value} (hv : cs[o]? = some v) : w.cell? ⟨b, o, none⟩ = some v := by
  rw [Lib.cell_of_heap (h.tblk i hi)]; simpa using hv
theorem Sat.tshape (h : Sat w As) (i : Nat) (hi : As[i]? = some (tblkT T b cs)) : w.shape? b = some (T, cs.length) := by
  simp [World.shape?, h.tblk i hi]
theorem Sat.buf (h : Sat w As) (i : Nat) {v : Value} {bs : List UInt8} (hi : As[i]? = some (bufT e v bs)) : w.ownsRow 0 e 1 v bs.length (byC.cells bs) ∧ (bs = [] → v = .slice none 0 0) := by
  obtain ⟨F, _, h⟩ := h.get i hi; exact h
/-- the shape of a buffer -/
theorem Sat.bufv (h : Sat w As) (i : Nat) {v : Value} {bs : List UInt8} (hi : As[i]? = some (bufT e v bs)) : ∃ ao cap, v = .slice ao bs.length cap ∧ v.oneCell' = true ∧ (ao = none ∧ bs = [] ∨ ∃ g, ao = some ⟨g, 0, none⟩ ∧ cap ≠ 0 ∧ bs ≠ []) := by
  obtain ⟨⟨_, ⟨rfl, h1⟩ | ⟨g, cap, cur, rfl, _, _, h1, _⟩⟩, hn⟩ := h.buf i hi
  · have : bs = [] := List.eq_nil_of_length_eq_zero h1
    subst this
    exact ⟨none, 0, rfl, rfl, .inl ⟨rfl, rfl⟩⟩
  · have hb : bs ≠ [] := fun e => by have := hn e; cases this
    have : 0 < bs.length := List.length_pos_iff.2 hb
    exact ⟨_, cap, rfl, rfl, .inr ⟨g, rfl, by omega, hb⟩⟩
/-- a new variable, its type kept -/
theorem wl_allocT {t : Nat} {z : Value} (hS : Sat w As) (hz : zeroOf P t = some (some z)) (hcs : z.cells.toList = cs) (hd : Nat.blt d n = true) (hk : ∀ b w', Sat w' (tblkT t b cs :: As) → wl P n ops Q rest ((d, ptrV b 0) :: L) w') : wl P n ops Q (⟨some d, .alloc t, ty, pos, aft, none⟩ :: rest) L w := by
  subst hcs
  refine wl_does rfl hd (R := fun v w' => v = ptrV w.heap.size 0 ∧ w' = w.alloc (.cells z.cells t)) (fun a ha => ⟨_, _, .inl ?_, rfl, rfl⟩) (fun v w' ⟨e1, e2⟩ => ?_)
  · simp [execOp, Instr.alloc, run_zeroOf hz, newVar, newRow]
  · subst e1 e2
    refine hk _ _ (hS.new ((Only.refl _ _).alloc _) (A := tblkT t w.heap.size z.cells.toList) (F' := fun k => k = w.heap.size) ⟨rfl, ?_⟩ (fun k hk => by rw [hk]; exact Nat.le_refl _))
    simpa using heap_alloc_new w (.cells z.cells t)
/-- a cell of a typed block is stored into -/
theorem wl_storeT {x y : Operand} {t o i : Nat} {v : Value} (hS : Sat w As) (hx : look L x = some (ptrV b o)) (hy : look L y = some v) (hs : szOf P t = some 1) (h1 : v.oneCell' = true) (hi : As[i]? = some (tblkT T b cs)) (ho : o < cs.length)
    (hk : ∀ w', Sat w' (As.set i (tblkT T b (cs.set o v))) → wl P n ops Q rest L w') : wl P n ops Q (⟨none, .store t x y, ty, pos, aft, none⟩ :: rest) L w := by
  have hb := hS.tblk i hi
  have hc := hS.tcell i hi (o := o) (List.getElem?_eq_getElem ho)
  have hf : w.frozen? ⟨b, o, none⟩ = false := Lib.frozen_of_heap hb o
  have hcs : v.cells = #[v] := by cases v <;> first | rfl | cases h1
  refine wl_does rfl rfl (R := fun _ w' => w' = w.setCell ⟨b, o, none⟩ v) (fun a ha => ⟨undef, _, .inr ⟨?_, rfl⟩, rfl⟩) (fun _ w' e => ?_)
  · have hst : (store ⟨b, o, none⟩ v).run P w = .ok () (w.setCell ⟨b, o, none⟩ v) := by
      rw [run_store P w _ v _ h1, hc]; simp [hf]
    have e0 : (⟨b, o, none⟩ : Addr).add 0 = ⟨b, o, none⟩ := by simp [Addr.add]
    simp [execOp, ha.eval hx, ha.eval hy, Instr.storeAt, Instr.sureAddr, storeVar, hcs, run_sizeOf hs, storeCells, e0, hst]
  · subst e
    refine hk _ (hS.step i hi fun F ⟨e1, _⟩ => ⟨F, ⟨e1, ?_⟩, fun k hk => .inl hk, ((Only.refl [b] w).setCell (.inl (by simp)) v).agree (fun x hx => .inl (by simp only [List.mem_singleton] at hx; subst hx; rw [e1]))⟩)
    simp [World.setCell, Array.getElem?_modify, hb]
/-- append to a buffer -/
theorem wl_bufApp {t t2 : TypeId} {s x : Operand} {v xv z : Value} {bs l2 : List UInt8} {bytes : Nat} (i : Nat) (hS : Sat w As) (hi : As[i]? = some (bufT e v bs)) (hs : look L s = some v) (hx : look L x = some xv) (hr : RdL byC xv l2 w) (h0 : l2 ≠ []) (hu : P.underlying t = some (.slice e)) (ht : t2 = t)
    (hif : (P.info? e).map (fun i => (i.zero, i.size, i.bytes)) = some (some z, 1, bytes)) (hz : z.cells.size = 1) (hb : (bs.length + l2.length) * bytes ≤ 140737488355328) (hm : bs.length + l2.length ≤ 281474976710656) (hd : Nat.blt d n = true)
    (hk : ∀ v' w', Sat w' (As.set i (bufT e v' (bs ++ l2))) → wl P n ops Q rest ((d, v') :: L) w') : wl P n ops Q (⟨some d, .call ⟨.builtin .append, #[s, x], #[t, t2]⟩, ty, pos, aft, none⟩ :: rest) L w := by
  subst ht
  obtain ⟨hown, hnil⟩ := hS.buf i hi
  obtain ⟨foot, hO, hfoot⟩ := own_of_row hown
  obtain ⟨ao, cap, rfl, hmax, hcells⟩ := hr
  obtain ⟨c0, hc0⟩ : ∃ c0, l2[0]? = some c0 := ⟨_, List.getElem?_eq_getElem (List.length_pos_iff.2 h0)⟩
  obtain ⟨g0, off0, rfl, _⟩ := hcells 0 c0 hc0
  have hnews : ∀ j u, (byC.cells l2)[j]? = some u → w.cell? ((⟨g0, off0, none⟩ : Addr).add j) = some u := by
    intro j u hu'
    rw [addr_add]
    have hj := (List.getElem?_eq_some_iff.1 hu').1
    rw [byC.cells_len] at hj
    have hj' : j < l2.length := by simpa [byC] using hj
    obtain ⟨g1, o1, e1, hc⟩ := hcells j l2[j] (List.getElem?_eq_getElem hj')
    cases e1
    have h2 : (byC.cells l2)[j]? = some (.int .u8 (l2[j].toNat : Int)) := by
      have := RowC.cells_at (C := byC) (l := l2) (j := j) (List.getElem?_eq_getElem hj')
      have h3 := congrArg (fun q => q[0]?) this
      simpa [byC, List.getElem?_take, List.getElem?_drop] using h3
    rw [h2] at hu'; cases hu'
    have := hc 0 _ rfl
    simpa [byC] using this
  have hrd : RdL byC (.slice (some ⟨g0, off0, none⟩) l2.length cap) l2 w := ⟨_, cap, rfl, hmax, hcells⟩
  obtain ⟨inf, hi1, hi2, hi3, hi4⟩ := info_parts hif
  refine wl_does rfl hd (R := fun v w' => Sat w' (As.set i (bufT e v (bs ++ l2)))) (fun a ha => ?_) (fun v w' hR => hk v w' hR)
  obtain ⟨v1, w1, hrun, foot', o1, o2, o3, _⟩ := does_append (P := P) (o := ⟨some d, .call ⟨.builtin .append, #[s, x], #[t2, t2]⟩, ty, pos, aft, none⟩) (a := a) t2 t2 s x rfl (ha.eval hs) (ha.eval hx) hO hu hu (by intro k hk; cases hk) hif hz (by decide) (hrd.lenOf) (hrd.first) (byC.cells_len l2) (allOne_spec (byC.cells_one l2)) hb (by omega)
  obtain ⟨v2, w2, hr2, hown2, _, _⟩ := run_append_own (P := P) w 0 t2 ty e inf z 1 bytes hu hi1 hi2 hi3 hi4 hz (by decide) v bs.length (byC.cells bs) hown ⟨g0, off0, none⟩ l2.length cap (byC.cells l2) (byC.cells_len l2) hnews (allOne_spec (byC.cells_one l2)) (by unfold maxLen; omega) hb (Nat.zero_le _)
  have hex : (execOp a.eval ⟨some d, .call ⟨.builtin .append, #[s, x], #[t2, t2]⟩, ty, pos, aft, none⟩).run P w = .ok (.value v2) w2 := by
    simp [execOp, ha.eval hs, ha.eval hx, resolve, invoke, builtin, hr2]
  have heq : v1 = v2 ∧ w1 = w2 := by
    rcases hrun with h | ⟨h, _⟩
    · rw [hex] at h; cases h; exact ⟨rfl, rfl⟩
    · rw [hex] at h; cases h
  obtain ⟨rfl, rfl⟩ := heq
  refine ⟨v1, w1, .inl hex, ?_⟩
  have hfoot' : ∀ k, v1.ownBlock = some k → k ∈ foot' := by
    intro k hk'
    obtain ⟨_, ⟨e1, _, _⟩ | ⟨b1, c1, s1, e1, _, _, _, rfl⟩⟩ := o1
    · rw [e1] at hk'; cases hk'
    · rw [e1] at hk'; simp [Value.ownBlock] at hk'; simp [hk']
  refine hS.step i hi fun F ⟨eF, _⟩ => ⟨fun k => v1.ownBlock = some k, ⟨rfl, ?_, fun q => absurd (List.append_eq_nil_iff.1 q).2 h0⟩, fun k hk' => ?_, o2.agree fun k hk' => ?_⟩
  · rw [List.length_append, ← RowC.cells_app]; exact hown2
  · rcases o3 k (hfoot' k hk') with q | q
    · exact .inl (by rw [eF]; exact (hfoot k).1 q)
    · exact .inr q
  · exact .inl (by rw [eF]; exact (hfoot k).1 hk')
/-- unsafe.SliceData of a buffer -/
theorem wl_sliceData {ao : Option Addr} {m cap : Nat} {ts : Array TypeId} {x : Operand} (hx : look L x = some (.slice ao m cap)) (h0 : ao = none ∨ cap ≠ 0) (hd : Nat.blt d n = true) (hk : wl P n ops Q rest ((d, .pointer ao) :: L) w) : wl P n ops Q (⟨some d, .call ⟨.builtin .unsafeSliceData, #[x], ts⟩, ty, pos, aft, none⟩ :: rest) L w := by
  refine wl_does rfl hd (R := fun v w' => v = .pointer ao ∧ w' = w) (fun a ha => ⟨_, _, .inl ?_, rfl, rfl⟩) (by rintro _ _ ⟨rfl, rfl⟩; exact hk)
  have hr : (Builtin.unsafeSliceData_ ts ty #[.slice ao m cap]).run P w = .ok (.pointer ao) w := by
    cases ao with
    | none => exact Lib.run_unsafeSliceData_nil w ts ty m cap
    | some q => exact Lib.run_unsafeSliceData_row w ts ty q m cap (by rcases h0 with h0 | h0; cases h0; exact h0)
  simp [execOp, ha.eval hx, resolve, invoke, builtin, hr]
/-- unsafe.String of a buffer: the buffer is given up -/
theorem wl_unsafeString {ao : Option Addr} {cap pt it : Nat} {bs : List UInt8} {x y : Operand} (i : Nat) (hS : Sat w As) (hi : As[i]? = some (bufT e (.slice ao bs.length cap) bs)) (hx : look L x = some (.pointer ao)) (hy : look L y = some (.int .i64 (bs.length : Int))) (hp : P.underlying pt = some (.pointer e)) (hc : P.cellsOf e = 1) (hlen : bs.length ≤ 9223372036854775807) (hd : Nat.blt d n = true)
    (hk : ∀ w', Sat w' (As.eraseIdx i) → wl P n ops Q rest ((d, strV bs) :: L) w') : wl P n ops Q (⟨some d, .call ⟨.builtin .unsafeString, #[x, y], #[pt, it]⟩, ty, pos, aft, none⟩ :: rest) L w := by
  obtain ⟨hown, hnil⟩ := hS.buf i hi
  have hg : ∃ w', (Builtin.unsafeString_ #[pt, it] ty #[.pointer ao, .int .i64 bs.length]).run P w = .ok (strV bs) w' ∧ Sat w' (As.eraseIdx i) := by
    by_cases h0 : bs = []
    · subst h0
      have hv := hnil rfl
      simp only [Value.slice.injEq, List.length_nil, true_and] at hv
      obtain ⟨rfl, _⟩ := hv
      exact ⟨w, Lib.run_unsafeString_none w pt it ty none, hS.drop i hi⟩
    · obtain ⟨_, ⟨hv, h1⟩ | ⟨g, cap', cur, hv, _, hgb, h1, _, h2, h3⟩⟩ := hown
      · exact absurd (List.eq_nil_of_length_eq_zero h1) h0
      · simp only [Value.slice.injEq, true_and] at hv
        obtain ⟨rfl, rfl⟩ := hv
        refine ⟨w.freeze ⟨g, 0, none⟩ bs.length, Lib.run_unsafeString_row w pt it ty e hp hc g cur.size (by simp [World.shape?, hgb]) bs h0 (by omega) hlen ?_, ?_⟩
        · intro j c hj
          rw [addr_add]
          simp only [Nat.zero_add]
          rw [Lib.cell_of_heap hgb]
          have hj' := (List.getElem?_eq_some_iff.1 hj).1
          have : (byC.cells bs)[j]? = some (.int .u8 (c.toNat : Int)) := by
            have := RowC.cells_at (C := byC) (l := bs) (j := j) hj
            have h3 := congrArg (fun q => q[0]?) this
            simpa [byC, List.getElem?_take, List.getElem?_drop] using h3
          rw [← h3, List.getElem?_take] at this
          split at this
          · simpa using this
          · cases this
        · have hp1 := hS.pull i hi
          obtain ⟨F, F1, F2, rfl, dj, ⟨e1, _⟩, h2'⟩ := hp1
          refine ⟨F2, (starL _).fr (F := F2) ?_ h2'⟩
          have hb := Lib.below_freeze (B := 0) (Below.refl 0 w) (p := ⟨g, 0, none⟩) (Nat.zero_le _) bs.length
          refine ⟨hb.os, hb.tape, hb.output, fun k hk' => ?_⟩
          have hne : k ≠ g := by
            rintro rfl
            exact dj k (by rw [e1]; rfl) hk'
          unfold World.freeze
          split
          · rfl
          · simp only [Array.getElem?_modify]
            rw [if_neg (fun q => hne q.symm)]
  obtain ⟨w', h1, h2⟩ := hg
  refine wl_does rfl hd (R := fun v u => v = strV bs ∧ u = w') (fun a ha => ⟨_, _, .inl ?_, rfl, rfl⟩) (by rintro _ _ ⟨rfl, rfl⟩; exact hk _ h2)
  simp [execOp, ha.eval hx, ha.eval hy, resolve, invoke, builtin, h1]
/-- a pointer to an unsafe one, and back -/
theorem wl_toUnsafe {src dst t o : Nat} {x : Operand} {j : TypeInfo} {S : Nat × Nat} (hx : look L x = some (ptrV b o)) (hs : P.underlying src = some (.pointer t)) (hd' : P.underlying dst = some .unsafePointer) (ht : P.info? t = some j) (hj : j.size ≠ 0) (hsh : w.shape? b = some S) (ho : o < S.2) (hd : Nat.blt d n = true) (hk : wl P n ops Q rest ((d, ptrV b o) :: L) w) : wl P n ops Q (⟨some d, .convert src dst x, ty, pos, aft, none⟩ :: rest) L w :=
  wl_val hd (fun ρ hρ => by
    have := Lib.run_to_unsafe (P := P) (w := w) (e := S.1) (cells := S.2) (⟨b, o, none⟩ : Addr) hs hd' ht hj hsh ho
    simp [execOp, hρ _ _ hx, ptrV, this]) hk
theorem wl_fromUnsafe {src dst u o : Nat} {x : Operand} {j : TypeInfo} {S : Nat × Nat} (hx : look L x = some (ptrV b o)) (hs : P.underlying src = some .unsafePointer) (hd' : P.underlying dst = some (.pointer u)) (hu : P.info? u = some j) (hsh : w.shape? b = some S) (hl : liesAt P P.depth S.1 (S.2 / P.cellsOf S.1) o u 1 = true) (hd : Nat.blt d n = true) (hk : wl P n ops Q rest ((d, ptrV b o) :: L) w) : wl P n ops Q (⟨some d, .convert src dst x, ty, pos, aft, none⟩ :: rest) L w :=
  wl_val hd (fun ρ hρ => by
    have := Lib.run_from_unsafe (P := P) (w := w) (e := S.1) (cells := S.2) (⟨b, o, none⟩ : Addr) hs hd' hu hsh hl
    simp [execOp, hρ _ _ hx, ptrV, this]) hk
/-- p != p -/
theorem wl_neqPtrSame {x y : Operand} {t t2 u : TypeId} {q : Addr} {j : TypeInfo} (hu : P.underlying t = some (.pointer u)) (hj : P.info? u = some j) (hx : look L x = some (.pointer (some q))) (hy : look L y = some (.pointer (some q))) (hd : Nat.blt d n = true) (hk : wl P n ops Q rest ((d, .bool false) :: L) w) : wl P n ops Q (⟨some d, .binOp .neq t x y t2, ty, pos, aft, none⟩ :: rest) L w :=
  wl_val hd (fun ρ hρ => by
    have h : (Op.equal t (.pointer (some q)) (.pointer (some q))).run P w = .ok true w := by
      unfold Op.equal Op.maxDepth Op.equalIn
      simp [run_underlying hu, sizeOf, typeInfo, hj, run_sameAddr_same]
    simp [execOp, hρ _ _ hx, hρ _ _ hy, eqGuard, binOp, h]) hk
/-- a function without a body that gives its argument back -/
theorem wl_extSame {f : Nat} {fn : Func} {x : Operand} {ts : Array TypeId} {v : Value} (hf : P.funcs[f]? = some fn) (hname : (fn.name == "runtime.NumGoroutine") = false) (hb : fn.body.isNone = true) (hn : Extern.findNext fn = none) (he : Extern.find fn = some Extern.AbiNoEscape.same)
    (hx : look L x = some v) (hd : Nat.blt d n = true) (hk : wl P n ops Q rest ((d, v) :: L) w) : wl P n ops Q (⟨some d, .call ⟨.value (.func f), #[x], ts⟩, ty, pos, aft, none⟩ :: rest) L w := by
  refine wl_does rfl hd (R := fun u w' => u = v ∧ w' = w) (fun a ha => ⟨_, _, .inl ?_, rfl, rfl⟩) (by rintro _ _ ⟨rfl, rfl⟩; exact hk)
  have hr : (Extern.AbiNoEscape.same #[v]).run P w = .ok v w := rfl
  have hc := run_callFunc_extern hf hname hb hn he #[v] w
  rw [hr] at hc
  simp only [execOp, resolve, Act.eval, Deferred.ofValue, invoke]
  have hxe := ha.eval hx
  simp
  rw [hxe, hc]; rfl
end
end Go.Proofs.YtnicmcdeoimhlaaGreat.M
/-
  DERIVED: THE SHELF's CONTRACTS AT THIS DUMP, IN PLAIN WORDS (tools/lay-plain.mjs out of 'TryzShelf.lean', which tools/lay-shelf.mjs wrote): THE SAME DECLARATIONS UNDER THE SAME NAMES: 'import', 'namespace', 'open', 'def', 'theorem' AND NOTHING ELSE: no command of the shelf's: FOR A HAND-IN. Each laying: the table of numbers ('.._ren') and one theorem, a field a fact of the dump's own or the kernel's comparison; each contract: ONE APPLICATION.
-/
namespace Go.Proofs
open Go.Shelf
def Tryz.laysM316_ren : Go.Shelf.Ren := ⟨fun | 316 => 80 | n => n, fun | 9 => 9 | 3 => 3 | 4 => 4 | 37 => 70 | 0 => 0 | 127 => 112 | 5 => 5 | n => n, fun | n => n⟩
theorem Tryz.laysM316 : Go.Proofs.LaysM.n316 Tryz.prog Tryz.laysM316_ren := {
  mixed := by kernel_rfl
  f316 := Tryz.func80.trans (congrArg some (by kernel_rfl))
  t0 := Tryz.underlying0
  a0 := Tryz.isAgg0
  z0 := Tryz.sizeOf0
  v0 := Tryz.zeroValue0
  t3 := Tryz.underlying3
  a3 := Tryz.isAgg3
  z3 := Tryz.sizeOf3
  v3 := Tryz.zeroValue3
  t4 := Tryz.underlying4
  a4 := Tryz.isAgg4
  z4 := Tryz.sizeOf4
  v4 := Tryz.zeroValue4
  t9 := Tryz.underlying9
  a9 := Tryz.isAgg9
  z9 := Tryz.sizeOf9
  v9 := Tryz.zeroValue9
  t37 := Tryz.underlying70
  a37 := Tryz.isAgg70
  z37 := Tryz.sizeOf70
  v37 := Tryz.zeroValue70
  t127 := Tryz.underlying112
  a127 := Tryz.isAgg112
  z127 := Tryz.sizeOf112
  v127 := Tryz.zeroValue112
  t5 := Tryz.underlying5
  a5 := Tryz.isAgg5
  z5 := Tryz.sizeOf5
  v5 := Tryz.zeroValue5
  i0 := by kernel_rfl
  i3 := by kernel_rfl
  i4 := by kernel_rfl
  i5 := by kernel_rfl
  i9 := by kernel_rfl
  i37 := by kernel_rfl
  i127 := by kernel_rfl }
open Go.RowKit in
/-- internal/stringslite.Clone (what strings.Clone calls): "Clone returns a fresh copy of s.": THE SAME BYTES. Of what was there nothing has turned (a new row is laid, and frozen, where s is not empty). (LAID: no walk: one application.) -/
theorem Tryz.stringslite_Clone (s : ByteArray) (w : World) (hlim : s.size ≤ 281474976710656) :
    Calls Tryz.prog 80 #[.string s] w fun e w' => e = .returned (.string s) ∧ Below w.heap.size w w' := Any.stringslite_Clone Tryz.laysM316 s w hlim
def Tryz.lays189_ren : Go.Shelf.Ren := ⟨fun | 189 => 75 | 125 => 99 | 257 => 98 | 128 => 115 | 129 => 116 | 294 => 106 | 295 => 107 | 296 => 108 | 297 => 109 | 298 => 110 | 299 => 111 | 216 => 112 | 300 => 113 | 301 => 114 | 328 => 118 | 329 => 119 | 330 => 120 | 331 => 121 | 332 => 122 | 215 => 123 | 343 => 124 | n => n, fun | 28 => 28 | 3 => 3 | 46 => 129 | 0 => 0 | 51 => 144 | 53 => 146 | 4 => 4 | 183 => 137 | 182 => 136 | 131 => 45 | 5 => 5 | 9 => 9 | 218 => 147 | 222 => 151 | 228 => 153 | 229 => 154 | n => n, fun | n => n⟩
theorem Tryz.lays189 : Go.Proofs.Lays.n189 Tryz.prog Tryz.lays189_ren := {
  mixed := by kernel_rfl
  f125 := Tryz.func99.trans (congrArg some (by kernel_rfl))
  f128 := Tryz.func115.trans (congrArg some (by kernel_rfl))
  f129 := Tryz.func116.trans (congrArg some (by kernel_rfl))
  f189 := Tryz.func75.trans (congrArg some (by kernel_rfl))
  f215 := Tryz.func123.trans (congrArg some (by kernel_rfl))
  f216 := Tryz.func112.trans (congrArg some (by kernel_rfl))
  f257 := Tryz.func98.trans (congrArg some (by kernel_rfl))
  f294 := Tryz.func106.trans (congrArg some (by kernel_rfl))
  f295 := Tryz.func107.trans (congrArg some (by kernel_rfl))
  f296 := Tryz.func108.trans (congrArg some (by kernel_rfl))
  f297 := Tryz.func109.trans (congrArg some (by kernel_rfl))
  f298 := Tryz.func110.trans (congrArg some (by kernel_rfl))
  f299 := Tryz.func111.trans (congrArg some (by kernel_rfl))
  f300 := Tryz.func113.trans (congrArg some (by kernel_rfl))
  f301 := Tryz.func114.trans (congrArg some (by kernel_rfl))
  f328 := Tryz.func118.trans (congrArg some (by kernel_rfl))
  f329 := Tryz.func119.trans (congrArg some (by kernel_rfl))
  f330 := Tryz.func120.trans (congrArg some (by kernel_rfl))
  f331 := Tryz.func121.trans (congrArg some (by kernel_rfl))
  f332 := Tryz.func122.trans (congrArg some (by kernel_rfl))
  f343 := Tryz.func124.trans (congrArg some (by kernel_rfl))
  t0 := Tryz.underlying0
  a0 := Tryz.isAgg0
  z0 := Tryz.sizeOf0
  v0 := Tryz.zeroValue0
  t3 := Tryz.underlying3
  a3 := Tryz.isAgg3
  z3 := Tryz.sizeOf3
  v3 := Tryz.zeroValue3
  t4 := Tryz.underlying4
  a4 := Tryz.isAgg4
  z4 := Tryz.sizeOf4
  v4 := Tryz.zeroValue4
  t5 := Tryz.underlying5
  a5 := Tryz.isAgg5
  z5 := Tryz.sizeOf5
  v5 := Tryz.zeroValue5
  t9 := Tryz.underlying9
  a9 := Tryz.isAgg9
  z9 := Tryz.sizeOf9
  v9 := Tryz.zeroValue9
  t28 := Tryz.underlying28
  a28 := Tryz.isAgg28
  z28 := Tryz.sizeOf28
  v28 := Tryz.zeroValue28
  t46 := Tryz.underlying129
  a46 := Tryz.isAgg129
  z46 := Tryz.sizeOf129
  v46 := Tryz.zeroValue129
  t51 := Tryz.underlying144
  a51 := Tryz.isAgg144
  z51 := Tryz.sizeOf144
  v51 := Tryz.zeroValue144
  t53 := Tryz.underlying146
  a53 := Tryz.isAgg146
  z53 := Tryz.sizeOf146
  v53 := Tryz.zeroValue146
  t131 := Tryz.underlying45
  a131 := Tryz.isAgg45
  z131 := Tryz.sizeOf45
  v131 := Tryz.zeroValue45
  t182 := Tryz.underlying136
  a182 := Tryz.isAgg136
  z182 := Tryz.sizeOf136
  v182 := Tryz.zeroValue136
  t183 := Tryz.underlying137
  a183 := Tryz.isAgg137
  z183 := Tryz.sizeOf137
  v183 := Tryz.zeroValue137
  t218 := Tryz.underlying147
  a218 := Tryz.isAgg147
  z218 := Tryz.sizeOf147
  v218 := Tryz.zeroValue147
  t222 := Tryz.underlying151
  a222 := Tryz.isAgg151
  z222 := Tryz.sizeOf151
  v222 := Tryz.zeroValue151
  t228 := Tryz.underlying153
  a228 := Tryz.isAgg153
  z228 := Tryz.sizeOf153
  v228 := Tryz.zeroValue153
  t229 := Tryz.underlying154
  a229 := Tryz.isAgg154
  z229 := Tryz.sizeOf154
  v229 := Tryz.zeroValue154 }
open Go.Sort Go.RowKit in
theorem Tryz.slices_Sort_int (blk off cap : Nat) (zs : List Int) (w : World) (hH : Holds (Value.int .i64) w blk off zs.toArray) (hblk : blk < w.heap.size) (hsz : zs.length < 4611686018427387904) :
    Calls Tryz.prog 75 #[.slice (some ⟨blk, off, none⟩) zs.length cap] w fun e w' =>
      e = .returned (.tuple #[]) ∧ ∃ n os, w' = grow (putRow (Value.int .i64) (Sort.ahead w n) blk off (zs.mergeSort fun x y => decide (x ≤ y)).toArray) os := Any.slices_Sort_int Tryz.lays189 blk off cap zs w hH hblk hsz
open Go.RowKit Go.Sort in
/-- .. and plain. (LAID: no walk: one application.) -/
theorem Tryz.slices_Sort_int_none (p : Option Addr) (cap : Nat) (w : World) :
    Calls Tryz.prog 75 #[.slice p 0 cap] w fun e w' => e = .returned (.tuple #[]) ∧ w' = w := Any.slices_Sort_int_none Tryz.lays189 p cap w
end Go.Proofs
/- world: cells -/
namespace Go.Proofs.YtnicmcdeoimhlaaGreat
open Go.RowKit M
set_option linter.unusedVariables false
theorem keysInt : KeyOk Tryz.prog 3 intK := keyOk_int Tryz.underlying3
theorem clone0 {w : World} {As : List Th} (hS : Sat w As) (s : Bs) (hs : s.length ≤ 281474976710656) : Calls Tryz.prog 80 #[strV s] w (Ret fun v w' => v = strV s ∧ Sat w' As) :=
  calls_below hS (Tryz.stringslite_Clone ⟨s.toArray⟩ w (by simpa [ByteArray.size] using hs))
theorem clone_sp {w : World} {F : Th} (hS : Sat w [F]) (s : Bs) (hs : s.length ≤ 281474976710656) :
    Calls Tryz.prog 49 #[strV s] w (Ret fun v w' => v = strV s ∧ Sat w' [F]) := by
 refine calls_enter Tryz.func49 rfl Tryz.ntmps49 rfl ?_
 refine wc_seq (wc_region (wl_assign rfl rfl (wl_nil (qs_seq (wc_seq (wc_region (wl_move rfl rfl ?_)))))))
 have hC1 := hS.split [] [false] rfl; dsimp only [selF, pickA, nthA, List.cons_append, List.nil_append] at hC1
 refine wl_call cal_80 rfl (clone0 hC1 s hs) rfl ?_
 rintro e w1 ⟨_, rfl, rfl, hS1⟩; refine ⟨_, rfl, ?_⟩
 replace hS1 := hS1.join rfl; dsimp only [List.dropLast, List.cons_append, List.nil_append] at hS1; clear hC1
 refine wl_assign rfl rfl (wl_nil (qs_seq (wc_ret ?_)))
 refine fin1 (.inr rfl) rfl rfl ?_
 exact ⟨_, rfl, rfl, hS1⟩
end Go.Proofs.YtnicmcdeoimhlaaGreat
/- Appending a string's bytes to a builder's buffer. Conditions: each lemma's own hypotheses. -/
namespace Go.Proofs.YtnicmcdeoimhlaaGreat
open Go.RowKit M
section
variable {P : Program} {n : Nat} {ops : Array Oper} {Q : Exit → Act → World → Prop} {rest : List Oper} {L : Env} {w : World} {d : Nat} {ty : TypeId} {pos : String} {aft : Array Edge} {As : List Th} {T e b : Nat} {cs : List Value}
theorem strCells_eq (l : List UInt8) : Lib.strCells ⟨l.toArray⟩ = byC.cells l := by
  rw [byC_cells]
  simp [Lib.strCells, bytesV]
theorem wl_bufAppS {t t2 : TypeId} {s x : Operand} {v : Value} {bs l2 : List UInt8} (i : Nat) (hS : Sat w As) (hi : As[i]? = some (bufT e v bs)) (hs : M.look L s = some v) (hx : M.look L x = some (strV l2)) (hu : P.underlying t = some (.slice e)) (hu2 : P.underlying t2 = some .string)
    (hif : (P.info? e).map (fun i => (i.zero, i.size, i.bytes)) = some (some (.int .u8 0), 1, 1)) (hm : bs.length + l2.length ≤ 140737488355328) (hd : Nat.blt d n = true)
    (hk : ∀ v' w', Sat w' (As.set i (bufT e v' (bs ++ l2))) → wl P n ops Q rest ((d, v') :: L) w') : wl P n ops Q (⟨some d, .call ⟨.builtin .append, #[s, x], #[t, t2]⟩, ty, pos, aft, none⟩ :: rest) L w := by
  obtain ⟨hown, hnil⟩ := hS.buf i hi
  obtain ⟨foot, hO, hfoot⟩ := own_of_row hown
  obtain ⟨inf, hi1, hi2, hi3, hi4⟩ := info_parts hif
  have hsz : (⟨l2.toArray⟩ : ByteArray).size = l2.length := by simp [ByteArray.size]
  refine wl_does rfl hd (R := fun v w' => Sat w' (As.set i (bufT e v (bs ++ l2)))) (fun a ha => ?_) (fun v w' hR => hk v w' hR)
  obtain ⟨v1, w1, hrun, foot', o1, o2, o3, _⟩ := does_append (P := P) (o := ⟨some d, .call ⟨.builtin .append, #[s, x], #[t, t2]⟩, ty, pos, aft, none⟩) (a := a) t t2 s x rfl (ha.eval hs) (ha.eval hx) hO hu hu2 (by intro k hk; cases hk) hif rfl (by decide) (m := l2.length) (news := byC.cells l2)
    (fun w1 => by simp [strV, Builtin.lenOf, hsz]) (fun w1 _ => by have := Lib.run_firstCells_string (P := P) w1 1 ⟨l2.toArray⟩; rw [hsz, strCells_eq] at this; exact this) (byC.cells_len l2) (allOne_spec (byC.cells_one l2)) (by omega) (by omega)
  obtain ⟨v2, w2, hr2, hown2, _, hiff⟩ := Lib.run_append_own_string (P := P) w 0 t t2 ty e inf hu hu2 hi1 hi2 hi3 hi4 v bs.length (byC.cells bs) hown ⟨l2.toArray⟩ (by rw [hsz]; unfold maxLen; omega) (by rw [hsz]; omega) (Nat.zero_le _)
  rw [hsz] at hown2 hiff
  have hex : (execOp a.eval ⟨some d, .call ⟨.builtin .append, #[s, x], #[t, t2]⟩, ty, pos, aft, none⟩).run P w = .ok (.value v2) w2 := by
    have hr3 : (Builtin.append_ #[t, t2] ty #[v, strV l2]).run P w = .ok v2 w2 := hr2
    simp [execOp, ha.eval hs, ha.eval hx, resolve, invoke, builtin, hr3]
  have heq : v1 = v2 ∧ w1 = w2 := by
    rcases hrun with h | ⟨h, _⟩
    · rw [hex] at h; cases h; exact ⟨rfl, rfl⟩
    · rw [hex] at h; cases h
  obtain ⟨rfl, rfl⟩ := heq
  refine ⟨v1, w1, .inl hex, ?_⟩
  have hfoot' : ∀ k, v1.ownBlock = some k → k ∈ foot' := by
    intro k hk'
    obtain ⟨_, ⟨e1, _, _⟩ | ⟨b1, c1, s1, e1, _, _, _, rfl⟩⟩ := o1
    · rw [e1] at hk'; cases hk'
    · rw [e1] at hk'; simp [Value.ownBlock] at hk'; simp [hk']
  refine hS.step i hi fun F ⟨eF, _⟩ => ⟨fun k => v1.ownBlock = some k, ⟨rfl, ?_, fun q => ?_⟩, fun k hk' => ?_, o2.agree fun k hk' => ?_⟩
  · rw [List.length_append, ← RowC.cells_app, ← strCells_eq l2]; exact hown2
  · obtain ⟨q1, q2⟩ := List.append_eq_nil_iff.1 q
    exact hiff.2 ⟨hnil q1, by rw [q2]; rfl⟩
  · rcases o3 k (hfoot' k hk') with q | q
    · exact .inl (by rw [eF]; exact (hfoot k).1 q)
    · exact .inr q
  · exact .inl (by rw [eF]; exact (hfoot k).1 hk')
end
end Go.Proofs.YtnicmcdeoimhlaaGreat
