/- the reference of layer 3: lists of files -/
import Derived.Test.YtfmkodmmbgibgaaGreatDoorFx
import Derived.Test.YtfmkodmmbgibgaaGreatDoorDf
import Derived.Test.YtfmkodmmbgibgaaGreatDoorDd
namespace Go.Proofs.YtfmkodmmbgibgaaGreatDoor
open Go.RowKit M
set_option linter.unusedVariables false
theorem newR_inv : RInv [] newD := ⟨newD_inv, fun _ => rfl, by simp, by simp⟩
theorem newR_shut {w : World} {p : Nat} {F : Th} (h : Sat w [blkT p [.slice none 0 0, .slice none 0 0, intV 0, .bool false, intV 0, .slice none 0 0], F]) : Sat w [refT p (.slice none 0 0) newD, F] :=
  refT_shut ⟨.slice none 0 0, .slice none 0 0, []⟩ newR_inv (((h.row_nil scC).row_nil rfC).reorder [2, 0, 1, 3] rfl)
theorem newR_sp {w : World} {F : Th} (hS : Sat w [F]) :
    Calls Tryz.prog 19 #[] w (Ret fun v w' => ∃ p, v = ptrV p 0 ∧ Sat w' [refT p (.slice none 0 0) newD, F]) := by
 refine calls_enter Tryz.func19 rfl Tryz.ntmps19 rfl ?_
 refine wc_seq (wc_region (wl_assign rfl rfl (wl_nil (qs_seq (wc_seq (wc_region ?_))))))
 refine wl_buildS rfl pl_92_ asz_92 zr_92 rfl rfl ?_
 refine wl_box hS rfl rfl rfl ?_
 intro b1 w1 hS1
 refine wl_assign rfl rfl (wl_nil (qs_seq (wc_ret ?_)))
 refine fin1 (.inr rfl) rfl rfl ?_
 exact ⟨_, rfl, _, rfl, newR_shut hS1⟩
theorem downR_sp {w : World} {p : Nat} {kp : Value} {D : DS} {F : Th} (hS : Sat w [refT p kp D, F]) :
    Calls Tryz.prog 29 #[ptrV p 0] w (Ret fun v w' => v = .bool D.down ∧ Sat w' [refT p kp D, F]) := by
 have hS0 := hS
 obtain ⟨⟨fv, qv, l⟩, hI, hS⟩ := refT_open hS; dsimp only at hI hS
 refine calls_enter Tryz.func29 rfl Tryz.ntmps29 rfl ?_
 refine wc_seq (wc_region (wl_assign rfl rfl (wl_nil (qs_seq (wc_seq (wc_region (wl_move rfl rfl (wl_nilCheck rfl rfl ?_))))))))
 refine wl_fieldAddr rfl fo_92_3 rfl ?_
 refine wl_load rfl ag_4 (by first | assumption | exact hS.cell 0 rfl rfl) rfl ?_
 refine wl_assign rfl rfl (wl_nil (qs_seq (wc_ret ?_)))
 refine fin1 (.inr rfl) rfl rfl ?_
 exact ⟨_, rfl, rfl, hS0⟩
theorem mayR_sp {w : World} {p : Nat} {kp : Value} {D : DS} {F : Th} (hS : Sat w [refT p kp D, F]) (f : Int) :
    Calls Tryz.prog 57 #[ptrV p 0, intV f] w (Ret fun v w' => v = intV (mayE D f) ∧ Sat w' [refT p kp D, F]) := by
 have hS0 := hS
 obtain ⟨⟨fv, qv, l⟩, hI, hS⟩ := refT_open hS; dsimp only at hI hS
 refine calls_enter Tryz.func57 rfl Tryz.ntmps57 rfl ?_
 refine wc_seq (wc_region (wl_assign rfl rfl (wl_nil (qs_seq (wc_seq (wc_seq (wc_region (wl_move rfl rfl (wl_nilCheck rfl rfl ?_)))))))))
 refine wl_fieldAddr rfl fo_92_3 rfl ?_
 refine wl_load rfl ag_4 (by first | assumption | exact hS.cell 0 rfl rfl) rfl ?_
 refine wl_nil (qs_seq ?_)
 refine wc_cond rfl (fun h1 => ?_) (fun h1 => ?_)
 ·have hd : D.down = true := h1
  refine wc_seq (wc_region (wl_assign rfl rfl (wl_nil (qs_seq (wc_ret (qs_then_ret ?_))))))
  refine fin1 (.inr rfl) rfl rfl ?_
  exact ⟨_, rfl, by simp only [mayE]; simp [*]; try omega, hS0⟩
 have hd : D.down = false := h1
 refine wc_skip (qs_seq (wc_seq (wc_seq (wc_region (wl_move rfl rfl ?_)))))
 refine wl_lss rfl rfl rfl ?_
 refine wl_move rfl rfl ?_
 refine wl_splitD 11 rfl (fun h2 => ?_) (fun h2 => ?_)
 ·refine wl_unwanted rfl rfl (decide_eq_true h2) rfl ?_
  refine wl_unwanted rfl rfl (decide_eq_true h2) rfl ?_
  refine wl_pickT rfl (decide_eq_true h2) rfl rfl ?_
  refine wl_nil (qs_seq ?_)
  refine wc_sub (L' := [(14, _), (4, _)]) (.cons rfl (.cons rfl .nil)) ?_
  refine wc_condT rfl ?_
  refine wc_seq (wc_region (wl_assign rfl rfl (wl_nil (qs_seq (wc_ret (qs_then_ret ?_))))))
  refine fin1 (.inr rfl) rfl rfl ?_
  exact ⟨_, rfl, by simp only [mayE]; simp [*]; try omega, hS0⟩
 refine wl_guard rfl rfl (decide_eq_false h2) ?_
 refine wl_move rfl rfl ?_
 refine wl_guard rfl rfl (decide_eq_false h2) ?_
 refine wl_gtr rfl rfl rfl ?_
 refine wl_pickF rfl (decide_eq_false h2) rfl rfl ?_
 refine wl_nil (qs_seq ?_)
 refine wc_sub (L' := [(14, _), (4, _)]) (.cons rfl (.cons rfl .nil)) ?_
 refine wc_condD rfl (fun h3 => ?_) (fun h3 => ?_)
 ·refine wc_seq (wc_region (wl_assign rfl rfl (wl_nil (qs_seq (wc_ret (qs_then_ret ?_))))))
  refine fin1 (.inr rfl) rfl rfl ?_
  exact ⟨_, rfl, by simp only [mayE]; simp [*]; try omega, hS0⟩
 refine wc_skip (qs_seq (wc_seq (wc_region (wl_assign rfl rfl (wl_nil (qs_seq (wc_ret ?_)))))))
 refine fin1 (.inr rfl) rfl rfl ?_
 exact ⟨_, rfl, by simp only [mayE]; simp [*]; try omega, hS0⟩
theorem startR_sp {w : World} {p : Nat} {kp : Value} {D : DS} {F : Th} (hS : Sat w [refT p kp D, F]) :
    Calls Tryz.prog 30 #[ptrV p 0] w (Ret fun v w' => v = .tuple #[] ∧ Sat w' [refT p kp { D with down := false }, F]) := by
 obtain ⟨⟨fv, qv, l⟩, hI, hS⟩ := refT_open hS; dsimp only at hI hS
 refine calls_enter Tryz.func30 rfl Tryz.ntmps30 rfl ?_
 refine wc_region (wl_move rfl rfl (wl_nilCheck rfl rfl ?_))
 refine wl_fieldAddr rfl fo_92_3 rfl ?_
 first | (refine wl_store hS rfl rfl sz_4 (by first | rfl | assumption | exact hS.own_one 1 rfl | exact hS.own_one 2 rfl) (i := 0) rfl (by first | decide | exact Nat.le_of_ble_eq_true rfl | (simp; done) | omega) ?_)
 intro w1 hS2; dsimp only [List.set] at hS2
 refine wl_nil ?_
 refine fin0 (.inl rfl) rfl ?_
 exact ⟨_, rfl, rfl, refT_shut ⟨fv, qv, l⟩ (hI.upd rfl { hI.inv with }) hS2⟩
theorem loseR_sp {w : World} {p : Nat} {kp : Value} {D : DS} {F : Th} (hS : Sat w [refT p kp D, F]) (n : Int) (hn : n ≤ 9223372036854775807) :
    Calls Tryz.prog 27 #[ptrV p 0, intV n] w (Ret fun v w' => v = .tuple #[] ∧ Sat w' [refT p kp { D with lost := max n 0 }, F]) := by
 obtain ⟨⟨fv, qv, l⟩, hI, hS⟩ := refT_open hS; dsimp only at hI hS
 refine calls_enter Tryz.func27 rfl Tryz.ntmps27 rfl ?_
 refine wc_region (wl_move rfl rfl (wl_move rfl rfl ?_))
 refine wl_maxI rfl rfl rfl ?_
 refine wl_nilCheck rfl rfl ?_
 refine wl_fieldAddr rfl fo_92_2 rfl ?_
 first | (refine wl_store hS rfl rfl sz_3 (by first | rfl | assumption | exact hS.own_one 1 rfl | exact hS.own_one 2 rfl) (i := 0) rfl (by first | decide | exact Nat.le_of_ble_eq_true rfl | (simp; done) | omega) ?_)
 intro w1 hS2; dsimp only [List.set] at hS2
 refine wl_nil ?_
 refine fin0 (.inl rfl) rfl ?_
 exact ⟨_, rfl, rfl, refT_shut ⟨fv, qv, l⟩ (hI.upd rfl { hI.inv with lost := ⟨by simp; omega, by simp; omega⟩ }) hS2⟩
def fitB (a : Int) (s : Bytes) : Bool := decide (0 ≤ a ∧ a ≤ 16777216 ∧ a + s.length ≤ 16777216)
theorem fitsR_sp {w : World} {F : Th} (hS : Sat w [F]) (a : Int) (s : Bytes) (hs : s.length ≤ 1099511627776) :
    Calls Tryz.prog 58 #[intV a, strV s] w (Ret fun v w' => v = .bool (fitB a s) ∧ Sat w' [F]) := by
 refine calls_enter Tryz.func58 rfl Tryz.ntmps58 rfl ?_
 refine wc_seq (wc_region (wl_assign rfl rfl (wl_nil (qs_seq (wc_seq (wc_region (wl_move rfl rfl ?_)))))))
 refine wl_geq rfl rfl rfl ?_
 refine wl_move rfl rfl ?_
 refine wl_splitD 7 rfl (fun h1 => ?_) (fun h1 => ?_)
 ·refine wl_guard rfl rfl (decide_eq_true h1) ?_
  refine wl_move rfl rfl ?_
  refine wl_guard rfl rfl (decide_eq_true h1) ?_
  refine wl_leq rfl rfl rfl ?_
  refine wl_pickT rfl (decide_eq_true h1) rfl rfl ?_
  refine wl_move rfl rfl ?_
  refine wl_splitD 11 rfl (fun h2 => ?_) (fun h2 => ?_)
  ·refine wl_guard rfl rfl (decide_eq_true h2) ?_
   refine wl_move rfl rfl ?_
   refine wl_guard rfl rfl (decide_eq_true h2) ?_
   refine wl_move rfl rfl ?_
   refine wl_guard rfl rfl (decide_eq_true h2) ?_
   refine wl_lenS Tryz.underlying9 rfl rfl ?_
   refine wl_guard rfl rfl (decide_eq_true h2) ?_
   refine wl_add rfl rfl (by omega) (by omega) rfl ?_
   refine wl_guard rfl rfl (decide_eq_true h2) ?_
   refine wl_leq rfl rfl rfl ?_
   refine wl_pickT rfl (decide_eq_true h2) rfl rfl ?_
   refine wl_assign rfl rfl (wl_nil (qs_seq ?_))
   refine wc_sub (L' := [(4, _)]) (.cons rfl .nil) ?_
   refine wc_ret ?_
   refine fin1 (.inr rfl) rfl rfl ?_
   exact ⟨_, rfl, by congr 1; simp [fitB, *] <;> omega, hS⟩
  refine wl_unwanted rfl rfl (decide_eq_false h2) rfl ?_
  refine wl_unwanted rfl rfl (decide_eq_false h2) rfl ?_
  refine wl_unwanted rfl rfl (decide_eq_false h2) rfl ?_
  refine wl_unwanted rfl rfl (decide_eq_false h2) rfl ?_
  refine wl_unwanted rfl rfl (decide_eq_false h2) rfl ?_
  refine wl_pickF rfl (decide_eq_false h2) rfl rfl ?_
  refine wl_assign rfl rfl (wl_nil (qs_seq ?_))
  refine wc_sub (L' := [(4, _)]) (.cons rfl .nil) ?_
  refine wc_ret ?_
  refine fin1 (.inr rfl) rfl rfl ?_
  exact ⟨_, rfl, by congr 1; simp [fitB, *] <;> omega, hS⟩
 refine wl_unwanted rfl rfl (decide_eq_false h1) rfl ?_
 refine wl_unwanted rfl rfl (decide_eq_false h1) rfl ?_
 refine wl_pickF rfl (decide_eq_false h1) rfl rfl ?_
 refine wl_move rfl rfl ?_
 refine wl_unwanted rfl rfl rfl rfl ?_
 refine wl_unwanted rfl rfl rfl rfl ?_
 refine wl_unwanted rfl rfl rfl rfl ?_
 refine wl_unwanted rfl rfl rfl rfl ?_
 refine wl_unwanted rfl rfl rfl rfl ?_
 refine wl_pickF rfl rfl rfl rfl ?_
 refine wl_assign rfl rfl (wl_nil (qs_seq ?_))
 refine wc_sub (L' := [(4, _)]) (.cons rfl .nil) ?_
 refine wc_ret ?_
 refine fin1 (.inr rfl) rfl rfl ?_
 exact ⟨_, rfl, by congr 1; simp [fitB, *] <;> omega, hS⟩
set_option maxRecDepth 100000 in
theorem getR_sp {w : World} {p : Nat} {kp : Value} {D : DS} {F : Th} (hS : Sat w [refT p kp D, F]) (f : Int) :
    Calls Tryz.prog 63 #[ptrV p 0, intV f] w (Ret fun v w' => v = .agg #[intV f, strV (D.F f).1, strV (D.F f).2] ∧ Sat w' [refT p kp D, F]) := by
 obtain ⟨⟨fv, qv, l⟩, hI, hS⟩ := refT_open hS; dsimp only at hI hS
 refine calls_enter Tryz.func63 rfl Tryz.ntmps63 rfl ?_
 refine wc_seq (wc_region ?_)
 refine wl_alloc hS zr_97 rfl rfl ?_
 intro b1 w1 hS1
 refine wl_nil (qs_seq (wc_seq (wc_seq (wc_region (wl_assign rfl rfl (wl_nil (qs_seq (wc_block ?_))))))))
 refine wc_loop (fun K0 E0 W0 => ∃ (i : Nat), K0 = l.length - i ∧ E0 = [(0, ptrV p 0), (1, intV f), (4, ptrV b1 0), (5, intV (i : Int))] ∧ Sat W0 [blkT b1 [intV 0, strV [], strV []], blkT p (cellsR ⟨fv, qv, l⟩ kp D), rowT rfC fv l, rowT scC qv D.Q, F] ∧ (i ≤ l.length) ∧ (∀ j y, j < i → l[j]? = some y → y.1 ≠ f)) (L0 := [(0, _), (1, _), (4, _), (5, _)]) (l.length) (.cons rfl (.cons rfl (.cons rfl (.cons rfl .nil)))) ⟨0, by omega, rfl, hS1, by omega, by omega⟩ ?_
 rintro _ _ w2 ⟨i, rfl, rfl, hS2, hi, hno⟩
 refine wc_seq (wc_seq (wc_region (wl_move rfl rfl (wl_move rfl rfl (wl_nilCheck rfl rfl ?_)))))
 refine wl_fieldAddr rfl fo_92_0 rfl ?_
 refine wl_load rfl ag_89 (by first | assumption | exact hS2.cell 0 rfl rfl | exact hS2.cell 1 rfl rfl) rfl ?_
 first | refine wl_lenL Tryz.underlying89 rfl rfl ?_ | refine wl_lenO 2 hS2 Tryz.underlying89 rfl rfl rfl ?_ | refine wl_lenO 3 hS2 Tryz.underlying89 rfl rfl rfl ?_
 refine wl_lss rfl rfl rfl ?_
 refine wl_nil (qs_seq ?_)
 refine wc_sub (L' := [(12, _), (0, _), (1, _), (4, _), (5, _)]) (.cons rfl (.cons rfl (.cons rfl (.cons rfl (.cons rfl .nil))))) ?_
 refine wc_condD rfl (fun h3 => ?_) (fun h3 => ?_)
 ·have hcnt := hI.count
  obtain ⟨x, hx⟩ : ∃ x, l[i]? = some x := ⟨_, List.getElem?_eq_getElem (by omega)⟩
  refine wc_skip (qs_seq (wc_seq (wc_block (wc_seq (wc_region (wl_move rfl rfl (wl_nilCheck rfl rfl ?_)))))))
  refine wl_fieldAddr rfl fo_92_0 rfl ?_
  refine wl_load rfl ag_89 (by first | assumption | exact hS2.cell 0 rfl rfl | exact hS2.cell 1 rfl rfl) rfl ?_
  refine wl_move rfl rfl ?_
  refine wl_rowIdx rfC 2 i hS2 rfl rfl rfl (by first | rfl | omega) hx es_89 rfl ?_
  intro bx4 capx4 hvx4
  refine wl_fieldAddr rfl fo_97_0 rfl ?_
  refine wl_rowLoad 2 i 0 hS2 rfl hvx4 rfl rfl hx ag_3 rfl rfl ?_
  refine wl_move rfl rfl ?_
  refine wl_eql rfl rfl rfl ?_
  refine wl_nil (qs_seq ?_)
  refine wc_sub (L' := [(24, _), (0, _), (1, _), (4, _), (5, _)]) (.cons rfl (.cons rfl (.cons rfl (.cons rfl (.cons rfl .nil))))) ?_
  refine wc_condD rfl (fun h5 => ?_) (fun h5 => ?_)
  ·have he : x.1 = f := h5
   refine wc_seq (wc_region (wl_move rfl rfl (wl_nilCheck rfl rfl ?_)))
   refine wl_fieldAddr rfl fo_92_0 rfl ?_
   refine wl_load rfl ag_89 (by first | assumption | exact hS2.cell 0 rfl rfl | exact hS2.cell 1 rfl rfl) rfl ?_
   refine wl_move rfl rfl ?_
   refine wl_rowIdx rfC 2 i hS2 rfl rfl rfl (by first | rfl | omega) hx es_89 rfl ?_
   intro bx6 capx6 hvx6
   refine wl_rowLoadA 2 i hS2 rfl hvx6 rfl hx ag_97 sz_97 rfl rfl ?_
   first | (refine wl_storeA hS2 rfl rfl sz_97 rfl (by first | rfl | (simp [allOne, Value.oneCell']; done) | assumption | exact hone) (i := 0) rfl (by first | decide | exact Nat.le_of_ble_eq_true rfl | (simp; done) | omega) ?_) | (refine wl_storeA hS2 rfl rfl sz_97 rfl (by first | rfl | (simp [allOne, Value.oneCell']; done) | assumption | exact hone) (i := 1) rfl (by first | decide | exact Nat.le_of_ble_eq_true rfl | (simp; done) | omega) ?_)
   intro w7 hS8; dsimp only [List.set] at hS8
   clear hS2
   refine wl_nil (qs_seq ?_)
   refine wc_sub (L' := [(0, _), (1, _), (4, _), (5, _)]) (.cons rfl (.cons rfl (.cons rfl (.cons rfl .nil)))) ?_
   refine wc_ret (qs_block_ret (qs_then_ret (qs_then_ret (qs_block_ret (qs_then_ret ?_)))))
   refine finR1 (.inr rfl) rfl (resCA rfl ag_97 sz_97 (by first | exact hS8.blk 0 rfl | exact hS8.blk 1 rfl) (by first | decide | exact Nat.le_of_ble_eq_true rfl | (simp; done) | omega) rfl) ?_
   exact ⟨_, rfl, by have h := getR_at hx (fun j y hj hy => by rw [he]; exact hno j y hj hy); rw [he, hI.says] at h; rw [h, ← he]; rfl, refT_shut ⟨fv, qv, l⟩ hI hS8.tail⟩
  have hne : ¬ x.1 = f := h5
  refine wc_skip (qs_block_normal (qs_seq (wc_region (wl_move rfl rfl ?_))))
  refine wl_add rfl rfl (by omega) (by omega) rfl ?_
  refine wl_assign rfl rfl (wl_nil ?_)
  exact qs_round (L1 := [(0, _), (1, _), (4, _), (5, intV ((i + 1 : Nat) : Int))]) (.cons rfl (.cons rfl (.cons rfl (.cons rfl .nil)))) (k1 := l.length - (i + 1)) (by omega) ⟨i + 1, by omega, rfl, hS2, by omega, fun j y hj hy => by by_cases e : j = i; (subst e; rw [hx] at hy; cases hy; assumption); exact hno j y (by omega) hy⟩
 refine wc_exit (qs_then_exit (qs_then_exit (qs_block_exit (qs_seq (wc_seq (wc_region (wl_move rfl rfl ?_)))))))
 refine wl_buildS rfl pl_97_0 asz_97 zr_97 rfl rfl ?_
 first | (refine wl_storeA hS2 rfl rfl sz_97 rfl (by first | rfl | (simp [allOne, Value.oneCell']; done) | assumption | exact hone) (i := 0) rfl (by first | decide | exact Nat.le_of_ble_eq_true rfl | (simp; done) | omega) ?_) | (refine wl_storeA hS2 rfl rfl sz_97 rfl (by first | rfl | (simp [allOne, Value.oneCell']; done) | assumption | exact hone) (i := 1) rfl (by first | decide | exact Nat.le_of_ble_eq_true rfl | (simp; done) | omega) ?_)
 intro w9 hS10; dsimp only [List.set] at hS10
 clear hS2
 refine wl_nil (qs_seq (wc_ret ?_))
 refine finR1 (.inr rfl) rfl (resCA rfl ag_97 sz_97 (by first | exact hS10.blk 0 rfl | exact hS10.blk 1 rfl) (by first | decide | exact Nat.le_of_ble_eq_true rfl | (simp; done) | omega) rfl) ?_
 exact ⟨_, rfl, by have h := getR_none (f := f) (l := l) (fun y hy => by obtain ⟨j, hj⟩ := List.mem_iff_getElem?.1 hy; exact hno j y (by have := (List.getElem?_eq_some_iff.1 hj).1; omega) hj); rw [hI.says] at h; rw [h]; rfl, refT_shut ⟨fv, qv, l⟩ hI hS10.tail⟩
theorem set_keep {l : List (Int × Bytes × Bytes)} {i : Nat} {x : Int × Bytes × Bytes} {k : Int} (hx : l[i]? = some x) (h : x.1 ≠ k) : (l.take (i + 1)).filter (fun y => decide (y.1 ≠ k)) = (l.take i).filter (fun y => decide (y.1 ≠ k)) ++ [x] := by
  rw [List.take_add_one, hx, List.filter_append]; simp [h]
theorem set_skip {l : List (Int × Bytes × Bytes)} {i : Nat} {x : Int × Bytes × Bytes} {k : Int} (hx : l[i]? = some x) (h : x.1 = k) : (l.take (i + 1)).filter (fun y => decide (y.1 ≠ k)) = (l.take i).filter (fun y => decide (y.1 ≠ k)) := by
  rw [List.take_add_one, hx, List.filter_append]; simp [h]
theorem flt_le {α : Type} (p : α → Bool) (l : List α) (i m : Nat) (h : l.length ≤ m) : ((l.take i).filter p).length ≤ m := Nat.le_trans (List.length_filter_le _ _) (by simp; omega)
set_option maxRecDepth 100000 in
theorem setR_sp {w : World} {p : Nat} {kp : Value} {D : DS} {F : Th} (hS : Sat w [refT p kp D, F]) (k : Int) (a b : Bytes) (hk : 0 ≤ k ∧ k < 16) (ha : a.length ≤ 16777216) (hb : b.length ≤ 16777216) :
    Calls Tryz.prog 94 #[ptrV p 0, .agg #[intV k, strV a, strV b]] w (Ret fun v w' => v = .tuple #[] ∧ Sat w' [refT p kp { D with F := setF D.F k (a, b) }, F]) := by
 obtain ⟨⟨fv, qv, l⟩, hI, hS⟩ := refT_open hS; dsimp only at hI hS
 refine calls_enter Tryz.func94 rfl Tryz.ntmps94 rfl ?_
 refine wc_seq (wc_region ?_)
 refine wl_box hS rfl rfl rfl ?_
 intro b1 w1 hS1
 refine wl_nil (qs_seq (wc_seq (wc_region (wl_assign rfl rfl (wl_nil (qs_seq (wc_seq (wc_seq (wc_region (wl_assign rfl rfl (wl_nil (qs_seq (wc_block ?_)))))))))))))
 refine wc_loop (fun K0 E0 W0 => ∃ (i : Nat) (v : Value), K0 = l.length - i ∧ E0 = [(0, ptrV p 0), (3, ptrV b1 0), (4, v), (5, intV (i : Int))] ∧ Sat W0 [rowT rfC v ((l.take i).filter (fun y => decide (y.1 ≠ k))), blkT b1 [intV k, strV a, strV b], blkT p (cellsR ⟨fv, qv, l⟩ kp D), rowT rfC fv l, rowT scC qv D.Q, F] ∧ (i ≤ l.length)) (L0 := [(0, _), (3, _), (4, _), (5, _)]) (l.length) (.cons rfl (.cons rfl (.cons rfl (.cons rfl .nil)))) ⟨0, _, by omega, rfl, hS1.row_nil rfC, by omega⟩ ?_
 rintro _ _ w2 ⟨i, v, rfl, rfl, hS2, hi⟩
 refine wc_seq (wc_seq (wc_region (wl_move rfl rfl (wl_move rfl rfl (wl_nilCheck rfl rfl ?_)))))
 refine wl_fieldAddr rfl fo_92_0 rfl ?_
 refine wl_load rfl ag_89 (by first | assumption | exact hS2.cell 1 rfl rfl | exact hS2.cell 2 rfl rfl) rfl ?_
 first | refine wl_lenL Tryz.underlying89 rfl rfl ?_ | refine wl_lenO 0 hS2 Tryz.underlying89 rfl rfl rfl ?_ | refine wl_lenO 3 hS2 Tryz.underlying89 rfl rfl rfl ?_ | refine wl_lenO 4 hS2 Tryz.underlying89 rfl rfl rfl ?_
 refine wl_lss rfl rfl rfl ?_
 refine wl_nil (qs_seq ?_)
 refine wc_sub (L' := [(12, _), (0, _), (3, _), (4, _), (5, _)]) (.cons rfl (.cons rfl (.cons rfl (.cons rfl (.cons rfl .nil))))) ?_
 refine wc_condD rfl (fun h3 => ?_) (fun h3 => ?_)
 ·have hcnt := hI.count
  obtain ⟨x, hx⟩ : ∃ x, l[i]? = some x := ⟨_, List.getElem?_eq_getElem (by omega)⟩
  obtain ⟨bf, cf, hfv, _⟩ := hS2.own_at 3 rfl (by omega)
  subst hfv
  refine wc_skip (qs_seq (wc_seq (wc_block (wc_seq ?_))))
  have hS4 := hS2.drew
  refine wc_draw [0, 1, 2, 3, 4, 5, 6, 7, 8, 9, 10] [] mix (by kernel_rfl) ?_
  refine vc_p rfl rfl rfl (fun _ => (ev_move rfl)) ?_
  refine vc_p rfl rfl rfl (fun _ => (ev_nilCheck rfl)) ?_
  refine vc_p rfl rfl rfl (fun _ => (ev_fieldAddr rfl fo_92_0)) ?_
  refine vc_q rfl rfl rfl (ev_load rfl ag_89 (by first | assumption | exact hS4.cell 1 rfl rfl | exact hS4.cell 2 rfl rfl)) ?_
  refine vc_p rfl rfl rfl (fun _ => (ev_move rfl)) ?_
  refine vc_p rfl rfl rfl (fun _ => (ev_indexAddr i rfl rfl (by first | rfl | omega) (by first | omega | exact (List.getElem?_eq_some_iff.1 hx).1) es_89)) ?_
  refine vc_p rfl rfl rfl (fun _ => (ev_fieldAddr rfl fo_97_0)) ?_
  refine vc_q rfl rfl rfl (ev_rowLoad0 rfC 3 i 0 hS4 rfl hx ag_3 rfl rfl) ?_
  refine vc_p rfl rfl rfl (fun _ => (ev_fieldAddr rfl fo_97_0)) ?_
  refine vc_q rfl rfl rfl (ev_load rfl ag_3 (by first | assumption | exact hS4.cell 1 rfl rfl | exact hS4.cell 2 rfl rfl)) ?_
  refine vc_p rfl rfl rfl (fun _ => (ev_neq rfl rfl)) ?_
  refine VC.nil (qs_seq ?_)
  refine wc_sub (L' := [(25, _), (0, _), (3, _), (4, _), (5, _)]) (.cons rfl (.cons rfl (.cons rfl (.cons rfl (.cons rfl .nil))))) ?_
  refine wc_condD rfl (fun h5 => ?_) (fun h5 => ?_)
  ·have hne : x.1 ≠ k := h5
   refine wc_region (wl_move rfl rfl (wl_move rfl rfl (wl_nilCheck rfl rfl ?_)))
   refine wl_fieldAddr rfl fo_92_0 rfl ?_
   refine wl_load rfl ag_89 (by first | assumption | exact hS4.cell 1 rfl rfl | exact hS4.cell 2 rfl rfl) rfl ?_
   refine wl_move rfl rfl ?_
   refine wl_rowIdx rfC 3 i hS4 rfl rfl rfl (by first | rfl | omega) hx es_89 rfl ?_
   intro bx6 capx6 hvx6
   refine wl_rowLoadA 3 i hS4 rfl hvx6 rfl hx ag_97 sz_97 rfl rfl ?_
   refine wl_rowBuild rfC [x] hS4 rfl Tryz.underlying89 ifz_97 rfl rfl rfl rfl (by first | rfl | simp [RowC.cells, fillL, splice]) rfl ?_
   intro b7 w7 hS7
   clear hS4
   refine wl_rowApp rfC 1 hS7 rfl rfl rfl (hS7.rd 0 rfl (by simp)) Tryz.underlying89 Tryz.underlying89 (by intro k hk; cases hk) ifo_97 rfl (by have := flt_le (fun y => decide (y.1 ≠ k)) l i 16 hcnt; simp only [List.length_cons, List.length_nil]; omega) rfl (by have := flt_le (fun y => decide (y.1 ≠ k)) l i 16 hcnt; simp only [List.length_cons, List.length_nil]; omega) ?_
   intro v8 w8 hS8; dsimp only [List.set] at hS8
   clear hS7
   have h1v8 : v8.oneCell' = true := hS8.own_one 1 rfl
   refine wl_assign rfl rfl (wl_nil (qs_block_normal (qs_seq ?_)))
   refine wc_sub (L' := [(4, _), (0, _), (3, _), (5, _)]) (.cons rfl (.cons rfl (.cons rfl (.cons rfl .nil)))) ?_
   refine wc_region (wl_move rfl rfl ?_)
   refine wl_add rfl rfl (by omega) (by omega) rfl ?_
   refine wl_assign rfl rfl (wl_nil ?_)
   exact qs_round (L1 := [(0, _), (3, _), (4, _), (5, intV ((i + 1 : Nat) : Int))]) (.cons rfl (.cons rfl (.cons rfl (.cons rfl .nil)))) (k1 := l.length - (i + 1)) (by omega) ⟨i + 1, _, by omega, rfl, by rw [set_keep hx hne]; exact hS8.tail, by omega⟩
  have heq : x.1 = k := Decidable.not_not.1 h5
  refine wc_skip (qs_block_normal (qs_seq (wc_region (wl_move rfl rfl ?_))))
  refine wl_add rfl rfl (by omega) (by omega) rfl ?_
  refine wl_assign rfl rfl (wl_nil ?_)
  exact qs_round (L1 := [(0, _), (3, _), (4, _), (5, intV ((i + 1 : Nat) : Int))]) (.cons rfl (.cons rfl (.cons rfl (.cons rfl .nil)))) (k1 := l.length - (i + 1)) (by omega) ⟨i + 1, _, by omega, rfl, by rw [set_skip hx heq]; exact hS4, by omega⟩
 refine wc_exit (qs_then_exit (qs_then_exit (qs_block_exit (qs_seq ?_))))
 have hcnt := hI.count
 have hfl := flt_le (fun y => decide (y.1 ≠ k)) l i 16 hcnt
 have hlt : l.take i = l := List.take_of_length_le (by omega)
 refine wc_region (wl_move rfl rfl (wl_move rfl rfl ?_))
 refine wl_loadA rfl ag_97 sz_97 (by first | exact hS2.blk 1 rfl | exact hS2.blk 2 rfl) (by first | decide | exact Nat.le_of_ble_eq_true rfl | (simp; done) | omega) rfl rfl ?_
 refine wl_rowBuild rfC [(k, a, b)] hS2 rfl Tryz.underlying89 ifz_97 rfl rfl rfl rfl (by first | rfl | simp [RowC.cells, fillL, splice]) rfl ?_
 intro b9 w9 hS9
 clear hS2
 refine wl_rowApp rfC 1 hS9 rfl rfl rfl (hS9.rd 0 rfl (by simp)) Tryz.underlying89 Tryz.underlying89 (by intro k hk; cases hk) ifo_97 rfl (by simp only [List.length_cons, List.length_nil]; omega) rfl (by simp only [List.length_cons, List.length_nil]; omega) ?_
 intro v10 w10 hS10; dsimp only [List.set] at hS10
 clear hS9
 have h1v10 : v10.oneCell' = true := hS10.own_one 1 rfl
 refine wl_nilCheck rfl rfl ?_
 refine wl_fieldAddr rfl fo_92_0 rfl ?_
 first | (refine wl_store hS10 rfl rfl sz_89 (by first | rfl | assumption | exact hS10.own_one 0 rfl | exact hS10.own_one 1 rfl | exact hS10.own_one 4 rfl | exact hS10.own_one 5 rfl) (i := 2) rfl (by first | decide | exact Nat.le_of_ble_eq_true rfl | (simp; done) | omega) ?_) | (refine wl_store hS10 rfl rfl sz_89 (by first | rfl | assumption | exact hS10.own_one 0 rfl | exact hS10.own_one 1 rfl | exact hS10.own_one 4 rfl | exact hS10.own_one 5 rfl) (i := 3) rfl (by first | decide | exact Nat.le_of_ble_eq_true rfl | (simp; done) | omega) ?_)
 intro w11 hS12; dsimp only [List.set] at hS12
 clear hS10
 refine wl_nil ?_
 refine fin0 (.inl rfl) rfl ?_
 exact ⟨_, rfl, rfl, refT_shut ⟨_, qv, putR l (k, a, b)⟩ (hI.put k a b hk ha hb) (by have h := hS12.pick [3, 1, 5, 6] rfl; rw [hlt] at h; exact h)⟩
theorem sizeR_sp {w : World} {p : Nat} {kp : Value} {D : DS} {F : Th} (hS : Sat w [refT p kp D, F]) (f : Int) :
    Calls Tryz.prog 34 #[ptrV p 0, intV f] w (Ret fun v w' => v = intV (D.F f).1.length ∧ Sat w' [refT p kp D, F]) := by
 refine calls_enter Tryz.func34 rfl Tryz.ntmps34 rfl ?_
 refine wc_seq (wc_region (wl_assign rfl rfl (wl_nil (qs_seq (wc_seq (wc_region (wl_move rfl rfl (wl_move rfl rfl ?_))))))))
 have hC1 := hS.split [0] [true, false] rfl; dsimp only [selF, pickA, nthA, List.cons_append, List.nil_append] at hC1
 refine wl_call cal_63 rfl (getR_sp hC1 f) rfl ?_
 rintro e w1 ⟨_, rfl, rfl, hS1⟩; refine ⟨_, rfl, ?_⟩
 replace hS1 := hS1.join rfl; dsimp only [List.dropLast, List.cons_append, List.nil_append] at hS1; clear hC1
 refine wl_field fv_97_1 rfl rfl rfl ?_
 refine wl_lenS Tryz.underlying9 rfl rfl ?_
 refine wl_assign rfl rfl (wl_nil (qs_seq (wc_ret ?_)))
 refine fin1 (.inr rfl) rfl rfl ?_
 exact ⟨_, rfl, rfl, hS1⟩
end Go.Proofs.YtfmkodmmbgibgaaGreatDoor
/- the reference of layer 3: Put, pending -/
namespace Go.Proofs.YtfmkodmmbgibgaaGreatDoor
open Go.RowKit M
set_option linter.unusedVariables false
theorem put_set {B t : Bytes} {a i : Nat} {c : UInt8} (h : a + t.length ≤ B.length) (hc : t[i]? = some c) : (B.take a ++ t.take i ++ B.drop (a + i)).set (a + i) c = B.take a ++ t.take (i + 1) ++ B.drop (a + (i + 1)) := by
  have hi := (List.getElem?_eq_some_iff.1 hc).1
  have h1 : B.drop (a + i) = B[a + i] :: B.drop (a + i + 1) := List.drop_eq_getElem_cons (by omega)
  have h2 : (B.take a ++ t.take i).length = a + i := by simp; omega
  rw [h1, List.set_append_right _ _ (by omega), h2, Nat.sub_self, List.set_cons_zero, List.take_add_one, hc]
  simp [Nat.add_assoc]
theorem fillB_len (s : Bytes) (m : Nat) (h : s.length ≤ m) : (fillB s m).length = m := by simp [fillB]; omega
theorem fill_more (s : Bytes) (j : Nat) : (s ++ List.replicate j (0 : UInt8)) ++ [0] = s ++ List.replicate (j + 1) 0 := by rw [List.append_assoc, List.replicate_succ']
theorem put_begin {w : World} {v : Value} {s t : Bytes} {a j : Nat} {F : Th} (hj : s.length + j = max s.length (a + t.length)) (h : Sat w [rowT byC v (s ++ List.replicate j 0), F]) : Sat w [rowT byC v ((fillB s (max s.length (a + t.length))).take a ++ t.take 0 ++ (fillB s (max s.length (a + t.length))).drop (a + 0)), F] := by
  have e : s ++ List.replicate j 0 = (fillB s (max s.length (a + t.length))).take a ++ t.take 0 ++ (fillB s (max s.length (a + t.length))).drop (a + 0) := by
    rw [← hj]; simp [fillB]
  rw [← e]; exact h
theorem put_done {s t : Bytes} {a i : Nat} (ht : t ≠ []) (h : i = t.length) : (fillB s (max s.length (a + t.length))).take a ++ t.take i ++ (fillB s (max s.length (a + t.length))).drop (a + i) = putB s a t := by
  rw [h, List.take_length, put2 s t a ht]
set_option maxRecDepth 100000 in
theorem putR_sp {w : World} {F : Th} (hS : Sat w [F]) (s t : Bytes) (a : Nat) (h1 : s.length ≤ 16777216) (h2 : a + t.length ≤ 33554432) :
    Calls Tryz.prog 93 #[strV s, intV a, strV t] w (Ret fun v w' => v = strV (putB s a t) ∧ Sat w' [F]) := by
 refine calls_enter Tryz.func93 rfl Tryz.ntmps93 rfl ?_
 refine wc_seq (wc_region (wl_assign rfl rfl (wl_nil (qs_seq (wc_seq (wc_seq (wc_region (wl_move rfl rfl ?_))))))))
 refine wl_eqlS rfl rfl rfl ?_
 refine wl_nil (qs_seq ?_)
 refine wc_condD rfl (fun h1 => ?_) (fun h1 => ?_)
 ·have hne : t = [] := h1
  refine wc_seq (wc_region (wl_move rfl rfl (wl_assign rfl rfl (wl_nil (qs_seq (wc_ret (qs_then_ret ?_)))))))
  refine fin1 (.inr rfl) rfl rfl ?_
  exact ⟨_, rfl, by rw [hne, putB_nil], hS⟩
 have hne : t ≠ [] := h1
 refine wc_skip (qs_seq (wc_seq (wc_region (wl_move rfl rfl ?_))))
 refine wl_rowBytes hS rfl Tryz.underlying9 Tryz.underlying118 Tryz.underlying5 rfl ?_
 intro v2 w2 hS2
 refine wl_assign rfl rfl (wl_nil (qs_seq (wc_seq (wc_block ?_))))
 refine wc_loop (fun K0 E0 W0 => ∃ (j : Nat) (v : Value), K0 = (a + t.length) - (s.length + j) ∧ E0 = [(1, intV (a : Int)), (2, strV t), (7, v)] ∧ Sat W0 [rowT byC v (s ++ List.replicate j 0), F] ∧ (s.length + j ≤ (max s.length (a + t.length)))) (L0 := [(1, _), (2, _), (7, _)]) (((a + t.length) - s.length)) (.cons rfl (.cons rfl (.cons rfl .nil))) ⟨0, _, by omega, rfl, by simpa using hS2, by omega⟩ ?_
 rintro _ _ w3 ⟨j, v, rfl, rfl, hS3, hj⟩
 have hlj : (s ++ List.replicate j (0 : UInt8)).length = s.length + j := by simp
 refine wc_seq (wc_seq (wc_region (wl_move rfl rfl ?_)))
 first | refine wl_lenL Tryz.underlying118 rfl rfl ?_ | refine wl_lenO 0 hS3 Tryz.underlying118 rfl rfl rfl ?_
 refine wl_move rfl rfl (wl_move rfl rfl ?_)
 refine wl_lenS Tryz.underlying9 rfl rfl ?_
 refine wl_add rfl rfl (by omega) (by omega) rfl ?_
 refine wl_lss rfl rfl rfl ?_
 refine wl_nil (qs_seq ?_)
 refine wc_condD rfl (fun h4 => ?_) (fun h4 => ?_)
 ·refine wc_skip (qs_seq (wc_block (wc_region (wl_move rfl rfl ?_))))
  refine wl_rowBuild byC [0] hS3 rfl Tryz.underlying118 ifz_5 rfl rfl rfl rfl (by first | rfl | simp [RowC.cells, fillL, splice]) rfl ?_
  intro b5 w5 hS5
  clear hS3
  refine wl_rowApp byC 1 hS5 rfl rfl rfl (hS5.rd 0 rfl (by simp)) Tryz.underlying118 Tryz.underlying118 (by intro k hk; cases hk) ifo_5 rfl (by simp only [List.length_cons, List.length_nil]; omega) rfl (by simp only [List.length_cons, List.length_nil]; omega) ?_
  intro v6 w6 hS6; dsimp only [List.set] at hS6
  clear hS5
  have h1v6 : v6.oneCell' = true := hS6.own_one 1 rfl
  refine wl_assign rfl rfl (wl_nil (qs_block_normal ?_))
  exact qs_round (L1 := [(1, _), (2, _), (7, _)]) (.cons rfl (.cons rfl (.cons rfl .nil))) (k1 := (a + t.length) - (s.length + (j + 1))) (by omega) ⟨j + 1, _, by omega, rfl, by rw [← fill_more]; exact hS6.tail, by omega⟩
 refine wc_exit (qs_then_exit (qs_then_exit (qs_block_exit (qs_seq (wc_seq (wc_seq (wc_region (wl_assign rfl rfl (wl_nil (qs_seq ?_))))))))))
 refine wc_sub (L' := [(8, _), (1, _), (2, _), (7, _)]) (.cons rfl (.cons rfl (.cons rfl (.cons rfl .nil)))) ?_
 refine wc_block ?_
 refine wc_loop (fun K0 E0 W0 => ∃ (i : Nat), K0 = t.length - i ∧ E0 = [(1, intV (a : Int)), (2, strV t), (7, v), (8, intV (i : Int))] ∧ Sat W0 [rowT byC v ((fillB s (max s.length (a + t.length))).take a ++ t.take i ++ (fillB s (max s.length (a + t.length))).drop (a + i)), F] ∧ (i ≤ t.length)) (L0 := [(1, _), (2, _), (7, _), (8, _)]) (t.length) (.cons rfl (.cons rfl (.cons rfl (.cons rfl .nil)))) ⟨0, by omega, rfl, put_begin (by omega) hS3, by omega⟩ ?_
 rintro _ _ w7 ⟨i, rfl, rfl, hS7, hi⟩
 refine wc_seq (wc_seq (wc_region (wl_move rfl rfl (wl_move rfl rfl ?_))))
 refine wl_lenS Tryz.underlying9 rfl rfl ?_
 refine wl_lss rfl rfl rfl ?_
 refine wl_nil (qs_seq ?_)
 refine wc_condD rfl (fun h8 => ?_) (fun h8 => ?_)
 ·obtain ⟨c, hc⟩ : ∃ c, t[i]? = some c := ⟨_, List.getElem?_eq_getElem (by omega)⟩
  have hXl : ((fillB s (max s.length (a + t.length))).take a ++ t.take i ++ (fillB s (max s.length (a + t.length))).drop (a + i)).length = (max s.length (a + t.length)) := by have := fillB_len s (max s.length (a + t.length)) (by omega); simp; omega
  obtain ⟨y, hy⟩ : ∃ y, ((fillB s (max s.length (a + t.length))).take a ++ t.take i ++ (fillB s (max s.length (a + t.length))).drop (a + i))[a + i]? = some y := ⟨_, List.getElem?_eq_getElem (by omega)⟩
  refine wc_skip (qs_seq (wc_seq (wc_block (wc_region (wl_move rfl rfl (wl_move rfl rfl (wl_move rfl rfl ?_)))))))
  refine wl_add rfl rfl (by omega) (by omega) rfl ?_
  refine wl_move rfl rfl (wl_move rfl rfl ?_)
  refine wl_indexS _ Tryz.underlying9 rfl rfl (by first | rfl | omega) (by first | assumption | rfl) rfl ?_
  refine wl_rowIdx byC 0 (a + i) hS7 rfl rfl rfl (by first | rfl | omega) hy es_118 rfl ?_
  intro bx9 capx9 hvx9
  refine wl_rowStore 0 (a + i) c hS7 rfl hvx9 rfl rfl sz_5 (by first | rfl | (simp; done)) (by first | omega | exact (List.getElem?_eq_some_iff.1 hy).1) ?_
  intro w10 hS11; dsimp only [List.set] at hS11
  clear hS7
  refine wl_nil (qs_block_normal (qs_seq ?_))
  refine wc_sub (L' := [(1, _), (2, _), (7, _), (8, _)]) (.cons rfl (.cons rfl (.cons rfl (.cons rfl .nil)))) ?_
  refine wc_region (wl_move rfl rfl ?_)
  refine wl_add rfl rfl (by omega) (by omega) rfl ?_
  refine wl_assign rfl rfl (wl_nil ?_)
  exact qs_round (L1 := [(1, _), (2, _), (7, _), (8, intV ((i + 1 : Nat) : Int))]) (.cons rfl (.cons rfl (.cons rfl (.cons rfl .nil)))) (k1 := t.length - (i + 1)) (by omega) ⟨i + 1, by omega, rfl, by rw [← put_set (by rw [fillB_len _ _ (by omega)]; omega) hc]; exact hS11, by omega⟩
 refine wc_exit (qs_then_exit (qs_then_exit (qs_block_exit (qs_seq (wc_seq (wc_region (wl_move rfl rfl ?_)))))))
 refine wl_rowStr 0 hS7 rfl rfl Tryz.underlying118 Tryz.underlying5 Tryz.underlying9 rfl ?_
 refine wl_assign rfl rfl (wl_nil (qs_seq ?_))
 refine wc_sub (L' := [(6, _)]) (.cons rfl .nil) ?_
 refine wc_ret ?_
 refine fin1 (.inr rfl) rfl rfl ?_
 exact ⟨_, rfl, by rw [put_done hne (by omega)], hS7.tail⟩
set_option maxRecDepth 100000 in
theorem pendR_sp {w : World} {p : Nat} {kp : Value} {D : DS} {F : Th} (hS : Sat w [refT p kp D, F]) (f n : Int) :
    Calls Tryz.prog 95 #[ptrV p 0, intV f, intV n] w (Ret fun v w' => v = .bool (decide ((f, n) ∈ D.Q)) ∧ Sat w' [refT p kp D, F]) := by
 obtain ⟨⟨fv, qv, l⟩, hI, hS⟩ := refT_open hS; dsimp only at hI hS
 refine calls_enter Tryz.func95 rfl Tryz.ntmps95 rfl ?_
 refine wc_seq (wc_region (wl_assign rfl rfl (wl_nil (qs_seq (wc_seq (wc_seq (wc_region (wl_assign rfl rfl (wl_nil (qs_seq (wc_block ?_)))))))))))
 refine wc_loop (fun K0 E0 W0 => ∃ (i : Nat), K0 = D.Q.length - i ∧ E0 = [(0, ptrV p 0), (1, intV f), (2, intV n), (7, intV (i : Int))] ∧ Sat W0 [blkT p (cellsR ⟨fv, qv, l⟩ kp D), rowT rfC fv l, rowT scC qv D.Q, F] ∧ (i ≤ D.Q.length) ∧ (∀ j y, j < i → D.Q[j]? = some y → y ≠ (f, n))) (L0 := [(0, _), (1, _), (2, _), (7, _)]) (D.Q.length) (.cons rfl (.cons rfl (.cons rfl (.cons rfl .nil)))) ⟨0, by omega, rfl, hS, by omega, by omega⟩ ?_
 rintro _ _ w1 ⟨i, rfl, rfl, hS1, hi, hno⟩
 refine wc_seq (wc_seq (wc_region (wl_move rfl rfl (wl_move rfl rfl (wl_nilCheck rfl rfl ?_)))))
 refine wl_fieldAddr rfl fo_92_1 rfl ?_
 refine wl_load rfl ag_90 (by first | assumption | exact hS1.cell 0 rfl rfl) rfl ?_
 first | refine wl_lenL Tryz.underlying90 rfl rfl ?_ | refine wl_lenO 1 hS1 Tryz.underlying90 rfl rfl rfl ?_ | refine wl_lenO 2 hS1 Tryz.underlying90 rfl rfl rfl ?_
 refine wl_lss rfl rfl rfl ?_
 refine wl_nil (qs_seq ?_)
 refine wc_sub (L' := [(14, _), (0, _), (1, _), (2, _), (7, _)]) (.cons rfl (.cons rfl (.cons rfl (.cons rfl (.cons rfl .nil))))) ?_
 refine wc_condD rfl (fun h2 => ?_) (fun h2 => ?_)
 ·have hcnt := sec_count hI.inv.secs hI.inv.nodup
  obtain ⟨x, hx⟩ : ∃ x, D.Q[i]? = some x := ⟨_, List.getElem?_eq_getElem (by omega)⟩
  refine wc_skip (qs_seq (wc_seq (wc_block (wc_seq (wc_region (wl_move rfl rfl (wl_nilCheck rfl rfl ?_)))))))
  refine wl_fieldAddr rfl fo_92_1 rfl ?_
  refine wl_load rfl ag_90 (by first | assumption | exact hS1.cell 0 rfl rfl) rfl ?_
  refine wl_move rfl rfl ?_
  refine wl_rowIdx scC 2 i hS1 rfl rfl rfl (by first | rfl | omega) hx es_90 rfl ?_
  intro bx3 capx3 hvx3
  refine wl_fieldAddr rfl fo_132_0 rfl ?_
  refine wl_rowLoad 2 i 0 hS1 rfl hvx3 rfl rfl hx ag_3 rfl rfl ?_
  refine wl_move rfl rfl ?_
  refine wl_eql rfl rfl rfl ?_
  refine wl_move rfl rfl ?_
  refine wl_splitD 27 rfl (fun h4 => ?_) (fun h4 => ?_)
  ·have h1a : x.1 = f := h4
   refine wl_guard rfl rfl (decide_eq_true h4) ?_
   refine wl_move rfl rfl ?_
   refine wl_guard rfl rfl (decide_eq_true h4) ?_
   refine wl_nilCheck rfl rfl ?_
   refine wl_guard rfl rfl (decide_eq_true h4) ?_
   refine wl_fieldAddr rfl fo_92_1 rfl ?_
   refine wl_guard rfl rfl (decide_eq_true h4) ?_
   refine wl_load rfl ag_90 (by first | assumption | exact hS1.cell 0 rfl rfl) rfl ?_
   refine wl_guard rfl rfl (decide_eq_true h4) ?_
   refine wl_move rfl rfl ?_
   refine wl_guard rfl rfl (decide_eq_true h4) ?_
   refine wl_rowIdx scC 2 i hS1 rfl rfl rfl (by first | rfl | omega) hx es_90 rfl ?_
   intro bx5 capx5 hvx5
   refine wl_guard rfl rfl (decide_eq_true h4) ?_
   refine wl_fieldAddr rfl fo_132_1 rfl ?_
   refine wl_guard rfl rfl (decide_eq_true h4) ?_
   refine wl_rowLoad 2 i 1 hS1 rfl hvx5 rfl rfl hx ag_3 rfl rfl ?_
   refine wl_guard rfl rfl (decide_eq_true h4) ?_
   refine wl_move rfl rfl ?_
   refine wl_guard rfl rfl (decide_eq_true h4) ?_
   refine wl_eql rfl rfl rfl ?_
   refine wl_pickT rfl (decide_eq_true h4) rfl rfl ?_
   refine wl_nil (qs_seq ?_)
   refine wc_sub (L' := [(38, _), (0, _), (1, _), (2, _), (7, _)]) (.cons rfl (.cons rfl (.cons rfl (.cons rfl (.cons rfl .nil))))) ?_
   refine wc_condD rfl (fun h6 => ?_) (fun h6 => ?_)
   ·have h1b : x.2 = n := h6
    refine wc_seq (wc_region (wl_assign rfl rfl (wl_nil (qs_seq (wc_ret (qs_block_ret (qs_then_ret (qs_then_ret (qs_block_ret (qs_then_ret ?_))))))))))
    refine fin1 (.inr rfl) rfl rfl ?_
    exact ⟨_, rfl, by rw [decide_eq_true (show (f, n) ∈ D.Q from List.mem_of_getElem? (i := i) (by rw [hx]; congr 1; exact Prod.ext h1a h1b))], refT_shut ⟨fv, qv, l⟩  hI hS1⟩
   refine wc_skip (qs_block_normal (qs_seq (wc_region (wl_move rfl rfl ?_))))
   refine wl_add rfl rfl (by omega) (by omega) rfl ?_
   refine wl_assign rfl rfl (wl_nil ?_)
   exact qs_round (L1 := [(0, _), (1, _), (2, _), (7, intV ((i + 1 : Nat) : Int))]) (.cons rfl (.cons rfl (.cons rfl (.cons rfl .nil)))) (k1 := D.Q.length - (i + 1)) (by omega) ⟨i + 1, by omega, rfl, hS1, by omega, fun j y hj hy => by by_cases e : j = i; (subst e; rw [hx] at hy; cases hy; intro e2; cases e2; simp_all); exact hno j y (by omega) hy⟩
  refine wl_unwanted rfl rfl (decide_eq_false h4) rfl ?_
  refine wl_unwanted rfl rfl (decide_eq_false h4) rfl ?_
  refine wl_unwanted rfl rfl (decide_eq_false h4) rfl ?_
  refine wl_unwanted rfl rfl (decide_eq_false h4) rfl ?_
  refine wl_unwanted rfl rfl (decide_eq_false h4) rfl ?_
  refine wl_unwanted rfl rfl (decide_eq_false h4) rfl ?_
  refine wl_unwanted rfl rfl (decide_eq_false h4) rfl ?_
  refine wl_unwanted rfl rfl (decide_eq_false h4) rfl ?_
  refine wl_unwanted rfl rfl (decide_eq_false h4) rfl ?_
  refine wl_unwanted rfl rfl (decide_eq_false h4) rfl ?_
  refine wl_pickF rfl (decide_eq_false h4) rfl rfl ?_
  refine wl_nil (qs_seq ?_)
  refine wc_sub (L' := [(38, _), (0, _), (1, _), (2, _), (7, _)]) (.cons rfl (.cons rfl (.cons rfl (.cons rfl (.cons rfl .nil))))) ?_
  refine wc_condF rfl ?_
  refine wc_skip (qs_block_normal (qs_seq (wc_region (wl_move rfl rfl ?_))))
  refine wl_add rfl rfl (by omega) (by omega) rfl ?_
  refine wl_assign rfl rfl (wl_nil ?_)
  exact qs_round (L1 := [(0, _), (1, _), (2, _), (7, intV ((i + 1 : Nat) : Int))]) (.cons rfl (.cons rfl (.cons rfl (.cons rfl .nil)))) (k1 := D.Q.length - (i + 1)) (by omega) ⟨i + 1, by omega, rfl, hS1, by omega, fun j y hj hy => by by_cases e : j = i; (subst e; rw [hx] at hy; cases hy; intro e2; cases e2; simp_all); exact hno j y (by omega) hy⟩
 refine wc_exit (qs_then_exit (qs_then_exit (qs_block_exit (qs_seq (wc_seq (wc_region (wl_assign rfl rfl (wl_nil (qs_seq (wc_ret ?_))))))))))
 refine fin1 (.inr rfl) rfl rfl ?_
 exact ⟨_, rfl, by rw [decide_eq_false (fun hm => by obtain ⟨j, hj⟩ := List.mem_iff_getElem?.1 hm; exact hno j _ (by have := (List.getElem?_eq_some_iff.1 hj).1; omega) hj rfl)], refT_shut ⟨fv, qv, l⟩  hI hS1⟩
end Go.Proofs.YtfmkodmmbgibgaaGreatDoor
/- the reference of layer 3: add, survive -/
namespace Go.Proofs.YtfmkodmmbgibgaaGreatDoor
open Go.RowKit M
set_option linter.unusedVariables false
/-- what the reference's write has done after j sectors -/
def addJ (D : DS) (f : Int) (a : Nat) (s : Bytes) (j : Nat) : DS := { D with F := setF D.F f (putB (D.F f).1 a s, (D.F f).2), Q := pend f j ((a : Int) / 64) D.Q }
theorem addJ_add {D : DS} {f : Int} {a : Nat} {s : Bytes} (h : s ≠ []) {N : Nat} (hN : N = (((a : Int) + s.length - 1) / 64 - (a : Int) / 64 + 1).toNat) : addJ D f a s N = addD D f a s := by
  rw [addD, if_neg h, hN]; rfl
theorem addJ_inv {D : DS} {f : Int} {a : Nat} {s : Bytes} {l : List (Int × Bytes × Bytes)} {j : Nat} (h : RInv l (addJ D f a s j)) (hD : DInv D) (hf : 0 ≤ f ∧ f < 16) (ha : (a : Int) / 64 + (j + 1 : Nat) ≤ 262145) : RInv l (addJ D f a s (j + 1)) := by
  have hb := pend_bound f hf (j + 1) ((a : Int) / 64) D.Q (by omega) (by omega) hD.secs hD.nodup
  exact h.upd rfl { h.inv with nodup := hb.2, secs := hb.1 }
theorem addJ_old {D : DS} {f : Int} {a : Nat} {s : Bytes} {j : Nat} (h : (f, (a : Int) / 64 + j) ∈ (addJ D f a s j).Q) : addJ D f a s (j + 1) = addJ D f a s j := by
  have e : pend f (j + 1) ((a : Int) / 64) D.Q = pend f j ((a : Int) / 64) D.Q := by
    rw [pend_step]; exact if_pos h
  rw [addJ, e]; rfl
theorem addJ_new {D : DS} {f : Int} {a : Nat} {s : Bytes} {j : Nat} (h : (f, (a : Int) / 64 + j) ∉ (addJ D f a s j).Q) : (addJ D f a s (j + 1)).Q = (addJ D f a s j).Q ++ [(f, (a : Int) / 64 + j)] := by
  have e : pend f (j + 1) ((a : Int) / 64) D.Q = pend f j ((a : Int) / 64) D.Q ++ [(f, (a : Int) / 64 + j)] := by
    rw [pend_step]; exact if_neg h
  exact e
theorem add_shut {w : World} {p : Nat} {kp fv v X : Value} {D : DS} {f : Int} {a j : Nat} {s : Bytes} {l : List (Int × Bytes × Bytes)} {F : Th} (hI : RInv l (addJ D f a s j)) (hD : DInv D) (hf : 0 ≤ f ∧ f < 16) (ha : (a : Int) / 64 + (j + 1 : Nat) ≤ 262145) (hn : (f, (a : Int) / 64 + j) ∉ (addJ D f a s j).Q)
    (h : Sat w [rowT scC X [(f, (a : Int) / 64 + j)], blkT p [fv, v, intV D.lost, .bool D.down, intV D.armed, kp], rowT rfC fv l, rowT scC v ((addJ D f a s j).Q ++ [(f, (a : Int) / 64 + j)]), F]) : Sat w [refT p kp (addJ D f a s (j + 1)), F] := by
  rw [← addJ_new hn] at h
  exact refT_shut ⟨fv, v, l⟩ (addJ_inv hI hD hf ha) (h.pick [1, 2, 3, 4] rfl)
set_option maxRecDepth 100000 in
theorem addR_sp {w : World} {p : Nat} {kp : Value} {D : DS} {F : Th} (hS : Sat w [refT p kp D, F]) (f : Int) (at_ : Int) (s : Bytes) (hf : 0 ≤ f ∧ f < 16) (ha : 0 ≤ at_) (hfit : at_ + s.length ≤ 16777216) :
    Calls Tryz.prog 59 #[ptrV p 0, intV f, intV at_, strV s] w (Ret fun v w' => v = .tuple #[] ∧ Sat w' [refT p kp (addD D f at_ s), F]) := by
 refine calls_enter Tryz.func59 rfl Tryz.ntmps59 rfl ?_
 refine wc_seq (wc_seq (wc_region (wl_move rfl rfl ?_)))
 refine wl_eqlS rfl rfl rfl ?_
 refine wl_nil (qs_seq ?_)
 refine wc_condD rfl (fun h1 => ?_) (fun h1 => ?_)
 ·have hs0 : s = [] := h1
  refine wc_ret (qs_then_ret ?_)
  refine fin0 (.inr rfl) rfl ?_
  exact ⟨_, rfl, rfl, by rw [addD, if_pos hs0]; exact hS⟩
 have hs0 : s ≠ [] := h1
 have hlen : 0 < s.length := List.length_pos_iff.2 hs0
 obtain ⟨a, rfl⟩ := Int.eq_ofNat_of_zero_le ha
 obtain ⟨_, hI0, _⟩ := refT_open hS
 have hD := hI0.inv; clear hI0
 have hnow := hD.now f
 refine wc_skip (qs_seq (wc_seq (wc_region (wl_move rfl rfl (wl_move rfl rfl ?_)))))
 have hC2 := hS.split [0] [true, false] rfl; dsimp only [selF, pickA, nthA, List.cons_append, List.nil_append] at hC2
 refine wl_call cal_63 rfl (getR_sp hC2 f) rfl ?_
 rintro e w2 ⟨_, rfl, rfl, hS2⟩; refine ⟨_, rfl, ?_⟩
 replace hS2 := hS2.join rfl; dsimp only [List.dropLast, List.cons_append, List.nil_append] at hS2; clear hC2
 refine wl_alloc hS2 zr_97 rfl rfl ?_
 intro b3 w3 hS3
 clear hS2
 first | (refine wl_storeA hS3 rfl rfl sz_97 rfl (by first | rfl | (simp [allOne, Value.oneCell']; done) | assumption | exact hone) (i := 0) rfl (by first | decide | exact Nat.le_of_ble_eq_true rfl | (simp; done) | omega) ?_)
 intro w4 hS5; dsimp only [List.set] at hS5
 clear hS3
 refine wl_nil (qs_seq (wc_seq (wc_region ?_)))
 refine wl_fieldAddr rfl fo_97_1 rfl ?_
 refine wl_load rfl ag_9 (by first | assumption | exact hS5.cell 0 rfl rfl) rfl ?_
 refine wl_move rfl rfl (wl_move rfl rfl ?_)
 have hC6 := hS5.split [] [false, false, false] rfl; dsimp only [selF, pickA, nthA, List.cons_append, List.nil_append] at hC6
 refine wl_call cal_93 rfl (putR_sp hC6 _ _ a hnow (by omega)) rfl ?_
 rintro e w6 ⟨_, rfl, rfl, hS6⟩; refine ⟨_, rfl, ?_⟩
 replace hS6 := hS6.join rfl; dsimp only [List.dropLast, List.cons_append, List.nil_append] at hS6; clear hC6
 clear hS5
 refine wl_fieldAddr rfl fo_97_1 rfl ?_
 first | (refine wl_store hS6 rfl rfl sz_9 (by first | rfl | assumption) (i := 0) rfl (by first | decide | exact Nat.le_of_ble_eq_true rfl | (simp; done) | omega) ?_)
 intro w7 hS8; dsimp only [List.set] at hS8
 clear hS6
 refine wl_nil (qs_seq ?_)
 refine wc_sub (L' := [(8, _), (0, _), (1, _), (2, _), (3, _)]) (.cons rfl (.cons rfl (.cons rfl (.cons rfl (.cons rfl .nil))))) ?_
 refine wc_seq ?_
 have hput := putB_le (m := 16777216) hnow (show a + s.length ≤ 16777216 by omega)
 refine wc_region (wl_move rfl rfl ?_)
 refine wl_loadA rfl ag_97 sz_97 (by first | exact hS8.blk 0 rfl) (by first | decide | exact Nat.le_of_ble_eq_true rfl | (simp; done) | omega) rfl rfl ?_
 have hC9 := hS8.split [1] [false, true, false] rfl; dsimp only [selF, pickA, nthA, List.cons_append, List.nil_append] at hC9
 refine wl_call cal_94 rfl (setR_sp hC9 f _ _ hf hput (hD.last f)) rfl ?_
 rintro e w9 ⟨_, rfl, rfl, hS9⟩; refine ⟨_, rfl, ?_⟩
 replace hS9 := hS9.join rfl; dsimp only [List.dropLast, List.cons_append, List.nil_append] at hS9; clear hC9
 clear hS8
 refine wl_nil (qs_seq (wc_seq (wc_region (wl_move rfl rfl ?_))))
 refine wl_quo rfl rfl (by omega) (by omega) (by omega) rfl ?_
 refine wl_assign rfl rfl (wl_nil (qs_seq ?_))
 refine wc_sub (L' := [(9, _), (0, _), (1, _), (2, _), (3, _)]) (.cons rfl (.cons rfl (.cons rfl (.cons rfl (.cons rfl .nil))))) ?_
 refine wc_block ?_
 obtain ⟨N, hN⟩ : ∃ N : Nat, N = (((a : Int) + s.length - 1) / 64 - (a : Int) / 64 + 1).toNat := ⟨_, rfl⟩
 refine wc_loop (fun K0 E0 W0 => ∃ (j : Nat), K0 = N - j ∧ E0 = [(0, ptrV p 0), (1, intV f), (2, intV (a : Int)), (3, strV s), (9, intV ((a : Int) / 64 + (j : Int)))] ∧ Sat W0 [refT p kp (addJ D f a s j), F] ∧ (j ≤ N)) (L0 := [(0, _), (1, _), (2, _), (3, _), (9, _)]) (N) (.cons rfl (.cons rfl (.cons rfl (.cons rfl (.cons rfl .nil))))) ⟨0, by omega, by simp, hS9.pick [0, 2] rfl, by omega⟩ ?_
 rintro _ _ w10 ⟨j, rfl, rfl, hS10, hj⟩
 refine wc_seq (wc_seq (wc_region (wl_move rfl rfl (wl_move rfl rfl (wl_move rfl rfl ?_)))))
 refine wl_lenS Tryz.underlying9 rfl rfl ?_
 refine wl_add rfl rfl (by omega) (by omega) rfl ?_
 refine wl_sub' rfl rfl (by omega) (by omega) rfl ?_
 refine wl_quo rfl rfl (by omega) (by omega) (by omega) rfl ?_
 refine wl_leq rfl rfl rfl ?_
 refine wl_nil (qs_seq ?_)
 refine wc_sub (L' := [(33, _), (0, _), (1, _), (2, _), (3, _), (9, _)]) (.cons rfl (.cons rfl (.cons rfl (.cons rfl (.cons rfl (.cons rfl .nil)))))) ?_
 refine wc_condD rfl (fun h11 => ?_) (fun h11 => ?_)
 ·refine wc_skip (qs_seq (wc_seq (wc_block (wc_seq (wc_region (wl_move rfl rfl (wl_move rfl rfl (wl_move rfl rfl ?_))))))))
  have hC12 := hS10.split [0] [true, false] rfl; dsimp only [selF, pickA, nthA, List.cons_append, List.nil_append] at hC12
  refine wl_call cal_95 rfl (pendR_sp hC12 f _) rfl ?_
  rintro e w12 ⟨_, rfl, rfl, hS12⟩; refine ⟨_, rfl, ?_⟩
  replace hS12 := hS12.join rfl; dsimp only [List.dropLast, List.cons_append, List.nil_append] at hS12; clear hC12
  clear hS10
  refine wl_not rfl rfl ?_
  refine wl_nil (qs_seq ?_)
  refine wc_sub (L' := [(40, _), (0, _), (1, _), (2, _), (3, _), (9, _)]) (.cons rfl (.cons rfl (.cons rfl (.cons rfl (.cons rfl (.cons rfl .nil)))))) ?_
  refine wc_cond rfl (fun h13 => ?_) (fun h13 => ?_)
  ·have hnew : (f, (a : Int) / 64 + j) ∉ (addJ D f a s j).Q := by simpa using h13
   obtain ⟨⟨fv, qv, l⟩, hI, hS12⟩ := refT_open (hS12.pull 0 rfl); dsimp only [List.eraseIdx] at hI hS12
   have hcnt := sec_count hI.inv.secs hI.inv.nodup
   refine wc_region (wl_move rfl rfl (wl_move rfl rfl (wl_nilCheck rfl rfl ?_)))
   refine wl_fieldAddr rfl fo_92_1 rfl ?_
   refine wl_load rfl ag_90 (by first | assumption | exact hS12.cell 0 rfl rfl) rfl ?_
   refine wl_move rfl rfl (wl_move rfl rfl ?_)
   refine wl_buildS rfl pl_132_0_1 asz_132 zr_132 rfl rfl ?_
   refine wl_rowBuild scC [(f, (a : Int) / 64 + j)] hS12 rfl Tryz.underlying90 ifz_132 rfl rfl rfl rfl (by first | rfl | simp [RowC.cells, fillL, splice]) rfl ?_
   intro b14 w14 hS14
   clear hS12
   refine wl_rowApp scC 3 hS14 rfl rfl rfl (hS14.rd 0 rfl (by simp)) Tryz.underlying90 Tryz.underlying90 (by intro k hk; cases hk) ifo_132 rfl (by simp only [List.length_cons, List.length_nil]; omega) rfl (by simp only [List.length_cons, List.length_nil]; omega) ?_
   intro v15 w15 hS15; dsimp only [List.set] at hS15
   clear hS14
   have h1v15 : v15.oneCell' = true := hS15.own_one 3 rfl
   refine wl_nilCheck rfl rfl ?_
   refine wl_fieldAddr rfl fo_92_1 rfl ?_
   first | (refine wl_store hS15 rfl rfl sz_90 (by first | rfl | assumption | exact hS15.own_one 0 rfl | exact hS15.own_one 2 rfl | exact hS15.own_one 3 rfl) (i := 1) rfl (by first | decide | exact Nat.le_of_ble_eq_true rfl | (simp; done) | omega) ?_)
   intro w16 hS17; dsimp only [List.set] at hS17
   clear hS15
   refine wl_nil (qs_block_normal (qs_seq ?_))
   refine wc_sub (L' := [(0, _), (1, _), (2, _), (3, _), (9, _)]) (.cons rfl (.cons rfl (.cons rfl (.cons rfl (.cons rfl .nil))))) ?_
   refine wc_region (wl_move rfl rfl ?_)
   refine wl_add rfl rfl (by omega) (by omega) rfl ?_
   refine wl_assign rfl rfl (wl_nil ?_)
   exact qs_round (L1 := [(0, _), (1, _), (2, _), (3, _), (9, intV ((a : Int) / 64 + ((j + 1 : Nat) : Int)))]) (.cons rfl (.cons rfl (.cons rfl (.cons rfl (.cons rfl .nil))))) (k1 := N - (j + 1)) (by omega) ⟨j + 1, by omega, rfl, add_shut hI hD hf (by omega) hnew hS17, by omega⟩
  have hold : (f, (a : Int) / 64 + j) ∈ (addJ D f a s j).Q := by simpa using h13
  refine wc_skip (qs_block_normal (qs_seq (wc_region (wl_move rfl rfl ?_))))
  refine wl_add rfl rfl (by omega) (by omega) rfl ?_
  refine wl_assign rfl rfl (wl_nil ?_)
  exact qs_round (L1 := [(0, _), (1, _), (2, _), (3, _), (9, intV ((a : Int) / 64 + ((j + 1 : Nat) : Int)))]) (.cons rfl (.cons rfl (.cons rfl (.cons rfl (.cons rfl .nil))))) (k1 := N - (j + 1)) (by omega) ⟨j + 1, by omega, rfl, by rw [addJ_old hold]; exact hS12, by omega⟩
 refine wc_exit (qs_then_exit (qs_then_exit (qs_block_exit ?_)))
 refine fin0 (.inl rfl) rfl ?_
 exact ⟨_, rfl, rfl, by rw [← addJ_add hs0 (show j = _ by omega)]; exact hS10⟩
theorem putR_sp' {w : World} {F : Th} (hS : Sat w [F]) (s t : Bytes) (a : Nat) {x : Int} (ha : x = a) (h1 : s.length ≤ 16777216) (h2 : a + t.length ≤ 33554432) : Calls Tryz.prog 93 #[strV s, intV x, strV t] w (Ret fun v w' => v = strV (putB s a t) ∧ Sat w' [F]) := by
  subst ha; exact putR_sp hS s t a h1 h2
theorem surv_yes {w : World} {p : Nat} {kp : Value} {D : DS} {q1 q2 : Int} {a : Nat} {X Y F : Th} (ha : 64 * q2 = a) (hlt : a < (D.F q1).1.length) (h : Sat w [refT p kp { D with F := setF D.F q1 ((D.F q1).1, putB (D.F q1).2 a (cut64 (D.F q1).1 a)) }, X, Y, F]) : Sat w [refT p kp { D with F := survive D.F (q1, q2) }, F] := by
  have e : survive D.F (q1, q2) = setF D.F q1 ((D.F q1).1, putB (D.F q1).2 a (cut64 (D.F q1).1 a)) := by
    unfold survive; rw [if_neg (by simp; omega)]; simp only [ha]; rfl
  rw [e]; exact h.pick [0, 3] rfl
theorem setF_self (F : Int → Bytes × Bytes) (k : Int) : setF F k ((F k).1, (F k).2) = F := by
  funext j; unfold setF; split
  · rename_i h; rw [h]
  · rfl
theorem surv_no {w : World} {p : Nat} {kp : Value} {D : DS} {q1 q2 : Int} {X Y F : Th} (hlt : ¬ 64 * q2 < (D.F q1).1.length) (h : Sat w [refT p kp { D with F := setF D.F q1 ((D.F q1).1, (D.F q1).2) }, X, Y, F]) : Sat w [refT p kp { D with F := survive D.F (q1, q2) }, F] := by
  have e : survive D.F (q1, q2) = D.F := by unfold survive; rw [if_pos (by simp; omega)]
  rw [e]; rw [setF_self] at h; exact h.pick [0, 3] rfl
set_option maxRecDepth 100000 in
theorem survR_sp {w : World} {p : Nat} {kp : Value} {D : DS} {F : Th} (hS : Sat w [refT p kp D, F]) (q1 q2 : Int) (hq : 0 ≤ q1 ∧ q1 < 16) (hq2 : 0 ≤ q2 ∧ q2 ≤ 262144) :
    Calls Tryz.prog 118 #[ptrV p 0, .agg #[intV q1, intV q2]] w (Ret fun v w' => v = .tuple #[] ∧ Sat w' [refT p kp { D with F := survive D.F (q1, q2) }, F]) := by
 refine calls_enter Tryz.func118 rfl Tryz.ntmps118 rfl ?_
 obtain ⟨_, hI0, _⟩ := refT_open hS
 have hD := hI0.inv; clear hI0
 have hnow := hD.now q1; have hlast := hD.last q1
 refine wc_seq (wc_region ?_)
 refine wl_box hS rfl rfl rfl ?_
 intro b1 w1 hS1
 refine wl_nil (qs_seq (wc_seq (wc_region (wl_move rfl rfl ?_))))
 refine wl_fieldAddr rfl fo_132_0 rfl ?_
 refine wl_load rfl ag_3 (by first | assumption | exact hS1.cell 0 rfl rfl) rfl ?_
 have hC2 := hS1.split [1] [false, true, false] rfl; dsimp only [selF, pickA, nthA, List.cons_append, List.nil_append] at hC2
 refine wl_call cal_63 rfl (getR_sp hC2 q1) rfl ?_
 rintro e w2 ⟨_, rfl, rfl, hS2⟩; refine ⟨_, rfl, ?_⟩
 replace hS2 := hS2.join rfl; dsimp only [List.dropLast, List.cons_append, List.nil_append] at hS2; clear hC2
 clear hS1
 refine wl_alloc hS2 zr_97 rfl rfl ?_
 intro b3 w3 hS3
 clear hS2
 first | (refine wl_storeA hS3 rfl rfl sz_97 rfl (by first | rfl | (simp [allOne, Value.oneCell']; done) | assumption | exact hone) (i := 0) rfl (by first | decide | exact Nat.le_of_ble_eq_true rfl | (simp; done) | omega) ?_) | (refine wl_storeA hS3 rfl rfl sz_97 rfl (by first | rfl | (simp [allOne, Value.oneCell']; done) | assumption | exact hone) (i := 2) rfl (by first | decide | exact Nat.le_of_ble_eq_true rfl | (simp; done) | omega) ?_)
 intro w4 hS5; dsimp only [List.set] at hS5
 clear hS3
 refine wl_nil (qs_seq (wc_seq (wc_seq (wc_region ?_))))
 refine wl_fieldAddr rfl fo_132_1 rfl ?_
 refine wl_load rfl ag_3 (by first | assumption | exact hS5.cell 0 rfl rfl | exact hS5.cell 2 rfl rfl) rfl ?_
 refine wl_mul rfl rfl (by omega) (by omega) rfl ?_
 refine wl_fieldAddr rfl fo_97_1 rfl ?_
 refine wl_load rfl ag_9 (by first | assumption | exact hS5.cell 0 rfl rfl | exact hS5.cell 2 rfl rfl) rfl ?_
 refine wl_lenS Tryz.underlying9 rfl rfl ?_
 refine wl_lss rfl rfl rfl ?_
 refine wl_nil (qs_seq ?_)
 refine wc_sub (L' := [(15, _), (4, _), (3, _), (0, _)]) (.cons rfl (.cons rfl (.cons rfl (.cons rfl .nil)))) ?_
 refine wc_condD rfl (fun h6 => ?_) (fun h6 => ?_)
 ·obtain ⟨a, ha⟩ : ∃ a : Nat, 64 * q2 = a := ⟨(64 * q2).toNat, by omega⟩
  obtain ⟨B, hB⟩ : ∃ B : Nat, min (64 * q2 + 64) ((D.F q1).1.length : Int) = B := ⟨(min (64 * q2 + 64) ((D.F q1).1.length : Int)).toNat, by omega⟩
  have hcut : ((D.F q1).1.take B).drop a = cut64 (D.F q1).1 a := cut_eq (by omega)
  have hfit := cut_le2 (D.F q1).1 a (by omega)
  have hS7 := hS5.drew
  refine wc_draw [0, 1, 2, 3, 4, 5, 6, 7, 8, 9, 10, 11, 12, 13, 14, 15, 16, 17, 18, 19, 20, 21] [19, 21] mix (by kernel_rfl) ?_
  refine vc_p rfl rfl rfl (fun _ => (ev_fieldAddr rfl fo_97_2)) ?_
  refine vc_q rfl rfl rfl (ev_load rfl ag_9 (by first | assumption | exact hS7.cell 0 rfl rfl | exact hS7.cell 2 rfl rfl)) ?_
  refine vc_p rfl rfl rfl (fun _ => (ev_fieldAddr rfl fo_132_1)) ?_
  refine vc_q rfl rfl rfl (ev_load rfl ag_3 (by first | assumption | exact hS7.cell 0 rfl rfl | exact hS7.cell 2 rfl rfl)) ?_
  refine vc_p rfl rfl rfl (fun _ => (ev_mul rfl rfl (by omega) (by omega))) ?_
  refine vc_p rfl rfl rfl (fun _ => (ev_fieldAddr rfl fo_97_1)) ?_
  refine vc_q rfl rfl rfl (ev_load rfl ag_9 (by first | assumption | exact hS7.cell 0 rfl rfl | exact hS7.cell 2 rfl rfl)) ?_
  refine vc_p rfl rfl rfl (fun _ => (ev_fieldAddr rfl fo_132_1)) ?_
  refine vc_q rfl rfl rfl (ev_load rfl ag_3 (by first | assumption | exact hS7.cell 0 rfl rfl | exact hS7.cell 2 rfl rfl)) ?_
  refine vc_p rfl rfl rfl (fun _ => (ev_mul rfl rfl (by omega) (by omega))) ?_
  refine vc_p rfl rfl rfl (fun _ => (ev_fieldAddr rfl fo_132_1)) ?_
  refine vc_q rfl rfl rfl (ev_load rfl ag_3 (by first | assumption | exact hS7.cell 0 rfl rfl | exact hS7.cell 2 rfl rfl)) ?_
  refine vc_p rfl rfl rfl (fun _ => (ev_mul rfl rfl (by omega) (by omega))) ?_
  refine vc_p rfl rfl rfl (fun _ => (ev_add rfl rfl (by omega) (by omega))) ?_
  refine vc_p rfl rfl rfl (fun _ => (ev_fieldAddr rfl fo_97_1)) ?_
  refine vc_q rfl rfl rfl (ev_load rfl ag_9 (by first | assumption | exact hS7.cell 0 rfl rfl | exact hS7.cell 2 rfl rfl)) ?_
  refine vc_p rfl rfl rfl (fun _ => (ev_lenS Tryz.underlying9 rfl)) ?_
  refine vc_p rfl rfl rfl (fun _ => (ev_minI rfl rfl)) ?_
  refine vc_p rfl rfl rfl (fun _ => (ev_sliceS a B Tryz.underlying9 rfl (bndS a _ rfl ha) (bndS B _ rfl hB) (by omega) (by omega))) ?_
  refine vc_s rfl rfl rfl rfl rfl rfl ?_
  have hC8 := hS7.split [] [false, false, false, false] rfl; dsimp only [selF, pickA, nthA, List.cons_append, List.nil_append] at hC8
  refine wl_call cal_93 rfl (putR_sp' hC8 _ _ a ha hlast (by rw [hcut]; omega)) rfl ?_
  rintro e w8 ⟨_, rfl, rfl, hS8⟩; refine ⟨_, rfl, ?_⟩
  replace hS8 := hS8.join rfl; dsimp only [List.dropLast, List.cons_append, List.nil_append] at hS8; clear hC8
  clear hS7
  rw [hcut]
  refine vc_e (.skip (by kernel_rfl) (.skip (by kernel_rfl) (.skip (by kernel_rfl) (.skip (by kernel_rfl) (.skip (by kernel_rfl) (.skip (by kernel_rfl) .nil)))))) ?_
  refine vc_p rfl rfl rfl (fun _ => (ev_fieldAddr rfl fo_97_2)) ?_
  refine vc_s rfl rfl rfl rfl rfl rfl ?_
  first | (refine wl_store hS8 rfl rfl sz_9 (by first | rfl | assumption) (i := 0) rfl (by first | decide | exact Nat.le_of_ble_eq_true rfl | (simp; done) | omega) ?_) | (refine wl_store hS8 rfl rfl sz_9 (by first | rfl | assumption) (i := 2) rfl (by first | decide | exact Nat.le_of_ble_eq_true rfl | (simp; done) | omega) ?_)
  intro w9 hS10; dsimp only [List.set] at hS10
  clear hS8
  refine vc_e0 (.skip (by kernel_rfl) (.skip (by kernel_rfl) (.skip (by kernel_rfl) (.skip (by kernel_rfl) (.skip (by kernel_rfl) (.skip (by kernel_rfl) .nil)))))) ?_
  refine VC.nil (qs_seq ?_)
  refine wc_sub (L' := [(4, _), (0, _)]) (.cons rfl (.cons rfl .nil)) ?_
  have hput : (putB (D.F q1).2 a (cut64 (D.F q1).1 a)).length ≤ 16777216 := putB_le hlast (by omega)
  refine wc_region (wl_move rfl rfl ?_)
  refine wl_loadA rfl ag_97 sz_97 (by first | exact hS10.blk 0 rfl | exact hS10.blk 2 rfl) (by first | decide | exact Nat.le_of_ble_eq_true rfl | (simp; done) | omega) rfl rfl ?_
  have hC11 := hS10.split [1] [false, true, false, false] rfl; dsimp only [selF, pickA, nthA, List.cons_append, List.nil_append] at hC11
  refine wl_call cal_94 rfl (setR_sp hC11 q1 _ _ hq (by first | exact hnow | assumption) (by first | exact hlast | exact hput)) rfl ?_
  rintro e w11 ⟨_, rfl, rfl, hS11⟩; refine ⟨_, rfl, ?_⟩
  replace hS11 := hS11.join rfl; dsimp only [List.dropLast, List.cons_append, List.nil_append] at hS11; clear hC11
  clear hS10
  refine wl_nil ?_
  refine fin0 (.inl rfl) rfl ?_
  exact ⟨_, rfl, rfl, surv_yes ha (by omega) hS11⟩
 refine wc_skip (qs_seq ?_)
 skip
 refine wc_region (wl_move rfl rfl ?_)
 refine wl_loadA rfl ag_97 sz_97 (by first | exact hS5.blk 0 rfl | exact hS5.blk 2 rfl) (by first | decide | exact Nat.le_of_ble_eq_true rfl | (simp; done) | omega) rfl rfl ?_
 have hC12 := hS5.split [1] [false, true, false, false] rfl; dsimp only [selF, pickA, nthA, List.cons_append, List.nil_append] at hC12
 refine wl_call cal_94 rfl (setR_sp hC12 q1 _ _ hq (by first | exact hnow | assumption) (by first | exact hlast | exact hput)) rfl ?_
 rintro e w12 ⟨_, rfl, rfl, hS12⟩; refine ⟨_, rfl, ?_⟩
 replace hS12 := hS12.join rfl; dsimp only [List.dropLast, List.cons_append, List.nil_append] at hS12; clear hC12
 clear hS5
 refine wl_nil ?_
 refine fin0 (.inl rfl) rfl ?_
 exact ⟨_, rfl, rfl, surv_no (by omega) hS12⟩
end Go.Proofs.YtfmkodmmbgibgaaGreatDoor
