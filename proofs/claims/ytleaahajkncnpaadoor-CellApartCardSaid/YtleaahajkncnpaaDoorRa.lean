/- the reference of layer 3: lists of files -/
import Derived.Test.YtleaahajkncnpaaDoorDa
import Derived.Test.YtleaahajkncnpaaDoorFr
namespace Go.Proofs.YtleaahajkncnpaaDoor
open Go.RowKit M
set_option linter.unusedVariables false
theorem newR_inv : RInv [] newD := ⟨newD_inv, fun _ => rfl, by simp, by simp⟩
theorem newR_shut {w : World} {p : Nat} {F : Th} (h : Sat w [blkT p [.slice none 0 0, .slice none 0 0, intV 0, .bool false, intV 0, .slice none 0 0], F]) : Sat w [refT p (.slice none 0 0) newD, F] :=
  refT_shut ⟨.slice none 0 0, .slice none 0 0, []⟩ newR_inv (((h.row_nil scC).row_nil rfC).reorder [2, 0, 1, 3] rfl)
theorem newR_sp {w : World} {F : Th} (hS : Sat w [F]) :
    Calls Tryd.prog 10 #[] w (Ret fun v w' => ∃ p, v = ptrV p 0 ∧ Sat w' [refT p (.slice none 0 0) newD, F]) := by
  refine calls_enter Tryd.func10 rfl Tryd.ntmps10 rfl ?_
  refine wc_seq ?_
  refine wc_region ?_
  refine wl_assign rfl rfl ?_
  refine wl_nil ?_
  refine qs_seq ?_
  refine wc_seq ?_
  refine wc_region ?_
  refine wl_buildS rfl pl_65_ asz_65 zr_65 rfl rfl ?_
  refine wl_box hS rfl rfl rfl ?_
  intro b1 w1 hS1
  refine wl_assign rfl rfl ?_
  refine wl_nil ?_
  refine qs_seq ?_
  refine wc_ret ?_
  refine fin1 (.inr rfl) rfl rfl ?_
  exact ⟨_, rfl, _, rfl, newR_shut hS1⟩

theorem mayR_sp {w : World} {p : Nat} {kp : Value} {D : DS} {F : Th} (hS : Sat w [refT p kp D, F]) (f : Int) :
    Calls Tryd.prog 37 #[ptrV p 0, intV f] w (Ret fun v w' => v = intV (mayE D f) ∧ Sat w' [refT p kp D, F]) := by
  have hS0 := hS
  obtain ⟨⟨fv, qv, l⟩, hI, hS⟩ := refT_open hS; dsimp only at hI hS
  refine calls_enter Tryd.func37 rfl Tryd.ntmps37 rfl ?_
  refine wc_seq ?_
  refine wc_region ?_
  refine wl_assign rfl rfl ?_
  refine wl_nil ?_
  refine qs_seq ?_
  refine wc_seq ?_
  refine wc_seq ?_
  refine wc_region ?_
  refine wl_move rfl rfl ?_
  refine wl_nilCheck rfl rfl ?_
  refine wl_fieldAddr rfl fo_65_3 rfl ?_
  refine wl_load rfl ag_4 (by first | assumption | exact hS.cell 0 rfl rfl) rfl ?_
  refine wl_nil ?_
  refine qs_seq ?_
  refine wc_cond rfl (fun h1 => ?_) (fun h1 => ?_)
  · skip
    have hd : D.down = true := h1
    refine wc_seq ?_
    refine wc_region ?_
    refine wl_assign rfl rfl ?_
    refine wl_nil ?_
    refine qs_seq ?_
    refine wc_ret ?_
    refine qs_then_ret ?_
    refine fin1 (.inr rfl) rfl rfl ?_
    exact ⟨_, rfl, by simp only [mayE]; simp [*]; try omega, hS0⟩
  · skip
    have hd : D.down = false := h1
    refine wc_skip ?_
    refine qs_seq ?_
    refine wc_seq ?_
    refine wc_seq ?_
    refine wc_region ?_
    refine wl_move rfl rfl ?_
    refine wl_lss rfl rfl rfl ?_
    refine wl_move rfl rfl ?_
    refine wl_splitD 11 rfl (fun h2 => ?_) (fun h2 => ?_)
    · skip
      refine wl_unwanted rfl rfl (decide_eq_true h2) rfl ?_
      refine wl_unwanted rfl rfl (decide_eq_true h2) rfl ?_
      refine wl_pickT rfl (decide_eq_true h2) rfl rfl ?_
      refine wl_nil ?_
      refine qs_seq ?_
      refine wc_sub (L' := [(14, _), (4, _)]) (.cons rfl (.cons rfl .nil)) ?_
      refine wc_condT rfl ?_
      refine wc_seq ?_
      refine wc_region ?_
      refine wl_assign rfl rfl ?_
      refine wl_nil ?_
      refine qs_seq ?_
      refine wc_ret ?_
      refine qs_then_ret ?_
      refine fin1 (.inr rfl) rfl rfl ?_
      exact ⟨_, rfl, by simp only [mayE]; simp [*]; try omega, hS0⟩
    · skip
      refine wl_guard rfl rfl (decide_eq_false h2) ?_
      refine wl_move rfl rfl ?_
      refine wl_guard rfl rfl (decide_eq_false h2) ?_
      refine wl_gtr rfl rfl rfl ?_
      refine wl_pickF rfl (decide_eq_false h2) rfl rfl ?_
      refine wl_nil ?_
      refine qs_seq ?_
      refine wc_sub (L' := [(14, _), (4, _)]) (.cons rfl (.cons rfl .nil)) ?_
      refine wc_condD rfl (fun h3 => ?_) (fun h3 => ?_)
      · skip
        refine wc_seq ?_
        refine wc_region ?_
        refine wl_assign rfl rfl ?_
        refine wl_nil ?_
        refine qs_seq ?_
        refine wc_ret ?_
        refine qs_then_ret ?_
        refine fin1 (.inr rfl) rfl rfl ?_
        exact ⟨_, rfl, by simp only [mayE]; simp [*]; try omega, hS0⟩
      · skip
        refine wc_skip ?_
        refine qs_seq ?_
        refine wc_seq ?_
        refine wc_region ?_
        refine wl_assign rfl rfl ?_
        refine wl_nil ?_
        refine qs_seq ?_
        refine wc_ret ?_
        refine fin1 (.inr rfl) rfl rfl ?_
        exact ⟨_, rfl, by simp only [mayE]; simp [*]; try omega, hS0⟩

theorem startR_sp {w : World} {p : Nat} {kp : Value} {D : DS} {F : Th} (hS : Sat w [refT p kp D, F]) :
    Calls Tryd.prog 29 #[ptrV p 0] w (Ret fun v w' => v = .tuple #[] ∧ Sat w' [refT p kp { D with down := false }, F]) := by
  obtain ⟨⟨fv, qv, l⟩, hI, hS⟩ := refT_open hS; dsimp only at hI hS
  refine calls_enter Tryd.func29 rfl Tryd.ntmps29 rfl ?_
  refine wc_region ?_
  refine wl_move rfl rfl ?_
  refine wl_nilCheck rfl rfl ?_
  refine wl_fieldAddr rfl fo_65_3 rfl ?_
  first | (refine wl_store hS rfl rfl sz_4 (by first | rfl | assumption | exact hS.own_one 1 rfl | exact hS.own_one 2 rfl) (i := 0) rfl (by first | decide | exact Nat.le_of_ble_eq_true rfl | (simp; done) | omega) ?_)
  intro w1 hS2; dsimp only [List.set] at hS2
  refine wl_nil ?_
  refine fin0 (.inl rfl) rfl ?_
  exact ⟨_, rfl, rfl, refT_shut ⟨fv, qv, l⟩ (hI.upd rfl { hI.inv with }) hS2⟩

theorem loseR_sp {w : World} {p : Nat} {kp : Value} {D : DS} {F : Th} (hS : Sat w [refT p kp D, F]) (n : Int) (hn : n ≤ 9223372036854775807) :
    Calls Tryd.prog 26 #[ptrV p 0, intV n] w (Ret fun v w' => v = .tuple #[] ∧ Sat w' [refT p kp { D with lost := max n 0 }, F]) := by
  obtain ⟨⟨fv, qv, l⟩, hI, hS⟩ := refT_open hS; dsimp only at hI hS
  refine calls_enter Tryd.func26 rfl Tryd.ntmps26 rfl ?_
  refine wc_region ?_
  refine wl_move rfl rfl ?_
  refine wl_move rfl rfl ?_
  refine wl_maxI rfl rfl rfl ?_
  refine wl_nilCheck rfl rfl ?_
  refine wl_fieldAddr rfl fo_65_2 rfl ?_
  first | (refine wl_store hS rfl rfl sz_3 (by first | rfl | assumption | exact hS.own_one 1 rfl | exact hS.own_one 2 rfl) (i := 0) rfl (by first | decide | exact Nat.le_of_ble_eq_true rfl | (simp; done) | omega) ?_)
  intro w1 hS2; dsimp only [List.set] at hS2
  refine wl_nil ?_
  refine fin0 (.inl rfl) rfl ?_
  exact ⟨_, rfl, rfl, refT_shut ⟨fv, qv, l⟩ (hI.upd rfl { hI.inv with lost := ⟨by simp; omega, by simp; omega⟩ }) hS2⟩

def fitB (a : Int) (s : Bytes) : Bool := decide (0 ≤ a ∧ a ≤ 16777216 ∧ a + s.length ≤ 16777216)
theorem fitsR_sp {w : World} {F : Th} (hS : Sat w [F]) (a : Int) (s : Bytes) (hs : s.length ≤ 1099511627776) :
    Calls Tryd.prog 38 #[intV a, strV s] w (Ret fun v w' => v = .bool (fitB a s) ∧ Sat w' [F]) := by
  refine calls_enter Tryd.func38 rfl Tryd.ntmps38 rfl ?_
  refine wc_seq ?_
  refine wc_region ?_
  refine wl_assign rfl rfl ?_
  refine wl_nil ?_
  refine qs_seq ?_
  refine wc_seq ?_
  refine wc_region ?_
  refine wl_move rfl rfl ?_
  refine wl_geq rfl rfl rfl ?_
  refine wl_move rfl rfl ?_
  refine wl_splitD 7 rfl (fun h1 => ?_) (fun h1 => ?_)
  · skip
    refine wl_guard rfl rfl (decide_eq_true h1) ?_
    refine wl_move rfl rfl ?_
    refine wl_guard rfl rfl (decide_eq_true h1) ?_
    refine wl_leq rfl rfl rfl ?_
    refine wl_pickT rfl (decide_eq_true h1) rfl rfl ?_
    refine wl_move rfl rfl ?_
    refine wl_splitD 11 rfl (fun h2 => ?_) (fun h2 => ?_)
    · skip
      refine wl_guard rfl rfl (decide_eq_true h2) ?_
      refine wl_move rfl rfl ?_
      refine wl_guard rfl rfl (decide_eq_true h2) ?_
      refine wl_move rfl rfl ?_
      refine wl_guard rfl rfl (decide_eq_true h2) ?_
      refine wl_lenS Tryd.underlying9 rfl rfl ?_
      refine wl_guard rfl rfl (decide_eq_true h2) ?_
      refine wl_add rfl rfl (by omega) (by omega) rfl ?_
      refine wl_guard rfl rfl (decide_eq_true h2) ?_
      refine wl_leq rfl rfl rfl ?_
      refine wl_pickT rfl (decide_eq_true h2) rfl rfl ?_
      refine wl_assign rfl rfl ?_
      refine wl_nil ?_
      refine qs_seq ?_
      refine wc_sub (L' := [(4, _)]) (.cons rfl .nil) ?_
      refine wc_ret ?_
      refine fin1 (.inr rfl) rfl rfl ?_
      exact ⟨_, rfl, by congr 1; simp [fitB, *] <;> omega, hS⟩
    · skip
      refine wl_unwanted rfl rfl (decide_eq_false h2) rfl ?_
      refine wl_unwanted rfl rfl (decide_eq_false h2) rfl ?_
      refine wl_unwanted rfl rfl (decide_eq_false h2) rfl ?_
      refine wl_unwanted rfl rfl (decide_eq_false h2) rfl ?_
      refine wl_unwanted rfl rfl (decide_eq_false h2) rfl ?_
      refine wl_pickF rfl (decide_eq_false h2) rfl rfl ?_
      refine wl_assign rfl rfl ?_
      refine wl_nil ?_
      refine qs_seq ?_
      refine wc_sub (L' := [(4, _)]) (.cons rfl .nil) ?_
      refine wc_ret ?_
      refine fin1 (.inr rfl) rfl rfl ?_
      exact ⟨_, rfl, by congr 1; simp [fitB, *] <;> omega, hS⟩
  · skip
    refine wl_unwanted rfl rfl (decide_eq_false h1) rfl ?_
    refine wl_unwanted rfl rfl (decide_eq_false h1) rfl ?_
    refine wl_pickF rfl (decide_eq_false h1) rfl rfl ?_
    refine wl_move rfl rfl ?_
    refine wl_unwanted rfl rfl rfl rfl ?_
    refine wl_unwanted rfl rfl rfl rfl ?_
    refine wl_unwanted rfl rfl rfl rfl ?_
    refine wl_unwanted rfl rfl rfl rfl ?_
    refine wl_unwanted rfl rfl rfl rfl ?_
    refine wl_pickF rfl rfl rfl rfl ?_
    refine wl_assign rfl rfl ?_
    refine wl_nil ?_
    refine qs_seq ?_
    refine wc_sub (L' := [(4, _)]) (.cons rfl .nil) ?_
    refine wc_ret ?_
    refine fin1 (.inr rfl) rfl rfl ?_
    exact ⟨_, rfl, by congr 1; simp [fitB, *] <;> omega, hS⟩

set_option maxRecDepth 100000 in
theorem getR_sp {w : World} {p : Nat} {kp : Value} {D : DS} {F : Th} (hS : Sat w [refT p kp D, F]) (f : Int) :
    Calls Tryd.prog 48 #[ptrV p 0, intV f] w (Ret fun v w' => v = .agg #[intV f, strV (D.F f).1, strV (D.F f).2] ∧ Sat w' [refT p kp D, F]) := by
  obtain ⟨⟨fv, qv, l⟩, hI, hS⟩ := refT_open hS; dsimp only at hI hS
  refine calls_enter Tryd.func48 rfl Tryd.ntmps48 rfl ?_
  refine wc_seq ?_
  refine wc_region ?_
  refine wl_alloc hS zr_86 rfl rfl ?_
  intro b1 w1 hS1
  refine wl_nil ?_
  refine qs_seq ?_
  refine wc_seq ?_
  refine wc_seq ?_
  refine wc_region ?_
  refine wl_assign rfl rfl ?_
  refine wl_nil ?_
  refine qs_seq ?_
  refine wc_block ?_
  refine wc_loop (fun K0 E0 W0 => ∃ (i : Nat), K0 = l.length - i ∧ E0 = [(0, ptrV p 0), (1, intV f), (4, ptrV b1 0), (5, intV (i : Int))] ∧ Sat W0 [blkT b1 [intV 0, strV [], strV []], blkT p (cellsR ⟨fv, qv, l⟩ kp D), rowT rfC fv l, rowT scC qv D.Q, F] ∧ (i ≤ l.length) ∧ (∀ j y, j < i → l[j]? = some y → y.1 ≠ f)) (L0 := [(0, _), (1, _), (4, _), (5, _)]) (l.length) (.cons rfl (.cons rfl (.cons rfl (.cons rfl .nil)))) ⟨0, by omega, rfl, hS1, by omega, by omega⟩ ?_
  rintro _ _ w2 ⟨i, rfl, rfl, hS2, hi, hno⟩
  refine wc_seq ?_
  refine wc_seq ?_
  refine wc_region ?_
  refine wl_move rfl rfl ?_
  refine wl_move rfl rfl ?_
  refine wl_nilCheck rfl rfl ?_
  refine wl_fieldAddr rfl fo_65_0 rfl ?_
  refine wl_load rfl ag_62 (by first | assumption | exact hS2.cell 0 rfl rfl | exact hS2.cell 1 rfl rfl) rfl ?_
  first | refine wl_lenL Tryd.underlying62 rfl rfl ?_ | refine wl_lenO 2 hS2 Tryd.underlying62 rfl rfl rfl ?_ | refine wl_lenO 3 hS2 Tryd.underlying62 rfl rfl rfl ?_
  refine wl_lss rfl rfl rfl ?_
  refine wl_nil ?_
  refine qs_seq ?_
  refine wc_sub (L' := [(12, _), (0, _), (1, _), (4, _), (5, _)]) (.cons rfl (.cons rfl (.cons rfl (.cons rfl (.cons rfl .nil))))) ?_
  refine wc_condD rfl (fun h3 => ?_) (fun h3 => ?_)
  · skip
    have hcnt := hI.count
    obtain ⟨x, hx⟩ : ∃ x, l[i]? = some x := ⟨_, List.getElem?_eq_getElem (by omega)⟩
    refine wc_skip ?_
    refine qs_seq ?_
    refine wc_seq ?_
    refine wc_block ?_
    refine wc_seq ?_
    refine wc_region ?_
    refine wl_move rfl rfl ?_
    refine wl_nilCheck rfl rfl ?_
    refine wl_fieldAddr rfl fo_65_0 rfl ?_
    refine wl_load rfl ag_62 (by first | assumption | exact hS2.cell 0 rfl rfl | exact hS2.cell 1 rfl rfl) rfl ?_
    refine wl_move rfl rfl ?_
    refine wl_rowIdx rfC 2 i hS2 rfl rfl rfl (by first | rfl | omega) hx es_62 rfl ?_
    intro bx4 capx4 hvx4
    refine wl_fieldAddr rfl fo_86_0 rfl ?_
    refine wl_rowLoad 2 i 0 hS2 rfl hvx4 rfl rfl hx ag_3 rfl rfl ?_
    refine wl_move rfl rfl ?_
    refine wl_eql rfl rfl rfl ?_
    refine wl_nil ?_
    refine qs_seq ?_
    refine wc_sub (L' := [(24, _), (0, _), (1, _), (4, _), (5, _)]) (.cons rfl (.cons rfl (.cons rfl (.cons rfl (.cons rfl .nil))))) ?_
    refine wc_condD rfl (fun h5 => ?_) (fun h5 => ?_)
    · skip
      have he : x.1 = f := h5
      refine wc_seq ?_
      refine wc_region ?_
      refine wl_move rfl rfl ?_
      refine wl_nilCheck rfl rfl ?_
      refine wl_fieldAddr rfl fo_65_0 rfl ?_
      refine wl_load rfl ag_62 (by first | assumption | exact hS2.cell 0 rfl rfl | exact hS2.cell 1 rfl rfl) rfl ?_
      refine wl_move rfl rfl ?_
      refine wl_rowIdx rfC 2 i hS2 rfl rfl rfl (by first | rfl | omega) hx es_62 rfl ?_
      intro bx6 capx6 hvx6
      refine wl_rowLoadA 2 i hS2 rfl hvx6 rfl hx ag_86 sz_86 rfl rfl ?_
      first | (refine wl_storeA hS2 rfl rfl sz_86 rfl (by first | rfl | (simp [allOne, Value.oneCell']; done) | assumption | exact hone) (i := 0) rfl (by first | decide | exact Nat.le_of_ble_eq_true rfl | (simp; done) | omega) ?_) | (refine wl_storeA hS2 rfl rfl sz_86 rfl (by first | rfl | (simp [allOne, Value.oneCell']; done) | assumption | exact hone) (i := 1) rfl (by first | decide | exact Nat.le_of_ble_eq_true rfl | (simp; done) | omega) ?_)
      intro w7 hS8; dsimp only [List.set] at hS8
      clear hS2
      refine wl_nil ?_
      refine qs_seq ?_
      refine wc_sub (L' := [(0, _), (1, _), (4, _), (5, _)]) (.cons rfl (.cons rfl (.cons rfl (.cons rfl .nil)))) ?_
      refine wc_ret ?_
      refine qs_block_ret ?_
      refine qs_then_ret ?_
      refine qs_then_ret ?_
      refine qs_block_ret ?_
      refine qs_then_ret ?_
      refine finR1 (.inr rfl) rfl (resCA rfl ag_86 sz_86 (by first | exact hS8.blk 0 rfl | exact hS8.blk 1 rfl) (by first | decide | exact Nat.le_of_ble_eq_true rfl | (simp; done) | omega) rfl) ?_
      exact ⟨_, rfl, by have h := getR_at hx (fun j y hj hy => by rw [he]; exact hno j y hj hy); rw [he, hI.says] at h; rw [h, ← he]; rfl, refT_shut ⟨fv, qv, l⟩ hI hS8.tail⟩
    · skip
      have hne : ¬ x.1 = f := h5
      refine wc_skip ?_
      refine qs_block_normal ?_
      refine qs_seq ?_
      refine wc_region ?_
      refine wl_move rfl rfl ?_
      refine wl_add rfl rfl (by omega) (by omega) rfl ?_
      refine wl_assign rfl rfl ?_
      refine wl_nil ?_
      exact qs_round (L1 := [(0, _), (1, _), (4, _), (5, intV ((i + 1 : Nat) : Int))]) (.cons rfl (.cons rfl (.cons rfl (.cons rfl .nil)))) (k1 := l.length - (i + 1)) (by omega) ⟨i + 1, by omega, rfl, hS2, by omega, fun j y hj hy => by by_cases e : j = i; (subst e; rw [hx] at hy; cases hy; assumption); exact hno j y (by omega) hy⟩
  · skip
    refine wc_exit ?_
    refine qs_then_exit ?_
    refine qs_then_exit ?_
    refine qs_block_exit ?_
    refine qs_seq ?_
    refine wc_seq ?_
    refine wc_region ?_
    refine wl_move rfl rfl ?_
    refine wl_buildS rfl pl_86_0 asz_86 zr_86 rfl rfl ?_
    first | (refine wl_storeA hS2 rfl rfl sz_86 rfl (by first | rfl | (simp [allOne, Value.oneCell']; done) | assumption | exact hone) (i := 0) rfl (by first | decide | exact Nat.le_of_ble_eq_true rfl | (simp; done) | omega) ?_) | (refine wl_storeA hS2 rfl rfl sz_86 rfl (by first | rfl | (simp [allOne, Value.oneCell']; done) | assumption | exact hone) (i := 1) rfl (by first | decide | exact Nat.le_of_ble_eq_true rfl | (simp; done) | omega) ?_)
    intro w9 hS10; dsimp only [List.set] at hS10
    clear hS2
    refine wl_nil ?_
    refine qs_seq ?_
    refine wc_ret ?_
    refine finR1 (.inr rfl) rfl (resCA rfl ag_86 sz_86 (by first | exact hS10.blk 0 rfl | exact hS10.blk 1 rfl) (by first | decide | exact Nat.le_of_ble_eq_true rfl | (simp; done) | omega) rfl) ?_
    exact ⟨_, rfl, by have h := getR_none (f := f) (l := l) (fun y hy => by obtain ⟨j, hj⟩ := List.mem_iff_getElem?.1 hy; exact hno j y (by have := (List.getElem?_eq_some_iff.1 hj).1; omega) hj); rw [hI.says] at h; rw [h]; rfl, refT_shut ⟨fv, qv, l⟩ hI hS10.tail⟩

theorem set_keep {l : List (Int × Bytes × Bytes)} {i : Nat} {x : Int × Bytes × Bytes} {k : Int} (hx : l[i]? = some x) (h : x.1 ≠ k) : (l.take (i + 1)).filter (fun y => decide (y.1 ≠ k)) = (l.take i).filter (fun y => decide (y.1 ≠ k)) ++ [x] := by
  rw [List.take_add_one, hx, List.filter_append]; simp [h]
theorem set_skip {l : List (Int × Bytes × Bytes)} {i : Nat} {x : Int × Bytes × Bytes} {k : Int} (hx : l[i]? = some x) (h : x.1 = k) : (l.take (i + 1)).filter (fun y => decide (y.1 ≠ k)) = (l.take i).filter (fun y => decide (y.1 ≠ k)) := by
  rw [List.take_add_one, hx, List.filter_append]; simp [h]
theorem flt_le {α : Type} (p : α → Bool) (l : List α) (i m : Nat) (h : l.length ≤ m) : ((l.take i).filter p).length ≤ m := Nat.le_trans (List.length_filter_le _ _) (by simp; omega)
set_option maxRecDepth 100000 in
theorem setR_sp {w : World} {p : Nat} {kp : Value} {D : DS} {F : Th} (hS : Sat w [refT p kp D, F]) (k : Int) (a b : Bytes) (hk : 0 ≤ k ∧ k < 16) (ha : a.length ≤ 16777216) (hb : b.length ≤ 16777216) :
    Calls Tryd.prog 50 #[ptrV p 0, .agg #[intV k, strV a, strV b]] w (Ret fun v w' => v = .tuple #[] ∧ Sat w' [refT p kp { D with F := setF D.F k (a, b) }, F]) := by
  obtain ⟨⟨fv, qv, l⟩, hI, hS⟩ := refT_open hS; dsimp only at hI hS
  refine calls_enter Tryd.func50 rfl Tryd.ntmps50 rfl ?_
  refine wc_seq ?_
  refine wc_region ?_
  refine wl_box hS rfl rfl rfl ?_
  intro b1 w1 hS1
  refine wl_nil ?_
  refine qs_seq ?_
  refine wc_seq ?_
  refine wc_region ?_
  refine wl_assign rfl rfl ?_
  refine wl_nil ?_
  refine qs_seq ?_
  refine wc_seq ?_
  refine wc_seq ?_
  refine wc_region ?_
  refine wl_assign rfl rfl ?_
  refine wl_nil ?_
  refine qs_seq ?_
  refine wc_block ?_
  refine wc_loop (fun K0 E0 W0 => ∃ (i : Nat) (v : Value), K0 = l.length - i ∧ E0 = [(0, ptrV p 0), (3, ptrV b1 0), (4, v), (5, intV (i : Int))] ∧ Sat W0 [rowT rfC v ((l.take i).filter (fun y => decide (y.1 ≠ k))), blkT b1 [intV k, strV a, strV b], blkT p (cellsR ⟨fv, qv, l⟩ kp D), rowT rfC fv l, rowT scC qv D.Q, F] ∧ (i ≤ l.length)) (L0 := [(0, _), (3, _), (4, _), (5, _)]) (l.length) (.cons rfl (.cons rfl (.cons rfl (.cons rfl .nil)))) ⟨0, _, by omega, rfl, hS1.row_nil rfC, by omega⟩ ?_
  rintro _ _ w2 ⟨i, v, rfl, rfl, hS2, hi⟩
  refine wc_seq ?_
  refine wc_seq ?_
  refine wc_region ?_
  refine wl_move rfl rfl ?_
  refine wl_move rfl rfl ?_
  refine wl_nilCheck rfl rfl ?_
  refine wl_fieldAddr rfl fo_65_0 rfl ?_
  refine wl_load rfl ag_62 (by first | assumption | exact hS2.cell 1 rfl rfl | exact hS2.cell 2 rfl rfl) rfl ?_
  first | refine wl_lenL Tryd.underlying62 rfl rfl ?_ | refine wl_lenO 0 hS2 Tryd.underlying62 rfl rfl rfl ?_ | refine wl_lenO 3 hS2 Tryd.underlying62 rfl rfl rfl ?_ | refine wl_lenO 4 hS2 Tryd.underlying62 rfl rfl rfl ?_
  refine wl_lss rfl rfl rfl ?_
  refine wl_nil ?_
  refine qs_seq ?_
  refine wc_sub (L' := [(12, _), (0, _), (3, _), (4, _), (5, _)]) (.cons rfl (.cons rfl (.cons rfl (.cons rfl (.cons rfl .nil))))) ?_
  refine wc_condD rfl (fun h3 => ?_) (fun h3 => ?_)
  · skip
    have hcnt := hI.count
    obtain ⟨x, hx⟩ : ∃ x, l[i]? = some x := ⟨_, List.getElem?_eq_getElem (by omega)⟩
    obtain ⟨bf, cf, hfv, _⟩ := hS2.own_at 3 rfl (by omega)
    subst hfv
    refine wc_skip ?_
    refine qs_seq ?_
    refine wc_seq ?_
    refine wc_block ?_
    refine wc_seq ?_
    have hS4 := hS2.drew
    refine wc_draw [0, 1, 2, 3, 4, 5, 6, 7, 8, 9, 10] [] mix (by kernel_rfl) ?_
    refine vc_p rfl rfl rfl (fun _ => (ev_move rfl)) ?_
    refine vc_p rfl rfl rfl (fun _ => (ev_nilCheck rfl)) ?_
    refine vc_p rfl rfl rfl (fun _ => (ev_fieldAddr rfl fo_65_0)) ?_
    refine vc_q rfl rfl rfl (ev_load rfl ag_62 (by first | assumption | exact hS4.cell 1 rfl rfl | exact hS4.cell 2 rfl rfl)) ?_
    refine vc_p rfl rfl rfl (fun _ => (ev_move rfl)) ?_
    refine vc_p rfl rfl rfl (fun _ => (ev_indexAddr i rfl rfl (by first | rfl | omega) (by first | omega | exact (List.getElem?_eq_some_iff.1 hx).1) es_62)) ?_
    refine vc_p rfl rfl rfl (fun _ => (ev_fieldAddr rfl fo_86_0)) ?_
    refine vc_q rfl rfl rfl (ev_rowLoad0 rfC 3 i 0 hS4 rfl hx ag_3 rfl rfl) ?_
    refine vc_p rfl rfl rfl (fun _ => (ev_fieldAddr rfl fo_86_0)) ?_
    refine vc_q rfl rfl rfl (ev_load rfl ag_3 (by first | assumption | exact hS4.cell 1 rfl rfl | exact hS4.cell 2 rfl rfl)) ?_
    refine vc_p rfl rfl rfl (fun _ => (ev_neq rfl rfl)) ?_
    refine VC.nil ?_
    refine qs_seq ?_
    refine wc_sub (L' := [(25, _), (0, _), (3, _), (4, _), (5, _)]) (.cons rfl (.cons rfl (.cons rfl (.cons rfl (.cons rfl .nil))))) ?_
    refine wc_condD rfl (fun h5 => ?_) (fun h5 => ?_)
    · skip
      have hne : x.1 ≠ k := h5
      refine wc_region ?_
      refine wl_move rfl rfl ?_
      refine wl_move rfl rfl ?_
      refine wl_nilCheck rfl rfl ?_
      refine wl_fieldAddr rfl fo_65_0 rfl ?_
      refine wl_load rfl ag_62 (by first | assumption | exact hS4.cell 1 rfl rfl | exact hS4.cell 2 rfl rfl) rfl ?_
      refine wl_move rfl rfl ?_
      refine wl_rowIdx rfC 3 i hS4 rfl rfl rfl (by first | rfl | omega) hx es_62 rfl ?_
      intro bx6 capx6 hvx6
      refine wl_rowLoadA 3 i hS4 rfl hvx6 rfl hx ag_86 sz_86 rfl rfl ?_
      refine wl_rowBuild rfC [x] hS4 rfl Tryd.underlying62 ifz_86 rfl rfl rfl rfl (by first | rfl | simp [RowC.cells, fillL, splice]) rfl ?_
      intro b7 w7 hS7
      clear hS4
      refine wl_rowApp rfC 1 hS7 rfl rfl rfl (hS7.rd 0 rfl (by simp)) Tryd.underlying62 Tryd.underlying62 (by intro k hk; cases hk) ifo_86 rfl (by have := flt_le (fun y => decide (y.1 ≠ k)) l i 16 hcnt; simp only [List.length_cons, List.length_nil]; omega) rfl (by have := flt_le (fun y => decide (y.1 ≠ k)) l i 16 hcnt; simp only [List.length_cons, List.length_nil]; omega) ?_
      intro v8 w8 hS8; dsimp only [List.set] at hS8
      clear hS7
      have h1v8 : v8.oneCell' = true := hS8.own_one 1 rfl
      refine wl_assign rfl rfl ?_
      refine wl_nil ?_
      refine qs_block_normal ?_
      refine qs_seq ?_
      refine wc_sub (L' := [(4, _), (0, _), (3, _), (5, _)]) (.cons rfl (.cons rfl (.cons rfl (.cons rfl .nil)))) ?_
      refine wc_region ?_
      refine wl_move rfl rfl ?_
      refine wl_add rfl rfl (by omega) (by omega) rfl ?_
      refine wl_assign rfl rfl ?_
      refine wl_nil ?_
      exact qs_round (L1 := [(0, _), (3, _), (4, _), (5, intV ((i + 1 : Nat) : Int))]) (.cons rfl (.cons rfl (.cons rfl (.cons rfl .nil)))) (k1 := l.length - (i + 1)) (by omega) ⟨i + 1, _, by omega, rfl, by rw [set_keep hx hne]; exact hS8.tail, by omega⟩
    · skip
      have heq : x.1 = k := Decidable.not_not.1 h5
      refine wc_skip ?_
      refine qs_block_normal ?_
      refine qs_seq ?_
      refine wc_region ?_
      refine wl_move rfl rfl ?_
      refine wl_add rfl rfl (by omega) (by omega) rfl ?_
      refine wl_assign rfl rfl ?_
      refine wl_nil ?_
      exact qs_round (L1 := [(0, _), (3, _), (4, _), (5, intV ((i + 1 : Nat) : Int))]) (.cons rfl (.cons rfl (.cons rfl (.cons rfl .nil)))) (k1 := l.length - (i + 1)) (by omega) ⟨i + 1, _, by omega, rfl, by rw [set_skip hx heq]; exact hS4, by omega⟩
  · skip
    refine wc_exit ?_
    refine qs_then_exit ?_
    refine qs_then_exit ?_
    refine qs_block_exit ?_
    refine qs_seq ?_
    have hcnt := hI.count
    have hfl := flt_le (fun y => decide (y.1 ≠ k)) l i 16 hcnt
    have hlt : l.take i = l := List.take_of_length_le (by omega)
    refine wc_region ?_
    refine wl_move rfl rfl ?_
    refine wl_move rfl rfl ?_
    refine wl_loadA rfl ag_86 sz_86 (by first | exact hS2.blk 1 rfl | exact hS2.blk 2 rfl) (by first | decide | exact Nat.le_of_ble_eq_true rfl | (simp; done) | omega) rfl rfl ?_
    refine wl_rowBuild rfC [(k, a, b)] hS2 rfl Tryd.underlying62 ifz_86 rfl rfl rfl rfl (by first | rfl | simp [RowC.cells, fillL, splice]) rfl ?_
    intro b9 w9 hS9
    clear hS2
    refine wl_rowApp rfC 1 hS9 rfl rfl rfl (hS9.rd 0 rfl (by simp)) Tryd.underlying62 Tryd.underlying62 (by intro k hk; cases hk) ifo_86 rfl (by simp only [List.length_cons, List.length_nil]; omega) rfl (by simp only [List.length_cons, List.length_nil]; omega) ?_
    intro v10 w10 hS10; dsimp only [List.set] at hS10
    clear hS9
    have h1v10 : v10.oneCell' = true := hS10.own_one 1 rfl
    refine wl_nilCheck rfl rfl ?_
    refine wl_fieldAddr rfl fo_65_0 rfl ?_
    first | (refine wl_store hS10 rfl rfl sz_62 (by first | rfl | assumption | exact hS10.own_one 0 rfl | exact hS10.own_one 1 rfl | exact hS10.own_one 4 rfl | exact hS10.own_one 5 rfl) (i := 2) rfl (by first | decide | exact Nat.le_of_ble_eq_true rfl | (simp; done) | omega) ?_) | (refine wl_store hS10 rfl rfl sz_62 (by first | rfl | assumption | exact hS10.own_one 0 rfl | exact hS10.own_one 1 rfl | exact hS10.own_one 4 rfl | exact hS10.own_one 5 rfl) (i := 3) rfl (by first | decide | exact Nat.le_of_ble_eq_true rfl | (simp; done) | omega) ?_)
    intro w11 hS12; dsimp only [List.set] at hS12
    clear hS10
    refine wl_nil ?_
    refine fin0 (.inl rfl) rfl ?_
    exact ⟨_, rfl, rfl, refT_shut ⟨_, qv, putR l (k, a, b)⟩ (hI.put k a b hk ha hb) (by have h := hS12.pick [3, 1, 5, 6] rfl; rw [hlt] at h; exact h)⟩

theorem sizeR_sp {w : World} {p : Nat} {kp : Value} {D : DS} {F : Th} (hS : Sat w [refT p kp D, F]) (f : Int) :
    Calls Tryd.prog 33 #[ptrV p 0, intV f] w (Ret fun v w' => v = intV (D.F f).1.length ∧ Sat w' [refT p kp D, F]) := by
  refine calls_enter Tryd.func33 rfl Tryd.ntmps33 rfl ?_
  refine wc_seq ?_
  refine wc_region ?_
  refine wl_assign rfl rfl ?_
  refine wl_nil ?_
  refine qs_seq ?_
  refine wc_seq ?_
  refine wc_region ?_
  refine wl_move rfl rfl ?_
  refine wl_move rfl rfl ?_
  have hC1 := hS.split [0] [true, false] rfl; dsimp only [selF, pickA, nthA, List.cons_append, List.nil_append] at hC1
  refine wl_call cal_48 rfl (getR_sp hC1 f) rfl ?_
  rintro e w1 ⟨_, rfl, rfl, hS1⟩; refine ⟨_, rfl, ?_⟩
  replace hS1 := hS1.join rfl; dsimp only [List.dropLast, List.cons_append, List.nil_append] at hS1; clear hC1
  refine wl_field fv_86_1 rfl rfl rfl ?_
  refine wl_lenS Tryd.underlying9 rfl rfl ?_
  refine wl_assign rfl rfl ?_
  refine wl_nil ?_
  refine qs_seq ?_
  refine wc_ret ?_
  refine fin1 (.inr rfl) rfl rfl ?_
  exact ⟨_, rfl, rfl, hS1⟩

end Go.Proofs.YtleaahajkncnpaaDoor
