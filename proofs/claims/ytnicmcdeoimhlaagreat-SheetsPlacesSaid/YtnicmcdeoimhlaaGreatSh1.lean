/- swap -/
import Derived.Test.YtnicmcdeoimhlaaGreatRow
namespace Go.Proofs.YtnicmcdeoimhlaaGreat
open Go.RowKit M
set_option linter.unusedVariables false
def usedN (sl : List Bs) : Nat := (sl.filter fun p => !decide (p = [])).length
def hasB (sl : List Bs) (slot : Int) : Bool := decide (0 ≤ slot) && (match sl[slot.toNat]? with | some p => !decide (p = []) | none => false)
theorem usedN_le (sl : List Bs) : usedN sl ≤ sl.length := List.length_filter_le _ _
theorem usedN_put : ∀ {sl : List Bs} {k : Nat} {p : Bs}, sl[k]? = some [] → p ≠ [] → usedN (sl.set k p) = usedN sl + 1
  | [], _, _, h, _ => by simp at h
  | a :: sl, 0, p, h, hp => by
    simp at h; subst h
    unfold usedN; simp [hp]
  | a :: sl, k + 1, p, h, hp => by
    have := usedN_put (sl := sl) (k := k) (by simpa using h) hp
    unfold usedN at this ⊢
    rw [List.set_cons_succ, List.filter_cons, List.filter_cons]
    split
    · rw [List.length_cons, List.length_cons, this]
    · exact this
theorem usedN_free : ∀ {sl : List Bs} {k : Nat} {p : Bs}, sl[k]? = some p → p ≠ [] → usedN (sl.set k []) + 1 = usedN sl
  | [], _, _, h, _ => by simp at h
  | a :: sl, 0, p, h, hp => by
    simp at h; subst h
    unfold usedN; simp [hp]
  | a :: sl, k + 1, p, h, hp => by
    have := usedN_free (sl := sl) (k := k) (by simpa using h) hp
    unfold usedN at this ⊢
    rw [List.set_cons_succ, List.filter_cons, List.filter_cons]
    split
    · rw [List.length_cons, List.length_cons, ← this]
    · exact this
theorem usedN_lt {sl : List Bs} : usedN sl < sl.length ↔ [] ∈ sl := by
  unfold usedN
  induction sl with
  | nil => simp
  | cons a sl ih =>
    have hle := usedN_le sl
    unfold usedN at hle
    by_cases ha : a = []
    · subst ha
      rw [List.filter_cons, if_neg (by simp), List.length_cons]
      exact ⟨fun _ => List.mem_cons_self, fun _ => by omega⟩
    · rw [List.filter_cons, if_pos (by simp [ha]), List.length_cons, List.length_cons, List.mem_cons]
      constructor
      · intro h; exact .inr (ih.1 (by omega))
      · rintro (h | h)
        · exact absurd h.symm ha
        · have := ih.2 h; omega
theorem usedN_zero (m : Nat) : usedN (List.replicate m []) = 0 := by unfold usedN; simp
def swT (p : Nat) (sl : List Bs) : Th := exT fun q : Value × Int × Int => starL [pureT (sl.length ≤ 4096), blkT p [q.1, intV (usedN sl : Nat), intV q.2.1, intV q.2.2], rowT stC q.1 sl]
theorem swT_open {w : World} {p : Nat} {sl : List Bs} {As : List Th} (h : Sat w (swT p sl :: As)) : ∃ ao cap du re, sl.length ≤ 4096 ∧ Sat w (blkT p [.slice ao sl.length cap, intV (usedN sl : Nat), intV du, intV re] :: rowT stC (.slice ao sl.length cap) sl :: As) := by
  obtain ⟨⟨v, du, re⟩, h⟩ := h.ex
  obtain ⟨h1, h2⟩ := h.flat.pure_elim
  obtain ⟨ao, cap, hv, _⟩ := Sat.own_shape (As := blkT p _ :: rowT stC v sl :: As) h2 1 rfl
  obtain rfl := hv
  exact ⟨ao, cap, du, re, h1, h2⟩
theorem swT_shut {w : World} {p : Nat} {sl : List Bs} {As : List Th} {v : Value} {du re : Int} (hl : sl.length ≤ 4096) (h : Sat w (blkT p [v, intV (usedN sl : Nat), intV du, intV re] :: rowT stC v sl :: As)) : Sat w (swT p sl :: As) :=
  Sat.ex_intro (v, du, re) (Sat.fold (As := [pureT (sl.length ≤ 4096), blkT p _, rowT stC v sl]) (Sat.pure_intro hl h))
theorem swuse_sp {w : World} {p : Nat} {sl : List Bs} {F : Th} (hS : Sat w [swT p sl, F]) :
    Calls Tryz.prog 83 #[ptrV p 0] w (Ret fun v w' => v = .tuple #[] ∧ Sat w' [swT p sl, F]) := by
 obtain ⟨sa, sc, du, re, hsl, hS⟩ := swT_open hS
 refine calls_enter Tryz.func83 rfl Tryz.ntmps83 rfl ?_
 refine wc_seq ?_
 have hS1 := hS.drew
 refine wc_draw [0, 1, 2, 3, 4, 5, 6, 7, 8, 9, 10, 11] [11] mix (by kernel_rfl) ?_
 refine vc_p rfl rfl rfl (fun _ => (ev_move rfl)) ?_
 refine vc_p rfl rfl rfl (fun _ => (ev_nilCheck rfl)) ?_
 refine vc_p rfl rfl rfl (fun _ => (ev_fieldAddr rfl fo_105_3)) ?_
 refine vc_q rfl rfl rfl (ev_load rfl ag_3 (by first | assumption | exact hS1.cell 0 rfl rfl)) ?_
 refine vc_p rfl rfl rfl (fun _ => (ev_move rfl)) ?_
 refine vc_p rfl rfl rfl (fun _ => (ev_nilCheck rfl)) ?_
 refine vc_p rfl rfl rfl (fun _ => (ev_fieldAddr rfl fo_105_2)) ?_
 refine vc_q rfl rfl rfl (ev_load rfl ag_3 (by first | assumption | exact hS1.cell 0 rfl rfl)) ?_
 refine vc_p rfl rfl rfl (fun _ => (ev_addW rfl rfl rfl)) ?_
 refine vc_p rfl rfl rfl (fun _ => (ev_nilCheck rfl)) ?_
 refine vc_p rfl rfl rfl (fun _ => (ev_fieldAddr rfl fo_105_3)) ?_
 refine vc_s rfl rfl rfl rfl rfl rfl ?_
 first | (refine wl_store hS1 rfl rfl sz_3 (by first | rfl | assumption | exact hS1.own_one 1 rfl) (i := 0) rfl (by first | decide | exact Nat.le_of_ble_eq_true rfl | (simp; done) | omega) ?_)
 intro w2 hS3; dsimp only [List.set] at hS3
 clear hS1
 refine vc_e0 (.skip (by kernel_rfl) (.skip (by kernel_rfl) .nil)) ?_
 refine VC.nil (qs_seq ?_)
 refine wc_sub (L' := [(0, _)]) (.cons rfl .nil) ?_
 refine wc_region (wl_move rfl rfl (wl_nilCheck rfl rfl ?_))
 refine wl_fieldAddr rfl fo_105_2 rfl ?_
 first | (refine wl_store hS3 rfl rfl sz_3 (by first | rfl | assumption | exact hS3.own_one 1 rfl) (i := 0) rfl (by first | decide | exact Nat.le_of_ble_eq_true rfl | (simp; done) | omega) ?_)
 intro w4 hS5; dsimp only [List.set] at hS5
 clear hS3
 refine wl_nil ?_
 refine fin0 (.inl rfl) rfl ?_
 exact ⟨_, rfl, rfl, swT_shut hsl (hS5.pick [0, 1, 2] rfl)⟩
theorem swhas_sp {w : World} {p : Nat} {sl : List Bs} {F : Th} (hS : Sat w [swT p sl, F]) (slot : Int) :
    Calls Tryz.prog 82 #[ptrV p 0, intV slot] w (Ret fun v w' => v = .bool (hasB sl slot) ∧ Sat w' [swT p sl, F]) := by
 obtain ⟨sa, sc, du, re, hsl, hS⟩ := swT_open hS
 refine calls_enter Tryz.func82 rfl Tryz.ntmps82 rfl ?_
 refine wc_seq (wc_region (wl_assign rfl rfl (wl_nil (qs_seq (wc_seq (wc_region (wl_move rfl rfl ?_)))))))
 refine wl_geq rfl rfl rfl ?_
 refine wl_move rfl rfl ?_
 refine wl_splitD 7 rfl (fun h1 => ?_) (fun h1 => ?_)
 ·refine wl_guard rfl rfl (decide_eq_true h1) ?_
  refine wl_move rfl rfl ?_
  refine wl_guard rfl rfl (decide_eq_true h1) ?_
  refine wl_move rfl rfl ?_
  refine wl_guard rfl rfl (decide_eq_true h1) ?_
  refine wl_nilCheck rfl rfl ?_
  refine wl_guard rfl rfl (decide_eq_true h1) ?_
  refine wl_fieldAddr rfl fo_105_0 rfl ?_
  refine wl_guard rfl rfl (decide_eq_true h1) ?_
  refine wl_load rfl ag_29 (by first | assumption | exact hS.cell 0 rfl rfl) rfl ?_
  refine wl_guard rfl rfl (decide_eq_true h1) ?_
  first | refine wl_lenL Tryz.underlying29 rfl rfl ?_ | refine wl_lenO 1 hS Tryz.underlying29 rfl rfl rfl ?_
  refine wl_guard rfl rfl (decide_eq_true h1) ?_
  refine wl_lss rfl rfl rfl ?_
  refine wl_pickT rfl (decide_eq_true h1) rfl rfl ?_
  refine wl_move rfl rfl ?_
  refine wl_splitD 16 rfl (fun h2 => ?_) (fun h2 => ?_)
  ·obtain ⟨pg, hp⟩ : ∃ p, sl[slot.toNat]? = some p := ⟨_, List.getElem?_eq_getElem (by omega)⟩
   refine wl_guard rfl rfl (decide_eq_true h2) ?_
   refine wl_move rfl rfl ?_
   refine wl_guard rfl rfl (decide_eq_true h2) ?_
   refine wl_nilCheck rfl rfl ?_
   refine wl_guard rfl rfl (decide_eq_true h2) ?_
   refine wl_fieldAddr rfl fo_105_0 rfl ?_
   refine wl_guard rfl rfl (decide_eq_true h2) ?_
   refine wl_load rfl ag_29 (by first | assumption | exact hS.cell 0 rfl rfl) rfl ?_
   refine wl_guard rfl rfl (decide_eq_true h2) ?_
   refine wl_move rfl rfl ?_
   refine wl_guard rfl rfl (decide_eq_true h2) ?_
   refine wl_rowIdx stC 1 slot.toNat hS rfl rfl rfl (by omega) hp es_29 rfl ?_
   intro bx3 capx3 hvx3
   refine wl_guard rfl rfl (decide_eq_true h2) ?_
   refine wl_rowLoad 1 slot.toNat 0 hS rfl hvx3 rfl rfl hp ag_9 rfl rfl ?_
   refine wl_guard rfl rfl (decide_eq_true h2) ?_
   refine wl_neqS rfl rfl rfl ?_
   refine wl_pickT rfl (decide_eq_true h2) rfl rfl ?_
   refine wl_assign rfl rfl (wl_nil (qs_seq ?_))
   refine wc_sub (L' := [(4, _)]) (.cons rfl .nil) ?_
   refine wc_ret ?_
   refine fin1 (.inr rfl) rfl rfl ?_
   exact ⟨_, rfl, by unfold hasB; rw [hp, decide_eq_true (show 0 ≤ slot by omega), Bool.true_and]; simp, swT_shut hsl (hS.pick [0, 1, 2] rfl)⟩
  refine wl_unwanted rfl rfl (decide_eq_false h2) rfl ?_
  refine wl_unwanted rfl rfl (decide_eq_false h2) rfl ?_
  refine wl_unwanted rfl rfl (decide_eq_false h2) rfl ?_
  refine wl_unwanted rfl rfl (decide_eq_false h2) rfl ?_
  refine wl_unwanted rfl rfl (decide_eq_false h2) rfl ?_
  refine wl_unwanted rfl rfl (decide_eq_false h2) rfl ?_
  refine wl_unwanted rfl rfl (decide_eq_false h2) rfl ?_
  refine wl_unwanted rfl rfl (decide_eq_false h2) rfl ?_
  refine wl_pickF rfl (decide_eq_false h2) rfl rfl ?_
  refine wl_assign rfl rfl (wl_nil (qs_seq ?_))
  refine wc_sub (L' := [(4, _)]) (.cons rfl .nil) ?_
  refine wc_ret ?_
  refine fin1 (.inr rfl) rfl rfl ?_
  exact ⟨_, rfl, by unfold hasB; rw [List.getElem?_eq_none (by omega), Bool.and_false], swT_shut hsl (hS.pick [0, 1, 2] rfl)⟩
 refine wl_unwanted rfl rfl (decide_eq_false h1) rfl ?_
 refine wl_unwanted rfl rfl (decide_eq_false h1) rfl ?_
 refine wl_unwanted rfl rfl (decide_eq_false h1) rfl ?_
 refine wl_unwanted rfl rfl (decide_eq_false h1) rfl ?_
 refine wl_unwanted rfl rfl (decide_eq_false h1) rfl ?_
 refine wl_unwanted rfl rfl (decide_eq_false h1) rfl ?_
 refine wl_unwanted rfl rfl (decide_eq_false h1) rfl ?_
 refine wl_pickF rfl (decide_eq_false h1) rfl rfl ?_
 refine wl_move rfl rfl ?_
 refine wl_unwanted rfl rfl rfl rfl ?_
 refine wl_unwanted rfl rfl rfl rfl ?_
 refine wl_unwanted rfl rfl rfl rfl ?_
 refine wl_unwanted rfl rfl rfl rfl ?_
 refine wl_unwanted rfl rfl rfl rfl ?_
 refine wl_unwanted rfl rfl rfl rfl ?_
 refine wl_unwanted rfl rfl rfl rfl ?_
 refine wl_unwanted rfl rfl rfl rfl ?_
 refine wl_pickF rfl rfl rfl rfl ?_
 refine wl_assign rfl rfl (wl_nil (qs_seq ?_))
 refine wc_sub (L' := [(4, _)]) (.cons rfl .nil) ?_
 refine wc_ret ?_
 refine fin1 (.inr rfl) rfl rfl ?_
 exact ⟨_, rfl, by unfold hasB; rw [decide_eq_false (show ¬ 0 ≤ slot by omega), Bool.false_and], swT_shut hsl (hS.pick [0, 1, 2] rfl)⟩
theorem hasB_yes {sl : List Bs} {slot : Int} (h : hasB sl slot = true) : 0 ≤ slot ∧ ∃ p, sl[slot.toNat]? = some p ∧ p ≠ [] := by
  unfold hasB at h
  rw [Bool.and_eq_true, decide_eq_true_eq] at h
  refine ⟨h.1, ?_⟩
  cases hq : sl[slot.toNat]? with
  | none => rw [hq] at h; exact absurd h.2 (by simp)
  | some p => rw [hq] at h; exact ⟨p, rfl, by simpa using h.2⟩
def swGet (sl : List Bs) (slot : Int) : Bs := if hasB sl slot = true then (sl[slot.toNat]?).getD [] else []
def swFree (sl : List Bs) (slot : Int) : List Bs := if hasB sl slot = true then sl.set slot.toNat [] else sl
set_option maxRecDepth 100000 in
theorem six_sp {w : World} {F : Th} (hS : Sat w [F]) {lv : Value} {l : List Bs} (hL : Ent F (RdL stC lv l)) (e : Bs) :
    Calls Tryz.prog 105 #[lv, strV e] w (Ret fun v w' => (v = intV (-1) ∧ e ∉ l ∧ Sat w' [F]) ∨ (∃ k : Nat, v = intV (k : Int) ∧ l[k]? = some e ∧ Sat w' [F])) := by
 obtain ⟨ao, cap, rfl, hmax⟩ := (hL.sat hS 0 rfl).shape
 refine calls_enter Tryz.func105 rfl Tryz.ntmps105 rfl ?_
 refine wc_seq (wc_region (wl_assign rfl rfl (wl_nil (qs_seq (wc_seq (wc_seq (wc_region (wl_move rfl rfl ?_))))))))
 refine wl_lenL Tryz.underlying29 rfl rfl ?_
 refine wl_move rfl rfl (wl_nil (qs_seq (wc_block ?_)))
 refine wc_loop (fun K0 E0 W0 => ∃ (i : Nat), K0 = l.length - i ∧ E0 = [(0, .slice ao l.length cap), (1, strV e), (7, intV (l.length : Int)), (8, intV (i : Int))] ∧ Sat W0 [F] ∧ (i ≤ l.length) ∧ (∀ j y, j < i → l[j]? = some y → y ≠ e)) (L0 := [(0, _), (1, _), (7, _), (8, _)]) (l.length - 0) (.cons rfl (.cons rfl (.cons rfl (.cons rfl .nil)))) ⟨0, rfl, rfl, hS, by omega, by omega⟩ ?_
 rintro _ _ w1 ⟨i, rfl, rfl, hS1, hi, hno⟩
 refine wc_seq (wc_region ?_)
 refine wl_lss rfl rfl rfl ?_
 refine wl_nil (qs_seq (wc_seq ?_))
 refine wc_condD rfl (fun h2 => ?_) (fun h2 => ?_)
 ·obtain ⟨x, hx⟩ : ∃ x, l[i]? = some x := ⟨_, List.getElem?_eq_getElem (by omega)⟩
  obtain ⟨b, off, rfl, _⟩ := (hL.sat hS1 0 rfl).get hx
  refine wc_skip (qs_seq (wc_seq (wc_block (wc_seq (wc_region (wl_move rfl rfl (wl_assign rfl rfl (wl_nil (qs_seq (wc_seq (wc_region (wl_move rfl rfl (wl_move rfl rfl (wl_move rfl rfl ?_))))))))))))))
  refine wl_indexAddr i rfl rfl (by first | rfl | omega) (by exact (List.getElem?_eq_some_iff.1 hx).1) es_29 rfl ?_
  refine wl_load rfl ag_9 (((hL.sat hS1 0 rfl).at_ hx) 0 _ rfl) rfl ?_
  refine wl_eqlS rfl rfl rfl ?_
  refine wl_nil (qs_seq ?_)
  refine wc_sub (L' := [(16, _), (5, _), (0, _), (1, _), (7, _), (8, _)]) (.cons rfl (.cons rfl (.cons rfl (.cons rfl (.cons rfl (.cons rfl .nil)))))) ?_
  refine wc_condD rfl (fun h3 => ?_) (fun h3 => ?_)
  ·have heq : e = x := h3
   refine wc_seq (wc_region (wl_move rfl rfl (wl_assign rfl rfl (wl_nil (qs_seq (wc_ret (qs_block_ret (qs_then_ret (qs_then_ret (qs_block_ret (qs_then_ret ?_)))))))))))
   refine fin1 (.inr rfl) rfl rfl ?_
   exact ⟨_, rfl, .inr ⟨i, rfl, by rw [hx, heq], hS1.pick [0] rfl⟩⟩
  have hne : ¬ e = x := h3
  refine wc_skip (qs_block_normal (qs_seq (wc_region ?_)))
  refine wl_add rfl rfl (by omega) (by omega) rfl ?_
  refine wl_move rfl rfl (wl_nil ?_)
  exact qs_round (L1 := [(0, _), (1, _), (7, _), (8, intV ((i + 1 : Nat) : Int))]) (.cons rfl (.cons rfl (.cons rfl (.cons rfl .nil)))) (k1 := l.length - (i + 1)) (by omega) ⟨i + 1, rfl, rfl, hS1.pick [0] rfl, by omega, fun j y hj hq => by by_cases e : j = i; (subst e; rw [hx] at hq; cases hq; exact fun q => hne q.symm); exact hno j y (by omega) hq⟩
 refine wc_exit (qs_then_exit (qs_then_exit (qs_block_exit (qs_seq (wc_seq (wc_region (wl_assign rfl rfl (wl_nil (qs_seq (wc_ret ?_))))))))))
 refine fin1 (.inr rfl) rfl rfl ?_
 exact ⟨_, rfl, .inl ⟨rfl, fun hm => by obtain ⟨j, hj⟩ := List.mem_iff_getElem?.1 hm; exact hno j e (by have := (List.getElem?_eq_some_iff.1 hj).1; omega) hj rfl, hS1.pick [0] rfl⟩⟩
set_option maxRecDepth 100000 in
theorem swput_sp {w : World} {p : Nat} {sl : List Bs} {F : Th} (hS : Sat w [swT p sl, F]) (page : Bs) (hpl : page.length = 64) :
    Calls Tryz.prog 95 #[ptrV p 0, strV page] w (Ret fun v w' => (usedN sl = sl.length ∧ v = .tuple #[intV (-1), .bool false] ∧ Sat w' [swT p sl, F]) ∨ (∃ k : Nat, sl[k]? = some [] ∧ v = .tuple #[intV (k : Int), .bool true] ∧ Sat w' [swT p (sl.set k page), F])) := by
 refine calls_enter Tryz.func95 rfl Tryz.ntmps95 rfl ?_
 refine wc_seq (wc_region (wl_assign rfl rfl (wl_assign rfl rfl (wl_nil (qs_seq (wc_seq (wc_seq ?_)))))))
 have hul := usedN_le sl
 obtain ⟨sa, sc, du, re, hsl, hSo⟩ := swT_open (hS.pick [0, 1] rfl)
 have hS1 := hSo.drew
 refine wc_draw [0, 1, 2, 3, 4, 5, 6, 7, 8, 9, 10, 11, 12, 13, 14] [] mix (by kernel_rfl) ?_
 refine vc_p rfl rfl rfl (fun _ => (ev_move rfl)) ?_
 refine vc_p rfl rfl rfl (fun _ => (ev_lenS Tryz.underlying9 rfl)) ?_
 refine vc_p rfl rfl rfl (fun _ => (ev_neq rfl rfl)) ?_
 refine vc_p rfl rfl rfl (fun _ => (ev_move rfl)) ?_
 refine vc_splitD 10 rfl (fun h2 => ?_) (fun h2 => ?_)
 ·exact absurd h2 (by omega)
 refine vc_p rfl rfl (guard_yes rfl rfl (decide_eq_false h2)) (fun _ => (Ev.gd (ev_move rfl))) ?_
 refine vc_p rfl rfl (guard_yes rfl rfl (decide_eq_false h2)) (fun _ => (Ev.gd (ev_nilCheck rfl))) ?_
 refine vc_p rfl rfl (guard_yes rfl rfl (decide_eq_false h2)) (fun _ => (Ev.gd (ev_fieldAddr rfl fo_105_1))) ?_
 refine vc_q rfl rfl (guard_yes rfl rfl (decide_eq_false h2)) (Ev.gd (ev_load rfl ag_3 (by first | assumption | exact hS1.cell 0 rfl rfl))) ?_
 refine vc_p rfl rfl (guard_yes rfl rfl (decide_eq_false h2)) (fun _ => (Ev.gd (ev_move rfl))) ?_
 refine vc_p rfl rfl (guard_yes rfl rfl (decide_eq_false h2)) (fun _ => (Ev.gd (ev_nilCheck rfl))) ?_
 refine vc_p rfl rfl (guard_yes rfl rfl (decide_eq_false h2)) (fun _ => (Ev.gd (ev_fieldAddr rfl fo_105_0))) ?_
 refine vc_q rfl rfl (guard_yes rfl rfl (decide_eq_false h2)) (Ev.gd (ev_load rfl ag_29 (by first | assumption | exact hS1.cell 0 rfl rfl))) ?_
 refine vc_p rfl rfl (guard_yes rfl rfl (decide_eq_false h2)) (fun _ => (Ev.gd (ev_lenL Tryz.underlying29 rfl))) ?_
 refine vc_p rfl rfl (guard_yes rfl rfl (decide_eq_false h2)) (fun _ => (Ev.gd (ev_eql rfl rfl))) ?_
 refine vc_p rfl rfl rfl (fun _ => (ev_pickF rfl (decide_eq_false h2) rfl)) ?_
 refine VC.nil (qs_seq ?_)
 refine wc_sub (L' := [(21, _), (5, _), (4, _), (0, _), (1, _)]) (.cons rfl (.cons rfl (.cons rfl (.cons rfl (.cons rfl .nil))))) ?_
 refine wc_condD rfl (fun h3 => ?_) (fun h3 => ?_)
 ·refine wc_seq (wc_region (wl_assign rfl rfl (wl_assign rfl rfl (wl_nil (qs_seq (wc_ret (qs_then_ret ?_)))))))
  refine fin2 (.inr rfl) rfl rfl rfl ?_
  exact ⟨_, rfl, .inl ⟨by omega, rfl, swT_shut hsl (hS1.pick [0, 1, 2] rfl)⟩⟩
 refine wc_skip (qs_seq (wc_seq ?_))
 have hSz := swT_shut hsl (hS1.pick [0, 1, 2] rfl)
 refine wc_region (wl_move rfl rfl ?_)
 have hC4 := hSz.split [0] [true, false] rfl; dsimp only [selF, pickA, nthA, List.cons_append, List.nil_append] at hC4
 refine wl_call cal_83 rfl (swuse_sp hC4) rfl ?_
 rintro e w4 ⟨_, rfl, rfl, hS4⟩; refine ⟨_, rfl, ?_⟩
 replace hS4 := hS4.join rfl; dsimp only [List.dropLast, List.cons_append, List.nil_append] at hS4; clear hC4
 clear hSz
 refine wl_nil (qs_seq (wc_seq ?_))
 have hul := usedN_le sl
 obtain ⟨sa, sc, du, re, hsl, hSo⟩ := swT_open (hS4.pick [0, 1] rfl)
 refine wc_region (wl_move rfl rfl (wl_nilCheck rfl rfl ?_))
 refine wl_fieldAddr rfl fo_105_0 rfl ?_
 refine wl_load rfl ag_29 (by first | assumption | exact hSo.cell 0 rfl rfl) rfl ?_
 have hC5 := hSo.split [] [false, false, false] rfl; dsimp only [selF, pickA, nthA, List.cons_append, List.nil_append] at hC5
 refine wl_call cal_105 rfl (six_sp hC5 (Ent.starL (ent_row (C := stC) (l := sl) (by omega)) 1 rfl) []) rfl ?_
 rintro e w5 ⟨_, rfl, (⟨rfl, hno, hS5⟩ | ⟨k, rfl, hk, hS5⟩)⟩
 ·exact absurd (usedN_lt.1 (by have := usedN_le sl; omega)) hno
 refine ⟨_, rfl, ?_⟩
 replace hS5 := hS5.join rfl; dsimp only [List.dropLast, List.cons_append, List.nil_append] at hS5; clear hC5
 clear hSo
 refine wl_assign rfl rfl (wl_nil (qs_seq ?_))
 refine wc_sub (L' := [(6, _), (5, _), (4, _), (0, _), (1, _)]) (.cons rfl (.cons rfl (.cons rfl (.cons rfl (.cons rfl .nil))))) ?_
 refine wc_seq (wc_region (wl_move rfl rfl (wl_nilCheck rfl rfl ?_)))
 refine wl_fieldAddr rfl fo_105_0 rfl ?_
 refine wl_load rfl ag_29 (by first | assumption | exact hS5.cell 0 rfl rfl) rfl ?_
 refine wl_move rfl rfl (wl_move rfl rfl ?_)
 refine wl_rowIdx stC 1 k hS5 rfl rfl rfl (by first | rfl | omega) hk es_29 rfl ?_
 intro bx6 capx6 hvx6
 refine wl_rowStore 1 k page hS5 rfl hvx6 rfl rfl sz_9 (by first | rfl | (simp; done)) (by first | omega | exact (List.getElem?_eq_some_iff.1 hk).1) ?_
 intro w7 hS8; dsimp only [List.set] at hS8
 clear hS5
 refine wl_nil (qs_seq ?_)
 refine wc_sub (L' := [(6, _), (5, _), (4, _), (0, _)]) (.cons rfl (.cons rfl (.cons rfl (.cons rfl .nil)))) ?_
 refine wc_seq (wc_region (wl_move rfl rfl (wl_nilCheck rfl rfl ?_)))
 refine wl_fieldAddr rfl fo_105_1 rfl ?_
 refine wl_load rfl ag_3 (by first | assumption | exact hS8.cell 0 rfl rfl) rfl ?_
 refine wl_add rfl rfl (by first | omega | (simp; omega)) (by first | omega | (simp; omega)) rfl ?_
 refine wl_nilCheck rfl rfl ?_
 refine wl_fieldAddr rfl fo_105_1 rfl ?_
 first | (refine wl_store hS8 rfl rfl sz_3 (by first | rfl | assumption | exact hS8.own_one 1 rfl) (i := 0) rfl (by first | decide | exact Nat.le_of_ble_eq_true rfl | (simp; done) | omega) ?_)
 intro w9 hS10; dsimp only [List.set] at hS10
 clear hS8
 refine wl_nil (qs_seq ?_)
 refine wc_sub (L' := [(6, _), (5, _), (4, _)]) (.cons rfl (.cons rfl (.cons rfl .nil))) ?_
 refine wc_seq (wc_region (wl_move rfl rfl (wl_assign rfl rfl (wl_assign rfl rfl (wl_nil (qs_seq (wc_ret ?_)))))))
 refine fin2 (.inr rfl) rfl rfl rfl ?_
 have hpn : page ≠ [] := fun q => by subst q; simp at hpl
 exact ⟨_, rfl, .inr ⟨k, hk, rfl, swT_shut (by rw [List.length_set]; exact hsl) (by rw [usedN_put hk hpn, Int.natCast_add]; exact hS10.pick [0, 1, 2] rfl)⟩⟩
theorem swget_sp {w : World} {p : Nat} {sl : List Bs} {F : Th} (hS : Sat w [swT p sl, F]) (slot : Int) :
    Calls Tryz.prog 52 #[ptrV p 0, intV slot] w (Ret fun v w' => ∃ e, v = .tuple #[strV (swGet sl slot), intV e] ∧ Sat w' [swT p sl, F]) := by
 refine calls_enter Tryz.func52 rfl Tryz.ntmps52 rfl ?_
 refine wc_seq (wc_region (wl_assign rfl rfl (wl_assign rfl rfl (wl_nil (qs_seq (wc_seq (wc_seq (wc_region (wl_move rfl rfl (wl_move rfl rfl ?_))))))))))
 have hC1 := hS.split [0] [true, false] rfl; dsimp only [selF, pickA, nthA, List.cons_append, List.nil_append] at hC1
 refine wl_call cal_82 rfl (swhas_sp hC1 slot) rfl ?_
 rintro e w1 ⟨_, rfl, rfl, hS1⟩; refine ⟨_, rfl, ?_⟩
 replace hS1 := hS1.join rfl; dsimp only [List.dropLast, List.cons_append, List.nil_append] at hS1; clear hC1
 refine wl_not rfl rfl ?_
 refine wl_nil (qs_seq ?_)
 refine wc_cond rfl (fun h2 => ?_) (fun h2 => ?_)
 ·refine wc_seq (wc_region (wl_assign rfl rfl (wl_assign rfl rfl (wl_nil (qs_seq (wc_ret (qs_then_ret ?_)))))))
  refine fin2 (.inr rfl) rfl rfl rfl ?_
  exact ⟨_, rfl, _, by rw [show swGet sl slot = [] by unfold swGet; rw [if_neg (by simp_all)]], hS1.pick [0, 1] rfl⟩
 have hh : hasB sl slot = true := by simpa using h2
 obtain ⟨h0, pg, hp, hpn⟩ := hasB_yes hh
 refine wc_skip (qs_seq (wc_seq (wc_region (wl_move rfl rfl ?_))))
 have hC3 := hS1.split [0] [true, false] rfl; dsimp only [selF, pickA, nthA, List.cons_append, List.nil_append] at hC3
 refine wl_call cal_83 rfl (swuse_sp hC3) rfl ?_
 rintro e w3 ⟨_, rfl, rfl, hS3⟩; refine ⟨_, rfl, ?_⟩
 replace hS3 := hS3.join rfl; dsimp only [List.dropLast, List.cons_append, List.nil_append] at hS3; clear hC3
 clear hS1
 refine wl_nil (qs_seq (wc_seq ?_))
 have hul := usedN_le sl
 obtain ⟨sa, sc, du, re, hsl, hSo⟩ := swT_open (hS3.pick [0, 1] rfl)
 refine wc_region (wl_move rfl rfl (wl_nilCheck rfl rfl ?_))
 refine wl_fieldAddr rfl fo_105_0 rfl ?_
 refine wl_load rfl ag_29 (by first | assumption | exact hSo.cell 0 rfl rfl) rfl ?_
 refine wl_move rfl rfl ?_
 refine wl_rowIdx stC 1 slot.toNat hSo rfl rfl rfl (by omega) hp es_29 rfl ?_
 intro bx4 capx4 hvx4
 refine wl_rowLoad 1 slot.toNat 0 hSo rfl hvx4 rfl rfl hp ag_9 rfl rfl ?_
 refine wl_assign rfl rfl (wl_assign rfl rfl (wl_nil (qs_seq ?_)))
 refine wc_sub (L' := [(5, _), (4, _)]) (.cons rfl (.cons rfl .nil)) ?_
 refine wc_ret ?_
 refine fin2 (.inr rfl) rfl rfl rfl ?_
 exact ⟨_, rfl, _, by rw [show swGet sl slot = pg by unfold swGet; rw [if_pos hh, hp]; rfl], swT_shut hsl (hSo.pick [0, 1, 2] rfl)⟩
theorem swfree_sp {w : World} {p : Nat} {sl : List Bs} {F : Th} (hS : Sat w [swT p sl, F]) (slot : Int) :
    Calls Tryz.prog 61 #[ptrV p 0, intV slot] w (Ret fun v w' => v = .tuple #[] ∧ Sat w' [swT p (swFree sl slot), F]) := by
 refine calls_enter Tryz.func61 rfl Tryz.ntmps61 rfl ?_
 refine wc_seq (wc_region (wl_move rfl rfl (wl_move rfl rfl ?_)))
 have hC1 := hS.split [0] [true, false] rfl; dsimp only [selF, pickA, nthA, List.cons_append, List.nil_append] at hC1
 refine wl_call cal_82 rfl (swhas_sp hC1 slot) rfl ?_
 rintro e w1 ⟨_, rfl, rfl, hS1⟩; refine ⟨_, rfl, ?_⟩
 replace hS1 := hS1.join rfl; dsimp only [List.dropLast, List.cons_append, List.nil_append] at hS1; clear hC1
 refine wl_nil (qs_seq ?_)
 refine wc_cond rfl (fun h2 => ?_) (fun h2 => ?_)
 ·have hh : hasB sl slot = true := by simpa using h2
  obtain ⟨h0, pg, hp, hpn⟩ := hasB_yes hh
  refine wc_seq ?_
  have hul := usedN_le sl
  obtain ⟨sa, sc, du, re, hsl, hSo⟩ := swT_open (hS1.pick [0, 1] rfl)
  refine wc_region (wl_move rfl rfl (wl_nilCheck rfl rfl ?_))
  refine wl_fieldAddr rfl fo_105_0 rfl ?_
  refine wl_load rfl ag_29 (by first | assumption | exact hSo.cell 0 rfl rfl) rfl ?_
  refine wl_move rfl rfl ?_
  refine wl_rowIdx stC 1 slot.toNat hSo rfl rfl rfl (by omega) hp es_29 rfl ?_
  intro bx3 capx3 hvx3
  refine wl_rowStore 1 slot.toNat [] hSo rfl hvx3 rfl rfl sz_9 (by first | rfl | (simp; done)) (by first | omega | exact (List.getElem?_eq_some_iff.1 hp).1) ?_
  intro w4 hS5; dsimp only [List.set] at hS5
  clear hSo
  refine wl_nil (qs_seq ?_)
  refine wc_sub (L' := [(0, _)]) (.cons rfl .nil) ?_
  refine wc_region (wl_move rfl rfl (wl_nilCheck rfl rfl ?_))
  refine wl_fieldAddr rfl fo_105_1 rfl ?_
  refine wl_load rfl ag_3 (by first | assumption | exact hS5.cell 0 rfl rfl) rfl ?_
  refine wl_sub' rfl rfl (by first | omega | (have := usedN_free hp hpn; have := usedN_le sl; omega)) (by first | omega | (have := usedN_free hp hpn; have := usedN_le sl; omega)) rfl ?_
  refine wl_nilCheck rfl rfl ?_
  refine wl_fieldAddr rfl fo_105_1 rfl ?_
  first | (refine wl_store hS5 rfl rfl sz_3 (by first | rfl | assumption | exact hS5.own_one 1 rfl) (i := 0) rfl (by first | decide | exact Nat.le_of_ble_eq_true rfl | (simp; done) | omega) ?_)
  intro w6 hS7; dsimp only [List.set] at hS7
  clear hS5
  refine wl_nil ?_
  refine fin0 (.inl rfl) rfl ?_
  exact ⟨_, rfl, rfl, by rw [show swFree sl slot = sl.set slot.toNat [] by unfold swFree; rw [if_pos hh]]; exact swT_shut (by rw [List.length_set]; exact hsl) (by rw [show ((usedN (sl.set slot.toNat []) : Nat) : Int) = (usedN sl : Nat) - 1 by have := usedN_free hp hpn; omega]; exact hS7.pick [0, 1, 2] rfl)⟩
 refine wc_skip ?_
 refine fin0 (.inl rfl) rfl ?_
 exact ⟨_, rfl, rfl, by rw [show swFree sl slot = sl by unfold swFree; rw [if_neg (by simp_all)]]; exact hS1.pick [0, 1] rfl⟩
theorem swused_sp {w : World} {p : Nat} {sl : List Bs} {F : Th} (hS : Sat w [swT p sl, F]) :
    Calls Tryz.prog 41 #[ptrV p 0] w (Ret fun v w' => v = intV (usedN sl : Nat) ∧ Sat w' [swT p sl, F]) := by
 obtain ⟨sa, sc, du, re, hsl, hS⟩ := swT_open hS
 refine calls_enter Tryz.func41 rfl Tryz.ntmps41 rfl ?_
 refine wc_seq (wc_region (wl_assign rfl rfl (wl_nil (qs_seq (wc_seq (wc_region (wl_move rfl rfl (wl_nilCheck rfl rfl ?_))))))))
 refine wl_fieldAddr rfl fo_105_1 rfl ?_
 refine wl_load rfl ag_3 (by first | assumption | exact hS.cell 0 rfl rfl) rfl ?_
 refine wl_assign rfl rfl (wl_nil (qs_seq (wc_ret ?_)))
 refine fin1 (.inr rfl) rfl rfl ?_
 exact ⟨_, rfl, rfl, swT_shut hsl (hS.pick [0, 1, 2] rfl)⟩
theorem swfail_sp {w : World} {p : Nat} {sl : List Bs} {F : Th} (hS : Sat w [swT p sl, F]) (n : Int) :
    Calls Tryz.prog 72 #[ptrV p 0, intV n] w (Ret fun v w' => v = .tuple #[] ∧ Sat w' [swT p sl, F]) := by
 obtain ⟨sa, sc, du, re, hsl, hS⟩ := swT_open hS
 refine calls_enter Tryz.func72 rfl Tryz.ntmps72 rfl ?_
 refine wc_region (wl_move rfl rfl (wl_move rfl rfl ?_))
 refine wl_minI rfl rfl rfl ?_
 refine wl_maxI rfl rfl rfl ?_
 refine wl_nilCheck rfl rfl ?_
 refine wl_fieldAddr rfl fo_105_2 rfl ?_
 first | (refine wl_store hS rfl rfl sz_3 (by first | rfl | assumption | exact hS.own_one 1 rfl) (i := 0) rfl (by first | decide | exact Nat.le_of_ble_eq_true rfl | (simp; done) | omega) ?_)
 intro w1 hS2; dsimp only [List.set] at hS2
 refine wl_nil ?_
 refine fin0 (.inl rfl) rfl ?_
 exact ⟨_, rfl, rfl, swT_shut hsl (hS2.pick [0, 1, 2] rfl)⟩
theorem srow (m : Nat) : (List.replicate m [strV []]).flatten = stC.cells (List.replicate m []) := by
  induction m with
  | zero => rfl
  | succ m ih => rw [List.replicate_succ, List.flatten_cons, ih, List.replicate_succ]; rfl
theorem swnew_sp {w : World} {F : Th} (hS : Sat w [F]) (n : Int) :
    Calls Tryz.prog 30 #[intV n] w (Ret fun v w' => ∃ p, v = ptrV p 0 ∧ Sat w' [swT p (List.replicate (max 0 (min n 4096)).toNat []), F]) := by
 refine calls_enter Tryz.func30 rfl Tryz.ntmps30 rfl ?_
 refine wc_seq (wc_region (wl_assign rfl rfl (wl_nil (qs_seq (wc_seq (wc_region (wl_move rfl rfl ?_)))))))
 refine wl_minI rfl rfl rfl ?_
 refine wl_maxI rfl rfl rfl ?_
 refine wl_make hS (max 0 (min n 4096)).toNat rfl rfl (by omega) Tryz.underlying29 ifo_9 rfl (by omega) (by omega) rfl ?_
 intro db w1 hS1a; have hS1 := hS1a.row_cast (l := List.replicate (max 0 (min n 4096)).toNat []) (C := stC) (by simp) rfl (srow _)
 refine wl_buildS rfl pl_105_0 asz_105 zr_105 rfl rfl ?_
 refine wl_box hS1 rfl rfl rfl ?_
 intro bp wbp hSbp
 clear hS1
 refine wl_assign rfl rfl (wl_nil (qs_seq (wc_ret ?_)))
 refine fin1 (.inr rfl) rfl rfl ?_
 exact ⟨_, rfl, _, rfl, swT_shut (du := 0) (re := 0) (by rw [List.length_replicate]; omega) (by rw [usedN_zero]; exact hSbp.pick [0, 1, 2] rfl)⟩
end Go.Proofs.YtnicmcdeoimhlaaGreat
/- Parts of rows that are bytes: copy into them, their text. Conditions: the rules' own hypotheses. -/
namespace Go.Proofs.YtnicmcdeoimhlaaGreat.M
open Go.RowKit
section
variable {P : Program} {n : Nat} {ops : Array Oper} {Q : Exit → Act → World → Prop} {rest : List Oper} {L : Env} {w : World} {d : Nat} {ty : TypeId} {pos : String} {aft : Array Edge}
theorem wl_copyR {As : List Th} (i : Nat) (hS : Sat w As) {x y : Operand} {dT sT e b o off m m' cap size dl dc : Nat} {v : Value} {s : List UInt8} {xs xs' : List Value} (hi : As[i]? = some (ownT v m size xs)) (hv : v = .slice (some ⟨b, o, none⟩) m' cap) (hx : look L x = some (.slice (some ⟨b, off, none⟩) dl dc)) (hy : look L y = some (strV s)) (hu : P.underlying dT = some (.slice e)) (hs : szOf P e = some 1) (hfit : off + min s.length dl ≤ xs.length)
    (hxs : splice xs off (bytesV (s.take dl)) = xs') (hd : Nat.blt d n = true) (hk : ∀ w', Sat w' (As.set i (ownT v m size xs')) → wl P n ops Q rest ((d, .int .i64 ((min s.length dl : Nat) : Int)) :: L) w') : wl P n ops Q (⟨some d, .call ⟨.builtin .copy, #[x, y], #[dT, sT]⟩, ty, pos, aft, none⟩ :: rest) L w := by
  subst hxs
  obtain ⟨sp, hb, hback⟩ := hS.own_row i hi hv
  refine wl_does rfl hd (fun a ha => does_copy_str dT sT x y rfl (ha.eval hx) (ha.eval hy) hb hu hs (by rw [size_mk]; simp; omega)) ?_
  rintro u w' ⟨rfl, h1, h2, _⟩
  rw [size_mk]
  have hl : off + (bytesV (s.take dl)).length ≤ xs.length := by simp [bytesV]; omega
  refine hk w' (hback w' _ (splice_length hl) ?_ h2)
  rw [← splice_append_left hl]
  exact h1
theorem ev_strR {As : List Th} (i : Nat) (hS : Sat w As) {x : Operand} {sT dT e b o off m m' cap size dl dc : Nat} {v : Value} (l : List UInt8) {xs : List Value} (hi : As[i]? = some (ownT v m size xs)) (hv : v = .slice (some ⟨b, o, none⟩) m' cap) (hx : look L x = some (.slice (some ⟨b, off, none⟩) dl dc)) (hs : P.underlying sT = some (.slice e)) (he : P.underlying e = some (.int .u8)) (hd : P.underlying dT = some .string) (hl : (xs.drop off).take dl = bytesV l) (hn : l.length = dl) : Ev P L w ⟨some d, .convert sT dT x, ty, pos, aft, none⟩ (strV l) := fun ρ hρ => by
  obtain ⟨sp, hb, _⟩ := hS.own_row i hi hv
  subst hn
  have hr := run_convert_bytes_back (P := P) w sT dT e ⟨b, off, none⟩ dc l hs he hd (fun j hj => by
    rw [addr_add]
    refine hb.cell ?_
    have h1 := congrArg (fun q => q[j]?) hl
    simp only [List.getElem?_take, hj, if_true, List.getElem?_drop, bytesV_get] at h1
    have hlt : off + j < xs.length := by
      rcases Nat.lt_or_ge (off + j) xs.length with g | g
      · exact g
      · rw [List.getElem?_eq_none g, List.getElem?_eq_getElem hj] at h1; cases h1
    rw [List.getElem?_append_left hlt, h1, List.getElem?_eq_getElem hj]; rfl)
  simp [execOp, hρ _ _ hx, hr]
/-- p[N:], p a pointer to an array of N -/
theorem wl_sliceArrEnd {x y : Operand} {t e N b o sz : Nat} {k : IntKind} {i : Int} (hu : P.underlying t = some (.array N e)) (hN : Nat.blt 0 N = true) (hx : look L x = some (ptrV b o)) (hy : look L y = some (.int k i)) (hi : i = (N : Int)) (hs : szOf P e = some sz) (hd : Nat.blt d n = true) (hk : wl P n ops Q rest ((d, .slice (some ⟨b, o, none⟩) 0 0) :: L) w) : wl P n ops Q (⟨some d, .slice t x (some y) none none, ty, pos, aft, none⟩ :: rest) L w :=
  wl_val hd (fun ρ hρ => by
    have h3 : ∀ w, (sizeOf e).run P w = .ok sz w := fun w => run_sizeOf hs w
    have hn : ¬ N = 0 := by simp at hN; omega
    have hb := fun w => run_bounds (P := P) false N N (some (.int k i)) none N N ⟨k, by rw [hi]⟩ rfl (Nat.le_refl _) (Nat.le_refl _) w
    simp [execOp, hρ _ _ hx, hρ _ _ hy, Instr.sliceAt, run_underlying hu, Instr.sureAddr, hb, h3, hn]) hk
end
end Go.Proofs.YtnicmcdeoimhlaaGreat.M
/- frames -/
namespace Go.Proofs.YtnicmcdeoimhlaaGreat
open Go.RowKit M
set_option linter.unusedVariables false
structure FrD where
  u : Bool
  b : Bs
def b64 (b : Bs) : List UInt8 := (List.range 64).map fun i => (b[i]?).getD 0
theorem b64_len (b : Bs) : (b64 b).length = 64 := by simp [b64]
theorem b64_self {b : Bs} (h : b.length = 64) : b64 b = b := by
  apply List.ext_getElem?
  intro i
  by_cases hi : i < 64
  · unfold b64; rw [List.getElem?_map, List.getElem?_range hi, Option.map_some, List.getElem?_eq_getElem (by omega)]; rfl
  · rw [List.getElem?_eq_none (by rw [b64_len]; omega), List.getElem?_eq_none (by omega)]
def frE (x : FrD) : List Value := .bool x.u :: bytesV (b64 x.b)
theorem bytesV_len (l : List UInt8) : (bytesV l).length = l.length := by simp [bytesV]
theorem frE_len (x : FrD) : (frE x).length = 65 := by unfold frE; rw [List.length_cons, bytesV_len, b64_len]
theorem frE_one (x : FrD) : allOne (frE x) = true := by
  refine allOne_mk fun v hv => ?_
  unfold frE at hv
  rcases List.mem_cons.1 hv with rfl | hv
  · rfl
  · unfold bytesV at hv
    obtain ⟨b, _, rfl⟩ := List.mem_map.1 hv
    rfl
def frC : RowC FrD := ⟨frE, 65, by decide, frE_len, frE_one⟩
/-- what a frame contains -/
def frO (x : FrD) : Option Bs := if x.u = true then some (b64 x.b) else none
def usedF (fl : List (Option Bs)) : Nat := (fl.filter Option.isSome).length
def frT (p : Nat) (fl : List (Option Bs)) : Th := exT fun q : Value × List FrD => starL [pureT (fl = q.2.map frO ∧ fl.length ≤ 4096), blkT p [q.1, intV (usedF fl : Nat)], rowT frC q.1 q.2]
theorem frT_open {w : World} {p : Nat} {fl : List (Option Bs)} {As : List Th} (h : Sat w (frT p fl :: As)) : ∃ ao cap cl, fl = cl.map frO ∧ cl.length ≤ 4096 ∧ Sat w (blkT p [.slice ao cl.length cap, intV (usedF fl : Nat)] :: rowT frC (.slice ao cl.length cap) cl :: As) := by
  obtain ⟨⟨v, cl⟩, h⟩ := h.ex
  obtain ⟨⟨h1, h3⟩, h2⟩ := h.flat.pure_elim
  obtain ⟨ao, cap, hv, _⟩ := Sat.own_shape (As := blkT p _ :: rowT frC v cl :: As) h2 1 rfl
  obtain rfl := hv
  exact ⟨ao, cap, cl, h1, by rw [h1, List.length_map] at h3; exact h3, h2⟩
theorem frT_shut {w : World} {p : Nat} {fl : List (Option Bs)} {As : List Th} {v : Value} {cl : List FrD} (h1 : fl = cl.map frO) (hl : cl.length ≤ 4096) (h : Sat w (blkT p [v, intV (usedF fl : Nat)] :: rowT frC v cl :: As)) : Sat w (frT p fl :: As) :=
  Sat.ex_intro (v, cl) (Sat.fold (As := [pureT _, blkT p _, rowT frC v cl]) (Sat.pure_intro ⟨h1, by rw [h1, List.length_map]; exact hl⟩ h))
theorem usedF_le (fl : List (Option Bs)) : usedF fl ≤ fl.length := List.length_filter_le _ _
theorem usedF_put : ∀ {fl : List (Option Bs)} {k : Nat} {b : Bs}, fl[k]? = some none → usedF (fl.set k (some b)) = usedF fl + 1
  | [], _, _, h => by simp at h
  | a :: fl, 0, b, h => by
    simp at h; subst h
    unfold usedF; simp
  | a :: fl, k + 1, b, h => by
    have := usedF_put (fl := fl) (k := k) (b := b) (by simpa using h)
    unfold usedF at this ⊢
    rw [List.set_cons_succ, List.filter_cons, List.filter_cons]
    split
    · rw [List.length_cons, List.length_cons, this]
    · exact this
theorem usedF_free : ∀ {fl : List (Option Bs)} {k : Nat} {b : Bs}, fl[k]? = some (some b) → usedF (fl.set k none) + 1 = usedF fl
  | [], _, _, h => by simp at h
  | a :: fl, 0, b, h => by
    simp at h; subst h
    unfold usedF; simp
  | a :: fl, k + 1, b, h => by
    have := usedF_free (fl := fl) (k := k) (b := b) (by simpa using h)
    unfold usedF at this ⊢
    rw [List.set_cons_succ, List.filter_cons, List.filter_cons]
    split
    · rw [List.length_cons, List.length_cons, ← this]
    · exact this
theorem usedF_same : ∀ {fl : List (Option Bs)} {k : Nat} {b c : Bs}, fl[k]? = some (some b) → usedF (fl.set k (some c)) = usedF fl
  | [], _, _, _, h => by simp at h
  | a :: fl, 0, b, c, h => by
    simp at h; subst h
    unfold usedF; simp
  | a :: fl, k + 1, b, c, h => by
    have := usedF_same (fl := fl) (k := k) (b := b) (c := c) (by simpa using h)
    unfold usedF at this ⊢
    rw [List.set_cons_succ, List.filter_cons, List.filter_cons]
    split
    · rw [List.length_cons, List.length_cons, this]
    · exact this
/-- the content of a frame, if it is allocated -/
def frAt (fl : List (Option Bs)) (f : Int) : Option Bs := if 0 ≤ f then (match fl[f.toNat]? with | some (some b) => some b | _ => none) else none
theorem frAt_some {fl : List (Option Bs)} {f : Int} {b : Bs} (h : frAt fl f = some b) : 0 ≤ f ∧ fl[f.toNat]? = some (some b) := by
  unfold frAt at h
  split at h
  · rename_i h0
    refine ⟨h0, ?_⟩
    split at h
    · rename_i b' hb; cases h; exact hb
    · cases h
  · cases h
theorem frAt_map {cl : List FrD} {f : Int} {x : FrD} (h0 : 0 ≤ f) (hx : cl[f.toNat]? = some x) : frAt (cl.map frO) f = frO x := by
  unfold frAt
  rw [if_pos h0, List.getElem?_map, hx, Option.map_some]
  unfold frO
  cases x.u <;> rfl
theorem frAt_none {cl : List FrD} {f : Int} (h : f < 0 ∨ (cl.length : Int) ≤ f) : frAt (cl.map frO) f = none := by
  unfold frAt
  split
  · rw [List.getElem?_eq_none (by rw [List.length_map]; omega)]
  · rfl
theorem frsize_sp {w : World} {p : Nat} {fl : List (Option Bs)} {F : Th} (hS : Sat w [frT p fl, F]) :
    Calls Tryz.prog 39 #[ptrV p 0] w (Ret fun v w' => v = intV (fl.length : Nat) ∧ Sat w' [frT p fl, F]) := by
 obtain ⟨fa, fc, cl, hfl, hcl, hS⟩ := frT_open hS
 refine calls_enter Tryz.func39 rfl Tryz.ntmps39 rfl ?_
 refine wc_seq (wc_region (wl_assign rfl rfl (wl_nil (qs_seq (wc_seq (wc_region (wl_move rfl rfl (wl_nilCheck rfl rfl ?_))))))))
 refine wl_fieldAddr rfl fo_103_0 rfl ?_
 refine wl_load rfl ag_101 (by first | assumption | exact hS.cell 0 rfl rfl) rfl ?_
 first | refine wl_lenL Tryz.underlying101 rfl rfl ?_ | refine wl_lenO 1 hS Tryz.underlying101 rfl rfl rfl ?_
 refine wl_assign rfl rfl (wl_nil (qs_seq (wc_ret ?_)))
 refine fin1 (.inr rfl) rfl rfl ?_
 exact ⟨_, rfl, by rw [hfl, List.length_map], frT_shut hfl hcl (hS.pick [0, 1, 2] rfl)⟩
theorem frused_sp {w : World} {p : Nat} {fl : List (Option Bs)} {F : Th} (hS : Sat w [frT p fl, F]) :
    Calls Tryz.prog 40 #[ptrV p 0] w (Ret fun v w' => v = intV (usedF fl : Nat) ∧ Sat w' [frT p fl, F]) := by
 obtain ⟨fa, fc, cl, hfl, hcl, hS⟩ := frT_open hS
 refine calls_enter Tryz.func40 rfl Tryz.ntmps40 rfl ?_
 refine wc_seq (wc_region (wl_assign rfl rfl (wl_nil (qs_seq (wc_seq (wc_region (wl_move rfl rfl (wl_nilCheck rfl rfl ?_))))))))
 refine wl_fieldAddr rfl fo_103_1 rfl ?_
 refine wl_load rfl ag_3 (by first | assumption | exact hS.cell 0 rfl rfl) rfl ?_
 refine wl_assign rfl rfl (wl_nil (qs_seq (wc_ret ?_)))
 refine fin1 (.inr rfl) rfl rfl ?_
 exact ⟨_, rfl, rfl, frT_shut hfl hcl (hS.pick [0, 1, 2] rfl)⟩
theorem frhas_sp {w : World} {p : Nat} {fl : List (Option Bs)} {F : Th} (hS : Sat w [frT p fl, F]) (f : Int) :
    Calls Tryz.prog 81 #[ptrV p 0, intV f] w (Ret fun v w' => v = .bool (frAt fl f).isSome ∧ Sat w' [frT p fl, F]) := by
 obtain ⟨fa, fc, cl, hfl, hcl, hS⟩ := frT_open hS
 refine calls_enter Tryz.func81 rfl Tryz.ntmps81 rfl ?_
 refine wc_seq (wc_region (wl_assign rfl rfl (wl_nil (qs_seq (wc_seq (wc_region (wl_move rfl rfl ?_)))))))
 refine wl_geq rfl rfl rfl ?_
 refine wl_move rfl rfl ?_
 refine wl_splitD 7 rfl (fun h1 => ?_) (fun h1 => ?_)
 ·refine wl_guard rfl rfl (decide_eq_true h1) ?_
  refine wl_move rfl rfl ?_
  refine wl_guard rfl rfl (decide_eq_true h1) ?_
  refine wl_move rfl rfl ?_
  refine wl_guard rfl rfl (decide_eq_true h1) ?_
  refine wl_nilCheck rfl rfl ?_
  refine wl_guard rfl rfl (decide_eq_true h1) ?_
  refine wl_fieldAddr rfl fo_103_0 rfl ?_
  refine wl_guard rfl rfl (decide_eq_true h1) ?_
  refine wl_load rfl ag_101 (by first | assumption | exact hS.cell 0 rfl rfl) rfl ?_
  refine wl_guard rfl rfl (decide_eq_true h1) ?_
  first | refine wl_lenL Tryz.underlying101 rfl rfl ?_ | refine wl_lenO 1 hS Tryz.underlying101 rfl rfl rfl ?_
  refine wl_guard rfl rfl (decide_eq_true h1) ?_
  refine wl_lss rfl rfl rfl ?_
  refine wl_pickT rfl (decide_eq_true h1) rfl rfl ?_
  refine wl_move rfl rfl ?_
  refine wl_splitD 16 rfl (fun h2 => ?_) (fun h2 => ?_)
  ·obtain ⟨x, hx⟩ : ∃ x, cl[f.toNat]? = some x := ⟨_, List.getElem?_eq_getElem (by omega)⟩
   refine wl_guard rfl rfl (decide_eq_true h2) ?_
   refine wl_move rfl rfl ?_
   refine wl_guard rfl rfl (decide_eq_true h2) ?_
   refine wl_nilCheck rfl rfl ?_
   refine wl_guard rfl rfl (decide_eq_true h2) ?_
   refine wl_fieldAddr rfl fo_103_0 rfl ?_
   refine wl_guard rfl rfl (decide_eq_true h2) ?_
   refine wl_load rfl ag_101 (by first | assumption | exact hS.cell 0 rfl rfl) rfl ?_
   refine wl_guard rfl rfl (decide_eq_true h2) ?_
   refine wl_move rfl rfl ?_
   refine wl_guard rfl rfl (decide_eq_true h2) ?_
   refine wl_rowIdx frC 1 f.toNat hS rfl rfl rfl (by omega) hx es_101 rfl ?_
   intro bx3 capx3 hvx3
   refine wl_guard rfl rfl (decide_eq_true h2) ?_
   refine wl_fieldAddr rfl fo_115_0 rfl ?_
   refine wl_guard rfl rfl (decide_eq_true h2) ?_
   refine wl_rowLoad 1 f.toNat 0 hS rfl hvx3 rfl rfl hx ag_4 rfl rfl ?_
   refine wl_pickT rfl (decide_eq_true h2) rfl rfl ?_
   refine wl_assign rfl rfl (wl_nil (qs_seq ?_))
   refine wc_sub (L' := [(4, _)]) (.cons rfl .nil) ?_
   refine wc_ret ?_
   refine fin1 (.inr rfl) rfl rfl ?_
   exact ⟨_, rfl, by rw [hfl, frAt_map (by omega) hx]; unfold frO; cases x.u <;> rfl, frT_shut hfl hcl (hS.pick [0, 1, 2] rfl)⟩
  refine wl_unwanted rfl rfl (decide_eq_false h2) rfl ?_
  refine wl_unwanted rfl rfl (decide_eq_false h2) rfl ?_
  refine wl_unwanted rfl rfl (decide_eq_false h2) rfl ?_
  refine wl_unwanted rfl rfl (decide_eq_false h2) rfl ?_
  refine wl_unwanted rfl rfl (decide_eq_false h2) rfl ?_
  refine wl_unwanted rfl rfl (decide_eq_false h2) rfl ?_
  refine wl_unwanted rfl rfl (decide_eq_false h2) rfl ?_
  refine wl_unwanted rfl rfl (decide_eq_false h2) rfl ?_
  refine wl_pickF rfl (decide_eq_false h2) rfl rfl ?_
  refine wl_assign rfl rfl (wl_nil (qs_seq ?_))
  refine wc_sub (L' := [(4, _)]) (.cons rfl .nil) ?_
  refine wc_ret ?_
  refine fin1 (.inr rfl) rfl rfl ?_
  exact ⟨_, rfl, by rw [hfl, frAt_none (by omega)]; rfl, frT_shut hfl hcl (hS.pick [0, 1, 2] rfl)⟩
 refine wl_unwanted rfl rfl (decide_eq_false h1) rfl ?_
 refine wl_unwanted rfl rfl (decide_eq_false h1) rfl ?_
 refine wl_unwanted rfl rfl (decide_eq_false h1) rfl ?_
 refine wl_unwanted rfl rfl (decide_eq_false h1) rfl ?_
 refine wl_unwanted rfl rfl (decide_eq_false h1) rfl ?_
 refine wl_unwanted rfl rfl (decide_eq_false h1) rfl ?_
 refine wl_unwanted rfl rfl (decide_eq_false h1) rfl ?_
 refine wl_pickF rfl (decide_eq_false h1) rfl rfl ?_
 refine wl_move rfl rfl ?_
 refine wl_unwanted rfl rfl rfl rfl ?_
 refine wl_unwanted rfl rfl rfl rfl ?_
 refine wl_unwanted rfl rfl rfl rfl ?_
 refine wl_unwanted rfl rfl rfl rfl ?_
 refine wl_unwanted rfl rfl rfl rfl ?_
 refine wl_unwanted rfl rfl rfl rfl ?_
 refine wl_unwanted rfl rfl rfl rfl ?_
 refine wl_unwanted rfl rfl rfl rfl ?_
 refine wl_pickF rfl rfl rfl rfl ?_
 refine wl_assign rfl rfl (wl_nil (qs_seq ?_))
 refine wc_sub (L' := [(4, _)]) (.cons rfl .nil) ?_
 refine wc_ret ?_
 refine fin1 (.inr rfl) rfl rfl ?_
 exact ⟨_, rfl, by rw [hfl, frAt_none (by omega)]; rfl, frT_shut hfl hcl (hS.pick [0, 1, 2] rfl)⟩
end Go.Proofs.YtnicmcdeoimhlaaGreat
