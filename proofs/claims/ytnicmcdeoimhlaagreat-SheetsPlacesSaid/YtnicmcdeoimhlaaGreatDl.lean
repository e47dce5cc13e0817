/- slices.IndexFunc, DeleteFunc -/
import Derived.Test.YtnicmcdeoimhlaaGreatRow
import Derived.Test.YtnicmcdeoimhlaaGreatSh8
namespace Go.Proofs.YtnicmcdeoimhlaaGreat
open Go.RowKit M
set_option linter.unusedVariables false
def EqF (P : Program) (g : Nat) (c : Nat) (id : Int) : Prop := callB P g = true ∧ ∀ (n : Int) (w : World) (X : Th), Sat w [blkT c [intV id], X] → Calls P g #[intV n, ptrV c 0] w (Ret fun v w' => v = .bool (decide (n = id)) ∧ Sat w' [blkT c [intV id], X])
set_option maxRecDepth 100000 in
theorem ixI_sp {w : World} {g c : Nat} {id : Int} {F : Th} (hE : EqF Tryz.prog g c id) (hS : Sat w [blkT c [intV id], F]) {lv : Value} {l : List Int} (hL : Ent F (RdL inC lv l)) :
    Calls Tryz.prog 88 #[lv, .func (.func g) #[] #[ptrV c 0]] w (Ret fun v w' => (v = intV (-1) ∧ (∀ y ∈ l, y ≠ id) ∧ Sat w' [blkT c [intV id], F]) ∨ (∃ k : Nat, v = intV (k : Int) ∧ l[k]? = some id ∧ (∀ j y, j < k → l[j]? = some y → y ≠ id) ∧ Sat w' [blkT c [intV id], F])) := by
 obtain ⟨ao, cap, rfl, hmax⟩ := (hL.sat hS 1 rfl).shape
 refine calls_enter Tryz.func88 rfl Tryz.ntmps88 rfl ?_
 refine wc_seq (wc_region (wl_assign rfl rfl (wl_nil (qs_seq (wc_seq (wc_seq (wc_region (wl_move rfl rfl ?_))))))))
 refine wl_lenL Tryz.underlying28 rfl rfl ?_
 refine wl_move rfl rfl (wl_nil (qs_seq (wc_block ?_)))
 refine wc_loop (fun K0 E0 W0 => ∃ (i : Nat), K0 = l.length - i ∧ E0 = [(0, .slice ao l.length cap), (1, .func (.func g) #[] #[ptrV c 0]), (7, intV (l.length : Int)), (8, intV (i : Int))] ∧ Sat W0 [blkT c [intV id], F] ∧ (i ≤ l.length) ∧ (∀ j y, j < i → l[j]? = some y → y ≠ id)) (L0 := [(0, _), (1, _), (7, _), (8, _)]) (l.length - 0) (.cons rfl (.cons rfl (.cons rfl (.cons rfl .nil)))) ⟨0, rfl, rfl, hS, by omega, by omega⟩ ?_
 rintro _ _ w1 ⟨i, rfl, rfl, hS1, hi, hno⟩
 refine wc_seq (wc_region ?_)
 refine wl_lss rfl rfl rfl ?_
 refine wl_nil (qs_seq (wc_seq ?_))
 refine wc_condD rfl (fun h2 => ?_) (fun h2 => ?_)
 ·obtain ⟨x, hx⟩ : ∃ x, l[i]? = some x := ⟨_, List.getElem?_eq_getElem (by omega)⟩
  obtain ⟨b, off, rfl, _⟩ := (hL.sat hS1 1 rfl).get hx
  refine wc_skip (qs_seq (wc_seq (wc_block (wc_seq (wc_region (wl_move rfl rfl (wl_assign rfl rfl (wl_nil (qs_seq (wc_seq (wc_region (wl_move rfl rfl (wl_move rfl rfl (wl_move rfl rfl ?_))))))))))))))
  refine wl_indexAddr i rfl rfl (by first | rfl | omega) (by exact (List.getElem?_eq_some_iff.1 hx).1) es_28 rfl ?_
  refine wl_load rfl ag_3 (((hL.sat hS1 1 rfl).at_ hx) 0 _ rfl) rfl ?_
  have hC3 := hS1.split [0] [true, false] rfl; dsimp only [selF, pickA, nthA, List.cons_append, List.nil_append] at hC3
  refine wl_callV rfl hE.1 rfl (hE.2 _ _ _ hC3) rfl ?_
  rintro e w3 ⟨_, rfl, rfl, hS3⟩; refine ⟨_, rfl, ?_⟩
  replace hS3 := hS3.join rfl; dsimp only [List.dropLast, List.cons_append, List.nil_append] at hS3; clear hC3
  clear hS1
  refine wl_nil (qs_seq ?_)
  refine wc_sub (L' := [(16, _), (5, _), (0, _), (1, _), (7, _), (8, _)]) (.cons rfl (.cons rfl (.cons rfl (.cons rfl (.cons rfl (.cons rfl .nil)))))) ?_
  refine wc_condD rfl (fun h4 => ?_) (fun h4 => ?_)
  ·have heq : x = id := h4
   refine wc_seq (wc_region (wl_move rfl rfl (wl_assign rfl rfl (wl_nil (qs_seq (wc_ret (qs_block_ret (qs_then_ret (qs_then_ret (qs_block_ret (qs_then_ret ?_)))))))))))
   refine fin1 (.inr rfl) rfl rfl ?_
   exact ⟨_, rfl, .inr ⟨i, rfl, by rw [hx, heq], hno, hS3.pick [0, 1] rfl⟩⟩
  have hne : x ≠ id := h4
  refine wc_skip (qs_block_normal (qs_seq (wc_region ?_)))
  refine wl_add rfl rfl (by omega) (by omega) rfl ?_
  refine wl_move rfl rfl (wl_nil ?_)
  exact qs_round (L1 := [(0, _), (1, _), (7, _), (8, intV ((i + 1 : Nat) : Int))]) (.cons rfl (.cons rfl (.cons rfl (.cons rfl .nil)))) (k1 := l.length - (i + 1)) (by omega) ⟨i + 1, rfl, rfl, hS3.pick [0, 1] rfl, by omega, fun j y hj hq => by by_cases e : j = i; (subst e; rw [hx] at hq; cases hq; exact hne); exact hno j y (by omega) hq⟩
 refine wc_exit (qs_then_exit (qs_then_exit (qs_block_exit (qs_seq (wc_seq (wc_region (wl_assign rfl rfl (wl_nil (qs_seq (wc_ret ?_))))))))))
 refine fin1 (.inr rfl) rfl rfl ?_
 exact ⟨_, rfl, .inl ⟨rfl, fun y hm => by obtain ⟨j, hj⟩ := List.mem_iff_getElem?.1 hm; exact hno j y (by have := (List.getElem?_eq_some_iff.1 hj).1; omega) hj, hS1.pick [0, 1] rfl⟩⟩
set_option maxRecDepth 100000 in
set_option maxHeartbeats 800000 in
theorem delI_sp {w : World} {g c : Nat} {id : Int} {F : Th} (hE : EqF Tryz.prog g c id) {sv : Value} {l : List Int} (hS : Sat w [rowT inC sv l, blkT c [intV id], F]) (hln : l.length ≤ 1000000) :
    Calls Tryz.prog 59 #[sv, .func (.func g) #[] #[ptrV c 0]] w (Ret fun v w' => Sat w' [rowT inC v (l.filter (fun n => !decide (n = id))), blkT c [intV id], F]) := by
 obtain ⟨ao, cap, rfl, hcap0, _⟩ := hS.own_shape 0 rfl
 refine calls_enter Tryz.func59 rfl Tryz.ntmps59 rfl ?_
 refine wc_seq (wc_region (wl_assign rfl rfl (wl_nil (qs_seq (wc_seq (wc_region (wl_move rfl rfl (wl_move rfl rfl ?_))))))))
 have hC1 := hS.split [1] [false, true, false] rfl; dsimp only [selF, pickA, nthA, List.cons_append, List.nil_append] at hC1
 refine wl_call cal_88 rfl (ixI_sp hE hC1 (l := l) (Ent.starL (ent_row (C := inC) (l := l) (by omega)) 0 rfl)) rfl ?_
 rintro e w1 ⟨_, rfl, (⟨rfl, hno, hS1⟩ | ⟨k, rfl, hk, hno, hS1⟩)⟩
 ·refine ⟨_, rfl, ?_⟩
  replace hS1 := hS1.join rfl; dsimp only [List.dropLast, List.cons_append, List.nil_append] at hS1; clear hC1
  refine wl_assign rfl rfl (wl_nil (qs_seq (wc_seq (wc_seq (wc_region (wl_move rfl rfl ?_))))))
  refine wl_eql rfl rfl rfl ?_
  refine wl_nil (qs_seq ?_)
  refine wc_condD rfl (fun h2 => ?_) (fun h2 => ?_)
  ·refine wc_seq (wc_region (wl_move rfl rfl (wl_assign rfl rfl (wl_nil (qs_seq (wc_ret (qs_then_ret ?_)))))))
   refine fin1 (.inr rfl) rfl rfl ?_
   exact ⟨_, rfl, by rw [show l.filter (fun n => !decide (n = id)) = l from List.filter_eq_self.2 (fun y hy => by simpa using hno y hy)]; exact hS1.pick [1, 0, 2] rfl⟩
  exact absurd rfl h2
 refine ⟨_, rfl, ?_⟩
 replace hS1 := hS1.join rfl; dsimp only [List.dropLast, List.cons_append, List.nil_append] at hS1; clear hC1
 refine wl_assign rfl rfl (wl_nil (qs_seq (wc_seq (wc_seq (wc_region (wl_move rfl rfl ?_))))))
 refine wl_eql rfl rfl rfl ?_
 refine wl_nil (qs_seq ?_)
 refine wc_condD rfl (fun h3 => ?_) (fun h3 => ?_)
 ·exact absurd h3 (by omega)
 refine wc_skip (qs_seq (wc_seq (wc_seq ?_)))
 have hkl := (List.getElem?_eq_some_iff.1 hk).1
 obtain ⟨ob, oc9, hq9, hcap⟩ := hS1.own_at 1 rfl (by omega)
 cases hq9
 refine wc_region (wl_move rfl rfl ?_)
 refine wl_add rfl rfl (by omega) (by omega) rfl ?_
 refine wl_assign rfl rfl (wl_nil (qs_seq ?_))
 refine wc_sub (L' := [(6, _), (5, _), (4, _), (0, _), (1, _)]) (.cons rfl (.cons rfl (.cons rfl (.cons rfl (.cons rfl .nil))))) ?_
 refine wc_block ?_
 have hq0 := hS1.pick [1, 0, 2] rfl
 refine wc_loop (fun K0 E0 W0 => ∃ (l1 : List Int) (i j : Nat), K0 = l.length - j ∧ E0 = [(0, .slice (some ⟨ob, 0, none⟩) l.length cap), (1, .func (.func g) #[] #[ptrV c 0]), (5, intV (i : Int)), (6, intV (j : Int))] ∧ Sat W0 [rowT inC (.slice (some ⟨ob, 0, none⟩) l.length cap) l1, blkT c [intV id], F] ∧ (i < j) ∧ (j ≤ l.length) ∧ (l1.length = l.length) ∧ (l1.take i = (l.take j).filter (fun n => !decide (n = id))) ∧ (l1.drop j = l.drop j)) (L0 := [(0, _), (1, _), (5, _), (6, _)]) (l.length - (k + 1)) (.cons rfl (.cons rfl (.cons rfl (.cons rfl .nil)))) ⟨l, k, k + 1, rfl, rfl, hq0, by omega, by omega, rfl, by rw [filter_take hk, if_pos rfl, List.append_nil]; symm; rw [List.filter_eq_self]; intro y hy; obtain ⟨q, hq⟩ := List.mem_iff_getElem?.1 hy; have hql := (List.getElem?_eq_some_iff.1 hq).1; rw [List.length_take] at hql; rw [List.getElem?_take, if_pos (by omega)] at hq; simpa using hno q y (by omega) hq, rfl⟩ ?_
 rintro _ _ w4 ⟨l1, i, j, rfl, rfl, hS4, hij, hjl, hl1, ht1, hd1⟩
 refine wc_seq (wc_seq (wc_region (wl_move rfl rfl (wl_move rfl rfl ?_))))
 first | refine wl_lenL Tryz.underlying28 rfl rfl ?_ | refine wl_lenO 0 hS4 Tryz.underlying28 rfl rfl rfl ?_
 refine wl_lss rfl rfl rfl ?_
 refine wl_nil (qs_seq ?_)
 refine wc_condD rfl (fun h5 => ?_) (fun h5 => ?_)
 ·obtain ⟨v, hv⟩ : ∃ v, l[j]? = some v := ⟨_, List.getElem?_eq_getElem (by omega)⟩
  have hv1 : l1[j]? = some v := by have := congrArg (fun q => q[0]?) hd1; simp only [List.getElem?_drop, Nat.add_zero] at this; rw [this]; exact hv
  refine wc_skip (qs_seq (wc_seq (wc_block (wc_seq (wc_region (wl_move rfl rfl (wl_move rfl rfl ?_)))))))
  refine wl_rowIdx inC 0 j hS4 rfl rfl rfl (by rfl) hv1 es_28 rfl ?_
  intro bx6 capx6 hvx6
  refine wl_rowLoad 0 j 0 hS4 rfl hvx6 rfl rfl hv1 ag_3 rfl rfl ?_
  refine wl_assign rfl rfl (wl_nil (qs_seq ?_))
  refine wc_sub (L' := [(7, _), (0, _), (1, _), (5, _), (6, _)]) (.cons rfl (.cons rfl (.cons rfl (.cons rfl (.cons rfl .nil))))) ?_
  refine wc_seq (wc_region (wl_move rfl rfl (wl_move rfl rfl ?_)))
  have hC7 := hS4.split [1] [false, true, false] rfl; dsimp only [selF, pickA, nthA, List.cons_append, List.nil_append] at hC7
  refine wl_callV rfl hE.1 rfl (hE.2 _ _ _ hC7) rfl ?_
  rintro e w7 ⟨_, rfl, rfl, hS7⟩; refine ⟨_, rfl, ?_⟩
  replace hS7 := hS7.join rfl; dsimp only [List.dropLast, List.cons_append, List.nil_append] at hS7; clear hC7
  clear hS4
  refine wl_not rfl rfl ?_
  refine wl_nil (qs_seq ?_)
  refine wc_cond rfl (fun h8 => ?_) (fun h8 => ?_)
  ·have hvn : ¬ v = id := by simpa using h8
   refine wc_seq ?_
   obtain ⟨vx, hvx⟩ : ∃ v, l1[i]? = some v := ⟨_, List.getElem?_eq_getElem (by omega)⟩
   refine wc_region (wl_move rfl rfl (wl_move rfl rfl (wl_move rfl rfl ?_)))
   refine wl_rowIdx inC 1 i hS7 rfl rfl rfl (by rfl) hvx es_28 rfl ?_
   intro bx9 capx9 hvx9
   refine wl_rowStore 1 i v hS7 rfl hvx9 rfl rfl sz_3 (by first | rfl | (simp; done)) (by omega) ?_
   intro w10 hS11; dsimp only [List.set] at hS11
   clear hS7
   refine wl_nil (qs_seq ?_)
   refine wc_sub (L' := [(0, _), (1, _), (5, _), (6, _)]) (.cons rfl (.cons rfl (.cons rfl (.cons rfl .nil)))) ?_
   refine wc_region (wl_move rfl rfl ?_)
   refine wl_add rfl rfl (by omega) (by omega) rfl ?_
   refine wl_assign rfl rfl (wl_nil (qs_block_normal (qs_seq (wc_region (wl_move rfl rfl ?_)))))
   refine wl_add rfl rfl (by omega) (by omega) rfl ?_
   refine wl_assign rfl rfl (wl_nil ?_)
   exact qs_round (L1 := [(0, _), (1, _), (5, intV ((i + 1 : Nat) : Int)), (6, intV ((j + 1 : Nat) : Int))]) (.cons rfl (.cons rfl (.cons rfl (.cons rfl .nil)))) (k1 := l.length - (j + 1)) (by omega) ⟨l1.set i v, i + 1, j + 1, rfl, rfl, hS11.pick [1, 0, 2] rfl, by omega, by omega, by rw [List.length_set]; exact hl1, by rw [filter_take hv, if_neg hvn, List.take_add_one, List.getElem?_set_self (by omega), List.take_set_of_le (by omega), ht1]; rfl, by rw [List.drop_set_of_lt (by omega)]; have := congrArg (List.drop 1) hd1; rwa [List.drop_drop, List.drop_drop] at this⟩
  have hvi : v = id := by simpa using h8
  refine wc_skip (qs_block_normal (qs_seq (wc_region (wl_move rfl rfl ?_))))
  refine wl_add rfl rfl (by omega) (by omega) rfl ?_
  refine wl_assign rfl rfl (wl_nil ?_)
  exact qs_round (L1 := [(0, _), (1, _), (5, _), (6, intV ((j + 1 : Nat) : Int))]) (.cons rfl (.cons rfl (.cons rfl (.cons rfl .nil)))) (k1 := l.length - (j + 1)) (by omega) ⟨l1, i, j + 1, rfl, rfl, hS7.pick [1, 0, 2] rfl, by omega, by omega, hl1, by rw [filter_take hv, if_pos hvi, List.append_nil]; exact ht1, by have := congrArg (List.drop 1) hd1; rwa [List.drop_drop, List.drop_drop] at this⟩
 refine wc_exit (qs_then_exit (qs_then_exit (qs_block_exit (qs_seq (wc_seq (wc_region (wl_move rfl rfl (wl_move rfl rfl ?_))))))))
 refine wl_view i l.length Tryz.underlying28 sz_3 rfl (bndS i _ rfl rfl) (bndN _) (by omega) (by omega) rfl ?_
 rw [show viewV 1 (.slice (some ⟨ob, 0, none⟩) l.length cap) i l.length = .slice (some ⟨ob, 0 + i * 1, none⟩) (l.length - i) (cap - i) from view_some (by omega)]
 refine wl_clearO 0 hS4 rfl rfl rfl Tryz.underlying28 zr_3 rfl (by rw [inC.cells_len]; show 0 + i * 1 + (l.length - i) * 1 ≤ l1.length * 1; omega) (xs' := inC.cells (l1.take i ++ List.replicate (l1.length - i) 0)) (by rw [← hl1]; exact del_zero (by omega)) rfl ?_
 intro w12 hS12a; dsimp only [List.set] at hS12a
 have hS12 := Sat.row_cast (C := inC) (l := l1.take i ++ List.replicate (l1.length - i) 0) (hS12a.pull 0 rfl) (by rw [List.length_append, List.length_take, List.length_replicate]; omega) rfl rfl; dsimp only [List.eraseIdx] at hS12
 clear hS4
 refine wl_nil (qs_seq ?_)
 refine wc_sub (L' := [(0, _), (5, _)]) (.cons rfl (.cons rfl .nil)) ?_
 refine wc_seq (wc_region (wl_move rfl rfl (wl_move rfl rfl ?_)))
 refine wl_view 0 i Tryz.underlying28 sz_3 rfl (bndN _) (bndS i _ rfl rfl) (by omega) (by omega) rfl ?_
 rw [show viewV 1 (.slice (some ⟨ob, 0, none⟩) l.length cap) 0 i = .slice (some ⟨ob, 0, none⟩) i cap from view_some (by omega)]
 refine wl_assign rfl rfl (wl_nil (qs_seq (wc_ret ?_)))
 refine fin1 (.inr rfl) rfl rfl ?_
 have hz := (hS12.pick [0, 1, 2] rfl).row_shrink i (by rw [List.length_append, List.length_take]; omega)
 rw [List.take_append_of_le_length (by rw [List.length_take]; omega), List.take_take, Nat.min_self, ht1, List.take_of_length_le (by omega)] at hz
 exact ⟨_, rfl, hz⟩
end Go.Proofs.YtnicmcdeoimhlaaGreat
/- sheets: Unref, Page, Byte -/
namespace Go.Proofs.YtnicmcdeoimhlaaGreat
open Go.RowKit M
set_option linter.unusedVariables false
theorem vw_del {S : SS} {A : Int → Option ShE} {j : Int} (hA : A = up S.all j none) : (fun i => (A i).map fun x => (x.refs, x.pg)) = up (vw S) j none := by
  subst hA
  funext i
  by_cases q : i = j
  · subst q; rw [up_self, up_self]; rfl
  · rw [up_ne q, up_ne q]; rfl
/-- a sheet is gone -/
structure DelS (T : Nat) (S S' : SS) (id : Int) : Prop where
  inv : ShI no0 (T + 1) S'
  f : ShF S S'
  is : vw S' = up (vw S) id none
theorem del_frame {T : Nat} {S : SS} {id : Int} {x : ShE} (h : ShI no0 T S) (hx : S.all id = some x) (hp : x.place = 1) : DelS T S { offFrame S x.at_ with all := up S.all id none } id := by
  have h1 := (h.offFrame (fun q => q) hx hp rfl).gone (j := id) (.inr rfl)
  refine ⟨h1.congr fun i _ => ⟨fun ⟨a, b⟩ => b (a.resolve_left fun q => q), False.elim⟩, ⟨⟨[x.at_], rfl, fun j y hy hp1 => ?_⟩, rfl, rfl, by show (S.fr.set _ _).length = _; rw [List.length_set]⟩, vw_del rfl⟩
  by_cases q : j = id
  · subst q; rw [hx] at hy; cases hy; exact .inl (by simp)
  · exact .inr ⟨y, by show up S.all id _ j = _; rw [up_ne q]; exact hy, hp1, rfl⟩
theorem ShF.del {S S' : SS} {id : Int} {x : ShE} (hx : S.all id = some x) (hp : x.place ≠ 1) (ha : S'.all = up S.all id none) (ht : S'.taken = S.taken) (hb : S'.budget = S.budget) (hs : S'.slots = S.slots) (hf : S'.fr = S.fr) : ShF S S' := by
  refine ⟨⟨[], by rw [ht]; simp, fun j y hy hp1 => .inr ⟨y, ?_, hp1, rfl⟩⟩, hb, hs, by rw [hf]⟩
  rw [ha, up_ne (fun q => by subst q; rw [hx] at hy; cases hy; exact hp hp1)]; exact hy
theorem off_cache {T : Nat} {S : SS} {id : Int} {x : ShE} (h : ShI no0 T S) (hx : S.all id = some x) (hp : x.place = 2) : ShI (one id) T { S with cache := S.cache.filter (fun n => !decide (n = id)) } :=
  (h.offCache hx hp (List.filter_sublist) (fun i => by rw [List.mem_filter]; simp)).congr fun i _ => ⟨fun q => q.resolve_left fun q => q, fun q => .inr q⟩
theorem del_cache {T : Nat} {S : SS} {id : Int} {x : ShE} (h : ShI no0 T S) (hx : S.all id = some x) (hp : x.place = 2) : DelS T S { S with cache := S.cache.filter (fun n => !decide (n = id)), all := up S.all id none } id := by
  have h1 := ((off_cache h hx hp).gone (j := id) rfl).mono (Nat.le_add_right T 1)
  exact ⟨h1.congr fun i _ => ⟨fun ⟨a, b⟩ => b a, False.elim⟩, ShF.del hx (by omega) rfl rfl rfl rfl rfl, vw_del rfl⟩
theorem slot_has {E : Int → Prop} {T : Nat} {S : SS} {id : Int} {x : ShE} (h : ShI E T S) (hE : ¬ E id) (hx : S.all id = some x) (hp : x.place = 3) : hasB S.sl x.at_ = true ∧ swGet S.sl x.at_ = x.pg ∧ swFree S.sl x.at_ = S.sl.set x.at_.toNat [] := by
  obtain ⟨h0, h1⟩ := h.slt hE hx hp
  have h64 := (h.ent hx).2.2.2.2.1
  have hne : x.pg ≠ [] := fun q => by rw [q] at h64; simp at h64
  have hb : hasB S.sl x.at_ = true := by unfold hasB; rw [h1]; simp [h0, hne]
  exact ⟨hb, by unfold swGet; rw [if_pos hb, h1]; rfl, by unfold swFree; rw [if_pos hb]⟩
theorem off_slot {T : Nat} {S : SS} {id : Int} {x : ShE} (h : ShI no0 T S) (hx : S.all id = some x) (hp : x.place = 3) : ShI (one id) T { S with sl := S.sl.set x.at_.toNat [] } :=
  (h.offSlot (fun q => q) hx hp).congr fun i _ => ⟨fun q => q.resolve_left fun q => q, fun q => .inr q⟩
theorem del_slot {T : Nat} {S : SS} {id : Int} {x : ShE} (h : ShI no0 T S) (hx : S.all id = some x) (hp : x.place = 3) : DelS T S { S with sl := S.sl.set x.at_.toNat [], all := up S.all id none } id := by
  have h1 := ((off_slot h hx hp).gone (j := id) rfl).mono (Nat.le_add_right T 1)
  exact ⟨h1.congr fun i _ => ⟨fun ⟨a, b⟩ => b a, False.elim⟩, ShF.del hx (by omega) rfl rfl rfl rfl rfl, vw_del rfl⟩
def shPg (S : SS) (id : Int) : Bs := match S.all id with | none => if id = 0 then zer else [] | some x => x.pg
theorem eqU (c : Nat) (id : Int) : EqF Tryz.prog 66 c id := ⟨cal_66, fun n w X hS => by
  refine calls_enter Tryz.func66 rfl Tryz.ntmps66 rfl ?_
  refine wc_seq ?_
  refine wc_region ?_
  refine wl_assign rfl rfl ?_
  refine wl_nil ?_
  refine qs_seq ?_
  refine wc_seq ?_
  refine wc_region ?_
  refine wl_move rfl rfl ?_
  refine wl_load rfl ag_3 (by first | assumption | exact hS.cell 0 rfl rfl) rfl ?_
  refine wl_eql rfl rfl rfl ?_
  refine wl_assign rfl rfl ?_
  refine wl_nil ?_
  refine qs_seq ?_
  refine wc_ret ?_
  refine fin1 (.inr rfl) rfl rfl ?_
  exact ⟨_, rfl, rfl, hS⟩⟩
theorem eqB (c : Nat) (id : Int) : EqF Tryz.prog 60 c id := ⟨cal_60, fun n w X hS => by
  refine calls_enter Tryz.func60 rfl Tryz.ntmps60 rfl ?_
  refine wc_seq ?_
  refine wc_region ?_
  refine wl_assign rfl rfl ?_
  refine wl_nil ?_
  refine qs_seq ?_
  refine wc_seq ?_
  refine wc_region ?_
  refine wl_move rfl rfl ?_
  refine wl_load rfl ag_3 (by first | assumption | exact hS.cell 0 rfl rfl) rfl ?_
  refine wl_eql rfl rfl rfl ?_
  refine wl_assign rfl rfl ?_
  refine wl_nil ?_
  refine qs_seq ?_
  refine wc_ret ?_
  refine fin1 (.inr rfl) rfl rfl ?_
  exact ⟨_, rfl, rfl, hS⟩⟩
set_option maxRecDepth 100000 in
set_option maxHeartbeats 1600000 in
theorem shunref_sp {w : World} {p : Nat} {S : SS} {F : Th} (hS : Sat w [shT p S, F]) {N : Nat} (hI : ShI no0 N S) (hN : N ≤ 800000) (id : Int) :
    Calls Tryz.prog 26 #[ptrV p 0, intV id] w (Ret fun v w' => (match S.all id with | none => v = (if id = 0 then intV 0 else intV 4) ∧ Sat w' [shT p S, F] | some x => v = intV 0 ∧ ((1 < x.refs ∧ Sat w' [shT p { S with all := up S.all id (some { x with refs := x.refs - 1 }) }, F]) ∨ (x.refs = 1 ∧ ∃ S', DelS N S S' id ∧ Sat w' [shT p S', F])))) := by
 obtain ⟨ba, bi, fp, sp, kp, ac, cc, at2, ct, hS⟩ := shT_open hS
 cases hid : S.all id with
 | none =>
  dsimp only
  refine calls_enter Tryz.func26 rfl Tryz.ntmps26 rfl ?_
  refine wc_seq (wc_region ?_)
  refine wl_box hS rfl rfl rfl ?_
  intro b1 w1 hS1
  refine wl_assign rfl rfl (wl_nil (qs_seq (wc_seq ?_)))
  have hS2 := hS1.drew
  refine wc_draw [0, 1, 2, 3, 4, 5, 6, 7, 8, 9, 10, 11] [9, 10] mix (by kernel_rfl) ?_
  refine vc_p rfl rfl rfl (fun _ => (ev_move rfl)) ?_
  refine vc_p rfl rfl rfl (fun _ => (ev_nilCheck rfl)) ?_
  refine vc_p rfl rfl rfl (fun _ => (ev_fieldAddr rfl fo_65_0)) ?_
  refine vc_q rfl rfl rfl (ev_load rfl ag_56 (by first | assumption | exact hS2.cell 0 rfl rfl | exact hS2.cell 1 rfl rfl)) ?_
  refine vc_q rfl rfl rfl (ev_load rfl ag_3 (by first | assumption | exact hS2.cell 0 rfl rfl | exact hS2.cell 1 rfl rfl)) ?_
  refine vc_q rfl rfl rfl (ev_lookupOk (k := id) 2 hS2 keysInt Tryz.underlying56 rfl rfl rfl zr_76 (u := (.agg #[intV 0, intV 0, intV 0, strV []])) (g := false) (aG_none hid) (aG_none2 hid)) ?_
  refine vc_p rfl rfl rfl (fun _ => (ev_move rfl)) ?_
  refine vc_p rfl rfl rfl (fun _ => (ev_extract rfl rfl)) ?_
  refine vc_p rfl rfl rfl (fun _ => (ev_extract rfl rfl)) ?_
  refine vc_s rfl rfl rfl rfl rfl rfl ?_
  refine wl_alloc hS2 zr_76 rfl rfl ?_
  intro b3 w3 hS3
  clear hS2
  refine vc_e (.cons (.inl ⟨rfl, (ev_lookupOk (k := id) 3 hS3 keysInt Tryz.underlying56 rfl rfl rfl zr_76 (u := (.agg #[intV 0, intV 0, intV 0, strV []])) (g := false) (aG_none hid) (aG_none2 hid))⟩) (.cons (.inl ⟨rfl, (ev_load rfl ag_3 (by first | assumption | exact hS3.cell 0 rfl rfl | exact hS3.cell 1 rfl rfl | exact hS3.cell 2 rfl rfl))⟩) (.cons (.inl ⟨rfl, (ev_load rfl ag_56 (by first | assumption | exact hS3.cell 0 rfl rfl | exact hS3.cell 1 rfl rfl | exact hS3.cell 2 rfl rfl))⟩) .nil))) ?_
  refine vc_s rfl rfl rfl rfl rfl rfl ?_
  first | (refine wl_storeA hS3 rfl rfl sz_76 rfl (by first | rfl | (simp [allOne, Value.oneCell']; done) | assumption | exact hone) (i := 0) rfl (by first | decide | exact Nat.le_of_ble_eq_true rfl | (simp; done) | omega) ?_) | (refine wl_storeA hS3 rfl rfl sz_76 rfl (by first | rfl | (simp [allOne, Value.oneCell']; done) | assumption | exact hone) (i := 1) rfl (by first | decide | exact Nat.le_of_ble_eq_true rfl | (simp; done) | omega) ?_) | (refine wl_storeA hS3 rfl rfl sz_76 rfl (by first | rfl | (simp [allOne, Value.oneCell']; done) | assumption | exact hone) (i := 2) rfl (by first | decide | exact Nat.le_of_ble_eq_true rfl | (simp; done) | omega) ?_)
  intro w4 hS5; dsimp only [List.set] at hS5
  clear hS3
  refine vc_e0 (.skip (by kernel_rfl) (.skip (by kernel_rfl) (.skip (by kernel_rfl) .nil))) ?_
  refine vc_p rfl rfl rfl (fun _ => (ev_assign rfl)) ?_
  refine VC.nil (qs_seq ?_)
  refine wc_sub (L' := [(6, _), (5, _), (4, _), (3, _), (0, _)]) (.cons rfl (.cons rfl (.cons rfl (.cons rfl (.cons rfl .nil))))) ?_
  refine wc_seq (wc_seq (wc_region (wl_move rfl rfl ?_)))
  refine wl_not rfl rfl ?_
  refine wl_nil (qs_seq ?_)
  refine wc_cond rfl (fun h6 => ?_) (fun h6 => ?_)
  ·refine wc_seq (wc_seq (wc_region ?_))
   refine wl_load rfl ag_3 (by first | assumption | exact hS5.cell 0 rfl rfl | exact hS5.cell 1 rfl rfl | exact hS5.cell 2 rfl rfl) rfl ?_
   refine wl_eql rfl rfl rfl ?_
   refine wl_nil (qs_seq ?_)
   refine wc_condD rfl (fun h7 => ?_) (fun h7 => ?_)
   ·refine wc_seq (wc_region (wl_assign rfl rfl (wl_nil (qs_seq (wc_ret (qs_then_ret (qs_then_ret ?_)))))))
    refine fin1 (.inr rfl) rfl rfl ?_
    exact ⟨_, rfl, by rw [if_pos (by omega)], shT_shut (hS5.pick [2, 3, 4, 5, 6, 7, 8, 9, 10] rfl)⟩
   refine wc_skip (qs_seq (wc_seq (wc_region (wl_assign rfl rfl (wl_nil (qs_seq (wc_ret (qs_then_ret ?_))))))))
   refine fin1 (.inr rfl) rfl rfl ?_
   exact ⟨_, rfl, by rw [if_neg (by omega)], shT_shut (hS5.pick [2, 3, 4, 5, 6, 7, 8, 9, 10] rfl)⟩
  exact absurd h6 (by simp)
 | some x =>
  obtain ⟨hid1, _, hr1, hr2, _, hplc⟩ := hI.ent hid
  dsimp only
  refine calls_enter Tryz.func26 rfl Tryz.ntmps26 rfl ?_
  refine wc_seq (wc_region ?_)
  refine wl_box hS rfl rfl rfl ?_
  intro b1 w1 hS1
  refine wl_assign rfl rfl (wl_nil (qs_seq (wc_seq ?_)))
  have hS2 := hS1.drew
  refine wc_draw [0, 1, 2, 3, 4, 5, 6, 7, 8, 9, 10, 11] [9, 10] mix (by kernel_rfl) ?_
  refine vc_p rfl rfl rfl (fun _ => (ev_move rfl)) ?_
  refine vc_p rfl rfl rfl (fun _ => (ev_nilCheck rfl)) ?_
  refine vc_p rfl rfl rfl (fun _ => (ev_fieldAddr rfl fo_65_0)) ?_
  refine vc_q rfl rfl rfl (ev_load rfl ag_56 (by first | assumption | exact hS2.cell 0 rfl rfl | exact hS2.cell 1 rfl rfl)) ?_
  refine vc_q rfl rfl rfl (ev_load rfl ag_3 (by first | assumption | exact hS2.cell 0 rfl rfl | exact hS2.cell 1 rfl rfl)) ?_
  refine vc_q rfl rfl rfl (ev_lookupOk (k := id) 2 hS2 keysInt Tryz.underlying56 rfl rfl rfl zr_76 (u := (.agg #[intV x.refs, intV x.place, intV x.at_, strV (fmE x)])) (g := true) (aG_some hid) (aG_some2 hid)) ?_
  refine vc_p rfl rfl rfl (fun _ => (ev_move rfl)) ?_
  refine vc_p rfl rfl rfl (fun _ => (ev_extract rfl rfl)) ?_
  refine vc_p rfl rfl rfl (fun _ => (ev_extract rfl rfl)) ?_
  refine vc_s rfl rfl rfl rfl rfl rfl ?_
  refine wl_alloc hS2 zr_76 rfl rfl ?_
  intro b3 w3 hS3
  clear hS2
  refine vc_e (.cons (.inl ⟨rfl, (ev_lookupOk (k := id) 3 hS3 keysInt Tryz.underlying56 rfl rfl rfl zr_76 (u := (.agg #[intV x.refs, intV x.place, intV x.at_, strV (fmE x)])) (g := true) (aG_some hid) (aG_some2 hid))⟩) (.cons (.inl ⟨rfl, (ev_load rfl ag_3 (by first | assumption | exact hS3.cell 0 rfl rfl | exact hS3.cell 1 rfl rfl | exact hS3.cell 2 rfl rfl))⟩) (.cons (.inl ⟨rfl, (ev_load rfl ag_56 (by first | assumption | exact hS3.cell 0 rfl rfl | exact hS3.cell 1 rfl rfl | exact hS3.cell 2 rfl rfl))⟩) .nil))) ?_
  refine vc_s rfl rfl rfl rfl rfl rfl ?_
  first | (refine wl_storeA hS3 rfl rfl sz_76 rfl (by first | rfl | (simp [allOne, Value.oneCell']; done) | assumption | exact hone) (i := 0) rfl (by first | decide | exact Nat.le_of_ble_eq_true rfl | (simp; done) | omega) ?_) | (refine wl_storeA hS3 rfl rfl sz_76 rfl (by first | rfl | (simp [allOne, Value.oneCell']; done) | assumption | exact hone) (i := 1) rfl (by first | decide | exact Nat.le_of_ble_eq_true rfl | (simp; done) | omega) ?_) | (refine wl_storeA hS3 rfl rfl sz_76 rfl (by first | rfl | (simp [allOne, Value.oneCell']; done) | assumption | exact hone) (i := 2) rfl (by first | decide | exact Nat.le_of_ble_eq_true rfl | (simp; done) | omega) ?_)
  intro w4 hS5; dsimp only [List.set] at hS5
  clear hS3
  refine vc_e0 (.skip (by kernel_rfl) (.skip (by kernel_rfl) (.skip (by kernel_rfl) .nil))) ?_
  refine vc_p rfl rfl rfl (fun _ => (ev_assign rfl)) ?_
  refine VC.nil (qs_seq ?_)
  refine wc_sub (L' := [(6, _), (5, _), (4, _), (3, _), (0, _)]) (.cons rfl (.cons rfl (.cons rfl (.cons rfl (.cons rfl .nil))))) ?_
  refine wc_seq (wc_seq (wc_region (wl_move rfl rfl ?_)))
  refine wl_not rfl rfl ?_
  refine wl_nil (qs_seq ?_)
  refine wc_cond rfl (fun h6 => ?_) (fun h6 => ?_)
  ·exact absurd h6 (by simp)
  refine wc_skip (qs_seq (wc_seq (wc_seq (wc_region ?_))))
  refine wl_fieldAddr rfl fo_76_0 rfl ?_
  refine wl_load rfl ag_3 (by first | assumption | exact hS5.cell 0 rfl rfl | exact hS5.cell 1 rfl rfl | exact hS5.cell 2 rfl rfl) rfl ?_
  refine wl_sub' rfl rfl (by omega) (by omega) rfl ?_
  refine wl_fieldAddr rfl fo_76_0 rfl ?_
  first | (refine wl_store hS5 rfl rfl sz_3 (by first | rfl | assumption | exact hS5.own_one 5 rfl | exact hS5.own_one 9 rfl) (i := 0) rfl (by first | decide | exact Nat.le_of_ble_eq_true rfl | (simp; done) | omega) ?_) | (refine wl_store hS5 rfl rfl sz_3 (by first | rfl | assumption | exact hS5.own_one 5 rfl | exact hS5.own_one 9 rfl) (i := 1) rfl (by first | decide | exact Nat.le_of_ble_eq_true rfl | (simp; done) | omega) ?_) | (refine wl_store hS5 rfl rfl sz_3 (by first | rfl | assumption | exact hS5.own_one 5 rfl | exact hS5.own_one 9 rfl) (i := 2) rfl (by first | decide | exact Nat.le_of_ble_eq_true rfl | (simp; done) | omega) ?_)
  intro w7 hS8; dsimp only [List.set] at hS8
  clear hS5
  refine wl_nil (qs_seq ?_)
  refine wc_sub (L' := [(5, _), (4, _), (3, _), (0, _)]) (.cons rfl (.cons rfl (.cons rfl (.cons rfl .nil)))) ?_
  refine wc_seq (wc_region ?_)
  refine wl_fieldAddr rfl fo_76_0 rfl ?_
  refine wl_load rfl ag_3 (by first | assumption | exact hS8.cell 0 rfl rfl | exact hS8.cell 1 rfl rfl | exact hS8.cell 2 rfl rfl) rfl ?_
  refine wl_gtr rfl rfl rfl ?_
  refine wl_nil (qs_seq ?_)
  refine wc_condD rfl (fun h9 => ?_) (fun h9 => ?_)
  ·refine wc_seq ?_
   have hS10 := hS8.drew
   refine wc_draw [0, 1, 2, 3, 4, 5, 6] [6] mix (by kernel_rfl) ?_
   refine vc_p rfl rfl rfl (fun _ => (ev_move rfl)) ?_
   refine vc_p rfl rfl rfl (fun _ => (ev_nilCheck rfl)) ?_
   refine vc_p rfl rfl rfl (fun _ => (ev_fieldAddr rfl fo_65_0)) ?_
   refine vc_q rfl rfl rfl (ev_load rfl ag_56 (by first | assumption | exact hS10.cell 0 rfl rfl | exact hS10.cell 1 rfl rfl | exact hS10.cell 2 rfl rfl)) ?_
   refine vc_q rfl rfl rfl (ev_load rfl ag_3 (by first | assumption | exact hS10.cell 0 rfl rfl | exact hS10.cell 1 rfl rfl | exact hS10.cell 2 rfl rfl)) ?_
   refine vc_q rfl rfl rfl (ev_loadA rfl ag_76 sz_76 (by first | exact hS10.blk 0 rfl | exact hS10.blk 1 rfl | exact hS10.blk 2 rfl) (by first | decide | exact Nat.le_of_ble_eq_true rfl | (simp; done) | omega) rfl) ?_
   refine vc_s rfl rfl rfl rfl rfl rfl ?_
   refine wl_mapUpdate (k := id) (v := shV { x with refs := x.refs - 1 }) 3 hS10 keysInt Tryz.underlying56 rfl rfl rfl rfl ?_
   intro w11 hS11a; dsimp only [List.set] at hS11a; have hS11 := hS11a; rw [aG_up] at hS11
   clear hS10
   refine vc_e0 (.skip (by kernel_rfl) (.skip (by kernel_rfl) (.skip (by kernel_rfl) .nil))) ?_
   refine VC.nil (qs_seq ?_)
   refine wc_sub (L' := [(5, _), (4, _), (3, _), (0, _)]) (.cons rfl (.cons rfl (.cons rfl (.cons rfl .nil)))) ?_
   refine wc_seq (wc_region (wl_assign rfl rfl (wl_nil (qs_seq (wc_ret (qs_then_ret ?_))))))
   refine fin1 (.inr rfl) rfl rfl ?_
   exact ⟨_, rfl, rfl, .inl ⟨by omega, shT_shut (S := { S with all := up S.all id (some { x with refs := x.refs - 1 }) }) (hS11.pick [2, 3, 4, 5, 6, 7, 8, 9, 10] rfl)⟩⟩
  refine wc_skip (qs_seq (wc_seq (wc_seq (wc_region ?_))))
  refine wl_fieldAddr rfl fo_76_1 rfl ?_
  refine wl_load rfl ag_3 (by first | assumption | exact hS8.cell 0 rfl rfl | exact hS8.cell 1 rfl rfl | exact hS8.cell 2 rfl rfl) rfl ?_
  refine wl_nil (qs_seq (wc_block (wc_seq (wc_region ?_))))
  refine wl_eql rfl rfl rfl ?_
  refine wl_assign rfl rfl (wl_nil (qs_seq ?_))
  refine wc_sub (L' := [(35, _), (34, _), (5, _), (4, _), (3, _), (0, _)]) (.cons rfl (.cons rfl (.cons rfl (.cons rfl (.cons rfl (.cons rfl .nil)))))) ?_
  refine wc_condD rfl (fun h12 => ?_) (fun h12 => ?_)
  ·have hp1 : x.place = 1 := h12
   refine wc_region (wl_move rfl rfl ?_)
   refine wl_fieldAddr rfl fo_76_2 rfl ?_
   refine wl_load rfl ag_3 (by first | assumption | exact hS8.cell 0 rfl rfl | exact hS8.cell 1 rfl rfl | exact hS8.cell 2 rfl rfl) rfl ?_
   have hS13 := shT_shut (hS8.pick [2, 3, 4, 5, 6, 7, 8, 9, 0, 1, 10] rfl)
   have hC14 := hS13.split [0] [true, false, false, false] rfl; dsimp only [selF, pickA, nthA, List.cons_append, List.nil_append] at hC14
   refine wl_call cal_65 rfl (shgive_sp hC14 (f := x.at_) (b0 := x.pg) (hI.frc (fun q => q) hid hp1) (by show S.ck.length = S.fr.length; rw [hI.ck, List.length_map]) (by have := hI.tln; omega)) rfl ?_
   rintro e w14 ⟨_, rfl, rfl, hS14⟩; refine ⟨_, rfl, ?_⟩
   replace hS14 := hS14.join rfl; dsimp only [List.dropLast, List.cons_append, List.nil_append] at hS14; clear hC14
   clear hS13
   obtain ⟨ba, bi, fp, sp, kp, ac, cc, at2, ct, hSo15⟩ := shT_open (hS14.pick [0, 1, 2, 3] rfl)
   refine wl_nil (qs_block_normal (qs_seq (wc_seq ?_)))
   have hS16 := hSo15.drew
   refine wc_draw [0, 1, 2, 3, 4, 5] [5] mix (by kernel_rfl) ?_
   refine vc_p rfl rfl rfl (fun _ => (ev_move rfl)) ?_
   refine vc_p rfl rfl rfl (fun _ => (ev_nilCheck rfl)) ?_
   refine vc_p rfl rfl rfl (fun _ => (ev_fieldAddr rfl fo_65_0)) ?_
   refine vc_q rfl rfl rfl (ev_load rfl ag_56 (by first | assumption | exact hS16.cell 0 rfl rfl | exact hS16.cell 8 rfl rfl | exact hS16.cell 9 rfl rfl)) ?_
   refine vc_q rfl rfl rfl (ev_load rfl ag_3 (by first | assumption | exact hS16.cell 0 rfl rfl | exact hS16.cell 8 rfl rfl | exact hS16.cell 9 rfl rfl)) ?_
   refine vc_s rfl rfl rfl rfl rfl rfl ?_
   refine wl_delete (k := id) 1 hS16 keysInt Tryz.underlying56 rfl rfl rfl rfl ?_
   intro w17 hS17; dsimp only [List.set] at hS17; rw [aG_del] at hS17
   clear hS16
   refine vc_e0 (.skip (by kernel_rfl) (.skip (by kernel_rfl) .nil)) ?_
   refine VC.nil (qs_seq ?_)
   refine wc_sub (L' := [(4, _)]) (.cons rfl .nil) ?_
   refine wc_seq (wc_region (wl_assign rfl rfl (wl_nil (qs_seq (wc_ret ?_)))))
   refine fin1 (.inr rfl) rfl rfl ?_
   exact ⟨_, rfl, rfl, .inr ⟨by omega, _, del_frame hI hid hp1, shT_shut (S := { offFrame S x.at_ with all := up S.all id none }) (hS17.pick [0, 1, 2, 3, 4, 5, 6, 7, 10] rfl)⟩⟩
  refine wc_seq (wc_region ?_)
  refine wl_eql rfl rfl rfl ?_
  refine wl_assign rfl rfl (wl_nil (qs_seq ?_))
  refine wc_condD rfl (fun h18 => ?_) (fun h18 => ?_)
  ·have hp2 : x.place = 2 := h18
   refine wc_region (wl_move rfl rfl (wl_move rfl rfl (wl_nilCheck rfl rfl ?_)))
   refine wl_fieldAddr rfl fo_65_2 rfl ?_
   refine wl_load rfl ag_28 (by first | assumption | exact hS8.cell 0 rfl rfl | exact hS8.cell 1 rfl rfl | exact hS8.cell 2 rfl rfl) rfl ?_
   have hC19 := hS8.split [] [false, false, false, false, false, false, false, false, false, false, false] rfl; dsimp only [selF, pickA, nthA, List.cons_append, List.nil_append] at hC19
   refine wl_call cal_55 rfl (cloneI_sp hC19 (Ent.starL (ent_row (C := inC) (l := S.cache) (by have := hI.cln; omega)) 5 rfl) (by have := hI.cln; omega)) rfl ?_
   rintro e w19 ⟨_, rfl, hS19⟩; refine ⟨_, rfl, ?_⟩
   replace hS19 := hS19.join rfl; dsimp only [List.dropLast, List.cons_append, List.nil_append] at hS19; clear hC19
   clear hS8
   have h1n := hS19.own_one 0 rfl
   refine wl_makeFunc rfl rfl ?_
   have hC20 := hS19.split [0, 2] [true, false, true, false, false, false, false, false, false, false, false, false] rfl; dsimp only [selF, pickA, nthA, List.cons_append, List.nil_append] at hC20
   refine wl_call cal_59 rfl (delI_sp (eqU _ id) hC20 (by have := hI.cln; omega)) rfl ?_
   rintro e w20 ⟨_, rfl, hS20⟩; refine ⟨_, rfl, ?_⟩
   replace hS20 := hS20.join rfl; dsimp only [List.dropLast, List.cons_append, List.nil_append] at hS20; clear hC20
   clear hS19
   have h1d := hS20.own_one 0 rfl
   refine wl_nilCheck rfl rfl ?_
   refine wl_fieldAddr rfl fo_65_2 rfl ?_
   first | (refine wl_store hS20 rfl rfl sz_28 (by first | rfl | assumption | exact hS20.own_one 0 rfl | exact hS20.own_one 6 rfl | exact hS20.own_one 10 rfl) (i := 1) rfl (by first | decide | exact Nat.le_of_ble_eq_true rfl | (simp; done) | omega) ?_) | (refine wl_store hS20 rfl rfl sz_28 (by first | rfl | assumption | exact hS20.own_one 0 rfl | exact hS20.own_one 6 rfl | exact hS20.own_one 10 rfl) (i := 2) rfl (by first | decide | exact Nat.le_of_ble_eq_true rfl | (simp; done) | omega) ?_) | (refine wl_store hS20 rfl rfl sz_28 (by first | rfl | assumption | exact hS20.own_one 0 rfl | exact hS20.own_one 6 rfl | exact hS20.own_one 10 rfl) (i := 3) rfl (by first | decide | exact Nat.le_of_ble_eq_true rfl | (simp; done) | omega) ?_)
   intro w21 hS22; dsimp only [List.set] at hS22
   clear hS20
   refine wl_nil (qs_block_normal (qs_seq ?_))
   refine wc_sub (L' := [(4, _), (3, _), (0, _)]) (.cons rfl (.cons rfl (.cons rfl .nil))) ?_
   refine wc_seq ?_
   have hS23 := hS22.drew
   refine wc_draw [0, 1, 2, 3, 4, 5] [5] mix (by kernel_rfl) ?_
   refine vc_p rfl rfl rfl (fun _ => (ev_move rfl)) ?_
   refine vc_p rfl rfl rfl (fun _ => (ev_nilCheck rfl)) ?_
   refine vc_p rfl rfl rfl (fun _ => (ev_fieldAddr rfl fo_65_0)) ?_
   refine vc_q rfl rfl rfl (ev_load rfl ag_56 (by first | assumption | exact hS23.cell 1 rfl rfl | exact hS23.cell 2 rfl rfl | exact hS23.cell 3 rfl rfl)) ?_
   refine vc_q rfl rfl rfl (ev_load rfl ag_3 (by first | assumption | exact hS23.cell 1 rfl rfl | exact hS23.cell 2 rfl rfl | exact hS23.cell 3 rfl rfl)) ?_
   refine vc_s rfl rfl rfl rfl rfl rfl ?_
   refine wl_delete (k := id) 4 hS23 keysInt Tryz.underlying56 rfl rfl rfl rfl ?_
   intro w24 hS24; dsimp only [List.set] at hS24; rw [aG_del] at hS24
   clear hS23
   refine vc_e0 (.skip (by kernel_rfl) (.skip (by kernel_rfl) .nil)) ?_
   refine VC.nil (qs_seq (wc_seq (wc_region (wl_assign rfl rfl (wl_nil (qs_seq (wc_ret ?_)))))))
   refine fin1 (.inr rfl) rfl rfl ?_
   exact ⟨_, rfl, rfl, .inr ⟨by omega, _, del_cache hI hid hp2, shT_shut (S := { S with cache := S.cache.filter (fun n => !decide (n = id)), all := up S.all id none }) (hS24.pick [3, 4, 5, 0, 7, 8, 9, 10, 11] rfl)⟩⟩
  refine wc_seq (wc_region ?_)
  refine wl_eql rfl rfl rfl ?_
  refine wl_assign rfl rfl (wl_nil (qs_seq ?_))
  refine wc_condD rfl (fun h25 => ?_) (fun h25 => ?_)
  ·have hp3 : x.place = 3 := h25
   have hS26 := hS8.drew
   refine wc_draw [0, 1, 2, 3, 4, 5, 6] [6] mix (by kernel_rfl) ?_
   refine vc_p rfl rfl rfl (fun _ => (ev_move rfl)) ?_
   refine vc_p rfl rfl rfl (fun _ => (ev_nilCheck rfl)) ?_
   refine vc_p rfl rfl rfl (fun _ => (ev_fieldAddr rfl fo_65_4)) ?_
   refine vc_q rfl rfl rfl (ev_load rfl ag_60 (by first | assumption | exact hS26.cell 0 rfl rfl | exact hS26.cell 1 rfl rfl | exact hS26.cell 2 rfl rfl)) ?_
   refine vc_p rfl rfl rfl (fun _ => (ev_fieldAddr rfl fo_76_2)) ?_
   refine vc_q rfl rfl rfl (ev_load rfl ag_3 (by first | assumption | exact hS26.cell 0 rfl rfl | exact hS26.cell 1 rfl rfl | exact hS26.cell 2 rfl rfl)) ?_
   refine vc_s rfl rfl rfl rfl rfl rfl ?_
   have hC27 := hS26.split [7] [false, false, false, false, false, false, false, true, false, false, false] rfl; dsimp only [selF, pickA, nthA, List.cons_append, List.nil_append] at hC27
   refine wl_call cal_61 rfl (swfree_sp hC27 x.at_) rfl ?_
   rintro e w27 ⟨_, rfl, rfl, hS27⟩; refine ⟨_, rfl, ?_⟩
   replace hS27 := hS27.join rfl; dsimp only [List.dropLast, List.cons_append, List.nil_append] at hS27; clear hC27
   clear hS26
   rw [(slot_has hI (fun q => q) hid hp3).2.2] at hS27
   refine vc_e (.skip (by kernel_rfl) (.skip (by kernel_rfl) .nil)) ?_
   refine VC.nil (qs_block_normal (qs_seq ?_))
   refine wc_sub (L' := [(4, _), (3, _), (0, _)]) (.cons rfl (.cons rfl (.cons rfl .nil))) ?_
   refine wc_seq ?_
   have hS28 := hS27.drew
   refine wc_draw [0, 1, 2, 3, 4, 5] [5] mix (by kernel_rfl) ?_
   refine vc_p rfl rfl rfl (fun _ => (ev_move rfl)) ?_
   refine vc_p rfl rfl rfl (fun _ => (ev_nilCheck rfl)) ?_
   refine vc_p rfl rfl rfl (fun _ => (ev_fieldAddr rfl fo_65_0)) ?_
   refine vc_q rfl rfl rfl (ev_load rfl ag_56 (by first | assumption | exact hS28.cell 1 rfl rfl | exact hS28.cell 2 rfl rfl | exact hS28.cell 3 rfl rfl)) ?_
   refine vc_q rfl rfl rfl (ev_load rfl ag_3 (by first | assumption | exact hS28.cell 1 rfl rfl | exact hS28.cell 2 rfl rfl | exact hS28.cell 3 rfl rfl)) ?_
   refine vc_s rfl rfl rfl rfl rfl rfl ?_
   refine wl_delete (k := id) 4 hS28 keysInt Tryz.underlying56 rfl rfl rfl rfl ?_
   intro w29 hS29; dsimp only [List.set] at hS29; rw [aG_del] at hS29
   clear hS28
   refine vc_e0 (.skip (by kernel_rfl) (.skip (by kernel_rfl) .nil)) ?_
   refine VC.nil (qs_seq (wc_seq (wc_region (wl_assign rfl rfl (wl_nil (qs_seq (wc_ret ?_)))))))
   refine fin1 (.inr rfl) rfl rfl ?_
   exact ⟨_, rfl, rfl, .inr ⟨by omega, _, del_slot hI hid hp3, shT_shut (S := { S with sl := S.sl.set x.at_.toNat [], all := up S.all id none }) (hS29.pick [3, 4, 5, 6, 7, 0, 8, 9, 10] rfl)⟩⟩
  exact absurd hplc (by omega)
set_option maxRecDepth 100000 in
set_option maxHeartbeats 1600000 in
theorem shpage_sp {w : World} {p : Nat} {S : SS} {F : Th} (hS : Sat w [shT p S, F]) {E : Int → Prop} {N : Nat} (hI : ShI E N S) (id : Int) (hE : ¬ E id) :
    Calls Tryz.prog 21 #[ptrV p 0, intV id] w (Ret fun v w' => v = strV (shPg S id) ∧ Sat w' [shT p S, F]) := by
 obtain ⟨ba, bi, fp, sp, kp, ac, cc, at2, ct, hS⟩ := shT_open hS
 cases hid : S.all id with
 | none =>
  refine calls_enter Tryz.func21 rfl Tryz.ntmps21 rfl ?_
  refine wc_seq (wc_region (wl_assign rfl rfl (wl_nil (qs_seq (wc_seq (wc_region (wl_move rfl rfl (wl_nilCheck rfl rfl ?_))))))))
  refine wl_fieldAddr rfl fo_65_0 rfl ?_
  refine wl_load rfl ag_56 (by first | assumption | exact hS.cell 0 rfl rfl) rfl ?_
  refine wl_move rfl rfl ?_
  refine wl_lookupOk (k := id) 1 hS keysInt Tryz.underlying56 rfl rfl rfl zr_76 (u := (.agg #[intV 0, intV 0, intV 0, strV []])) (g := false) (aG_none hid) (aG_none2 hid) rfl ?_
  refine wl_move rfl rfl (wl_extract rfl rfl rfl (wl_extract rfl rfl rfl ?_))
  refine wl_alloc hS zr_76 rfl rfl ?_
  intro b1 w1 hS1
  first | (refine wl_storeA hS1 rfl rfl sz_76 rfl (by first | rfl | (simp [allOne, Value.oneCell']; done) | assumption | exact hone) (i := 0) rfl (by first | decide | exact Nat.le_of_ble_eq_true rfl | (simp; done) | omega) ?_) | (refine wl_storeA hS1 rfl rfl sz_76 rfl (by first | rfl | (simp [allOne, Value.oneCell']; done) | assumption | exact hone) (i := 1) rfl (by first | decide | exact Nat.le_of_ble_eq_true rfl | (simp; done) | omega) ?_)
  intro w2 hS3; dsimp only [List.set] at hS3
  clear hS1
  refine wl_assign rfl rfl (wl_nil (qs_seq ?_))
  refine wc_sub (L' := [(6, _), (5, _), (4, _), (0, _), (1, _)]) (.cons rfl (.cons rfl (.cons rfl (.cons rfl (.cons rfl .nil))))) ?_
  refine wc_seq (wc_block (wc_seq (wc_region (wl_move rfl rfl ?_))))
  refine wl_eql rfl rfl rfl ?_
  refine wl_assign rfl rfl (wl_nil (qs_seq ?_))
  refine wc_condD rfl (fun h4 => ?_) (fun h4 => ?_)
  ·refine wc_seq (wc_region ?_)
   have hC5 := hS3.split [] [false, false, false, false, false, false, false, false, false, false] rfl; dsimp only [selF, pickA, nthA, List.cons_append, List.nil_append] at hC5
   refine wl_call cal_49 rfl (clone_sp hC5 zer (by decide)) rfl ?_
   rintro e w5 ⟨_, rfl, rfl, hS5⟩; refine ⟨_, rfl, ?_⟩
   replace hS5 := hS5.join rfl; dsimp only [List.dropLast, List.cons_append, List.nil_append] at hS5; clear hC5
   clear hS3
   refine wl_assign rfl rfl (wl_nil (qs_seq (wc_ret (qs_block_ret (qs_then_ret ?_)))))
   refine fin1 (.inr rfl) rfl rfl ?_
   exact ⟨_, rfl, by unfold shPg; rw [hid]; dsimp only; rw [if_pos (by omega)], shT_shut (hS5.pick [1, 2, 3, 4, 5, 6, 7, 8, 9] rfl)⟩
  refine wc_seq (wc_region (wl_move rfl rfl ?_))
  refine wl_not rfl rfl ?_
  refine wl_assign rfl rfl (wl_nil (qs_seq ?_))
  refine wc_sub (L' := [(24, _), (5, _), (4, _), (0, _)]) (.cons rfl (.cons rfl (.cons rfl (.cons rfl .nil)))) ?_
  refine wc_cond rfl (fun h6 => ?_) (fun h6 => ?_)
  ·refine wc_seq (wc_region (wl_assign rfl rfl (wl_nil (qs_seq (wc_ret (qs_block_ret (qs_then_ret ?_)))))))
   refine fin1 (.inr rfl) rfl rfl ?_
   exact ⟨_, rfl, by unfold shPg; rw [hid]; dsimp only; rw [if_neg (by omega)], shT_shut (hS3.pick [1, 2, 3, 4, 5, 6, 7, 8, 9] rfl)⟩
  exact absurd h6 (by simp)
 | some x =>
  obtain ⟨hid1, _, hr1, hr2, _, hplc⟩ := hI.ent hid
  refine calls_enter Tryz.func21 rfl Tryz.ntmps21 rfl ?_
  refine wc_seq (wc_region (wl_assign rfl rfl (wl_nil (qs_seq (wc_seq (wc_region (wl_move rfl rfl (wl_nilCheck rfl rfl ?_))))))))
  refine wl_fieldAddr rfl fo_65_0 rfl ?_
  refine wl_load rfl ag_56 (by first | assumption | exact hS.cell 0 rfl rfl) rfl ?_
  refine wl_move rfl rfl ?_
  refine wl_lookupOk (k := id) 1 hS keysInt Tryz.underlying56 rfl rfl rfl zr_76 (u := (.agg #[intV x.refs, intV x.place, intV x.at_, strV (fmE x)])) (g := true) (aG_some hid) (aG_some2 hid) rfl ?_
  refine wl_move rfl rfl (wl_extract rfl rfl rfl (wl_extract rfl rfl rfl ?_))
  refine wl_alloc hS zr_76 rfl rfl ?_
  intro b1 w1 hS1
  first | (refine wl_storeA hS1 rfl rfl sz_76 rfl (by first | rfl | (simp [allOne, Value.oneCell']; done) | assumption | exact hone) (i := 0) rfl (by first | decide | exact Nat.le_of_ble_eq_true rfl | (simp; done) | omega) ?_) | (refine wl_storeA hS1 rfl rfl sz_76 rfl (by first | rfl | (simp [allOne, Value.oneCell']; done) | assumption | exact hone) (i := 1) rfl (by first | decide | exact Nat.le_of_ble_eq_true rfl | (simp; done) | omega) ?_)
  intro w2 hS3; dsimp only [List.set] at hS3
  clear hS1
  refine wl_assign rfl rfl (wl_nil (qs_seq ?_))
  refine wc_sub (L' := [(6, _), (5, _), (4, _), (0, _), (1, _)]) (.cons rfl (.cons rfl (.cons rfl (.cons rfl (.cons rfl .nil))))) ?_
  refine wc_seq (wc_block (wc_seq (wc_region (wl_move rfl rfl ?_))))
  refine wl_eql rfl rfl rfl ?_
  refine wl_assign rfl rfl (wl_nil (qs_seq ?_))
  refine wc_condD rfl (fun h4 => ?_) (fun h4 => ?_)
  ·exact absurd h4 (by omega)
  refine wc_seq (wc_region (wl_move rfl rfl ?_))
  refine wl_not rfl rfl ?_
  refine wl_assign rfl rfl (wl_nil (qs_seq ?_))
  refine wc_sub (L' := [(24, _), (5, _), (4, _), (0, _)]) (.cons rfl (.cons rfl (.cons rfl (.cons rfl .nil)))) ?_
  refine wc_cond rfl (fun h5 => ?_) (fun h5 => ?_)
  ·exact absurd h5 (by simp)
  refine wc_seq (wc_region ?_)
  refine wl_fieldAddr rfl fo_76_1 rfl ?_
  refine wl_load rfl ag_3 (by first | assumption | exact hS3.cell 0 rfl rfl | exact hS3.cell 1 rfl rfl) rfl ?_
  refine wl_eql rfl rfl rfl ?_
  refine wl_assign rfl rfl (wl_nil (qs_seq ?_))
  refine wc_condD rfl (fun h6 => ?_) (fun h6 => ?_)
  ·have hp1 : x.place = 1 := h6
   refine wc_seq ?_
   have hS7 := hS3.drew
   refine wc_draw [0, 1, 2, 3, 4, 5, 6, 7] [6] mix (by kernel_rfl) ?_
   refine vc_p rfl rfl rfl (fun _ => (ev_move rfl)) ?_
   refine vc_p rfl rfl rfl (fun _ => (ev_nilCheck rfl)) ?_
   refine vc_p rfl rfl rfl (fun _ => (ev_fieldAddr rfl fo_65_3)) ?_
   refine vc_q rfl rfl rfl (ev_load rfl ag_58 (by first | assumption | exact hS7.cell 0 rfl rfl | exact hS7.cell 1 rfl rfl)) ?_
   refine vc_p rfl rfl rfl (fun _ => (ev_fieldAddr rfl fo_76_2)) ?_
   refine vc_q rfl rfl rfl (ev_load rfl ag_3 (by first | assumption | exact hS7.cell 0 rfl rfl | exact hS7.cell 1 rfl rfl)) ?_
   refine vc_s rfl rfl rfl rfl rfl rfl ?_
   have hC8 := hS7.split [5] [false, false, false, false, false, true, false, false, false, false] rfl; dsimp only [selF, pickA, nthA, List.cons_append, List.nil_append] at hC8
   refine wl_call cal_50 rfl (frpage_sp hC8 x.at_) rfl ?_
   rintro e w8 ⟨_, rfl, rfl, hS8⟩; refine ⟨_, rfl, ?_⟩
   replace hS8 := hS8.join rfl; dsimp only [List.dropLast, List.cons_append, List.nil_append] at hS8; clear hC8
   clear hS7
   rw [hI.frc hE hid hp1]
   dsimp only [Option.getD_some]
   refine vc_e (.skip (by kernel_rfl) (.skip (by kernel_rfl) .nil)) ?_
   refine vc_p rfl rfl rfl (fun _ => (ev_assign rfl)) ?_
   refine VC.nil (qs_seq ?_)
   refine wc_sub (L' := [(4, _), (5, _), (0, _)]) (.cons rfl (.cons rfl (.cons rfl .nil))) ?_
   refine wc_ret (qs_block_ret (qs_then_ret ?_))
   refine fin1 (.inr rfl) rfl rfl ?_
   exact ⟨_, rfl, by unfold shPg; rw [hid], shT_shut (hS8.pick [2, 3, 4, 5, 0, 6, 7, 8, 9] rfl)⟩
  refine wc_seq (wc_region ?_)
  refine wl_fieldAddr rfl fo_76_1 rfl ?_
  refine wl_load rfl ag_3 (by first | assumption | exact hS3.cell 0 rfl rfl | exact hS3.cell 1 rfl rfl) rfl ?_
  refine wl_eql rfl rfl rfl ?_
  refine wl_assign rfl rfl (wl_nil (qs_seq ?_))
  refine wc_sub (L' := [(38, _), (5, _), (4, _), (0, _)]) (.cons rfl (.cons rfl (.cons rfl (.cons rfl .nil)))) ?_
  refine wc_condD rfl (fun h9 => ?_) (fun h9 => ?_)
  ·have hp2 : x.place = 2 := h9
   refine wc_seq (wc_region ?_)
   refine wl_fieldAddr rfl fo_76_3 rfl ?_
   refine wl_load rfl ag_9 (by first | assumption | exact hS3.cell 0 rfl rfl | exact hS3.cell 1 rfl rfl) rfl ?_
   obtain ⟨fy, hfy⟩ := Option.ne_none_iff_exists'.1 (hI.pck hE hid hp2).2
   have hfme : fmE x = fy := by unfold fmE fm; rw [if_pos hp2, hfy]; rfl
   have hC10 := hS3.split [] [false, false, false, false, false, false, false, false, false, false] rfl; dsimp only [selF, pickA, nthA, List.cons_append, List.nil_append] at hC10
   refine wl_call cal_51 rfl (unpack_sp hC10 (hI.ent hid).2.2.2.2.1 (by rw [hfme]; exact hfy)) rfl ?_
   rintro e w10 ⟨_, rfl, rfl, hS10⟩; refine ⟨_, rfl, ?_⟩
   replace hS10 := hS10.join rfl; dsimp only [List.dropLast, List.cons_append, List.nil_append] at hS10; clear hC10
   clear hS3
   refine wl_move rfl rfl (wl_extract rfl rfl rfl (wl_extract rfl rfl rfl (wl_assign rfl rfl (wl_assign rfl rfl (wl_nil (qs_seq ?_))))))
   refine wc_sub (L' := [(7, _), (5, _), (4, _), (0, _)]) (.cons rfl (.cons rfl (.cons rfl (.cons rfl .nil)))) ?_
   refine wc_seq (wc_region (wl_move rfl rfl (wl_assign rfl rfl (wl_nil (qs_seq (wc_ret (qs_block_ret (qs_then_ret ?_))))))))
   refine fin1 (.inr rfl) rfl rfl ?_
   exact ⟨_, rfl, by unfold shPg; rw [hid], shT_shut (hS10.pick [1, 2, 3, 4, 5, 6, 7, 8, 9] rfl)⟩
  refine wc_skip (qs_block_normal (qs_seq (wc_seq ?_)))
  have hp3 : x.place = 3 := by omega
  have hS11 := hS3.drew
  refine wc_draw [0, 1, 2, 3, 4, 5, 6, 7, 8, 9, 10, 11] [6] mix (by kernel_rfl) ?_
  refine vc_p rfl rfl rfl (fun _ => (ev_move rfl)) ?_
  refine vc_p rfl rfl rfl (fun _ => (ev_nilCheck rfl)) ?_
  refine vc_p rfl rfl rfl (fun _ => (ev_fieldAddr rfl fo_65_4)) ?_
  refine vc_q rfl rfl rfl (ev_load rfl ag_60 (by first | assumption | exact hS11.cell 0 rfl rfl | exact hS11.cell 1 rfl rfl)) ?_
  refine vc_p rfl rfl rfl (fun _ => (ev_fieldAddr rfl fo_76_2)) ?_
  refine vc_q rfl rfl rfl (ev_load rfl ag_3 (by first | assumption | exact hS11.cell 0 rfl rfl | exact hS11.cell 1 rfl rfl)) ?_
  refine vc_s rfl rfl rfl rfl rfl rfl ?_
  have hC12 := hS11.split [6] [false, false, false, false, false, false, true, false, false, false] rfl; dsimp only [selF, pickA, nthA, List.cons_append, List.nil_append] at hC12
  refine wl_call cal_52 rfl (swget_sp hC12 x.at_) rfl ?_
  rintro e w12 ⟨_, rfl, eg, rfl, hS12⟩; refine ⟨_, rfl, ?_⟩
  replace hS12 := hS12.join rfl; dsimp only [List.dropLast, List.cons_append, List.nil_append] at hS12; clear hC12
  clear hS11
  rw [(slot_has hI hE hid hp3).2.1]
  refine vc_e (.skip (by kernel_rfl) (.skip (by kernel_rfl) .nil)) ?_
  refine vc_p rfl rfl rfl (fun _ => (ev_move rfl)) ?_
  refine vc_p rfl rfl rfl (fun _ => (ev_extract rfl rfl)) ?_
  refine vc_p rfl rfl rfl (fun _ => (ev_extract rfl rfl)) ?_
  refine vc_p rfl rfl rfl (fun _ => (ev_assign rfl)) ?_
  refine vc_p rfl rfl rfl (fun _ => (ev_assign rfl)) ?_
  refine VC.nil (qs_seq ?_)
  refine wc_sub (L' := [(9, _), (4, _)]) (.cons rfl (.cons rfl .nil)) ?_
  refine wc_seq (wc_region (wl_move rfl rfl (wl_assign rfl rfl (wl_nil (qs_seq (wc_ret ?_))))))
  refine fin1 (.inr rfl) rfl rfl ?_
  exact ⟨_, rfl, by unfold shPg; rw [hid], shT_shut (hS12.pick [2, 3, 4, 5, 6, 0, 7, 8, 9] rfl)⟩
def shBt (S : SS) (id at_ : Int) : UInt8 := if 0 ≤ at_ ∧ at_ < 64 then (shPg S id).getD at_.toNat 0 else 0
theorem page_len {E : Int → Prop} {N : Nat} {S : SS} (hI : ShI E N S) (id : Int) : (shPg S id).length = 64 ∨ shPg S id = [] := by
  unfold shPg
  cases hid : S.all id with
  | none => dsimp only; split; (left; decide); right; rfl
  | some x => exact .inl (hI.ent hid).2.2.2.2.1
theorem shbyte_sp {w : World} {p : Nat} {S : SS} {F : Th} (hS : Sat w [shT p S, F]) {N : Nat} (hI : ShI no0 N S) (hN : N ≤ 800000) (id at_ : Int) :
    Calls Tryz.prog 28 #[ptrV p 0, intV id, intV at_] w (Ret fun v w' => v = byteV (shBt S id at_) ∧ Sat w' [shT p S, F]) := by
 refine calls_enter Tryz.func28 rfl Tryz.ntmps28 rfl ?_
 refine wc_seq (wc_region (wl_assign rfl rfl (wl_nil (qs_seq (wc_seq (wc_seq (wc_region (wl_move rfl rfl ?_))))))))
 refine wl_lss rfl rfl rfl ?_
 refine wl_move rfl rfl ?_
 refine wl_splitD 10 rfl (fun h1 => ?_) (fun h1 => ?_)
 ·refine wl_unwanted rfl rfl (decide_eq_true h1) rfl ?_
  refine wl_unwanted rfl rfl (decide_eq_true h1) rfl ?_
  refine wl_pickT rfl (decide_eq_true h1) rfl rfl ?_
  refine wl_nil (qs_seq ?_)
  refine wc_condT rfl ?_
  refine wc_seq (wc_region (wl_assign rfl rfl (wl_nil (qs_seq (wc_ret (qs_then_ret ?_))))))
  refine fin1 (.inr rfl) rfl rfl ?_
  exact ⟨_, rfl, by unfold shBt; rw [if_neg (by omega)]; rfl, hS.pick [0, 1] rfl⟩
 refine wl_guard rfl rfl (decide_eq_false h1) ?_
 refine wl_move rfl rfl ?_
 refine wl_guard rfl rfl (decide_eq_false h1) ?_
 refine wl_geq rfl rfl rfl ?_
 refine wl_pickF rfl (decide_eq_false h1) rfl rfl ?_
 refine wl_nil (qs_seq ?_)
 refine wc_condD rfl (fun h2 => ?_) (fun h2 => ?_)
 ·refine wc_seq (wc_region (wl_assign rfl rfl (wl_nil (qs_seq (wc_ret (qs_then_ret ?_))))))
  refine fin1 (.inr rfl) rfl rfl ?_
  exact ⟨_, rfl, by unfold shBt; rw [if_neg (by omega)]; rfl, hS.pick [0, 1] rfl⟩
 refine wc_skip (qs_seq (wc_seq (wc_seq (wc_region (wl_move rfl rfl (wl_move rfl rfl ?_))))))
 have hC3 := hS.split [0] [true, false] rfl; dsimp only [selF, pickA, nthA, List.cons_append, List.nil_append] at hC3
 refine wl_call cal_21 rfl (shpage_sp hC3 hI id (fun q => q)) rfl ?_
 rintro e w3 ⟨_, rfl, rfl, hS3⟩; refine ⟨_, rfl, ?_⟩
 replace hS3 := hS3.join rfl; dsimp only [List.dropLast, List.cons_append, List.nil_append] at hS3; clear hC3
 refine wl_assign rfl rfl (wl_nil (qs_seq ?_))
 refine wc_sub (L' := [(7, _), (6, _), (2, _)]) (.cons rfl (.cons rfl (.cons rfl .nil))) ?_
 refine wc_seq (wc_region (wl_move rfl rfl ?_))
 refine wl_neqS rfl rfl rfl ?_
 refine wl_nil (qs_seq ?_)
 refine wc_condD rfl (fun h4 => ?_) (fun h4 => ?_)
 ·have hpn : shPg S id ≠ [] := h4
  obtain ⟨cb, hcb⟩ : ∃ c, (shPg S id)[at_.toNat]? = some c := ⟨_, List.getElem?_eq_getElem (by have := (page_len hI id).resolve_right hpn; omega)⟩
  refine wc_seq (wc_region (wl_move rfl rfl (wl_move rfl rfl ?_)))
  refine wl_indexS at_.toNat Tryz.underlying9 rfl rfl (by omega) hcb rfl ?_
  refine wl_assign rfl rfl (wl_nil (qs_seq (wc_ret (qs_then_ret ?_))))
  refine fin1 (.inr rfl) rfl rfl ?_
  exact ⟨_, rfl, by unfold shBt; rw [if_pos (by omega), List.getD_eq_getElem?_getD, hcb]; rfl, hS3.pick [0, 1] rfl⟩
 have hpn : ¬ shPg S id ≠ [] := h4
 refine wc_skip (qs_seq (wc_seq (wc_region (wl_assign rfl rfl (wl_nil (qs_seq (wc_ret ?_)))))))
 refine fin1 (.inr rfl) rfl rfl ?_
 exact ⟨_, rfl, by unfold shBt; rw [if_pos (by omega), show shPg S id = [] from Decidable.not_not.1 hpn]; rfl, hS3.pick [0, 1] rfl⟩
end Go.Proofs.YtnicmcdeoimhlaaGreat
/- sheets: New, Copy -/
namespace Go.Proofs.YtnicmcdeoimhlaaGreat
open Go.RowKit M
set_option linter.unusedVariables false
def newS (count slots budget : Int) : SS := ⟨fun _ => none, fun _ => none, [], List.replicate (min (max count 1) 256).toNat none, List.replicate (min (max slots 0) 4096).toNat [], List.replicate (min (max count 1) 256).toNat false, min (max slots 0) 4096, max budget 0, 1, []⟩
theorem newS_inv (count slots budget : Int) : ShI no0 0 (newS count slots budget) where
  ck := by simp [newS]
  fr1 := by simp [newS]; omega
  fr2 := by simp [newS]; omega
  slo := by simp [newS]; omega
  sl2 := by simp [newS]; omega
  bud := by simp [newS]; omega
  nx1 := by simp [newS]
  nx2 := by simp [newS]
  ent := fun h => by cases h
  frm := fun f j => ⟨fun h => (by cases h), fun ⟨_, x, h, _⟩ => (by cases h)⟩
  frc := fun _ h => by cases h
  fru := fun {f b} h => by
    obtain ⟨_, h⟩ := frAt_some h
    have : (newS count slots budget).fr = List.replicate (min (max count 1) 256).toNat none := rfl
    rw [this, List.getElem?_replicate] at h
    split at h
    · cases h
    · cases h
  pck := fun _ h => by cases h
  cch := fun h => by cases h
  nod := List.nodup_nil
  sum := by show ((0 : Nat) : Int) ≤ max budget 0; omega
  slt := fun _ h => by cases h
  slu := fun {k p} h hp => by
    have : (newS count slots budget).sl = List.replicate (min (max slots 0) 4096).toNat [] := rfl
    rw [this, List.getElem?_replicate] at h
    split at h
    · cases h; exact absurd rfl hp
    · cases h
  sli := fun _ _ h => by cases h
  cln := Nat.le_refl _
  tln := Nat.le_refl _
theorem aG_nil : (fun _ => none : Int → Option Value) = aG (fun _ => none) := rfl
set_option maxRecDepth 100000 in
set_option maxHeartbeats 1600000 in
theorem shnew_sp {w : World} {F : Th} (hS : Sat w [F]) (count slots budget : Int) :
    Calls Tryz.prog 9 #[intV count, intV slots, intV budget] w (Ret fun v w' => ∃ p, v = ptrV p 0 ∧ Sat w' [shT p (newS count slots budget), F]) := by
 refine calls_enter Tryz.func9 rfl Tryz.ntmps9 rfl ?_
 refine wc_seq (wc_region (wl_assign rfl rfl (wl_nil (qs_seq (wc_seq (wc_region (wl_move rfl rfl ?_)))))))
 refine wl_maxI rfl rfl rfl ?_
 refine wl_minI rfl rfl rfl ?_
 refine wl_move rfl rfl ?_
 refine wl_maxI rfl rfl rfl ?_
 refine wl_minI rfl rfl rfl ?_
 refine wl_assign rfl rfl (wl_assign rfl rfl (wl_nil (qs_seq (wc_seq (wc_region ?_)))))
 refine wl_makeMap intK hS rfl ?_
 intro mb1 w1 hS1; rw [aG_nil] at hS1
 refine wl_makeMap intK hS1 rfl ?_
 intro mb2 w2 hS2; rw [gI_none] at hS2
 clear hS1
 refine wl_move rfl rfl ?_
 have hC3 := hS2.split [] [false, false, false] rfl; dsimp only [selF, pickA, nthA, List.cons_append, List.nil_append] at hC3
 refine wl_call cal_29 rfl (frnew_sp hC3 (min (max count 1) 256)) rfl ?_
 rintro e w3 ⟨_, rfl, fpn, rfl, hS3⟩; refine ⟨_, rfl, ?_⟩
 replace hS3 := hS3.join rfl; dsimp only [List.dropLast, List.cons_append, List.nil_append] at hS3; clear hC3
 clear hS2
 refine wl_move rfl rfl ?_
 have hC4 := hS3.split [] [false, false, false, false] rfl; dsimp only [selF, pickA, nthA, List.cons_append, List.nil_append] at hC4
 refine wl_call cal_30 rfl (swnew_sp hC4 (min (max slots 0) 4096)) rfl ?_
 rintro e w4 ⟨_, rfl, spn, rfl, hS4⟩; refine ⟨_, rfl, ?_⟩
 replace hS4 := hS4.join rfl; dsimp only [List.dropLast, List.cons_append, List.nil_append] at hS4; clear hC4
 clear hS3
 refine wl_move rfl rfl ?_
 have hC5 := hS4.split [] [false, false, false, false, false] rfl; dsimp only [selF, pickA, nthA, List.cons_append, List.nil_append] at hC5
 refine wl_call cal_31 rfl (cknew_sp hC5 (min (max count 1) 256) (by omega)) rfl ?_
 rintro e w5 ⟨_, rfl, kpn, rfl, hS5⟩; refine ⟨_, rfl, ?_⟩
 replace hS5 := hS5.join rfl; dsimp only [List.dropLast, List.cons_append, List.nil_append] at hS5; clear hC5
 clear hS4
 refine wl_move rfl rfl (wl_move rfl rfl ?_)
 refine wl_maxI rfl rfl rfl ?_
 refine wl_buildS rfl pl_65_0_1_3_4_5_6_7_8 asz_65 zr_65 rfl rfl ?_
 refine wl_box hS5 rfl rfl rfl ?_
 intro bp wbp hSbp
 clear hS5
 refine wl_assign rfl rfl (wl_nil (qs_seq ?_))
 refine wc_sub (L' := [(6, _)]) (.cons rfl .nil) ?_
 refine wc_ret ?_
 refine fin1 (.inr rfl) rfl rfl ?_
 have hz := (hSbp.pick [0, 5, 4, 3, 2, 1, 6] rfl).row_nil inC
 have hz2 := (hz.reorder [1, 2, 3, 0, 4, 5, 6, 7] rfl).row_nil inC
 rw [show (min (max (min (max count 1) 256) 0) 4096).toNat = (min (max count 1) 256).toNat by omega] at hz2
 rw [show (max 0 (min (min (max slots 0) 4096) 4096)).toNat = (min (max slots 0) 4096).toNat by omega] at hz2
 exact ⟨_, rfl, _, rfl, shT_shut (S := newS count slots budget) (hz2.reorder [1, 2, 3, 4, 5, 6, 7, 0, 8] rfl)⟩
end Go.Proofs.YtnicmcdeoimhlaaGreat
