/- laws of sheets: the model -/
import Derived.Test.YtnicmcdeoimhlaaGreatSl1
namespace Go.Proofs.YtnicmcdeoimhlaaGreat
open Go.RowKit M
set_option linter.unusedVariables false
structure MoD where
  ids : List Int
  refs : List Int
  pages : List Bs
structure MRel (M : MoD) (V : Int → Option (Int × Bs)) : Prop where
  nod : M.ids.Nodup
  l1 : M.refs.length = M.ids.length
  l2 : M.pages.length = M.ids.length
  rel : ∀ {i : Nat} {j : Int}, M.ids[i]? = some j → ∃ r pg, M.refs[i]? = some r ∧ M.pages[i]? = some pg ∧ V j = some (r, pg)
  dom : ∀ {j : Int}, V j ≠ none → j ∈ M.ids
theorem MRel.nil : MRel ⟨[], [], []⟩ (fun _ => none) := ⟨List.nodup_nil, rfl, rfl, fun h => by simp at h, fun h => absurd rfl h⟩
theorem MRel.add {M : MoD} {V : Int → Option (Int × Bs)} {a : Int} {pg : Bs} (h : MRel M V) (hn : V a = none) : MRel ⟨M.ids ++ [a], M.refs ++ [1], M.pages ++ [pg]⟩ (up V a (some (1, pg))) := by
  have hna : a ∉ M.ids := fun q => by
    obtain ⟨i, hi⟩ := List.mem_iff_getElem?.1 q
    obtain ⟨r, p, _, _, h3⟩ := h.rel hi
    rw [hn] at h3; cases h3
  refine ⟨?_, by simp [h.l1], by simp [h.l2], fun {i j} hi => ?_, fun {j} hj => ?_⟩
  · refine List.nodup_append.2 ⟨h.nod, by simp, ?_⟩
    rintro x hx y hy rfl
    simp at hy; subst hy; exact hna hx
  · dsimp only at hi ⊢
    by_cases q : i < M.ids.length
    · rw [List.getElem?_append_left q] at hi
      obtain ⟨r, p, h1, h2, h3⟩ := h.rel hi
      refine ⟨r, p, by rw [List.getElem?_append_left (by rw [h.l1]; exact q)]; exact h1, by rw [List.getElem?_append_left (by rw [h.l2]; exact q)]; exact h2, ?_⟩
      rw [up_ne (fun e => hna (by rw [← e]; exact List.mem_of_getElem? hi))]; exact h3
    · have hl := (List.getElem?_eq_some_iff.1 hi).1
      simp only [List.length_append, List.length_cons, List.length_nil] at hl
      obtain rfl : i = M.ids.length := by omega
      simp at hi; subst hi
      refine ⟨1, pg, by rw [← h.l1]; simp, by rw [← h.l2]; simp, up_self⟩
  · by_cases q : j = a
    · subst q; simp
    · rw [up_ne q] at hj; exact List.mem_append_left _ (h.dom hj)
theorem MRel.idx {M : MoD} {V : Int → Option (Int × Bs)} {i k : Nat} {j : Int} (h : MRel M V) (h1 : M.ids[i]? = some j) (h2 : M.ids[k]? = some j) : i = k := by
  obtain ⟨a, ha⟩ := List.getElem?_eq_some_iff.1 h1
  obtain ⟨b, hb⟩ := List.getElem?_eq_some_iff.1 h2
  rcases Nat.lt_trichotomy i k with q | q | q
  · exact absurd (ha.trans hb.symm) ((List.pairwise_iff_getElem.1 h.nod) i k a b q)
  · exact q
  · exact absurd (hb.trans ha.symm) ((List.pairwise_iff_getElem.1 h.nod) k i b a q)
theorem MRel.set {M : MoD} {V : Int → Option (Int × Bs)} {k : Nat} {id r r' : Int} {pg pg' : Bs} (h : MRel M V) (hk : M.ids[k]? = some id) (hV : V id = some (r, pg)) : MRel ⟨M.ids, M.refs.set k r', M.pages.set k pg'⟩ (up V id (some (r', pg'))) := by
  have hkl := (List.getElem?_eq_some_iff.1 hk).1
  refine ⟨h.nod, by simp [h.l1], by simp [h.l2], fun {i j} hi => ?_, fun {j} hj => ?_⟩
  · dsimp only at hi ⊢
    by_cases q : i = k
    · subst q
      rw [hk] at hi; cases hi
      exact ⟨r', pg', List.getElem?_set_self (by rw [h.l1]; exact hkl), List.getElem?_set_self (by rw [h.l2]; exact hkl), up_self⟩
    · obtain ⟨r0, p0, h1, h2, h3⟩ := h.rel hi
      refine ⟨r0, p0, by rw [List.getElem?_set_ne (fun e => q e.symm)]; exact h1, by rw [List.getElem?_set_ne (fun e => q e.symm)]; exact h2, ?_⟩
      rw [up_ne (fun e => by subst e; exact q (h.idx hi hk))]; exact h3
  · by_cases q : j = id
    · subst q; exact List.mem_of_getElem? hk
    · rw [up_ne q] at hj; exact h.dom hj
theorem MRel.del {M : MoD} {V : Int → Option (Int × Bs)} {k : Nat} {id : Int} (h : MRel M V) (hk : M.ids[k]? = some id) : MRel ⟨M.ids.eraseIdx k, M.refs.eraseIdx k, M.pages.eraseIdx k⟩ (up V id none) := by
  have hkl := (List.getElem?_eq_some_iff.1 hk).1
  refine ⟨h.nod.sublist (List.eraseIdx_sublist ..), ?_, ?_, fun {i j} hi => ?_, fun {j} hj => ?_⟩
  · dsimp only; rw [List.length_eraseIdx, List.length_eraseIdx, if_pos hkl, if_pos (by rw [h.l1]; exact hkl), h.l1]
  · dsimp only; rw [List.length_eraseIdx, List.length_eraseIdx, if_pos hkl, if_pos (by rw [h.l2]; exact hkl), h.l2]
  · dsimp only at hi ⊢
    rw [List.getElem?_eraseIdx] at hi
    rw [List.getElem?_eraseIdx, List.getElem?_eraseIdx]
    by_cases q : i < k
    · rw [if_pos q] at hi
      rw [if_pos q, if_pos q]
      obtain ⟨r, p, h1, h2, h3⟩ := h.rel hi
      refine ⟨r, p, h1, h2, ?_⟩
      rw [up_ne (fun e => by subst e; have := h.idx hi hk; omega)]; exact h3
    · rw [if_neg q] at hi
      rw [if_neg q, if_neg q]
      obtain ⟨r, p, h1, h2, h3⟩ := h.rel hi
      refine ⟨r, p, h1, h2, ?_⟩
      rw [up_ne (fun e => by subst e; have := h.idx hi hk; omega)]; exact h3
  · by_cases q : j = id
    · subst q; rw [up_self] at hj; exact absurd rfl hj
    · rw [up_ne q] at hj
      obtain ⟨i, hi⟩ := List.mem_iff_getElem?.1 (h.dom hj)
      have hne : i ≠ k := fun e => by subst e; rw [hk] at hi; cases hi; exact q rfl
      rw [List.mem_eraseIdx_iff_getElem?]
      exact ⟨i, hne, hi⟩
theorem MRel.non {M : MoD} {V : Int → Option (Int × Bs)} {id : Int} (h : MRel M V) (hn : ∀ y ∈ M.ids, y ≠ id) : V id = none := by
  cases hq : V id with
  | none => rfl
  | some x => exact absurd rfl (hn id (h.dom (by rw [hq]; simp)))
theorem MRel.no {M : MoD} {V : Int → Option (Int × Bs)} {id : Int} {k : Nat} (h : MRel M V) (hn : V id = none) (hk : M.ids[k]? = some id) : False := by
  obtain ⟨r, p, _, _, h3⟩ := h.rel hk
  rw [hn] at h3; cases h3
theorem dov_err {o : OpD} {a e : Int} {V V' : Int → Option (Int × Bs)} (h : DoV o a e V V') (he : e ≠ 0) : V' = V := by
  rcases h with ⟨_, _, _, h, _⟩ | ⟨_, ⟨_, _, h⟩ | ⟨_, h, _⟩⟩ | ⟨_, _, ⟨_, h⟩ | ⟨_, _, _, h, _⟩⟩ | ⟨_, _, ⟨_, h⟩ | ⟨_, _, _, h, _⟩⟩ | ⟨_, _, ⟨_, h⟩ | ⟨_, _, _, h, _⟩⟩ | ⟨_, _, ⟨_, h⟩ | ⟨h, _⟩⟩ | ⟨_, h⟩
  all_goals first | exact h | exact absurd h he
theorem dov_add {o : OpD} {a : Int} {V V' : Int → Option (Int × Bs)} (h : DoV o a 0 V V') (hc : ((o.d = 0 ∨ o.d = 10) ∧ a ≠ 0) ∨ o.d = 8) : V (if o.d = 8 then o.id else a) = none ∧ V' = up V (if o.d = 8 then o.id else a) (some (1, b64 o.s)) := by
  rcases h with ⟨h1, _, h2, _⟩ | ⟨h1, ⟨_, h2, _⟩ | ⟨_, _, h2, h3⟩⟩ | ⟨h1, _⟩ | ⟨h1, _⟩ | ⟨h1, _⟩ | ⟨h1, _, ⟨h2, _⟩ | ⟨_, h2, _, h3⟩⟩ | ⟨h1, _⟩
  · omega
  · cases h2
  · rw [if_neg (by omega)]; exact ⟨h2, h3⟩
  · omega
  · omega
  · omega
  · exact absurd rfl h2
  · rw [if_pos h1]; exact ⟨h2, h3⟩
  · omega
theorem dov_none {o : OpD} {a : Int} {V V' : Int → Option (Int × Bs)} (h : DoV o a 0 V V') (hc : ¬ (((o.d = 0 ∨ o.d = 10) ∧ a ≠ 0) ∨ o.d = 8)) (hn : V o.id = none) : V' = V := by
  rcases h with ⟨_, _, _, _, h⟩ | ⟨h1, ⟨_, _, h⟩ | ⟨h2, _⟩⟩ | ⟨_, _, ⟨_, h⟩ | ⟨r, p, h, _⟩⟩ | ⟨_, _, ⟨_, h⟩ | ⟨r, p, h, _⟩⟩ | ⟨_, _, ⟨_, h⟩ | ⟨r, p, h, _⟩⟩ | ⟨h1, _⟩ | ⟨_, h⟩
  all_goals first | exact h | (rw [hn] at h; cases h) | omega
theorem dov_some {o : OpD} {a r : Int} {pg : Bs} {V V' : Int → Option (Int × Bs)} (h : DoV o a 0 V V') (hc : ¬ (((o.d = 0 ∨ o.d = 10) ∧ a ≠ 0) ∨ o.d = 8)) (hs : V o.id = some (r, pg)) :
    (o.d = 1 ∧ V' = up V o.id (some (r + 1, pg))) ∨ (o.d = 2 ∧ 1 < r ∧ V' = up V o.id (some (r - 1, pg))) ∨ (o.d = 2 ∧ r = 1 ∧ V' = up V o.id none) ∨ (o.d = 3 ∧ (0 ≤ o.at_ ∧ o.at_ < 64) ∧ V' = up V o.id (some (r, pg.set o.at_.toNat (u8 o.n)))) ∨ ((o.d ≠ 1 ∧ o.d ≠ 2 ∧ o.d ≠ 3) ∧ V' = V) := by
  rcases h with ⟨h1, _, _, _, h⟩ | ⟨h1, ⟨_, _, h⟩ | ⟨h2, _⟩⟩ | ⟨h1, _, ⟨h, _⟩ | ⟨r', p', h, _, h2⟩⟩ | ⟨h1, _, ⟨h, _⟩ | ⟨r', p', h, _, ⟨h3, h2⟩ | ⟨h3, h2⟩⟩⟩ | ⟨h1, _, ⟨h, _⟩ | ⟨r', p', h, _, h3, h2⟩⟩ | ⟨h1, _⟩ | ⟨h1, h⟩
  · exact .inr (.inr (.inr (.inr ⟨by omega, h⟩)))
  · exact .inr (.inr (.inr (.inr ⟨by omega, h⟩)))
  · omega
  · rw [hs] at h; cases h
  · rw [hs] at h; cases h; exact .inl ⟨h1, h2⟩
  · rw [hs] at h; cases h
  · rw [hs] at h; cases h; exact .inr (.inl ⟨h1, h3, h2⟩)
  · rw [hs] at h; cases h; exact .inr (.inr (.inl ⟨h1, h3, h2⟩))
  · exact absurd rfl h
  · rw [hs] at h; cases h; exact .inr (.inr (.inr (.inl ⟨h1, h3, h2⟩)))
  · omega
  · exact .inr (.inr (.inr (.inr ⟨by omega, h⟩)))
structure MoX where
  a : Value
  b : Value
  c : Value
def moT (m : Nat) (M : MoD) : Th := exT fun q : MoX => starL [blkT m [q.a, q.b, q.c], rowT inC q.a M.ids, rowT inC q.b M.refs, rowT stC q.c M.pages]
theorem moT_open {w : World} {m : Nat} {M : MoD} {As : List Th} (h : Sat w (moT m M :: As)) : ∃ a1 c1 a2 c2 a3 c3, Sat w (blkT m [.slice a1 M.ids.length c1, .slice a2 M.refs.length c2, .slice a3 M.pages.length c3] :: rowT inC (.slice a1 M.ids.length c1) M.ids :: rowT inC (.slice a2 M.refs.length c2) M.refs :: rowT stC (.slice a3 M.pages.length c3) M.pages :: As) := by
  obtain ⟨⟨x, y, z⟩, h⟩ := h.ex
  replace h := h.flat; dsimp only [List.cons_append, List.nil_append] at h
  obtain ⟨a1, c1, hv, _⟩ := h.own_shape 1 rfl; obtain rfl := hv
  obtain ⟨a2, c2, hv, _⟩ := h.own_shape 2 rfl; obtain rfl := hv
  obtain ⟨a3, c3, hv, _⟩ := h.own_shape 3 rfl; obtain rfl := hv
  exact ⟨a1, c1, a2, c2, a3, c3, h⟩
theorem moT_shut {w : World} {m : Nat} {M : MoD} {As : List Th} {a b c : Value} (h : Sat w (blkT m [a, b, c] :: rowT inC a M.ids :: rowT inC b M.refs :: rowT stC c M.pages :: As)) : Sat w (moT m M :: As) :=
  Sat.ex_intro (f := fun q : MoX => starL [blkT m [q.a, q.b, q.c], rowT inC q.a M.ids, rowT inC q.b M.refs, rowT stC q.c M.pages]) ⟨a, b, c⟩ (Sat.fold (As := [blkT m [a, b, c], rowT inC a M.ids, rowT inC b M.refs, rowT stC c M.pages]) h)
set_option maxRecDepth 100000 in
theorem moidx_sp {w : World} {m : Nat} {M : MoD} {F : Th} (hS : Sat w [moT m M, F]) (id : Int) (hml : M.ids.length ≤ 100000) :
    Calls Tryz.prog 13 #[ptrV m 0, intV id] w (Ret fun v w' => (v = intV (-1) ∧ (∀ y ∈ M.ids, y ≠ id) ∧ Sat w' [moT m M, F]) ∨ (∃ k : Nat, v = intV (k : Int) ∧ M.ids[k]? = some id ∧ Sat w' [moT m M, F])) := by
 obtain ⟨a1, c1, a2, c2, a3, c3, hS⟩ := moT_open hS
 refine calls_enter Tryz.func13 rfl Tryz.ntmps13 rfl ?_
 refine wc_seq (wc_region (wl_assign rfl rfl (wl_nil (qs_seq (wc_seq (wc_seq (wc_region (wl_assign rfl rfl (wl_nil (qs_seq (wc_block ?_)))))))))))
 refine wc_loop (fun K0 E0 W0 => ∃ (i : Nat), K0 = M.ids.length - i ∧ E0 = [(0, ptrV m 0), (1, intV id), (5, intV (i : Int))] ∧ Sat W0 [blkT m [.slice a1 M.ids.length c1, .slice a2 M.refs.length c2, .slice a3 M.pages.length c3], rowT inC (.slice a1 M.ids.length c1) M.ids, rowT inC (.slice a2 M.refs.length c2) M.refs, rowT stC (.slice a3 M.pages.length c3) M.pages, F] ∧ (i ≤ M.ids.length) ∧ (∀ j y, j < i → M.ids[j]? = some y → y ≠ id)) (L0 := [(0, _), (1, _), (5, _)]) (M.ids.length - 0) (.cons rfl (.cons rfl (.cons rfl .nil))) ⟨0, rfl, rfl, hS, by omega, by omega⟩ ?_
 rintro _ _ w1 ⟨i, rfl, rfl, hS1, hi, hno⟩
 refine wc_seq (wc_seq (wc_region (wl_move rfl rfl (wl_move rfl rfl (wl_nilCheck rfl rfl ?_)))))
 refine wl_fieldAddr rfl fo_31_0 rfl ?_
 refine wl_load rfl ag_28 (by first | assumption | exact hS1.cell 0 rfl rfl) rfl ?_
 first | refine wl_lenL Tryz.underlying28 rfl rfl ?_ | refine wl_lenO 1 hS1 Tryz.underlying28 rfl rfl rfl ?_ | refine wl_lenO 2 hS1 Tryz.underlying28 rfl rfl rfl ?_ | refine wl_lenO 3 hS1 Tryz.underlying28 rfl rfl rfl ?_
 refine wl_lss rfl rfl rfl ?_
 refine wl_nil (qs_seq ?_)
 refine wc_condD rfl (fun h2 => ?_) (fun h2 => ?_)
 ·obtain ⟨x, hx⟩ : ∃ x, M.ids[i]? = some x := ⟨_, List.getElem?_eq_getElem (by omega)⟩
  refine wc_skip (qs_seq (wc_seq (wc_block (wc_seq (wc_region (wl_move rfl rfl (wl_nilCheck rfl rfl ?_)))))))
  refine wl_fieldAddr rfl fo_31_0 rfl ?_
  refine wl_load rfl ag_28 (by first | assumption | exact hS1.cell 0 rfl rfl) rfl ?_
  refine wl_move rfl rfl ?_
  refine wl_rowIdx inC 1 i hS1 rfl rfl rfl (by first | rfl | omega) hx es_28 rfl ?_
  intro bx3 capx3 hvx3
  refine wl_rowLoad 1 i 0 hS1 rfl hvx3 rfl rfl hx ag_3 rfl rfl ?_
  refine wl_move rfl rfl ?_
  refine wl_eql rfl rfl rfl ?_
  refine wl_nil (qs_seq ?_)
  refine wc_sub (L' := [(23, _), (0, _), (1, _), (5, _)]) (.cons rfl (.cons rfl (.cons rfl (.cons rfl .nil)))) ?_
  refine wc_condD rfl (fun h4 => ?_) (fun h4 => ?_)
  ·have heq : x = id := h4
   refine wc_seq (wc_region (wl_move rfl rfl (wl_assign rfl rfl (wl_nil (qs_seq (wc_ret (qs_block_ret (qs_then_ret (qs_then_ret (qs_block_ret (qs_then_ret ?_)))))))))))
   refine fin1 (.inr rfl) rfl rfl ?_
   exact ⟨_, rfl, .inr ⟨i, rfl, by rw [hx, heq], moT_shut (hS1.pick [0, 1, 2, 3, 4] rfl)⟩⟩
  have hne : x ≠ id := h4
  refine wc_skip (qs_block_normal (qs_seq (wc_region (wl_move rfl rfl ?_))))
  refine wl_add rfl rfl (by omega) (by omega) rfl ?_
  refine wl_assign rfl rfl (wl_nil ?_)
  exact qs_round (L1 := [(0, _), (1, _), (5, intV ((i + 1 : Nat) : Int))]) (.cons rfl (.cons rfl (.cons rfl .nil))) (k1 := M.ids.length - (i + 1)) (by omega) ⟨i + 1, rfl, rfl, hS1.pick [0, 1, 2, 3, 4] rfl, by omega, fun j y hj hq => by by_cases e : j = i; (subst e; rw [hx] at hq; cases hq; exact hne); exact hno j y (by omega) hq⟩
 refine wc_exit (qs_then_exit (qs_then_exit (qs_block_exit (qs_seq (wc_seq (wc_region (wl_assign rfl rfl (wl_nil (qs_seq ?_)))))))))
 refine wc_sub (L' := [(4, _)]) (.cons rfl .nil) ?_
 refine wc_ret ?_
 refine fin1 (.inr rfl) rfl rfl ?_
 exact ⟨_, rfl, .inl ⟨rfl, fun y hm => by obtain ⟨j, hj⟩ := List.mem_iff_getElem?.1 hm; exact hno j y (by have := (List.getElem?_eq_some_iff.1 hj).1; omega) hj, moT_shut (hS1.pick [0, 1, 2, 3, 4] rfl)⟩⟩
theorem vsl2 {α : Type} {l : List α} {n k : Nat} (hn : l.length = n) (hk : k < n) : ([] ++ (l.take k).drop 0) ++ (l.take n).drop (k + 1) = l.eraseIdx k := by
  subst hn
  rw [List.nil_append, List.drop_zero, List.take_length, List.eraseIdx_eq_take_drop_succ]
theorem vsl {α : Type} {l : List α} {k : Nat} (hk : k < l.length) : ([] ++ (l.take k).drop 0) ++ (l.take l.length).drop (k + 1) = l.eraseIdx k := by
  rw [List.nil_append, List.drop_zero, List.take_length, List.eraseIdx_eq_take_drop_succ]
theorem ent_view2 {α : Type} {C : RowC α} {l : List α} {n : Nat} {a : Option Addr} {cap A B : Nat} (hn : l.length = n) (hl : n ≤ 9223372036854775807) (h1 : A ≤ B) (h2 : B ≤ n) (hc : n ≤ cap) : Ent (rowT C (.slice a n cap) l) (RdL C (viewV C.size (.slice a n cap) A B) ((l.take B).drop A)) := by
  subst hn; exact ent_view hl h1 h2 hc
set_option maxRecDepth 100000 in
set_option maxHeartbeats 3200000 in
theorem moapply_sp {w : World} {m : Nat} {M : MoD} {F : Th} (hS : Sat w [moT m M, F]) {V V' : Int → Option (Int × Bs)} (o : OpD) (a e : Int) (hR : MRel M V) (hD : DoV o a e V V') (hrb : ∀ {j r pg}, V j = some (r, pg) → 1 ≤ r ∧ r ≤ 1000000 ∧ pg.length = 64) (hml : M.ids.length ≤ 100000) :
    Calls Tryz.prog 14 #[ptrV m 0, .agg #[intV o.d, intV o.id, intV o.at_, intV o.n, strV o.s], intV a, intV e] w (Ret fun v w' => v = .tuple #[] ∧ ∃ M', MRel M' V' ∧ M'.ids.length ≤ M.ids.length + 1 ∧ Sat w' [moT m M', F]) := by
 have hl1 := hR.l1
 have hl2 := hR.l2
 refine calls_enter Tryz.func14 rfl Tryz.ntmps14 rfl ?_
 refine wc_seq (wc_region ?_)
 refine wl_box hS rfl rfl rfl ?_
 intro qb w1 hS1
 refine wl_nil (qs_seq (wc_seq (wc_seq (wc_region (wl_move rfl rfl ?_)))))
 refine wl_neq rfl rfl rfl ?_
 refine wl_nil (qs_seq ?_)
 refine wc_condD rfl (fun h2 => ?_) (fun h2 => ?_)
 ·have he0 : e ≠ 0 := h2
  refine wc_ret (qs_then_ret ?_)
  refine fin0 (.inr rfl) rfl ?_
  exact ⟨_, rfl, rfl, M, by rw [dov_err hD he0]; exact hR, by omega, hS1.pick [1, 2] rfl⟩
 have he0 : e = 0 := by have := h2; omega
 subst he0
 refine wc_skip (qs_seq (wc_seq (wc_region ?_)))
 refine wl_fieldAddr rfl fo_33_4 rfl ?_
 refine wl_load rfl ag_9 (by first | assumption | exact hS1.cell 0 rfl rfl) rfl ?_
 have hC3 := hS1.split [] [false, false, false] rfl; dsimp only [selF, pickA, nthA, List.cons_append, List.nil_append] at hC3
 refine wl_call cal_12 rfl (page_sp hC3 o.s) rfl ?_
 rintro e w3 ⟨_, rfl, rfl, hS3⟩; refine ⟨_, rfl, ?_⟩
 replace hS3 := hS3.join rfl; dsimp only [List.dropLast, List.cons_append, List.nil_append] at hS3; clear hC3
 clear hS1
 refine wl_assign rfl rfl (wl_nil (qs_seq ?_))
 refine wc_sub (L' := [(8, _), (5, _), (0, _), (2, _)]) (.cons rfl (.cons rfl (.cons rfl (.cons rfl .nil)))) ?_
 refine wc_seq (wc_region (wl_move rfl rfl ?_))
 refine wl_fieldAddr rfl fo_33_1 rfl ?_
 refine wl_load rfl ag_3 (by first | assumption | exact hS3.cell 0 rfl rfl) rfl ?_
 have hC4 := hS3.split [1] [false, true, false] rfl; dsimp only [selF, pickA, nthA, List.cons_append, List.nil_append] at hC4
 refine wl_call cal_13 rfl (moidx_sp hC4 o.id hml) rfl ?_
 rintro e w4 ⟨_, rfl, (⟨rfl, hno, hS4⟩ | ⟨k, rfl, hk, hS4⟩)⟩
 ·refine ⟨_, rfl, ?_⟩
  replace hS4 := hS4.join rfl; dsimp only [List.dropLast, List.cons_append, List.nil_append] at hS4; clear hC4
  clear hS3
  refine wl_assign rfl rfl (wl_nil (qs_seq (wc_seq (wc_seq (wc_region ?_)))))
  refine wl_fieldAddr rfl fo_33_0 rfl ?_
  refine wl_load rfl ag_3 (by first | assumption | exact hS4.cell 1 rfl rfl) rfl ?_
  refine wl_eql rfl rfl rfl ?_
  refine wl_move rfl rfl ?_
  refine wl_splitD 24 rfl (fun h5 => ?_) (fun h5 => ?_)
  ·refine wl_unwanted rfl rfl (decide_eq_true h5) rfl ?_
   refine wl_unwanted rfl rfl (decide_eq_true h5) rfl ?_
   refine wl_unwanted rfl rfl (decide_eq_true h5) rfl ?_
   refine wl_pickT rfl (decide_eq_true h5) rfl rfl ?_
   refine wl_move rfl rfl ?_
   refine wl_guard rfl rfl rfl ?_
   refine wl_move rfl rfl ?_
   refine wl_guard rfl rfl rfl ?_
   refine wl_neq rfl rfl rfl ?_
   refine wl_pickT rfl rfl rfl rfl ?_
   refine wl_move rfl rfl ?_
   refine wl_splitD 33 rfl (fun h6 => ?_) (fun h6 => ?_)
   ·refine wl_unwanted rfl rfl (decide_eq_true h6) rfl ?_
    refine wl_unwanted rfl rfl (decide_eq_true h6) rfl ?_
    refine wl_unwanted rfl rfl (decide_eq_true h6) rfl ?_
    refine wl_pickT rfl (decide_eq_true h6) rfl rfl ?_
    refine wl_nil (qs_seq ?_)
    refine wc_sub (L' := [(37, _), (9, _), (8, _), (5, _), (0, _), (2, _)]) (.cons rfl (.cons rfl (.cons rfl (.cons rfl (.cons rfl (.cons rfl .nil)))))) ?_
    refine wc_condT rfl ?_
    refine wc_seq ?_
    have hcc : ((o.d = 0 ∨ o.d = 10) ∧ a ≠ 0) ∨ o.d = 8 := by omega
    obtain ⟨hv1, hv2⟩ := dov_add hD hcc
    refine wc_region (wl_move rfl rfl (wl_assign rfl rfl (wl_nil (qs_seq (wc_seq (wc_seq (wc_region ?_)))))))
    refine wl_fieldAddr rfl fo_33_0 rfl ?_
    refine wl_load rfl ag_3 (by first | assumption | exact hS4.cell 1 rfl rfl) rfl ?_
    refine wl_eql rfl rfl rfl ?_
    refine wl_nil (qs_seq ?_)
    refine wc_sub (L' := [(41, _), (10, _), (9, _), (8, _), (5, _), (0, _)]) (.cons rfl (.cons rfl (.cons rfl (.cons rfl (.cons rfl (.cons rfl .nil)))))) ?_
    refine wc_condD rfl (fun h7 => ?_) (fun h7 => ?_)
    ·refine wc_region ?_
     refine wl_fieldAddr rfl fo_33_1 rfl ?_
     refine wl_load rfl ag_3 (by first | assumption | exact hS4.cell 1 rfl rfl) rfl ?_
     refine wl_assign rfl rfl (wl_nil (qs_seq (wc_seq ?_)))
     rw [if_pos (by omega)] at hv1 hv2
     obtain ⟨a1, c1, a2, c2, a3, c3, hSo8⟩ := moT_open (hS4.pick [0, 1, 2] rfl)
     refine wc_region (wl_move rfl rfl (wl_move rfl rfl (wl_nilCheck rfl rfl ?_)))
     refine wl_fieldAddr rfl fo_31_0 rfl ?_
     refine wl_load rfl ag_28 (by first | assumption | exact hSo8.cell 0 rfl rfl | exact hSo8.cell 4 rfl rfl) rfl ?_
     refine wl_move rfl rfl ?_
     refine wl_rowBuild inC [o.id] hSo8 rfl Tryz.underlying28 ifz_3 rfl rfl rfl rfl (by first | rfl | simp [RowC.cells, fillL, splice]) rfl ?_
     intro b9 w9 hS9
     clear hSo8
     refine wl_rowApp inC 2 hS9 rfl rfl rfl (hS9.rd 0 rfl (by simp)) Tryz.underlying28 Tryz.underlying28 (by intro k hk; cases hk) ifo_3 rfl (by simp only [List.length_cons, List.length_nil]; omega) rfl (by simp only [List.length_cons, List.length_nil]; omega) ?_
     intro v10 w10 hS10; dsimp only [List.set] at hS10
     clear hS9
     have h1v10 : v10.oneCell' = true := hS10.own_one 2 rfl
     refine wl_nilCheck rfl rfl ?_
     refine wl_fieldAddr rfl fo_31_0 rfl ?_
     first | (refine wl_store hS10 rfl rfl sz_28 (by first | rfl | assumption | exact hS10.own_one 0 rfl | exact hS10.own_one 2 rfl | exact hS10.own_one 3 rfl | exact hS10.own_one 4 rfl) (i := 1) rfl (by first | decide | exact Nat.le_of_ble_eq_true rfl | (simp; done) | omega) ?_) | (refine wl_store hS10 rfl rfl sz_28 (by first | rfl | assumption | exact hS10.own_one 0 rfl | exact hS10.own_one 2 rfl | exact hS10.own_one 3 rfl | exact hS10.own_one 4 rfl) (i := 5) rfl (by first | decide | exact Nat.le_of_ble_eq_true rfl | (simp; done) | omega) ?_)
     intro w11 hS12; dsimp only [List.set] at hS12
     clear hS10
     refine wl_nil (qs_seq ?_)
     refine wc_sub (L' := [(9, _), (8, _), (5, _), (0, _)]) (.cons rfl (.cons rfl (.cons rfl (.cons rfl .nil)))) ?_
     refine wc_seq (wc_region (wl_move rfl rfl (wl_move rfl rfl (wl_nilCheck rfl rfl ?_))))
     refine wl_fieldAddr rfl fo_31_1 rfl ?_
     refine wl_load rfl ag_28 (by first | assumption | exact hS12.cell 1 rfl rfl | exact hS12.cell 5 rfl rfl) rfl ?_
     refine wl_rowBuild inC [1] hS12 rfl Tryz.underlying28 ifz_3 rfl rfl rfl rfl (by first | rfl | simp [RowC.cells, fillL, splice]) rfl ?_
     intro b13 w13 hS13
     clear hS12
     refine wl_rowApp inC 4 hS13 rfl rfl rfl (hS13.rd 0 rfl (by simp)) Tryz.underlying28 Tryz.underlying28 (by intro k hk; cases hk) ifo_3 rfl (by simp only [List.length_cons, List.length_nil]; omega) rfl (by simp only [List.length_cons, List.length_nil]; omega) ?_
     intro v14 w14 hS14; dsimp only [List.set] at hS14
     clear hS13
     have h1v14 : v14.oneCell' = true := hS14.own_one 4 rfl
     refine wl_nilCheck rfl rfl ?_
     refine wl_fieldAddr rfl fo_31_1 rfl ?_
     first | (refine wl_store hS14 rfl rfl sz_28 (by first | rfl | assumption | exact hS14.own_one 0 rfl | exact hS14.own_one 3 rfl | exact hS14.own_one 4 rfl | exact hS14.own_one 5 rfl) (i := 2) rfl (by first | decide | exact Nat.le_of_ble_eq_true rfl | (simp; done) | omega) ?_) | (refine wl_store hS14 rfl rfl sz_28 (by first | rfl | assumption | exact hS14.own_one 0 rfl | exact hS14.own_one 3 rfl | exact hS14.own_one 4 rfl | exact hS14.own_one 5 rfl) (i := 6) rfl (by first | decide | exact Nat.le_of_ble_eq_true rfl | (simp; done) | omega) ?_)
     intro w15 hS16; dsimp only [List.set] at hS16
     clear hS14
     refine wl_nil (qs_seq ?_)
     refine wc_sub (L' := [(9, _), (8, _), (5, _), (0, _)]) (.cons rfl (.cons rfl (.cons rfl (.cons rfl .nil)))) ?_
     refine wc_seq (wc_region (wl_move rfl rfl (wl_move rfl rfl (wl_nilCheck rfl rfl ?_))))
     refine wl_fieldAddr rfl fo_31_2 rfl ?_
     refine wl_load rfl ag_29 (by first | assumption | exact hS16.cell 2 rfl rfl | exact hS16.cell 6 rfl rfl) rfl ?_
     refine wl_move rfl rfl ?_
     refine wl_rowBuild stC [b64 o.s] hS16 rfl Tryz.underlying29 ifz_9 rfl rfl rfl rfl (by first | rfl | simp [RowC.cells, fillL, splice]) rfl ?_
     intro b17 w17 hS17
     clear hS16
     refine wl_rowApp stC 6 hS17 rfl rfl rfl (hS17.rd 0 rfl (by simp)) Tryz.underlying29 Tryz.underlying29 (by intro k hk; cases hk) ifo_9 rfl (by simp only [List.length_cons, List.length_nil]; omega) rfl (by simp only [List.length_cons, List.length_nil]; omega) ?_
     intro v18 w18 hS18; dsimp only [List.set] at hS18
     clear hS17
     have h1v18 : v18.oneCell' = true := hS18.own_one 6 rfl
     refine wl_nilCheck rfl rfl ?_
     refine wl_fieldAddr rfl fo_31_2 rfl ?_
     first | (refine wl_store hS18 rfl rfl sz_29 (by first | rfl | assumption | exact hS18.own_one 0 rfl | exact hS18.own_one 4 rfl | exact hS18.own_one 5 rfl | exact hS18.own_one 6 rfl) (i := 3) rfl (by first | decide | exact Nat.le_of_ble_eq_true rfl | (simp; done) | omega) ?_) | (refine wl_store hS18 rfl rfl sz_29 (by first | rfl | assumption | exact hS18.own_one 0 rfl | exact hS18.own_one 4 rfl | exact hS18.own_one 5 rfl | exact hS18.own_one 6 rfl) (i := 7) rfl (by first | decide | exact Nat.le_of_ble_eq_true rfl | (simp; done) | omega) ?_)
     intro w19 hS20; dsimp only [List.set] at hS20
     clear hS18
     refine wl_nil (qs_seq ?_)
     refine wc_sub (L' := [(9, _), (5, _), (0, _)]) (.cons rfl (.cons rfl (.cons rfl .nil))) ?_
     refine wc_ret (qs_then_ret ?_)
     refine fin0 (.inr rfl) rfl ?_
     have hz := hS20.pick [3, 4, 5, 6, 8] rfl
     exact ⟨_, rfl, rfl, ⟨M.ids ++ [o.id], M.refs ++ [1], M.pages ++ [b64 o.s]⟩, by rw [hv2]; exact hR.add hv1, by simp, moT_shut hz⟩
    refine wc_skip (qs_seq (wc_seq ?_))
    rw [if_neg (by omega)] at hv1 hv2
    obtain ⟨a1, c1, a2, c2, a3, c3, hSo21⟩ := moT_open (hS4.pick [0, 1, 2] rfl)
    refine wc_region (wl_move rfl rfl (wl_move rfl rfl (wl_nilCheck rfl rfl ?_)))
    refine wl_fieldAddr rfl fo_31_0 rfl ?_
    refine wl_load rfl ag_28 (by first | assumption | exact hSo21.cell 0 rfl rfl | exact hSo21.cell 4 rfl rfl) rfl ?_
    refine wl_move rfl rfl ?_
    refine wl_rowBuild inC [a] hSo21 rfl Tryz.underlying28 ifz_3 rfl rfl rfl rfl (by first | rfl | simp [RowC.cells, fillL, splice]) rfl ?_
    intro b22 w22 hS22
    clear hSo21
    refine wl_rowApp inC 2 hS22 rfl rfl rfl (hS22.rd 0 rfl (by simp)) Tryz.underlying28 Tryz.underlying28 (by intro k hk; cases hk) ifo_3 rfl (by simp only [List.length_cons, List.length_nil]; omega) rfl (by simp only [List.length_cons, List.length_nil]; omega) ?_
    intro v23 w23 hS23; dsimp only [List.set] at hS23
    clear hS22
    have h1v23 : v23.oneCell' = true := hS23.own_one 2 rfl
    refine wl_nilCheck rfl rfl ?_
    refine wl_fieldAddr rfl fo_31_0 rfl ?_
    first | (refine wl_store hS23 rfl rfl sz_28 (by first | rfl | assumption | exact hS23.own_one 0 rfl | exact hS23.own_one 2 rfl | exact hS23.own_one 3 rfl | exact hS23.own_one 4 rfl) (i := 1) rfl (by first | decide | exact Nat.le_of_ble_eq_true rfl | (simp; done) | omega) ?_) | (refine wl_store hS23 rfl rfl sz_28 (by first | rfl | assumption | exact hS23.own_one 0 rfl | exact hS23.own_one 2 rfl | exact hS23.own_one 3 rfl | exact hS23.own_one 4 rfl) (i := 5) rfl (by first | decide | exact Nat.le_of_ble_eq_true rfl | (simp; done) | omega) ?_)
    intro w24 hS25; dsimp only [List.set] at hS25
    clear hS23
    refine wl_nil (qs_seq ?_)
    refine wc_sub (L' := [(9, _), (8, _), (5, _), (0, _)]) (.cons rfl (.cons rfl (.cons rfl (.cons rfl .nil)))) ?_
    refine wc_seq (wc_region (wl_move rfl rfl (wl_move rfl rfl (wl_nilCheck rfl rfl ?_))))
    refine wl_fieldAddr rfl fo_31_1 rfl ?_
    refine wl_load rfl ag_28 (by first | assumption | exact hS25.cell 1 rfl rfl | exact hS25.cell 5 rfl rfl) rfl ?_
    refine wl_rowBuild inC [1] hS25 rfl Tryz.underlying28 ifz_3 rfl rfl rfl rfl (by first | rfl | simp [RowC.cells, fillL, splice]) rfl ?_
    intro b26 w26 hS26
    clear hS25
    refine wl_rowApp inC 4 hS26 rfl rfl rfl (hS26.rd 0 rfl (by simp)) Tryz.underlying28 Tryz.underlying28 (by intro k hk; cases hk) ifo_3 rfl (by simp only [List.length_cons, List.length_nil]; omega) rfl (by simp only [List.length_cons, List.length_nil]; omega) ?_
    intro v27 w27 hS27; dsimp only [List.set] at hS27
    clear hS26
    have h1v27 : v27.oneCell' = true := hS27.own_one 4 rfl
    refine wl_nilCheck rfl rfl ?_
    refine wl_fieldAddr rfl fo_31_1 rfl ?_
    first | (refine wl_store hS27 rfl rfl sz_28 (by first | rfl | assumption | exact hS27.own_one 0 rfl | exact hS27.own_one 3 rfl | exact hS27.own_one 4 rfl | exact hS27.own_one 5 rfl) (i := 2) rfl (by first | decide | exact Nat.le_of_ble_eq_true rfl | (simp; done) | omega) ?_) | (refine wl_store hS27 rfl rfl sz_28 (by first | rfl | assumption | exact hS27.own_one 0 rfl | exact hS27.own_one 3 rfl | exact hS27.own_one 4 rfl | exact hS27.own_one 5 rfl) (i := 6) rfl (by first | decide | exact Nat.le_of_ble_eq_true rfl | (simp; done) | omega) ?_)
    intro w28 hS29; dsimp only [List.set] at hS29
    clear hS27
    refine wl_nil (qs_seq ?_)
    refine wc_sub (L' := [(9, _), (8, _), (5, _), (0, _)]) (.cons rfl (.cons rfl (.cons rfl (.cons rfl .nil)))) ?_
    refine wc_seq (wc_region (wl_move rfl rfl (wl_move rfl rfl (wl_nilCheck rfl rfl ?_))))
    refine wl_fieldAddr rfl fo_31_2 rfl ?_
    refine wl_load rfl ag_29 (by first | assumption | exact hS29.cell 2 rfl rfl | exact hS29.cell 6 rfl rfl) rfl ?_
    refine wl_move rfl rfl ?_
    refine wl_rowBuild stC [b64 o.s] hS29 rfl Tryz.underlying29 ifz_9 rfl rfl rfl rfl (by first | rfl | simp [RowC.cells, fillL, splice]) rfl ?_
    intro b30 w30 hS30
    clear hS29
    refine wl_rowApp stC 6 hS30 rfl rfl rfl (hS30.rd 0 rfl (by simp)) Tryz.underlying29 Tryz.underlying29 (by intro k hk; cases hk) ifo_9 rfl (by simp only [List.length_cons, List.length_nil]; omega) rfl (by simp only [List.length_cons, List.length_nil]; omega) ?_
    intro v31 w31 hS31; dsimp only [List.set] at hS31
    clear hS30
    have h1v31 : v31.oneCell' = true := hS31.own_one 6 rfl
    refine wl_nilCheck rfl rfl ?_
    refine wl_fieldAddr rfl fo_31_2 rfl ?_
    first | (refine wl_store hS31 rfl rfl sz_29 (by first | rfl | assumption | exact hS31.own_one 0 rfl | exact hS31.own_one 4 rfl | exact hS31.own_one 5 rfl | exact hS31.own_one 6 rfl) (i := 3) rfl (by first | decide | exact Nat.le_of_ble_eq_true rfl | (simp; done) | omega) ?_) | (refine wl_store hS31 rfl rfl sz_29 (by first | rfl | assumption | exact hS31.own_one 0 rfl | exact hS31.own_one 4 rfl | exact hS31.own_one 5 rfl | exact hS31.own_one 6 rfl) (i := 7) rfl (by first | decide | exact Nat.le_of_ble_eq_true rfl | (simp; done) | omega) ?_)
    intro w32 hS33; dsimp only [List.set] at hS33
    clear hS31
    refine wl_nil (qs_seq ?_)
    refine wc_sub (L' := [(9, _), (5, _), (0, _)]) (.cons rfl (.cons rfl (.cons rfl .nil))) ?_
    refine wc_ret (qs_then_ret ?_)
    refine fin0 (.inr rfl) rfl ?_
    have hz := hS33.pick [3, 4, 5, 6, 8] rfl
    exact ⟨_, rfl, rfl, ⟨M.ids ++ [a], M.refs ++ [1], M.pages ++ [b64 o.s]⟩, by rw [hv2]; exact hR.add hv1, by simp, moT_shut hz⟩
   refine wl_guard rfl rfl (decide_eq_false h6) ?_
   refine wl_fieldAddr rfl fo_33_0 rfl ?_
   refine wl_guard rfl rfl (decide_eq_false h6) ?_
   refine wl_load rfl ag_3 (by first | assumption | exact hS4.cell 1 rfl rfl) rfl ?_
   refine wl_guard rfl rfl (decide_eq_false h6) ?_
   refine wl_eql rfl rfl rfl ?_
   refine wl_pickF rfl (decide_eq_false h6) rfl rfl ?_
   refine wl_nil (qs_seq ?_)
   refine wc_sub (L' := [(37, _), (9, _), (8, _), (5, _), (0, _), (2, _)]) (.cons rfl (.cons rfl (.cons rfl (.cons rfl (.cons rfl (.cons rfl .nil)))))) ?_
   refine wc_condD rfl (fun h34 => ?_) (fun h34 => ?_)
   ·refine wc_seq ?_
    have hcc : ((o.d = 0 ∨ o.d = 10) ∧ a ≠ 0) ∨ o.d = 8 := by omega
    obtain ⟨hv1, hv2⟩ := dov_add hD hcc
    refine wc_region (wl_move rfl rfl (wl_assign rfl rfl (wl_nil (qs_seq (wc_seq (wc_seq (wc_region ?_)))))))
    refine wl_fieldAddr rfl fo_33_0 rfl ?_
    refine wl_load rfl ag_3 (by first | assumption | exact hS4.cell 1 rfl rfl) rfl ?_
    refine wl_eql rfl rfl rfl ?_
    refine wl_nil (qs_seq ?_)
    refine wc_sub (L' := [(41, _), (10, _), (9, _), (8, _), (5, _), (0, _)]) (.cons rfl (.cons rfl (.cons rfl (.cons rfl (.cons rfl (.cons rfl .nil)))))) ?_
    refine wc_condD rfl (fun h35 => ?_) (fun h35 => ?_)
    ·refine wc_region ?_
     refine wl_fieldAddr rfl fo_33_1 rfl ?_
     refine wl_load rfl ag_3 (by first | assumption | exact hS4.cell 1 rfl rfl) rfl ?_
     refine wl_assign rfl rfl (wl_nil (qs_seq (wc_seq ?_)))
     rw [if_pos (by omega)] at hv1 hv2
     obtain ⟨a1, c1, a2, c2, a3, c3, hSo36⟩ := moT_open (hS4.pick [0, 1, 2] rfl)
     refine wc_region (wl_move rfl rfl (wl_move rfl rfl (wl_nilCheck rfl rfl ?_)))
     refine wl_fieldAddr rfl fo_31_0 rfl ?_
     refine wl_load rfl ag_28 (by first | assumption | exact hSo36.cell 0 rfl rfl | exact hSo36.cell 4 rfl rfl) rfl ?_
     refine wl_move rfl rfl ?_
     refine wl_rowBuild inC [o.id] hSo36 rfl Tryz.underlying28 ifz_3 rfl rfl rfl rfl (by first | rfl | simp [RowC.cells, fillL, splice]) rfl ?_
     intro b37 w37 hS37
     clear hSo36
     refine wl_rowApp inC 2 hS37 rfl rfl rfl (hS37.rd 0 rfl (by simp)) Tryz.underlying28 Tryz.underlying28 (by intro k hk; cases hk) ifo_3 rfl (by simp only [List.length_cons, List.length_nil]; omega) rfl (by simp only [List.length_cons, List.length_nil]; omega) ?_
     intro v38 w38 hS38; dsimp only [List.set] at hS38
     clear hS37
     have h1v38 : v38.oneCell' = true := hS38.own_one 2 rfl
     refine wl_nilCheck rfl rfl ?_
     refine wl_fieldAddr rfl fo_31_0 rfl ?_
     first | (refine wl_store hS38 rfl rfl sz_28 (by first | rfl | assumption | exact hS38.own_one 0 rfl | exact hS38.own_one 2 rfl | exact hS38.own_one 3 rfl | exact hS38.own_one 4 rfl) (i := 1) rfl (by first | decide | exact Nat.le_of_ble_eq_true rfl | (simp; done) | omega) ?_) | (refine wl_store hS38 rfl rfl sz_28 (by first | rfl | assumption | exact hS38.own_one 0 rfl | exact hS38.own_one 2 rfl | exact hS38.own_one 3 rfl | exact hS38.own_one 4 rfl) (i := 5) rfl (by first | decide | exact Nat.le_of_ble_eq_true rfl | (simp; done) | omega) ?_)
     intro w39 hS40; dsimp only [List.set] at hS40
     clear hS38
     refine wl_nil (qs_seq ?_)
     refine wc_sub (L' := [(9, _), (8, _), (5, _), (0, _)]) (.cons rfl (.cons rfl (.cons rfl (.cons rfl .nil)))) ?_
     refine wc_seq (wc_region (wl_move rfl rfl (wl_move rfl rfl (wl_nilCheck rfl rfl ?_))))
     refine wl_fieldAddr rfl fo_31_1 rfl ?_
     refine wl_load rfl ag_28 (by first | assumption | exact hS40.cell 1 rfl rfl | exact hS40.cell 5 rfl rfl) rfl ?_
     refine wl_rowBuild inC [1] hS40 rfl Tryz.underlying28 ifz_3 rfl rfl rfl rfl (by first | rfl | simp [RowC.cells, fillL, splice]) rfl ?_
     intro b41 w41 hS41
     clear hS40
     refine wl_rowApp inC 4 hS41 rfl rfl rfl (hS41.rd 0 rfl (by simp)) Tryz.underlying28 Tryz.underlying28 (by intro k hk; cases hk) ifo_3 rfl (by simp only [List.length_cons, List.length_nil]; omega) rfl (by simp only [List.length_cons, List.length_nil]; omega) ?_
     intro v42 w42 hS42; dsimp only [List.set] at hS42
     clear hS41
     have h1v42 : v42.oneCell' = true := hS42.own_one 4 rfl
     refine wl_nilCheck rfl rfl ?_
     refine wl_fieldAddr rfl fo_31_1 rfl ?_
     first | (refine wl_store hS42 rfl rfl sz_28 (by first | rfl | assumption | exact hS42.own_one 0 rfl | exact hS42.own_one 3 rfl | exact hS42.own_one 4 rfl | exact hS42.own_one 5 rfl) (i := 2) rfl (by first | decide | exact Nat.le_of_ble_eq_true rfl | (simp; done) | omega) ?_) | (refine wl_store hS42 rfl rfl sz_28 (by first | rfl | assumption | exact hS42.own_one 0 rfl | exact hS42.own_one 3 rfl | exact hS42.own_one 4 rfl | exact hS42.own_one 5 rfl) (i := 6) rfl (by first | decide | exact Nat.le_of_ble_eq_true rfl | (simp; done) | omega) ?_)
     intro w43 hS44; dsimp only [List.set] at hS44
     clear hS42
     refine wl_nil (qs_seq ?_)
     refine wc_sub (L' := [(9, _), (8, _), (5, _), (0, _)]) (.cons rfl (.cons rfl (.cons rfl (.cons rfl .nil)))) ?_
     refine wc_seq (wc_region (wl_move rfl rfl (wl_move rfl rfl (wl_nilCheck rfl rfl ?_))))
     refine wl_fieldAddr rfl fo_31_2 rfl ?_
     refine wl_load rfl ag_29 (by first | assumption | exact hS44.cell 2 rfl rfl | exact hS44.cell 6 rfl rfl) rfl ?_
     refine wl_move rfl rfl ?_
     refine wl_rowBuild stC [b64 o.s] hS44 rfl Tryz.underlying29 ifz_9 rfl rfl rfl rfl (by first | rfl | simp [RowC.cells, fillL, splice]) rfl ?_
     intro b45 w45 hS45
     clear hS44
     refine wl_rowApp stC 6 hS45 rfl rfl rfl (hS45.rd 0 rfl (by simp)) Tryz.underlying29 Tryz.underlying29 (by intro k hk; cases hk) ifo_9 rfl (by simp only [List.length_cons, List.length_nil]; omega) rfl (by simp only [List.length_cons, List.length_nil]; omega) ?_
     intro v46 w46 hS46; dsimp only [List.set] at hS46
     clear hS45
     have h1v46 : v46.oneCell' = true := hS46.own_one 6 rfl
     refine wl_nilCheck rfl rfl ?_
     refine wl_fieldAddr rfl fo_31_2 rfl ?_
     first | (refine wl_store hS46 rfl rfl sz_29 (by first | rfl | assumption | exact hS46.own_one 0 rfl | exact hS46.own_one 4 rfl | exact hS46.own_one 5 rfl | exact hS46.own_one 6 rfl) (i := 3) rfl (by first | decide | exact Nat.le_of_ble_eq_true rfl | (simp; done) | omega) ?_) | (refine wl_store hS46 rfl rfl sz_29 (by first | rfl | assumption | exact hS46.own_one 0 rfl | exact hS46.own_one 4 rfl | exact hS46.own_one 5 rfl | exact hS46.own_one 6 rfl) (i := 7) rfl (by first | decide | exact Nat.le_of_ble_eq_true rfl | (simp; done) | omega) ?_)
     intro w47 hS48; dsimp only [List.set] at hS48
     clear hS46
     refine wl_nil (qs_seq ?_)
     refine wc_sub (L' := [(9, _), (5, _), (0, _)]) (.cons rfl (.cons rfl (.cons rfl .nil))) ?_
     refine wc_ret (qs_then_ret ?_)
     refine fin0 (.inr rfl) rfl ?_
     have hz := hS48.pick [3, 4, 5, 6, 8] rfl
     exact ⟨_, rfl, rfl, ⟨M.ids ++ [o.id], M.refs ++ [1], M.pages ++ [b64 o.s]⟩, by rw [hv2]; exact hR.add hv1, by simp, moT_shut hz⟩
    refine wc_skip (qs_seq (wc_seq ?_))
    rw [if_neg (by omega)] at hv1 hv2
    obtain ⟨a1, c1, a2, c2, a3, c3, hSo49⟩ := moT_open (hS4.pick [0, 1, 2] rfl)
    refine wc_region (wl_move rfl rfl (wl_move rfl rfl (wl_nilCheck rfl rfl ?_)))
    refine wl_fieldAddr rfl fo_31_0 rfl ?_
    refine wl_load rfl ag_28 (by first | assumption | exact hSo49.cell 0 rfl rfl | exact hSo49.cell 4 rfl rfl) rfl ?_
    refine wl_move rfl rfl ?_
    refine wl_rowBuild inC [a] hSo49 rfl Tryz.underlying28 ifz_3 rfl rfl rfl rfl (by first | rfl | simp [RowC.cells, fillL, splice]) rfl ?_
    intro b50 w50 hS50
    clear hSo49
    refine wl_rowApp inC 2 hS50 rfl rfl rfl (hS50.rd 0 rfl (by simp)) Tryz.underlying28 Tryz.underlying28 (by intro k hk; cases hk) ifo_3 rfl (by simp only [List.length_cons, List.length_nil]; omega) rfl (by simp only [List.length_cons, List.length_nil]; omega) ?_
    intro v51 w51 hS51; dsimp only [List.set] at hS51
    clear hS50
    have h1v51 : v51.oneCell' = true := hS51.own_one 2 rfl
    refine wl_nilCheck rfl rfl ?_
    refine wl_fieldAddr rfl fo_31_0 rfl ?_
    first | (refine wl_store hS51 rfl rfl sz_28 (by first | rfl | assumption | exact hS51.own_one 0 rfl | exact hS51.own_one 2 rfl | exact hS51.own_one 3 rfl | exact hS51.own_one 4 rfl) (i := 1) rfl (by first | decide | exact Nat.le_of_ble_eq_true rfl | (simp; done) | omega) ?_) | (refine wl_store hS51 rfl rfl sz_28 (by first | rfl | assumption | exact hS51.own_one 0 rfl | exact hS51.own_one 2 rfl | exact hS51.own_one 3 rfl | exact hS51.own_one 4 rfl) (i := 5) rfl (by first | decide | exact Nat.le_of_ble_eq_true rfl | (simp; done) | omega) ?_)
    intro w52 hS53; dsimp only [List.set] at hS53
    clear hS51
    refine wl_nil (qs_seq ?_)
    refine wc_sub (L' := [(9, _), (8, _), (5, _), (0, _)]) (.cons rfl (.cons rfl (.cons rfl (.cons rfl .nil)))) ?_
    refine wc_seq (wc_region (wl_move rfl rfl (wl_move rfl rfl (wl_nilCheck rfl rfl ?_))))
    refine wl_fieldAddr rfl fo_31_1 rfl ?_
    refine wl_load rfl ag_28 (by first | assumption | exact hS53.cell 1 rfl rfl | exact hS53.cell 5 rfl rfl) rfl ?_
    refine wl_rowBuild inC [1] hS53 rfl Tryz.underlying28 ifz_3 rfl rfl rfl rfl (by first | rfl | simp [RowC.cells, fillL, splice]) rfl ?_
    intro b54 w54 hS54
    clear hS53
    refine wl_rowApp inC 4 hS54 rfl rfl rfl (hS54.rd 0 rfl (by simp)) Tryz.underlying28 Tryz.underlying28 (by intro k hk; cases hk) ifo_3 rfl (by simp only [List.length_cons, List.length_nil]; omega) rfl (by simp only [List.length_cons, List.length_nil]; omega) ?_
    intro v55 w55 hS55; dsimp only [List.set] at hS55
    clear hS54
    have h1v55 : v55.oneCell' = true := hS55.own_one 4 rfl
    refine wl_nilCheck rfl rfl ?_
    refine wl_fieldAddr rfl fo_31_1 rfl ?_
    first | (refine wl_store hS55 rfl rfl sz_28 (by first | rfl | assumption | exact hS55.own_one 0 rfl | exact hS55.own_one 3 rfl | exact hS55.own_one 4 rfl | exact hS55.own_one 5 rfl) (i := 2) rfl (by first | decide | exact Nat.le_of_ble_eq_true rfl | (simp; done) | omega) ?_) | (refine wl_store hS55 rfl rfl sz_28 (by first | rfl | assumption | exact hS55.own_one 0 rfl | exact hS55.own_one 3 rfl | exact hS55.own_one 4 rfl | exact hS55.own_one 5 rfl) (i := 6) rfl (by first | decide | exact Nat.le_of_ble_eq_true rfl | (simp; done) | omega) ?_)
    intro w56 hS57; dsimp only [List.set] at hS57
    clear hS55
    refine wl_nil (qs_seq ?_)
    refine wc_sub (L' := [(9, _), (8, _), (5, _), (0, _)]) (.cons rfl (.cons rfl (.cons rfl (.cons rfl .nil)))) ?_
    refine wc_seq (wc_region (wl_move rfl rfl (wl_move rfl rfl (wl_nilCheck rfl rfl ?_))))
    refine wl_fieldAddr rfl fo_31_2 rfl ?_
    refine wl_load rfl ag_29 (by first | assumption | exact hS57.cell 2 rfl rfl | exact hS57.cell 6 rfl rfl) rfl ?_
    refine wl_move rfl rfl ?_
    refine wl_rowBuild stC [b64 o.s] hS57 rfl Tryz.underlying29 ifz_9 rfl rfl rfl rfl (by first | rfl | simp [RowC.cells, fillL, splice]) rfl ?_
    intro b58 w58 hS58
    clear hS57
    refine wl_rowApp stC 6 hS58 rfl rfl rfl (hS58.rd 0 rfl (by simp)) Tryz.underlying29 Tryz.underlying29 (by intro k hk; cases hk) ifo_9 rfl (by simp only [List.length_cons, List.length_nil]; omega) rfl (by simp only [List.length_cons, List.length_nil]; omega) ?_
    intro v59 w59 hS59; dsimp only [List.set] at hS59
    clear hS58
    have h1v59 : v59.oneCell' = true := hS59.own_one 6 rfl
    refine wl_nilCheck rfl rfl ?_
    refine wl_fieldAddr rfl fo_31_2 rfl ?_
    first | (refine wl_store hS59 rfl rfl sz_29 (by first | rfl | assumption | exact hS59.own_one 0 rfl | exact hS59.own_one 4 rfl | exact hS59.own_one 5 rfl | exact hS59.own_one 6 rfl) (i := 3) rfl (by first | decide | exact Nat.le_of_ble_eq_true rfl | (simp; done) | omega) ?_) | (refine wl_store hS59 rfl rfl sz_29 (by first | rfl | assumption | exact hS59.own_one 0 rfl | exact hS59.own_one 4 rfl | exact hS59.own_one 5 rfl | exact hS59.own_one 6 rfl) (i := 7) rfl (by first | decide | exact Nat.le_of_ble_eq_true rfl | (simp; done) | omega) ?_)
    intro w60 hS61; dsimp only [List.set] at hS61
    clear hS59
    refine wl_nil (qs_seq ?_)
    refine wc_sub (L' := [(9, _), (5, _), (0, _)]) (.cons rfl (.cons rfl (.cons rfl .nil))) ?_
    refine wc_ret (qs_then_ret ?_)
    refine fin0 (.inr rfl) rfl ?_
    have hz := hS61.pick [3, 4, 5, 6, 8] rfl
    exact ⟨_, rfl, rfl, ⟨M.ids ++ [a], M.refs ++ [1], M.pages ++ [b64 o.s]⟩, by rw [hv2]; exact hR.add hv1, by simp, moT_shut hz⟩
   refine wc_skip (qs_seq (wc_seq (wc_seq ?_)))
   have hcc : ¬ (((o.d = 0 ∨ o.d = 10) ∧ a ≠ 0) ∨ o.d = 8) := by omega
   refine wc_region (wl_move rfl rfl ?_)
   refine wl_lss rfl rfl rfl ?_
   refine wl_nil (qs_seq ?_)
   refine wc_condD rfl (fun h62 => ?_) (fun h62 => ?_)
   ·refine wc_ret (qs_then_ret ?_)
    refine fin0 (.inr rfl) rfl ?_
    exact ⟨_, rfl, rfl, M, by rw [dov_none hD hcc (hR.non hno)]; exact hR, by omega, hS4.pick [0, 2] rfl⟩
   exact absurd (by decide) h62
  refine wl_guard rfl rfl (decide_eq_false h5) ?_
  refine wl_fieldAddr rfl fo_33_0 rfl ?_
  refine wl_guard rfl rfl (decide_eq_false h5) ?_
  refine wl_load rfl ag_3 (by first | assumption | exact hS4.cell 1 rfl rfl) rfl ?_
  refine wl_guard rfl rfl (decide_eq_false h5) ?_
  refine wl_eql rfl rfl rfl ?_
  refine wl_pickF rfl (decide_eq_false h5) rfl rfl ?_
  refine wl_move rfl rfl ?_
  refine wl_splitD 29 rfl (fun h63 => ?_) (fun h63 => ?_)
  ·refine wl_guard rfl rfl (decide_eq_true h63) ?_
   refine wl_move rfl rfl ?_
   refine wl_guard rfl rfl (decide_eq_true h63) ?_
   refine wl_neq rfl rfl rfl ?_
   refine wl_pickT rfl (decide_eq_true h63) rfl rfl ?_
   refine wl_move rfl rfl ?_
   refine wl_splitD 33 rfl (fun h64 => ?_) (fun h64 => ?_)
   ·refine wl_unwanted rfl rfl (decide_eq_true h64) rfl ?_
    refine wl_unwanted rfl rfl (decide_eq_true h64) rfl ?_
    refine wl_unwanted rfl rfl (decide_eq_true h64) rfl ?_
    refine wl_pickT rfl (decide_eq_true h64) rfl rfl ?_
    refine wl_nil (qs_seq ?_)
    refine wc_sub (L' := [(37, _), (9, _), (8, _), (5, _), (0, _), (2, _)]) (.cons rfl (.cons rfl (.cons rfl (.cons rfl (.cons rfl (.cons rfl .nil)))))) ?_
    refine wc_condT rfl ?_
    refine wc_seq ?_
    have hcc : ((o.d = 0 ∨ o.d = 10) ∧ a ≠ 0) ∨ o.d = 8 := by omega
    obtain ⟨hv1, hv2⟩ := dov_add hD hcc
    refine wc_region (wl_move rfl rfl (wl_assign rfl rfl (wl_nil (qs_seq (wc_seq (wc_seq (wc_region ?_)))))))
    refine wl_fieldAddr rfl fo_33_0 rfl ?_
    refine wl_load rfl ag_3 (by first | assumption | exact hS4.cell 1 rfl rfl) rfl ?_
    refine wl_eql rfl rfl rfl ?_
    refine wl_nil (qs_seq ?_)
    refine wc_sub (L' := [(41, _), (10, _), (9, _), (8, _), (5, _), (0, _)]) (.cons rfl (.cons rfl (.cons rfl (.cons rfl (.cons rfl (.cons rfl .nil)))))) ?_
    refine wc_condD rfl (fun h65 => ?_) (fun h65 => ?_)
    ·refine wc_region ?_
     refine wl_fieldAddr rfl fo_33_1 rfl ?_
     refine wl_load rfl ag_3 (by first | assumption | exact hS4.cell 1 rfl rfl) rfl ?_
     refine wl_assign rfl rfl (wl_nil (qs_seq (wc_seq ?_)))
     rw [if_pos (by omega)] at hv1 hv2
     obtain ⟨a1, c1, a2, c2, a3, c3, hSo66⟩ := moT_open (hS4.pick [0, 1, 2] rfl)
     refine wc_region (wl_move rfl rfl (wl_move rfl rfl (wl_nilCheck rfl rfl ?_)))
     refine wl_fieldAddr rfl fo_31_0 rfl ?_
     refine wl_load rfl ag_28 (by first | assumption | exact hSo66.cell 0 rfl rfl | exact hSo66.cell 4 rfl rfl) rfl ?_
     refine wl_move rfl rfl ?_
     refine wl_rowBuild inC [o.id] hSo66 rfl Tryz.underlying28 ifz_3 rfl rfl rfl rfl (by first | rfl | simp [RowC.cells, fillL, splice]) rfl ?_
     intro b67 w67 hS67
     clear hSo66
     refine wl_rowApp inC 2 hS67 rfl rfl rfl (hS67.rd 0 rfl (by simp)) Tryz.underlying28 Tryz.underlying28 (by intro k hk; cases hk) ifo_3 rfl (by simp only [List.length_cons, List.length_nil]; omega) rfl (by simp only [List.length_cons, List.length_nil]; omega) ?_
     intro v68 w68 hS68; dsimp only [List.set] at hS68
     clear hS67
     have h1v68 : v68.oneCell' = true := hS68.own_one 2 rfl
     refine wl_nilCheck rfl rfl ?_
     refine wl_fieldAddr rfl fo_31_0 rfl ?_
     first | (refine wl_store hS68 rfl rfl sz_28 (by first | rfl | assumption | exact hS68.own_one 0 rfl | exact hS68.own_one 2 rfl | exact hS68.own_one 3 rfl | exact hS68.own_one 4 rfl) (i := 1) rfl (by first | decide | exact Nat.le_of_ble_eq_true rfl | (simp; done) | omega) ?_) | (refine wl_store hS68 rfl rfl sz_28 (by first | rfl | assumption | exact hS68.own_one 0 rfl | exact hS68.own_one 2 rfl | exact hS68.own_one 3 rfl | exact hS68.own_one 4 rfl) (i := 5) rfl (by first | decide | exact Nat.le_of_ble_eq_true rfl | (simp; done) | omega) ?_)
     intro w69 hS70; dsimp only [List.set] at hS70
     clear hS68
     refine wl_nil (qs_seq ?_)
     refine wc_sub (L' := [(9, _), (8, _), (5, _), (0, _)]) (.cons rfl (.cons rfl (.cons rfl (.cons rfl .nil)))) ?_
     refine wc_seq (wc_region (wl_move rfl rfl (wl_move rfl rfl (wl_nilCheck rfl rfl ?_))))
     refine wl_fieldAddr rfl fo_31_1 rfl ?_
     refine wl_load rfl ag_28 (by first | assumption | exact hS70.cell 1 rfl rfl | exact hS70.cell 5 rfl rfl) rfl ?_
     refine wl_rowBuild inC [1] hS70 rfl Tryz.underlying28 ifz_3 rfl rfl rfl rfl (by first | rfl | simp [RowC.cells, fillL, splice]) rfl ?_
     intro b71 w71 hS71
     clear hS70
     refine wl_rowApp inC 4 hS71 rfl rfl rfl (hS71.rd 0 rfl (by simp)) Tryz.underlying28 Tryz.underlying28 (by intro k hk; cases hk) ifo_3 rfl (by simp only [List.length_cons, List.length_nil]; omega) rfl (by simp only [List.length_cons, List.length_nil]; omega) ?_
     intro v72 w72 hS72; dsimp only [List.set] at hS72
     clear hS71
     have h1v72 : v72.oneCell' = true := hS72.own_one 4 rfl
     refine wl_nilCheck rfl rfl ?_
     refine wl_fieldAddr rfl fo_31_1 rfl ?_
     first | (refine wl_store hS72 rfl rfl sz_28 (by first | rfl | assumption | exact hS72.own_one 0 rfl | exact hS72.own_one 3 rfl | exact hS72.own_one 4 rfl | exact hS72.own_one 5 rfl) (i := 2) rfl (by first | decide | exact Nat.le_of_ble_eq_true rfl | (simp; done) | omega) ?_) | (refine wl_store hS72 rfl rfl sz_28 (by first | rfl | assumption | exact hS72.own_one 0 rfl | exact hS72.own_one 3 rfl | exact hS72.own_one 4 rfl | exact hS72.own_one 5 rfl) (i := 6) rfl (by first | decide | exact Nat.le_of_ble_eq_true rfl | (simp; done) | omega) ?_)
     intro w73 hS74; dsimp only [List.set] at hS74
     clear hS72
     refine wl_nil (qs_seq ?_)
     refine wc_sub (L' := [(9, _), (8, _), (5, _), (0, _)]) (.cons rfl (.cons rfl (.cons rfl (.cons rfl .nil)))) ?_
     refine wc_seq (wc_region (wl_move rfl rfl (wl_move rfl rfl (wl_nilCheck rfl rfl ?_))))
     refine wl_fieldAddr rfl fo_31_2 rfl ?_
     refine wl_load rfl ag_29 (by first | assumption | exact hS74.cell 2 rfl rfl | exact hS74.cell 6 rfl rfl) rfl ?_
     refine wl_move rfl rfl ?_
     refine wl_rowBuild stC [b64 o.s] hS74 rfl Tryz.underlying29 ifz_9 rfl rfl rfl rfl (by first | rfl | simp [RowC.cells, fillL, splice]) rfl ?_
     intro b75 w75 hS75
     clear hS74
     refine wl_rowApp stC 6 hS75 rfl rfl rfl (hS75.rd 0 rfl (by simp)) Tryz.underlying29 Tryz.underlying29 (by intro k hk; cases hk) ifo_9 rfl (by simp only [List.length_cons, List.length_nil]; omega) rfl (by simp only [List.length_cons, List.length_nil]; omega) ?_
     intro v76 w76 hS76; dsimp only [List.set] at hS76
     clear hS75
     have h1v76 : v76.oneCell' = true := hS76.own_one 6 rfl
     refine wl_nilCheck rfl rfl ?_
     refine wl_fieldAddr rfl fo_31_2 rfl ?_
     first | (refine wl_store hS76 rfl rfl sz_29 (by first | rfl | assumption | exact hS76.own_one 0 rfl | exact hS76.own_one 4 rfl | exact hS76.own_one 5 rfl | exact hS76.own_one 6 rfl) (i := 3) rfl (by first | decide | exact Nat.le_of_ble_eq_true rfl | (simp; done) | omega) ?_) | (refine wl_store hS76 rfl rfl sz_29 (by first | rfl | assumption | exact hS76.own_one 0 rfl | exact hS76.own_one 4 rfl | exact hS76.own_one 5 rfl | exact hS76.own_one 6 rfl) (i := 7) rfl (by first | decide | exact Nat.le_of_ble_eq_true rfl | (simp; done) | omega) ?_)
     intro w77 hS78; dsimp only [List.set] at hS78
     clear hS76
     refine wl_nil (qs_seq ?_)
     refine wc_sub (L' := [(9, _), (5, _), (0, _)]) (.cons rfl (.cons rfl (.cons rfl .nil))) ?_
     refine wc_ret (qs_then_ret ?_)
     refine fin0 (.inr rfl) rfl ?_
     have hz := hS78.pick [3, 4, 5, 6, 8] rfl
     exact ⟨_, rfl, rfl, ⟨M.ids ++ [o.id], M.refs ++ [1], M.pages ++ [b64 o.s]⟩, by rw [hv2]; exact hR.add hv1, by simp, moT_shut hz⟩
    refine wc_skip (qs_seq (wc_seq ?_))
    rw [if_neg (by omega)] at hv1 hv2
    obtain ⟨a1, c1, a2, c2, a3, c3, hSo79⟩ := moT_open (hS4.pick [0, 1, 2] rfl)
    refine wc_region (wl_move rfl rfl (wl_move rfl rfl (wl_nilCheck rfl rfl ?_)))
    refine wl_fieldAddr rfl fo_31_0 rfl ?_
    refine wl_load rfl ag_28 (by first | assumption | exact hSo79.cell 0 rfl rfl | exact hSo79.cell 4 rfl rfl) rfl ?_
    refine wl_move rfl rfl ?_
    refine wl_rowBuild inC [a] hSo79 rfl Tryz.underlying28 ifz_3 rfl rfl rfl rfl (by first | rfl | simp [RowC.cells, fillL, splice]) rfl ?_
    intro b80 w80 hS80
    clear hSo79
    refine wl_rowApp inC 2 hS80 rfl rfl rfl (hS80.rd 0 rfl (by simp)) Tryz.underlying28 Tryz.underlying28 (by intro k hk; cases hk) ifo_3 rfl (by simp only [List.length_cons, List.length_nil]; omega) rfl (by simp only [List.length_cons, List.length_nil]; omega) ?_
    intro v81 w81 hS81; dsimp only [List.set] at hS81
    clear hS80
    have h1v81 : v81.oneCell' = true := hS81.own_one 2 rfl
    refine wl_nilCheck rfl rfl ?_
    refine wl_fieldAddr rfl fo_31_0 rfl ?_
    first | (refine wl_store hS81 rfl rfl sz_28 (by first | rfl | assumption | exact hS81.own_one 0 rfl | exact hS81.own_one 2 rfl | exact hS81.own_one 3 rfl | exact hS81.own_one 4 rfl) (i := 1) rfl (by first | decide | exact Nat.le_of_ble_eq_true rfl | (simp; done) | omega) ?_) | (refine wl_store hS81 rfl rfl sz_28 (by first | rfl | assumption | exact hS81.own_one 0 rfl | exact hS81.own_one 2 rfl | exact hS81.own_one 3 rfl | exact hS81.own_one 4 rfl) (i := 5) rfl (by first | decide | exact Nat.le_of_ble_eq_true rfl | (simp; done) | omega) ?_)
    intro w82 hS83; dsimp only [List.set] at hS83
    clear hS81
    refine wl_nil (qs_seq ?_)
    refine wc_sub (L' := [(9, _), (8, _), (5, _), (0, _)]) (.cons rfl (.cons rfl (.cons rfl (.cons rfl .nil)))) ?_
    refine wc_seq (wc_region (wl_move rfl rfl (wl_move rfl rfl (wl_nilCheck rfl rfl ?_))))
    refine wl_fieldAddr rfl fo_31_1 rfl ?_
    refine wl_load rfl ag_28 (by first | assumption | exact hS83.cell 1 rfl rfl | exact hS83.cell 5 rfl rfl) rfl ?_
    refine wl_rowBuild inC [1] hS83 rfl Tryz.underlying28 ifz_3 rfl rfl rfl rfl (by first | rfl | simp [RowC.cells, fillL, splice]) rfl ?_
    intro b84 w84 hS84
    clear hS83
    refine wl_rowApp inC 4 hS84 rfl rfl rfl (hS84.rd 0 rfl (by simp)) Tryz.underlying28 Tryz.underlying28 (by intro k hk; cases hk) ifo_3 rfl (by simp only [List.length_cons, List.length_nil]; omega) rfl (by simp only [List.length_cons, List.length_nil]; omega) ?_
    intro v85 w85 hS85; dsimp only [List.set] at hS85
    clear hS84
    have h1v85 : v85.oneCell' = true := hS85.own_one 4 rfl
    refine wl_nilCheck rfl rfl ?_
    refine wl_fieldAddr rfl fo_31_1 rfl ?_
    first | (refine wl_store hS85 rfl rfl sz_28 (by first | rfl | assumption | exact hS85.own_one 0 rfl | exact hS85.own_one 3 rfl | exact hS85.own_one 4 rfl | exact hS85.own_one 5 rfl) (i := 2) rfl (by first | decide | exact Nat.le_of_ble_eq_true rfl | (simp; done) | omega) ?_) | (refine wl_store hS85 rfl rfl sz_28 (by first | rfl | assumption | exact hS85.own_one 0 rfl | exact hS85.own_one 3 rfl | exact hS85.own_one 4 rfl | exact hS85.own_one 5 rfl) (i := 6) rfl (by first | decide | exact Nat.le_of_ble_eq_true rfl | (simp; done) | omega) ?_)
    intro w86 hS87; dsimp only [List.set] at hS87
    clear hS85
    refine wl_nil (qs_seq ?_)
    refine wc_sub (L' := [(9, _), (8, _), (5, _), (0, _)]) (.cons rfl (.cons rfl (.cons rfl (.cons rfl .nil)))) ?_
    refine wc_seq (wc_region (wl_move rfl rfl (wl_move rfl rfl (wl_nilCheck rfl rfl ?_))))
    refine wl_fieldAddr rfl fo_31_2 rfl ?_
    refine wl_load rfl ag_29 (by first | assumption | exact hS87.cell 2 rfl rfl | exact hS87.cell 6 rfl rfl) rfl ?_
    refine wl_move rfl rfl ?_
    refine wl_rowBuild stC [b64 o.s] hS87 rfl Tryz.underlying29 ifz_9 rfl rfl rfl rfl (by first | rfl | simp [RowC.cells, fillL, splice]) rfl ?_
    intro b88 w88 hS88
    clear hS87
    refine wl_rowApp stC 6 hS88 rfl rfl rfl (hS88.rd 0 rfl (by simp)) Tryz.underlying29 Tryz.underlying29 (by intro k hk; cases hk) ifo_9 rfl (by simp only [List.length_cons, List.length_nil]; omega) rfl (by simp only [List.length_cons, List.length_nil]; omega) ?_
    intro v89 w89 hS89; dsimp only [List.set] at hS89
    clear hS88
    have h1v89 : v89.oneCell' = true := hS89.own_one 6 rfl
    refine wl_nilCheck rfl rfl ?_
    refine wl_fieldAddr rfl fo_31_2 rfl ?_
    first | (refine wl_store hS89 rfl rfl sz_29 (by first | rfl | assumption | exact hS89.own_one 0 rfl | exact hS89.own_one 4 rfl | exact hS89.own_one 5 rfl | exact hS89.own_one 6 rfl) (i := 3) rfl (by first | decide | exact Nat.le_of_ble_eq_true rfl | (simp; done) | omega) ?_) | (refine wl_store hS89 rfl rfl sz_29 (by first | rfl | assumption | exact hS89.own_one 0 rfl | exact hS89.own_one 4 rfl | exact hS89.own_one 5 rfl | exact hS89.own_one 6 rfl) (i := 7) rfl (by first | decide | exact Nat.le_of_ble_eq_true rfl | (simp; done) | omega) ?_)
    intro w90 hS91; dsimp only [List.set] at hS91
    clear hS89
    refine wl_nil (qs_seq ?_)
    refine wc_sub (L' := [(9, _), (5, _), (0, _)]) (.cons rfl (.cons rfl (.cons rfl .nil))) ?_
    refine wc_ret (qs_then_ret ?_)
    refine fin0 (.inr rfl) rfl ?_
    have hz := hS91.pick [3, 4, 5, 6, 8] rfl
    exact ⟨_, rfl, rfl, ⟨M.ids ++ [a], M.refs ++ [1], M.pages ++ [b64 o.s]⟩, by rw [hv2]; exact hR.add hv1, by simp, moT_shut hz⟩
   refine wl_guard rfl rfl (decide_eq_false h64) ?_
   refine wl_fieldAddr rfl fo_33_0 rfl ?_
   refine wl_guard rfl rfl (decide_eq_false h64) ?_
   refine wl_load rfl ag_3 (by first | assumption | exact hS4.cell 1 rfl rfl) rfl ?_
   refine wl_guard rfl rfl (decide_eq_false h64) ?_
   refine wl_eql rfl rfl rfl ?_
   refine wl_pickF rfl (decide_eq_false h64) rfl rfl ?_
   refine wl_nil (qs_seq ?_)
   refine wc_sub (L' := [(37, _), (9, _), (8, _), (5, _), (0, _), (2, _)]) (.cons rfl (.cons rfl (.cons rfl (.cons rfl (.cons rfl (.cons rfl .nil)))))) ?_
   refine wc_condD rfl (fun h92 => ?_) (fun h92 => ?_)
   ·refine wc_seq ?_
    have hcc : ((o.d = 0 ∨ o.d = 10) ∧ a ≠ 0) ∨ o.d = 8 := by omega
    obtain ⟨hv1, hv2⟩ := dov_add hD hcc
    refine wc_region (wl_move rfl rfl (wl_assign rfl rfl (wl_nil (qs_seq (wc_seq (wc_seq (wc_region ?_)))))))
    refine wl_fieldAddr rfl fo_33_0 rfl ?_
    refine wl_load rfl ag_3 (by first | assumption | exact hS4.cell 1 rfl rfl) rfl ?_
    refine wl_eql rfl rfl rfl ?_
    refine wl_nil (qs_seq ?_)
    refine wc_sub (L' := [(41, _), (10, _), (9, _), (8, _), (5, _), (0, _)]) (.cons rfl (.cons rfl (.cons rfl (.cons rfl (.cons rfl (.cons rfl .nil)))))) ?_
    refine wc_condD rfl (fun h93 => ?_) (fun h93 => ?_)
    ·refine wc_region ?_
     refine wl_fieldAddr rfl fo_33_1 rfl ?_
     refine wl_load rfl ag_3 (by first | assumption | exact hS4.cell 1 rfl rfl) rfl ?_
     refine wl_assign rfl rfl (wl_nil (qs_seq (wc_seq ?_)))
     rw [if_pos (by omega)] at hv1 hv2
     obtain ⟨a1, c1, a2, c2, a3, c3, hSo94⟩ := moT_open (hS4.pick [0, 1, 2] rfl)
     refine wc_region (wl_move rfl rfl (wl_move rfl rfl (wl_nilCheck rfl rfl ?_)))
     refine wl_fieldAddr rfl fo_31_0 rfl ?_
     refine wl_load rfl ag_28 (by first | assumption | exact hSo94.cell 0 rfl rfl | exact hSo94.cell 4 rfl rfl) rfl ?_
     refine wl_move rfl rfl ?_
     refine wl_rowBuild inC [o.id] hSo94 rfl Tryz.underlying28 ifz_3 rfl rfl rfl rfl (by first | rfl | simp [RowC.cells, fillL, splice]) rfl ?_
     intro b95 w95 hS95
     clear hSo94
     refine wl_rowApp inC 2 hS95 rfl rfl rfl (hS95.rd 0 rfl (by simp)) Tryz.underlying28 Tryz.underlying28 (by intro k hk; cases hk) ifo_3 rfl (by simp only [List.length_cons, List.length_nil]; omega) rfl (by simp only [List.length_cons, List.length_nil]; omega) ?_
     intro v96 w96 hS96; dsimp only [List.set] at hS96
     clear hS95
     have h1v96 : v96.oneCell' = true := hS96.own_one 2 rfl
     refine wl_nilCheck rfl rfl ?_
     refine wl_fieldAddr rfl fo_31_0 rfl ?_
     first | (refine wl_store hS96 rfl rfl sz_28 (by first | rfl | assumption | exact hS96.own_one 0 rfl | exact hS96.own_one 2 rfl | exact hS96.own_one 3 rfl | exact hS96.own_one 4 rfl) (i := 1) rfl (by first | decide | exact Nat.le_of_ble_eq_true rfl | (simp; done) | omega) ?_) | (refine wl_store hS96 rfl rfl sz_28 (by first | rfl | assumption | exact hS96.own_one 0 rfl | exact hS96.own_one 2 rfl | exact hS96.own_one 3 rfl | exact hS96.own_one 4 rfl) (i := 5) rfl (by first | decide | exact Nat.le_of_ble_eq_true rfl | (simp; done) | omega) ?_)
     intro w97 hS98; dsimp only [List.set] at hS98
     clear hS96
     refine wl_nil (qs_seq ?_)
     refine wc_sub (L' := [(9, _), (8, _), (5, _), (0, _)]) (.cons rfl (.cons rfl (.cons rfl (.cons rfl .nil)))) ?_
     refine wc_seq (wc_region (wl_move rfl rfl (wl_move rfl rfl (wl_nilCheck rfl rfl ?_))))
     refine wl_fieldAddr rfl fo_31_1 rfl ?_
     refine wl_load rfl ag_28 (by first | assumption | exact hS98.cell 1 rfl rfl | exact hS98.cell 5 rfl rfl) rfl ?_
     refine wl_rowBuild inC [1] hS98 rfl Tryz.underlying28 ifz_3 rfl rfl rfl rfl (by first | rfl | simp [RowC.cells, fillL, splice]) rfl ?_
     intro b99 w99 hS99
     clear hS98
     refine wl_rowApp inC 4 hS99 rfl rfl rfl (hS99.rd 0 rfl (by simp)) Tryz.underlying28 Tryz.underlying28 (by intro k hk; cases hk) ifo_3 rfl (by simp only [List.length_cons, List.length_nil]; omega) rfl (by simp only [List.length_cons, List.length_nil]; omega) ?_
     intro v100 w100 hS100; dsimp only [List.set] at hS100
     clear hS99
     have h1v100 : v100.oneCell' = true := hS100.own_one 4 rfl
     refine wl_nilCheck rfl rfl ?_
     refine wl_fieldAddr rfl fo_31_1 rfl ?_
     first | (refine wl_store hS100 rfl rfl sz_28 (by first | rfl | assumption | exact hS100.own_one 0 rfl | exact hS100.own_one 3 rfl | exact hS100.own_one 4 rfl | exact hS100.own_one 5 rfl) (i := 2) rfl (by first | decide | exact Nat.le_of_ble_eq_true rfl | (simp; done) | omega) ?_) | (refine wl_store hS100 rfl rfl sz_28 (by first | rfl | assumption | exact hS100.own_one 0 rfl | exact hS100.own_one 3 rfl | exact hS100.own_one 4 rfl | exact hS100.own_one 5 rfl) (i := 6) rfl (by first | decide | exact Nat.le_of_ble_eq_true rfl | (simp; done) | omega) ?_)
     intro w101 hS102; dsimp only [List.set] at hS102
     clear hS100
     refine wl_nil (qs_seq ?_)
     refine wc_sub (L' := [(9, _), (8, _), (5, _), (0, _)]) (.cons rfl (.cons rfl (.cons rfl (.cons rfl .nil)))) ?_
     refine wc_seq (wc_region (wl_move rfl rfl (wl_move rfl rfl (wl_nilCheck rfl rfl ?_))))
     refine wl_fieldAddr rfl fo_31_2 rfl ?_
     refine wl_load rfl ag_29 (by first | assumption | exact hS102.cell 2 rfl rfl | exact hS102.cell 6 rfl rfl) rfl ?_
     refine wl_move rfl rfl ?_
     refine wl_rowBuild stC [b64 o.s] hS102 rfl Tryz.underlying29 ifz_9 rfl rfl rfl rfl (by first | rfl | simp [RowC.cells, fillL, splice]) rfl ?_
     intro b103 w103 hS103
     clear hS102
     refine wl_rowApp stC 6 hS103 rfl rfl rfl (hS103.rd 0 rfl (by simp)) Tryz.underlying29 Tryz.underlying29 (by intro k hk; cases hk) ifo_9 rfl (by simp only [List.length_cons, List.length_nil]; omega) rfl (by simp only [List.length_cons, List.length_nil]; omega) ?_
     intro v104 w104 hS104; dsimp only [List.set] at hS104
     clear hS103
     have h1v104 : v104.oneCell' = true := hS104.own_one 6 rfl
     refine wl_nilCheck rfl rfl ?_
     refine wl_fieldAddr rfl fo_31_2 rfl ?_
     first | (refine wl_store hS104 rfl rfl sz_29 (by first | rfl | assumption | exact hS104.own_one 0 rfl | exact hS104.own_one 4 rfl | exact hS104.own_one 5 rfl | exact hS104.own_one 6 rfl) (i := 3) rfl (by first | decide | exact Nat.le_of_ble_eq_true rfl | (simp; done) | omega) ?_) | (refine wl_store hS104 rfl rfl sz_29 (by first | rfl | assumption | exact hS104.own_one 0 rfl | exact hS104.own_one 4 rfl | exact hS104.own_one 5 rfl | exact hS104.own_one 6 rfl) (i := 7) rfl (by first | decide | exact Nat.le_of_ble_eq_true rfl | (simp; done) | omega) ?_)
     intro w105 hS106; dsimp only [List.set] at hS106
     clear hS104
     refine wl_nil (qs_seq ?_)
     refine wc_sub (L' := [(9, _), (5, _), (0, _)]) (.cons rfl (.cons rfl (.cons rfl .nil))) ?_
     refine wc_ret (qs_then_ret ?_)
     refine fin0 (.inr rfl) rfl ?_
     have hz := hS106.pick [3, 4, 5, 6, 8] rfl
     exact ⟨_, rfl, rfl, ⟨M.ids ++ [o.id], M.refs ++ [1], M.pages ++ [b64 o.s]⟩, by rw [hv2]; exact hR.add hv1, by simp, moT_shut hz⟩
    refine wc_skip (qs_seq (wc_seq ?_))
    rw [if_neg (by omega)] at hv1 hv2
    obtain ⟨a1, c1, a2, c2, a3, c3, hSo107⟩ := moT_open (hS4.pick [0, 1, 2] rfl)
    refine wc_region (wl_move rfl rfl (wl_move rfl rfl (wl_nilCheck rfl rfl ?_)))
    refine wl_fieldAddr rfl fo_31_0 rfl ?_
    refine wl_load rfl ag_28 (by first | assumption | exact hSo107.cell 0 rfl rfl | exact hSo107.cell 4 rfl rfl) rfl ?_
    refine wl_move rfl rfl ?_
    refine wl_rowBuild inC [a] hSo107 rfl Tryz.underlying28 ifz_3 rfl rfl rfl rfl (by first | rfl | simp [RowC.cells, fillL, splice]) rfl ?_
    intro b108 w108 hS108
    clear hSo107
    refine wl_rowApp inC 2 hS108 rfl rfl rfl (hS108.rd 0 rfl (by simp)) Tryz.underlying28 Tryz.underlying28 (by intro k hk; cases hk) ifo_3 rfl (by simp only [List.length_cons, List.length_nil]; omega) rfl (by simp only [List.length_cons, List.length_nil]; omega) ?_
    intro v109 w109 hS109; dsimp only [List.set] at hS109
    clear hS108
    have h1v109 : v109.oneCell' = true := hS109.own_one 2 rfl
    refine wl_nilCheck rfl rfl ?_
    refine wl_fieldAddr rfl fo_31_0 rfl ?_
    first | (refine wl_store hS109 rfl rfl sz_28 (by first | rfl | assumption | exact hS109.own_one 0 rfl | exact hS109.own_one 2 rfl | exact hS109.own_one 3 rfl | exact hS109.own_one 4 rfl) (i := 1) rfl (by first | decide | exact Nat.le_of_ble_eq_true rfl | (simp; done) | omega) ?_) | (refine wl_store hS109 rfl rfl sz_28 (by first | rfl | assumption | exact hS109.own_one 0 rfl | exact hS109.own_one 2 rfl | exact hS109.own_one 3 rfl | exact hS109.own_one 4 rfl) (i := 5) rfl (by first | decide | exact Nat.le_of_ble_eq_true rfl | (simp; done) | omega) ?_)
    intro w110 hS111; dsimp only [List.set] at hS111
    clear hS109
    refine wl_nil (qs_seq ?_)
    refine wc_sub (L' := [(9, _), (8, _), (5, _), (0, _)]) (.cons rfl (.cons rfl (.cons rfl (.cons rfl .nil)))) ?_
    refine wc_seq (wc_region (wl_move rfl rfl (wl_move rfl rfl (wl_nilCheck rfl rfl ?_))))
    refine wl_fieldAddr rfl fo_31_1 rfl ?_
    refine wl_load rfl ag_28 (by first | assumption | exact hS111.cell 1 rfl rfl | exact hS111.cell 5 rfl rfl) rfl ?_
    refine wl_rowBuild inC [1] hS111 rfl Tryz.underlying28 ifz_3 rfl rfl rfl rfl (by first | rfl | simp [RowC.cells, fillL, splice]) rfl ?_
    intro b112 w112 hS112
    clear hS111
    refine wl_rowApp inC 4 hS112 rfl rfl rfl (hS112.rd 0 rfl (by simp)) Tryz.underlying28 Tryz.underlying28 (by intro k hk; cases hk) ifo_3 rfl (by simp only [List.length_cons, List.length_nil]; omega) rfl (by simp only [List.length_cons, List.length_nil]; omega) ?_
    intro v113 w113 hS113; dsimp only [List.set] at hS113
    clear hS112
    have h1v113 : v113.oneCell' = true := hS113.own_one 4 rfl
    refine wl_nilCheck rfl rfl ?_
    refine wl_fieldAddr rfl fo_31_1 rfl ?_
    first | (refine wl_store hS113 rfl rfl sz_28 (by first | rfl | assumption | exact hS113.own_one 0 rfl | exact hS113.own_one 3 rfl | exact hS113.own_one 4 rfl | exact hS113.own_one 5 rfl) (i := 2) rfl (by first | decide | exact Nat.le_of_ble_eq_true rfl | (simp; done) | omega) ?_) | (refine wl_store hS113 rfl rfl sz_28 (by first | rfl | assumption | exact hS113.own_one 0 rfl | exact hS113.own_one 3 rfl | exact hS113.own_one 4 rfl | exact hS113.own_one 5 rfl) (i := 6) rfl (by first | decide | exact Nat.le_of_ble_eq_true rfl | (simp; done) | omega) ?_)
    intro w114 hS115; dsimp only [List.set] at hS115
    clear hS113
    refine wl_nil (qs_seq ?_)
    refine wc_sub (L' := [(9, _), (8, _), (5, _), (0, _)]) (.cons rfl (.cons rfl (.cons rfl (.cons rfl .nil)))) ?_
    refine wc_seq (wc_region (wl_move rfl rfl (wl_move rfl rfl (wl_nilCheck rfl rfl ?_))))
    refine wl_fieldAddr rfl fo_31_2 rfl ?_
    refine wl_load rfl ag_29 (by first | assumption | exact hS115.cell 2 rfl rfl | exact hS115.cell 6 rfl rfl) rfl ?_
    refine wl_move rfl rfl ?_
    refine wl_rowBuild stC [b64 o.s] hS115 rfl Tryz.underlying29 ifz_9 rfl rfl rfl rfl (by first | rfl | simp [RowC.cells, fillL, splice]) rfl ?_
    intro b116 w116 hS116
    clear hS115
    refine wl_rowApp stC 6 hS116 rfl rfl rfl (hS116.rd 0 rfl (by simp)) Tryz.underlying29 Tryz.underlying29 (by intro k hk; cases hk) ifo_9 rfl (by simp only [List.length_cons, List.length_nil]; omega) rfl (by simp only [List.length_cons, List.length_nil]; omega) ?_
    intro v117 w117 hS117; dsimp only [List.set] at hS117
    clear hS116
    have h1v117 : v117.oneCell' = true := hS117.own_one 6 rfl
    refine wl_nilCheck rfl rfl ?_
    refine wl_fieldAddr rfl fo_31_2 rfl ?_
    first | (refine wl_store hS117 rfl rfl sz_29 (by first | rfl | assumption | exact hS117.own_one 0 rfl | exact hS117.own_one 4 rfl | exact hS117.own_one 5 rfl | exact hS117.own_one 6 rfl) (i := 3) rfl (by first | decide | exact Nat.le_of_ble_eq_true rfl | (simp; done) | omega) ?_) | (refine wl_store hS117 rfl rfl sz_29 (by first | rfl | assumption | exact hS117.own_one 0 rfl | exact hS117.own_one 4 rfl | exact hS117.own_one 5 rfl | exact hS117.own_one 6 rfl) (i := 7) rfl (by first | decide | exact Nat.le_of_ble_eq_true rfl | (simp; done) | omega) ?_)
    intro w118 hS119; dsimp only [List.set] at hS119
    clear hS117
    refine wl_nil (qs_seq ?_)
    refine wc_sub (L' := [(9, _), (5, _), (0, _)]) (.cons rfl (.cons rfl (.cons rfl .nil))) ?_
    refine wc_ret (qs_then_ret ?_)
    refine fin0 (.inr rfl) rfl ?_
    have hz := hS119.pick [3, 4, 5, 6, 8] rfl
    exact ⟨_, rfl, rfl, ⟨M.ids ++ [a], M.refs ++ [1], M.pages ++ [b64 o.s]⟩, by rw [hv2]; exact hR.add hv1, by simp, moT_shut hz⟩
   refine wc_skip (qs_seq (wc_seq (wc_seq ?_)))
   have hcc : ¬ (((o.d = 0 ∨ o.d = 10) ∧ a ≠ 0) ∨ o.d = 8) := by omega
   refine wc_region (wl_move rfl rfl ?_)
   refine wl_lss rfl rfl rfl ?_
   refine wl_nil (qs_seq ?_)
   refine wc_condD rfl (fun h120 => ?_) (fun h120 => ?_)
   ·refine wc_ret (qs_then_ret ?_)
    refine fin0 (.inr rfl) rfl ?_
    exact ⟨_, rfl, rfl, M, by rw [dov_none hD hcc (hR.non hno)]; exact hR, by omega, hS4.pick [0, 2] rfl⟩
   exact absurd (by decide) h120
  refine wl_unwanted rfl rfl (decide_eq_false h63) rfl ?_
  refine wl_unwanted rfl rfl (decide_eq_false h63) rfl ?_
  refine wl_pickF rfl (decide_eq_false h63) rfl rfl ?_
  refine wl_move rfl rfl ?_
  refine wl_guard rfl rfl rfl ?_
  refine wl_fieldAddr rfl fo_33_0 rfl ?_
  refine wl_guard rfl rfl rfl ?_
  refine wl_load rfl ag_3 (by first | assumption | exact hS4.cell 1 rfl rfl) rfl ?_
  refine wl_guard rfl rfl rfl ?_
  refine wl_eql rfl rfl rfl ?_
  refine wl_pickF rfl rfl rfl rfl ?_
  refine wl_nil (qs_seq ?_)
  refine wc_sub (L' := [(37, _), (9, _), (8, _), (5, _), (0, _), (2, _)]) (.cons rfl (.cons rfl (.cons rfl (.cons rfl (.cons rfl (.cons rfl .nil)))))) ?_
  refine wc_condD rfl (fun h121 => ?_) (fun h121 => ?_)
  ·refine wc_seq ?_
   have hcc : ((o.d = 0 ∨ o.d = 10) ∧ a ≠ 0) ∨ o.d = 8 := by omega
   obtain ⟨hv1, hv2⟩ := dov_add hD hcc
   refine wc_region (wl_move rfl rfl (wl_assign rfl rfl (wl_nil (qs_seq (wc_seq (wc_seq (wc_region ?_)))))))
   refine wl_fieldAddr rfl fo_33_0 rfl ?_
   refine wl_load rfl ag_3 (by first | assumption | exact hS4.cell 1 rfl rfl) rfl ?_
   refine wl_eql rfl rfl rfl ?_
   refine wl_nil (qs_seq ?_)
   refine wc_sub (L' := [(41, _), (10, _), (9, _), (8, _), (5, _), (0, _)]) (.cons rfl (.cons rfl (.cons rfl (.cons rfl (.cons rfl (.cons rfl .nil)))))) ?_
   refine wc_condD rfl (fun h122 => ?_) (fun h122 => ?_)
   ·refine wc_region ?_
    refine wl_fieldAddr rfl fo_33_1 rfl ?_
    refine wl_load rfl ag_3 (by first | assumption | exact hS4.cell 1 rfl rfl) rfl ?_
    refine wl_assign rfl rfl (wl_nil (qs_seq (wc_seq ?_)))
    rw [if_pos (by omega)] at hv1 hv2
    obtain ⟨a1, c1, a2, c2, a3, c3, hSo123⟩ := moT_open (hS4.pick [0, 1, 2] rfl)
    refine wc_region (wl_move rfl rfl (wl_move rfl rfl (wl_nilCheck rfl rfl ?_)))
    refine wl_fieldAddr rfl fo_31_0 rfl ?_
    refine wl_load rfl ag_28 (by first | assumption | exact hSo123.cell 0 rfl rfl | exact hSo123.cell 4 rfl rfl) rfl ?_
    refine wl_move rfl rfl ?_
    refine wl_rowBuild inC [o.id] hSo123 rfl Tryz.underlying28 ifz_3 rfl rfl rfl rfl (by first | rfl | simp [RowC.cells, fillL, splice]) rfl ?_
    intro b124 w124 hS124
    clear hSo123
    refine wl_rowApp inC 2 hS124 rfl rfl rfl (hS124.rd 0 rfl (by simp)) Tryz.underlying28 Tryz.underlying28 (by intro k hk; cases hk) ifo_3 rfl (by simp only [List.length_cons, List.length_nil]; omega) rfl (by simp only [List.length_cons, List.length_nil]; omega) ?_
    intro v125 w125 hS125; dsimp only [List.set] at hS125
    clear hS124
    have h1v125 : v125.oneCell' = true := hS125.own_one 2 rfl
    refine wl_nilCheck rfl rfl ?_
    refine wl_fieldAddr rfl fo_31_0 rfl ?_
    first | (refine wl_store hS125 rfl rfl sz_28 (by first | rfl | assumption | exact hS125.own_one 0 rfl | exact hS125.own_one 2 rfl | exact hS125.own_one 3 rfl | exact hS125.own_one 4 rfl) (i := 1) rfl (by first | decide | exact Nat.le_of_ble_eq_true rfl | (simp; done) | omega) ?_) | (refine wl_store hS125 rfl rfl sz_28 (by first | rfl | assumption | exact hS125.own_one 0 rfl | exact hS125.own_one 2 rfl | exact hS125.own_one 3 rfl | exact hS125.own_one 4 rfl) (i := 5) rfl (by first | decide | exact Nat.le_of_ble_eq_true rfl | (simp; done) | omega) ?_)
    intro w126 hS127; dsimp only [List.set] at hS127
    clear hS125
    refine wl_nil (qs_seq ?_)
    refine wc_sub (L' := [(9, _), (8, _), (5, _), (0, _)]) (.cons rfl (.cons rfl (.cons rfl (.cons rfl .nil)))) ?_
    refine wc_seq (wc_region (wl_move rfl rfl (wl_move rfl rfl (wl_nilCheck rfl rfl ?_))))
    refine wl_fieldAddr rfl fo_31_1 rfl ?_
    refine wl_load rfl ag_28 (by first | assumption | exact hS127.cell 1 rfl rfl | exact hS127.cell 5 rfl rfl) rfl ?_
    refine wl_rowBuild inC [1] hS127 rfl Tryz.underlying28 ifz_3 rfl rfl rfl rfl (by first | rfl | simp [RowC.cells, fillL, splice]) rfl ?_
    intro b128 w128 hS128
    clear hS127
    refine wl_rowApp inC 4 hS128 rfl rfl rfl (hS128.rd 0 rfl (by simp)) Tryz.underlying28 Tryz.underlying28 (by intro k hk; cases hk) ifo_3 rfl (by simp only [List.length_cons, List.length_nil]; omega) rfl (by simp only [List.length_cons, List.length_nil]; omega) ?_
    intro v129 w129 hS129; dsimp only [List.set] at hS129
    clear hS128
    have h1v129 : v129.oneCell' = true := hS129.own_one 4 rfl
    refine wl_nilCheck rfl rfl ?_
    refine wl_fieldAddr rfl fo_31_1 rfl ?_
    first | (refine wl_store hS129 rfl rfl sz_28 (by first | rfl | assumption | exact hS129.own_one 0 rfl | exact hS129.own_one 3 rfl | exact hS129.own_one 4 rfl | exact hS129.own_one 5 rfl) (i := 2) rfl (by first | decide | exact Nat.le_of_ble_eq_true rfl | (simp; done) | omega) ?_) | (refine wl_store hS129 rfl rfl sz_28 (by first | rfl | assumption | exact hS129.own_one 0 rfl | exact hS129.own_one 3 rfl | exact hS129.own_one 4 rfl | exact hS129.own_one 5 rfl) (i := 6) rfl (by first | decide | exact Nat.le_of_ble_eq_true rfl | (simp; done) | omega) ?_)
    intro w130 hS131; dsimp only [List.set] at hS131
    clear hS129
    refine wl_nil (qs_seq ?_)
    refine wc_sub (L' := [(9, _), (8, _), (5, _), (0, _)]) (.cons rfl (.cons rfl (.cons rfl (.cons rfl .nil)))) ?_
    refine wc_seq (wc_region (wl_move rfl rfl (wl_move rfl rfl (wl_nilCheck rfl rfl ?_))))
    refine wl_fieldAddr rfl fo_31_2 rfl ?_
    refine wl_load rfl ag_29 (by first | assumption | exact hS131.cell 2 rfl rfl | exact hS131.cell 6 rfl rfl) rfl ?_
    refine wl_move rfl rfl ?_
    refine wl_rowBuild stC [b64 o.s] hS131 rfl Tryz.underlying29 ifz_9 rfl rfl rfl rfl (by first | rfl | simp [RowC.cells, fillL, splice]) rfl ?_
    intro b132 w132 hS132
    clear hS131
    refine wl_rowApp stC 6 hS132 rfl rfl rfl (hS132.rd 0 rfl (by simp)) Tryz.underlying29 Tryz.underlying29 (by intro k hk; cases hk) ifo_9 rfl (by simp only [List.length_cons, List.length_nil]; omega) rfl (by simp only [List.length_cons, List.length_nil]; omega) ?_
    intro v133 w133 hS133; dsimp only [List.set] at hS133
    clear hS132
    have h1v133 : v133.oneCell' = true := hS133.own_one 6 rfl
    refine wl_nilCheck rfl rfl ?_
    refine wl_fieldAddr rfl fo_31_2 rfl ?_
    first | (refine wl_store hS133 rfl rfl sz_29 (by first | rfl | assumption | exact hS133.own_one 0 rfl | exact hS133.own_one 4 rfl | exact hS133.own_one 5 rfl | exact hS133.own_one 6 rfl) (i := 3) rfl (by first | decide | exact Nat.le_of_ble_eq_true rfl | (simp; done) | omega) ?_) | (refine wl_store hS133 rfl rfl sz_29 (by first | rfl | assumption | exact hS133.own_one 0 rfl | exact hS133.own_one 4 rfl | exact hS133.own_one 5 rfl | exact hS133.own_one 6 rfl) (i := 7) rfl (by first | decide | exact Nat.le_of_ble_eq_true rfl | (simp; done) | omega) ?_)
    intro w134 hS135; dsimp only [List.set] at hS135
    clear hS133
    refine wl_nil (qs_seq ?_)
    refine wc_sub (L' := [(9, _), (5, _), (0, _)]) (.cons rfl (.cons rfl (.cons rfl .nil))) ?_
    refine wc_ret (qs_then_ret ?_)
    refine fin0 (.inr rfl) rfl ?_
    have hz := hS135.pick [3, 4, 5, 6, 8] rfl
    exact ⟨_, rfl, rfl, ⟨M.ids ++ [o.id], M.refs ++ [1], M.pages ++ [b64 o.s]⟩, by rw [hv2]; exact hR.add hv1, by simp, moT_shut hz⟩
   refine wc_skip (qs_seq (wc_seq ?_))
   rw [if_neg (by omega)] at hv1 hv2
   obtain ⟨a1, c1, a2, c2, a3, c3, hSo136⟩ := moT_open (hS4.pick [0, 1, 2] rfl)
   refine wc_region (wl_move rfl rfl (wl_move rfl rfl (wl_nilCheck rfl rfl ?_)))
   refine wl_fieldAddr rfl fo_31_0 rfl ?_
   refine wl_load rfl ag_28 (by first | assumption | exact hSo136.cell 0 rfl rfl | exact hSo136.cell 4 rfl rfl) rfl ?_
   refine wl_move rfl rfl ?_
   refine wl_rowBuild inC [a] hSo136 rfl Tryz.underlying28 ifz_3 rfl rfl rfl rfl (by first | rfl | simp [RowC.cells, fillL, splice]) rfl ?_
   intro b137 w137 hS137
   clear hSo136
   refine wl_rowApp inC 2 hS137 rfl rfl rfl (hS137.rd 0 rfl (by simp)) Tryz.underlying28 Tryz.underlying28 (by intro k hk; cases hk) ifo_3 rfl (by simp only [List.length_cons, List.length_nil]; omega) rfl (by simp only [List.length_cons, List.length_nil]; omega) ?_
   intro v138 w138 hS138; dsimp only [List.set] at hS138
   clear hS137
   have h1v138 : v138.oneCell' = true := hS138.own_one 2 rfl
   refine wl_nilCheck rfl rfl ?_
   refine wl_fieldAddr rfl fo_31_0 rfl ?_
   first | (refine wl_store hS138 rfl rfl sz_28 (by first | rfl | assumption | exact hS138.own_one 0 rfl | exact hS138.own_one 2 rfl | exact hS138.own_one 3 rfl | exact hS138.own_one 4 rfl) (i := 1) rfl (by first | decide | exact Nat.le_of_ble_eq_true rfl | (simp; done) | omega) ?_) | (refine wl_store hS138 rfl rfl sz_28 (by first | rfl | assumption | exact hS138.own_one 0 rfl | exact hS138.own_one 2 rfl | exact hS138.own_one 3 rfl | exact hS138.own_one 4 rfl) (i := 5) rfl (by first | decide | exact Nat.le_of_ble_eq_true rfl | (simp; done) | omega) ?_)
   intro w139 hS140; dsimp only [List.set] at hS140
   clear hS138
   refine wl_nil (qs_seq ?_)
   refine wc_sub (L' := [(9, _), (8, _), (5, _), (0, _)]) (.cons rfl (.cons rfl (.cons rfl (.cons rfl .nil)))) ?_
   refine wc_seq (wc_region (wl_move rfl rfl (wl_move rfl rfl (wl_nilCheck rfl rfl ?_))))
   refine wl_fieldAddr rfl fo_31_1 rfl ?_
   refine wl_load rfl ag_28 (by first | assumption | exact hS140.cell 1 rfl rfl | exact hS140.cell 5 rfl rfl) rfl ?_
   refine wl_rowBuild inC [1] hS140 rfl Tryz.underlying28 ifz_3 rfl rfl rfl rfl (by first | rfl | simp [RowC.cells, fillL, splice]) rfl ?_
   intro b141 w141 hS141
   clear hS140
   refine wl_rowApp inC 4 hS141 rfl rfl rfl (hS141.rd 0 rfl (by simp)) Tryz.underlying28 Tryz.underlying28 (by intro k hk; cases hk) ifo_3 rfl (by simp only [List.length_cons, List.length_nil]; omega) rfl (by simp only [List.length_cons, List.length_nil]; omega) ?_
   intro v142 w142 hS142; dsimp only [List.set] at hS142
   clear hS141
   have h1v142 : v142.oneCell' = true := hS142.own_one 4 rfl
   refine wl_nilCheck rfl rfl ?_
   refine wl_fieldAddr rfl fo_31_1 rfl ?_
   first | (refine wl_store hS142 rfl rfl sz_28 (by first | rfl | assumption | exact hS142.own_one 0 rfl | exact hS142.own_one 3 rfl | exact hS142.own_one 4 rfl | exact hS142.own_one 5 rfl) (i := 2) rfl (by first | decide | exact Nat.le_of_ble_eq_true rfl | (simp; done) | omega) ?_) | (refine wl_store hS142 rfl rfl sz_28 (by first | rfl | assumption | exact hS142.own_one 0 rfl | exact hS142.own_one 3 rfl | exact hS142.own_one 4 rfl | exact hS142.own_one 5 rfl) (i := 6) rfl (by first | decide | exact Nat.le_of_ble_eq_true rfl | (simp; done) | omega) ?_)
   intro w143 hS144; dsimp only [List.set] at hS144
   clear hS142
   refine wl_nil (qs_seq ?_)
   refine wc_sub (L' := [(9, _), (8, _), (5, _), (0, _)]) (.cons rfl (.cons rfl (.cons rfl (.cons rfl .nil)))) ?_
   refine wc_seq (wc_region (wl_move rfl rfl (wl_move rfl rfl (wl_nilCheck rfl rfl ?_))))
   refine wl_fieldAddr rfl fo_31_2 rfl ?_
   refine wl_load rfl ag_29 (by first | assumption | exact hS144.cell 2 rfl rfl | exact hS144.cell 6 rfl rfl) rfl ?_
   refine wl_move rfl rfl ?_
   refine wl_rowBuild stC [b64 o.s] hS144 rfl Tryz.underlying29 ifz_9 rfl rfl rfl rfl (by first | rfl | simp [RowC.cells, fillL, splice]) rfl ?_
   intro b145 w145 hS145
   clear hS144
   refine wl_rowApp stC 6 hS145 rfl rfl rfl (hS145.rd 0 rfl (by simp)) Tryz.underlying29 Tryz.underlying29 (by intro k hk; cases hk) ifo_9 rfl (by simp only [List.length_cons, List.length_nil]; omega) rfl (by simp only [List.length_cons, List.length_nil]; omega) ?_
   intro v146 w146 hS146; dsimp only [List.set] at hS146
   clear hS145
   have h1v146 : v146.oneCell' = true := hS146.own_one 6 rfl
   refine wl_nilCheck rfl rfl ?_
   refine wl_fieldAddr rfl fo_31_2 rfl ?_
   first | (refine wl_store hS146 rfl rfl sz_29 (by first | rfl | assumption | exact hS146.own_one 0 rfl | exact hS146.own_one 4 rfl | exact hS146.own_one 5 rfl | exact hS146.own_one 6 rfl) (i := 3) rfl (by first | decide | exact Nat.le_of_ble_eq_true rfl | (simp; done) | omega) ?_) | (refine wl_store hS146 rfl rfl sz_29 (by first | rfl | assumption | exact hS146.own_one 0 rfl | exact hS146.own_one 4 rfl | exact hS146.own_one 5 rfl | exact hS146.own_one 6 rfl) (i := 7) rfl (by first | decide | exact Nat.le_of_ble_eq_true rfl | (simp; done) | omega) ?_)
   intro w147 hS148; dsimp only [List.set] at hS148
   clear hS146
   refine wl_nil (qs_seq ?_)
   refine wc_sub (L' := [(9, _), (5, _), (0, _)]) (.cons rfl (.cons rfl (.cons rfl .nil))) ?_
   refine wc_ret (qs_then_ret ?_)
   refine fin0 (.inr rfl) rfl ?_
   have hz := hS148.pick [3, 4, 5, 6, 8] rfl
   exact ⟨_, rfl, rfl, ⟨M.ids ++ [a], M.refs ++ [1], M.pages ++ [b64 o.s]⟩, by rw [hv2]; exact hR.add hv1, by simp, moT_shut hz⟩
  refine wc_skip (qs_seq (wc_seq (wc_seq ?_)))
  have hcc : ¬ (((o.d = 0 ∨ o.d = 10) ∧ a ≠ 0) ∨ o.d = 8) := by omega
  refine wc_region (wl_move rfl rfl ?_)
  refine wl_lss rfl rfl rfl ?_
  refine wl_nil (qs_seq ?_)
  refine wc_condD rfl (fun h149 => ?_) (fun h149 => ?_)
  ·refine wc_ret (qs_then_ret ?_)
   refine fin0 (.inr rfl) rfl ?_
   exact ⟨_, rfl, rfl, M, by rw [dov_none hD hcc (hR.non hno)]; exact hR, by omega, hS4.pick [0, 2] rfl⟩
  exact absurd (by decide) h149
 refine ⟨_, rfl, ?_⟩
 replace hS4 := hS4.join rfl; dsimp only [List.dropLast, List.cons_append, List.nil_append] at hS4; clear hC4
 clear hS3
 obtain ⟨r, pg, hkr, hkp, hV⟩ := hR.rel hk
 have hkl := (List.getElem?_eq_some_iff.1 hk).1
 have hl1 := hR.l1; have hl2 := hR.l2
 obtain ⟨hr1, hr2, hpl⟩ := hrb hV
 refine wl_assign rfl rfl (wl_nil (qs_seq (wc_seq (wc_seq (wc_region ?_)))))
 refine wl_fieldAddr rfl fo_33_0 rfl ?_
 refine wl_load rfl ag_3 (by first | assumption | exact hS4.cell 1 rfl rfl) rfl ?_
 refine wl_eql rfl rfl rfl ?_
 refine wl_move rfl rfl ?_
 refine wl_splitD 24 rfl (fun h150 => ?_) (fun h150 => ?_)
 ·refine wl_unwanted rfl rfl (decide_eq_true h150) rfl ?_
  refine wl_unwanted rfl rfl (decide_eq_true h150) rfl ?_
  refine wl_unwanted rfl rfl (decide_eq_true h150) rfl ?_
  refine wl_pickT rfl (decide_eq_true h150) rfl rfl ?_
  refine wl_move rfl rfl ?_
  refine wl_guard rfl rfl rfl ?_
  refine wl_move rfl rfl ?_
  refine wl_guard rfl rfl rfl ?_
  refine wl_neq rfl rfl rfl ?_
  refine wl_pickT rfl rfl rfl rfl ?_
  refine wl_move rfl rfl ?_
  refine wl_splitD 33 rfl (fun h151 => ?_) (fun h151 => ?_)
  ·refine wl_unwanted rfl rfl (decide_eq_true h151) rfl ?_
   refine wl_unwanted rfl rfl (decide_eq_true h151) rfl ?_
   refine wl_unwanted rfl rfl (decide_eq_true h151) rfl ?_
   refine wl_pickT rfl (decide_eq_true h151) rfl rfl ?_
   refine wl_nil (qs_seq ?_)
   refine wc_sub (L' := [(37, _), (9, _), (8, _), (5, _), (0, _), (2, _)]) (.cons rfl (.cons rfl (.cons rfl (.cons rfl (.cons rfl (.cons rfl .nil)))))) ?_
   refine wc_condT rfl ?_
   refine wc_seq ?_
   have hcc : ((o.d = 0 ∨ o.d = 10) ∧ a ≠ 0) ∨ o.d = 8 := by omega
   obtain ⟨hv1, hv2⟩ := dov_add hD hcc
   refine wc_region (wl_move rfl rfl (wl_assign rfl rfl (wl_nil (qs_seq (wc_seq (wc_seq (wc_region ?_)))))))
   refine wl_fieldAddr rfl fo_33_0 rfl ?_
   refine wl_load rfl ag_3 (by first | assumption | exact hS4.cell 1 rfl rfl) rfl ?_
   refine wl_eql rfl rfl rfl ?_
   refine wl_nil (qs_seq ?_)
   refine wc_sub (L' := [(41, _), (10, _), (9, _), (8, _), (5, _), (0, _)]) (.cons rfl (.cons rfl (.cons rfl (.cons rfl (.cons rfl (.cons rfl .nil)))))) ?_
   refine wc_condD rfl (fun h152 => ?_) (fun h152 => ?_)
   ·refine wc_region ?_
    refine wl_fieldAddr rfl fo_33_1 rfl ?_
    refine wl_load rfl ag_3 (by first | assumption | exact hS4.cell 1 rfl rfl) rfl ?_
    refine wl_assign rfl rfl (wl_nil (qs_seq (wc_seq ?_)))
    rw [if_pos (by omega)] at hv1 hv2
    obtain ⟨a1, c1, a2, c2, a3, c3, hSo153⟩ := moT_open (hS4.pick [0, 1, 2] rfl)
    refine wc_region (wl_move rfl rfl (wl_move rfl rfl (wl_nilCheck rfl rfl ?_)))
    refine wl_fieldAddr rfl fo_31_0 rfl ?_
    refine wl_load rfl ag_28 (by first | assumption | exact hSo153.cell 0 rfl rfl | exact hSo153.cell 4 rfl rfl) rfl ?_
    refine wl_move rfl rfl ?_
    refine wl_rowBuild inC [o.id] hSo153 rfl Tryz.underlying28 ifz_3 rfl rfl rfl rfl (by first | rfl | simp [RowC.cells, fillL, splice]) rfl ?_
    intro b154 w154 hS154
    clear hSo153
    refine wl_rowApp inC 2 hS154 rfl rfl rfl (hS154.rd 0 rfl (by simp)) Tryz.underlying28 Tryz.underlying28 (by intro k hk; cases hk) ifo_3 rfl (by simp only [List.length_cons, List.length_nil]; omega) rfl (by simp only [List.length_cons, List.length_nil]; omega) ?_
    intro v155 w155 hS155; dsimp only [List.set] at hS155
    clear hS154
    have h1v155 : v155.oneCell' = true := hS155.own_one 2 rfl
    refine wl_nilCheck rfl rfl ?_
    refine wl_fieldAddr rfl fo_31_0 rfl ?_
    first | (refine wl_store hS155 rfl rfl sz_28 (by first | rfl | assumption | exact hS155.own_one 0 rfl | exact hS155.own_one 2 rfl | exact hS155.own_one 3 rfl | exact hS155.own_one 4 rfl) (i := 1) rfl (by first | decide | exact Nat.le_of_ble_eq_true rfl | (simp; done) | omega) ?_) | (refine wl_store hS155 rfl rfl sz_28 (by first | rfl | assumption | exact hS155.own_one 0 rfl | exact hS155.own_one 2 rfl | exact hS155.own_one 3 rfl | exact hS155.own_one 4 rfl) (i := 5) rfl (by first | decide | exact Nat.le_of_ble_eq_true rfl | (simp; done) | omega) ?_)
    intro w156 hS157; dsimp only [List.set] at hS157
    clear hS155
    refine wl_nil (qs_seq ?_)
    refine wc_sub (L' := [(9, _), (8, _), (5, _), (0, _)]) (.cons rfl (.cons rfl (.cons rfl (.cons rfl .nil)))) ?_
    refine wc_seq (wc_region (wl_move rfl rfl (wl_move rfl rfl (wl_nilCheck rfl rfl ?_))))
    refine wl_fieldAddr rfl fo_31_1 rfl ?_
    refine wl_load rfl ag_28 (by first | assumption | exact hS157.cell 1 rfl rfl | exact hS157.cell 5 rfl rfl) rfl ?_
    refine wl_rowBuild inC [1] hS157 rfl Tryz.underlying28 ifz_3 rfl rfl rfl rfl (by first | rfl | simp [RowC.cells, fillL, splice]) rfl ?_
    intro b158 w158 hS158
    clear hS157
    refine wl_rowApp inC 4 hS158 rfl rfl rfl (hS158.rd 0 rfl (by simp)) Tryz.underlying28 Tryz.underlying28 (by intro k hk; cases hk) ifo_3 rfl (by simp only [List.length_cons, List.length_nil]; omega) rfl (by simp only [List.length_cons, List.length_nil]; omega) ?_
    intro v159 w159 hS159; dsimp only [List.set] at hS159
    clear hS158
    have h1v159 : v159.oneCell' = true := hS159.own_one 4 rfl
    refine wl_nilCheck rfl rfl ?_
    refine wl_fieldAddr rfl fo_31_1 rfl ?_
    first | (refine wl_store hS159 rfl rfl sz_28 (by first | rfl | assumption | exact hS159.own_one 0 rfl | exact hS159.own_one 3 rfl | exact hS159.own_one 4 rfl | exact hS159.own_one 5 rfl) (i := 2) rfl (by first | decide | exact Nat.le_of_ble_eq_true rfl | (simp; done) | omega) ?_) | (refine wl_store hS159 rfl rfl sz_28 (by first | rfl | assumption | exact hS159.own_one 0 rfl | exact hS159.own_one 3 rfl | exact hS159.own_one 4 rfl | exact hS159.own_one 5 rfl) (i := 6) rfl (by first | decide | exact Nat.le_of_ble_eq_true rfl | (simp; done) | omega) ?_)
    intro w160 hS161; dsimp only [List.set] at hS161
    clear hS159
    refine wl_nil (qs_seq ?_)
    refine wc_sub (L' := [(9, _), (8, _), (5, _), (0, _)]) (.cons rfl (.cons rfl (.cons rfl (.cons rfl .nil)))) ?_
    refine wc_seq (wc_region (wl_move rfl rfl (wl_move rfl rfl (wl_nilCheck rfl rfl ?_))))
    refine wl_fieldAddr rfl fo_31_2 rfl ?_
    refine wl_load rfl ag_29 (by first | assumption | exact hS161.cell 2 rfl rfl | exact hS161.cell 6 rfl rfl) rfl ?_
    refine wl_move rfl rfl ?_
    refine wl_rowBuild stC [b64 o.s] hS161 rfl Tryz.underlying29 ifz_9 rfl rfl rfl rfl (by first | rfl | simp [RowC.cells, fillL, splice]) rfl ?_
    intro b162 w162 hS162
    clear hS161
    refine wl_rowApp stC 6 hS162 rfl rfl rfl (hS162.rd 0 rfl (by simp)) Tryz.underlying29 Tryz.underlying29 (by intro k hk; cases hk) ifo_9 rfl (by simp only [List.length_cons, List.length_nil]; omega) rfl (by simp only [List.length_cons, List.length_nil]; omega) ?_
    intro v163 w163 hS163; dsimp only [List.set] at hS163
    clear hS162
    have h1v163 : v163.oneCell' = true := hS163.own_one 6 rfl
    refine wl_nilCheck rfl rfl ?_
    refine wl_fieldAddr rfl fo_31_2 rfl ?_
    first | (refine wl_store hS163 rfl rfl sz_29 (by first | rfl | assumption | exact hS163.own_one 0 rfl | exact hS163.own_one 4 rfl | exact hS163.own_one 5 rfl | exact hS163.own_one 6 rfl) (i := 3) rfl (by first | decide | exact Nat.le_of_ble_eq_true rfl | (simp; done) | omega) ?_) | (refine wl_store hS163 rfl rfl sz_29 (by first | rfl | assumption | exact hS163.own_one 0 rfl | exact hS163.own_one 4 rfl | exact hS163.own_one 5 rfl | exact hS163.own_one 6 rfl) (i := 7) rfl (by first | decide | exact Nat.le_of_ble_eq_true rfl | (simp; done) | omega) ?_)
    intro w164 hS165; dsimp only [List.set] at hS165
    clear hS163
    refine wl_nil (qs_seq ?_)
    refine wc_sub (L' := [(9, _), (5, _), (0, _)]) (.cons rfl (.cons rfl (.cons rfl .nil))) ?_
    refine wc_ret (qs_then_ret ?_)
    refine fin0 (.inr rfl) rfl ?_
    have hz := hS165.pick [3, 4, 5, 6, 8] rfl
    exact ⟨_, rfl, rfl, ⟨M.ids ++ [o.id], M.refs ++ [1], M.pages ++ [b64 o.s]⟩, by rw [hv2]; exact hR.add hv1, by simp, moT_shut hz⟩
   refine wc_skip (qs_seq (wc_seq ?_))
   rw [if_neg (by omega)] at hv1 hv2
   obtain ⟨a1, c1, a2, c2, a3, c3, hSo166⟩ := moT_open (hS4.pick [0, 1, 2] rfl)
   refine wc_region (wl_move rfl rfl (wl_move rfl rfl (wl_nilCheck rfl rfl ?_)))
   refine wl_fieldAddr rfl fo_31_0 rfl ?_
   refine wl_load rfl ag_28 (by first | assumption | exact hSo166.cell 0 rfl rfl | exact hSo166.cell 4 rfl rfl) rfl ?_
   refine wl_move rfl rfl ?_
   refine wl_rowBuild inC [a] hSo166 rfl Tryz.underlying28 ifz_3 rfl rfl rfl rfl (by first | rfl | simp [RowC.cells, fillL, splice]) rfl ?_
   intro b167 w167 hS167
   clear hSo166
   refine wl_rowApp inC 2 hS167 rfl rfl rfl (hS167.rd 0 rfl (by simp)) Tryz.underlying28 Tryz.underlying28 (by intro k hk; cases hk) ifo_3 rfl (by simp only [List.length_cons, List.length_nil]; omega) rfl (by simp only [List.length_cons, List.length_nil]; omega) ?_
   intro v168 w168 hS168; dsimp only [List.set] at hS168
   clear hS167
   have h1v168 : v168.oneCell' = true := hS168.own_one 2 rfl
   refine wl_nilCheck rfl rfl ?_
   refine wl_fieldAddr rfl fo_31_0 rfl ?_
   first | (refine wl_store hS168 rfl rfl sz_28 (by first | rfl | assumption | exact hS168.own_one 0 rfl | exact hS168.own_one 2 rfl | exact hS168.own_one 3 rfl | exact hS168.own_one 4 rfl) (i := 1) rfl (by first | decide | exact Nat.le_of_ble_eq_true rfl | (simp; done) | omega) ?_) | (refine wl_store hS168 rfl rfl sz_28 (by first | rfl | assumption | exact hS168.own_one 0 rfl | exact hS168.own_one 2 rfl | exact hS168.own_one 3 rfl | exact hS168.own_one 4 rfl) (i := 5) rfl (by first | decide | exact Nat.le_of_ble_eq_true rfl | (simp; done) | omega) ?_)
   intro w169 hS170; dsimp only [List.set] at hS170
   clear hS168
   refine wl_nil (qs_seq ?_)
   refine wc_sub (L' := [(9, _), (8, _), (5, _), (0, _)]) (.cons rfl (.cons rfl (.cons rfl (.cons rfl .nil)))) ?_
   refine wc_seq (wc_region (wl_move rfl rfl (wl_move rfl rfl (wl_nilCheck rfl rfl ?_))))
   refine wl_fieldAddr rfl fo_31_1 rfl ?_
   refine wl_load rfl ag_28 (by first | assumption | exact hS170.cell 1 rfl rfl | exact hS170.cell 5 rfl rfl) rfl ?_
   refine wl_rowBuild inC [1] hS170 rfl Tryz.underlying28 ifz_3 rfl rfl rfl rfl (by first | rfl | simp [RowC.cells, fillL, splice]) rfl ?_
   intro b171 w171 hS171
   clear hS170
   refine wl_rowApp inC 4 hS171 rfl rfl rfl (hS171.rd 0 rfl (by simp)) Tryz.underlying28 Tryz.underlying28 (by intro k hk; cases hk) ifo_3 rfl (by simp only [List.length_cons, List.length_nil]; omega) rfl (by simp only [List.length_cons, List.length_nil]; omega) ?_
   intro v172 w172 hS172; dsimp only [List.set] at hS172
   clear hS171
   have h1v172 : v172.oneCell' = true := hS172.own_one 4 rfl
   refine wl_nilCheck rfl rfl ?_
   refine wl_fieldAddr rfl fo_31_1 rfl ?_
   first | (refine wl_store hS172 rfl rfl sz_28 (by first | rfl | assumption | exact hS172.own_one 0 rfl | exact hS172.own_one 3 rfl | exact hS172.own_one 4 rfl | exact hS172.own_one 5 rfl) (i := 2) rfl (by first | decide | exact Nat.le_of_ble_eq_true rfl | (simp; done) | omega) ?_) | (refine wl_store hS172 rfl rfl sz_28 (by first | rfl | assumption | exact hS172.own_one 0 rfl | exact hS172.own_one 3 rfl | exact hS172.own_one 4 rfl | exact hS172.own_one 5 rfl) (i := 6) rfl (by first | decide | exact Nat.le_of_ble_eq_true rfl | (simp; done) | omega) ?_)
   intro w173 hS174; dsimp only [List.set] at hS174
   clear hS172
   refine wl_nil (qs_seq ?_)
   refine wc_sub (L' := [(9, _), (8, _), (5, _), (0, _)]) (.cons rfl (.cons rfl (.cons rfl (.cons rfl .nil)))) ?_
   refine wc_seq (wc_region (wl_move rfl rfl (wl_move rfl rfl (wl_nilCheck rfl rfl ?_))))
   refine wl_fieldAddr rfl fo_31_2 rfl ?_
   refine wl_load rfl ag_29 (by first | assumption | exact hS174.cell 2 rfl rfl | exact hS174.cell 6 rfl rfl) rfl ?_
   refine wl_move rfl rfl ?_
   refine wl_rowBuild stC [b64 o.s] hS174 rfl Tryz.underlying29 ifz_9 rfl rfl rfl rfl (by first | rfl | simp [RowC.cells, fillL, splice]) rfl ?_
   intro b175 w175 hS175
   clear hS174
   refine wl_rowApp stC 6 hS175 rfl rfl rfl (hS175.rd 0 rfl (by simp)) Tryz.underlying29 Tryz.underlying29 (by intro k hk; cases hk) ifo_9 rfl (by simp only [List.length_cons, List.length_nil]; omega) rfl (by simp only [List.length_cons, List.length_nil]; omega) ?_
   intro v176 w176 hS176; dsimp only [List.set] at hS176
   clear hS175
   have h1v176 : v176.oneCell' = true := hS176.own_one 6 rfl
   refine wl_nilCheck rfl rfl ?_
   refine wl_fieldAddr rfl fo_31_2 rfl ?_
   first | (refine wl_store hS176 rfl rfl sz_29 (by first | rfl | assumption | exact hS176.own_one 0 rfl | exact hS176.own_one 4 rfl | exact hS176.own_one 5 rfl | exact hS176.own_one 6 rfl) (i := 3) rfl (by first | decide | exact Nat.le_of_ble_eq_true rfl | (simp; done) | omega) ?_) | (refine wl_store hS176 rfl rfl sz_29 (by first | rfl | assumption | exact hS176.own_one 0 rfl | exact hS176.own_one 4 rfl | exact hS176.own_one 5 rfl | exact hS176.own_one 6 rfl) (i := 7) rfl (by first | decide | exact Nat.le_of_ble_eq_true rfl | (simp; done) | omega) ?_)
   intro w177 hS178; dsimp only [List.set] at hS178
   clear hS176
   refine wl_nil (qs_seq ?_)
   refine wc_sub (L' := [(9, _), (5, _), (0, _)]) (.cons rfl (.cons rfl (.cons rfl .nil))) ?_
   refine wc_ret (qs_then_ret ?_)
   refine fin0 (.inr rfl) rfl ?_
   have hz := hS178.pick [3, 4, 5, 6, 8] rfl
   exact ⟨_, rfl, rfl, ⟨M.ids ++ [a], M.refs ++ [1], M.pages ++ [b64 o.s]⟩, by rw [hv2]; exact hR.add hv1, by simp, moT_shut hz⟩
  refine wl_guard rfl rfl (decide_eq_false h151) ?_
  refine wl_fieldAddr rfl fo_33_0 rfl ?_
  refine wl_guard rfl rfl (decide_eq_false h151) ?_
  refine wl_load rfl ag_3 (by first | assumption | exact hS4.cell 1 rfl rfl) rfl ?_
  refine wl_guard rfl rfl (decide_eq_false h151) ?_
  refine wl_eql rfl rfl rfl ?_
  refine wl_pickF rfl (decide_eq_false h151) rfl rfl ?_
  refine wl_nil (qs_seq ?_)
  refine wc_sub (L' := [(37, _), (9, _), (8, _), (5, _), (0, _), (2, _)]) (.cons rfl (.cons rfl (.cons rfl (.cons rfl (.cons rfl (.cons rfl .nil)))))) ?_
  refine wc_condD rfl (fun h179 => ?_) (fun h179 => ?_)
  ·refine wc_seq ?_
   have hcc : ((o.d = 0 ∨ o.d = 10) ∧ a ≠ 0) ∨ o.d = 8 := by omega
   obtain ⟨hv1, hv2⟩ := dov_add hD hcc
   refine wc_region (wl_move rfl rfl (wl_assign rfl rfl (wl_nil (qs_seq (wc_seq (wc_seq (wc_region ?_)))))))
   refine wl_fieldAddr rfl fo_33_0 rfl ?_
   refine wl_load rfl ag_3 (by first | assumption | exact hS4.cell 1 rfl rfl) rfl ?_
   refine wl_eql rfl rfl rfl ?_
   refine wl_nil (qs_seq ?_)
   refine wc_sub (L' := [(41, _), (10, _), (9, _), (8, _), (5, _), (0, _)]) (.cons rfl (.cons rfl (.cons rfl (.cons rfl (.cons rfl (.cons rfl .nil)))))) ?_
   refine wc_condD rfl (fun h180 => ?_) (fun h180 => ?_)
   ·refine wc_region ?_
    refine wl_fieldAddr rfl fo_33_1 rfl ?_
    refine wl_load rfl ag_3 (by first | assumption | exact hS4.cell 1 rfl rfl) rfl ?_
    refine wl_assign rfl rfl (wl_nil (qs_seq (wc_seq ?_)))
    rw [if_pos (by omega)] at hv1 hv2
    obtain ⟨a1, c1, a2, c2, a3, c3, hSo181⟩ := moT_open (hS4.pick [0, 1, 2] rfl)
    refine wc_region (wl_move rfl rfl (wl_move rfl rfl (wl_nilCheck rfl rfl ?_)))
    refine wl_fieldAddr rfl fo_31_0 rfl ?_
    refine wl_load rfl ag_28 (by first | assumption | exact hSo181.cell 0 rfl rfl | exact hSo181.cell 4 rfl rfl) rfl ?_
    refine wl_move rfl rfl ?_
    refine wl_rowBuild inC [o.id] hSo181 rfl Tryz.underlying28 ifz_3 rfl rfl rfl rfl (by first | rfl | simp [RowC.cells, fillL, splice]) rfl ?_
    intro b182 w182 hS182
    clear hSo181
    refine wl_rowApp inC 2 hS182 rfl rfl rfl (hS182.rd 0 rfl (by simp)) Tryz.underlying28 Tryz.underlying28 (by intro k hk; cases hk) ifo_3 rfl (by simp only [List.length_cons, List.length_nil]; omega) rfl (by simp only [List.length_cons, List.length_nil]; omega) ?_
    intro v183 w183 hS183; dsimp only [List.set] at hS183
    clear hS182
    have h1v183 : v183.oneCell' = true := hS183.own_one 2 rfl
    refine wl_nilCheck rfl rfl ?_
    refine wl_fieldAddr rfl fo_31_0 rfl ?_
    first | (refine wl_store hS183 rfl rfl sz_28 (by first | rfl | assumption | exact hS183.own_one 0 rfl | exact hS183.own_one 2 rfl | exact hS183.own_one 3 rfl | exact hS183.own_one 4 rfl) (i := 1) rfl (by first | decide | exact Nat.le_of_ble_eq_true rfl | (simp; done) | omega) ?_) | (refine wl_store hS183 rfl rfl sz_28 (by first | rfl | assumption | exact hS183.own_one 0 rfl | exact hS183.own_one 2 rfl | exact hS183.own_one 3 rfl | exact hS183.own_one 4 rfl) (i := 5) rfl (by first | decide | exact Nat.le_of_ble_eq_true rfl | (simp; done) | omega) ?_)
    intro w184 hS185; dsimp only [List.set] at hS185
    clear hS183
    refine wl_nil (qs_seq ?_)
    refine wc_sub (L' := [(9, _), (8, _), (5, _), (0, _)]) (.cons rfl (.cons rfl (.cons rfl (.cons rfl .nil)))) ?_
    refine wc_seq (wc_region (wl_move rfl rfl (wl_move rfl rfl (wl_nilCheck rfl rfl ?_))))
    refine wl_fieldAddr rfl fo_31_1 rfl ?_
    refine wl_load rfl ag_28 (by first | assumption | exact hS185.cell 1 rfl rfl | exact hS185.cell 5 rfl rfl) rfl ?_
    refine wl_rowBuild inC [1] hS185 rfl Tryz.underlying28 ifz_3 rfl rfl rfl rfl (by first | rfl | simp [RowC.cells, fillL, splice]) rfl ?_
    intro b186 w186 hS186
    clear hS185
    refine wl_rowApp inC 4 hS186 rfl rfl rfl (hS186.rd 0 rfl (by simp)) Tryz.underlying28 Tryz.underlying28 (by intro k hk; cases hk) ifo_3 rfl (by simp only [List.length_cons, List.length_nil]; omega) rfl (by simp only [List.length_cons, List.length_nil]; omega) ?_
    intro v187 w187 hS187; dsimp only [List.set] at hS187
    clear hS186
    have h1v187 : v187.oneCell' = true := hS187.own_one 4 rfl
    refine wl_nilCheck rfl rfl ?_
    refine wl_fieldAddr rfl fo_31_1 rfl ?_
    first | (refine wl_store hS187 rfl rfl sz_28 (by first | rfl | assumption | exact hS187.own_one 0 rfl | exact hS187.own_one 3 rfl | exact hS187.own_one 4 rfl | exact hS187.own_one 5 rfl) (i := 2) rfl (by first | decide | exact Nat.le_of_ble_eq_true rfl | (simp; done) | omega) ?_) | (refine wl_store hS187 rfl rfl sz_28 (by first | rfl | assumption | exact hS187.own_one 0 rfl | exact hS187.own_one 3 rfl | exact hS187.own_one 4 rfl | exact hS187.own_one 5 rfl) (i := 6) rfl (by first | decide | exact Nat.le_of_ble_eq_true rfl | (simp; done) | omega) ?_)
    intro w188 hS189; dsimp only [List.set] at hS189
    clear hS187
    refine wl_nil (qs_seq ?_)
    refine wc_sub (L' := [(9, _), (8, _), (5, _), (0, _)]) (.cons rfl (.cons rfl (.cons rfl (.cons rfl .nil)))) ?_
    refine wc_seq (wc_region (wl_move rfl rfl (wl_move rfl rfl (wl_nilCheck rfl rfl ?_))))
    refine wl_fieldAddr rfl fo_31_2 rfl ?_
    refine wl_load rfl ag_29 (by first | assumption | exact hS189.cell 2 rfl rfl | exact hS189.cell 6 rfl rfl) rfl ?_
    refine wl_move rfl rfl ?_
    refine wl_rowBuild stC [b64 o.s] hS189 rfl Tryz.underlying29 ifz_9 rfl rfl rfl rfl (by first | rfl | simp [RowC.cells, fillL, splice]) rfl ?_
    intro b190 w190 hS190
    clear hS189
    refine wl_rowApp stC 6 hS190 rfl rfl rfl (hS190.rd 0 rfl (by simp)) Tryz.underlying29 Tryz.underlying29 (by intro k hk; cases hk) ifo_9 rfl (by simp only [List.length_cons, List.length_nil]; omega) rfl (by simp only [List.length_cons, List.length_nil]; omega) ?_
    intro v191 w191 hS191; dsimp only [List.set] at hS191
    clear hS190
    have h1v191 : v191.oneCell' = true := hS191.own_one 6 rfl
    refine wl_nilCheck rfl rfl ?_
    refine wl_fieldAddr rfl fo_31_2 rfl ?_
    first | (refine wl_store hS191 rfl rfl sz_29 (by first | rfl | assumption | exact hS191.own_one 0 rfl | exact hS191.own_one 4 rfl | exact hS191.own_one 5 rfl | exact hS191.own_one 6 rfl) (i := 3) rfl (by first | decide | exact Nat.le_of_ble_eq_true rfl | (simp; done) | omega) ?_) | (refine wl_store hS191 rfl rfl sz_29 (by first | rfl | assumption | exact hS191.own_one 0 rfl | exact hS191.own_one 4 rfl | exact hS191.own_one 5 rfl | exact hS191.own_one 6 rfl) (i := 7) rfl (by first | decide | exact Nat.le_of_ble_eq_true rfl | (simp; done) | omega) ?_)
    intro w192 hS193; dsimp only [List.set] at hS193
    clear hS191
    refine wl_nil (qs_seq ?_)
    refine wc_sub (L' := [(9, _), (5, _), (0, _)]) (.cons rfl (.cons rfl (.cons rfl .nil))) ?_
    refine wc_ret (qs_then_ret ?_)
    refine fin0 (.inr rfl) rfl ?_
    have hz := hS193.pick [3, 4, 5, 6, 8] rfl
    exact ⟨_, rfl, rfl, ⟨M.ids ++ [o.id], M.refs ++ [1], M.pages ++ [b64 o.s]⟩, by rw [hv2]; exact hR.add hv1, by simp, moT_shut hz⟩
   refine wc_skip (qs_seq (wc_seq ?_))
   rw [if_neg (by omega)] at hv1 hv2
   obtain ⟨a1, c1, a2, c2, a3, c3, hSo194⟩ := moT_open (hS4.pick [0, 1, 2] rfl)
   refine wc_region (wl_move rfl rfl (wl_move rfl rfl (wl_nilCheck rfl rfl ?_)))
   refine wl_fieldAddr rfl fo_31_0 rfl ?_
   refine wl_load rfl ag_28 (by first | assumption | exact hSo194.cell 0 rfl rfl | exact hSo194.cell 4 rfl rfl) rfl ?_
   refine wl_move rfl rfl ?_
   refine wl_rowBuild inC [a] hSo194 rfl Tryz.underlying28 ifz_3 rfl rfl rfl rfl (by first | rfl | simp [RowC.cells, fillL, splice]) rfl ?_
   intro b195 w195 hS195
   clear hSo194
   refine wl_rowApp inC 2 hS195 rfl rfl rfl (hS195.rd 0 rfl (by simp)) Tryz.underlying28 Tryz.underlying28 (by intro k hk; cases hk) ifo_3 rfl (by simp only [List.length_cons, List.length_nil]; omega) rfl (by simp only [List.length_cons, List.length_nil]; omega) ?_
   intro v196 w196 hS196; dsimp only [List.set] at hS196
   clear hS195
   have h1v196 : v196.oneCell' = true := hS196.own_one 2 rfl
   refine wl_nilCheck rfl rfl ?_
   refine wl_fieldAddr rfl fo_31_0 rfl ?_
   first | (refine wl_store hS196 rfl rfl sz_28 (by first | rfl | assumption | exact hS196.own_one 0 rfl | exact hS196.own_one 2 rfl | exact hS196.own_one 3 rfl | exact hS196.own_one 4 rfl) (i := 1) rfl (by first | decide | exact Nat.le_of_ble_eq_true rfl | (simp; done) | omega) ?_) | (refine wl_store hS196 rfl rfl sz_28 (by first | rfl | assumption | exact hS196.own_one 0 rfl | exact hS196.own_one 2 rfl | exact hS196.own_one 3 rfl | exact hS196.own_one 4 rfl) (i := 5) rfl (by first | decide | exact Nat.le_of_ble_eq_true rfl | (simp; done) | omega) ?_)
   intro w197 hS198; dsimp only [List.set] at hS198
   clear hS196
   refine wl_nil (qs_seq ?_)
   refine wc_sub (L' := [(9, _), (8, _), (5, _), (0, _)]) (.cons rfl (.cons rfl (.cons rfl (.cons rfl .nil)))) ?_
   refine wc_seq (wc_region (wl_move rfl rfl (wl_move rfl rfl (wl_nilCheck rfl rfl ?_))))
   refine wl_fieldAddr rfl fo_31_1 rfl ?_
   refine wl_load rfl ag_28 (by first | assumption | exact hS198.cell 1 rfl rfl | exact hS198.cell 5 rfl rfl) rfl ?_
   refine wl_rowBuild inC [1] hS198 rfl Tryz.underlying28 ifz_3 rfl rfl rfl rfl (by first | rfl | simp [RowC.cells, fillL, splice]) rfl ?_
   intro b199 w199 hS199
   clear hS198
   refine wl_rowApp inC 4 hS199 rfl rfl rfl (hS199.rd 0 rfl (by simp)) Tryz.underlying28 Tryz.underlying28 (by intro k hk; cases hk) ifo_3 rfl (by simp only [List.length_cons, List.length_nil]; omega) rfl (by simp only [List.length_cons, List.length_nil]; omega) ?_
   intro v200 w200 hS200; dsimp only [List.set] at hS200
   clear hS199
   have h1v200 : v200.oneCell' = true := hS200.own_one 4 rfl
   refine wl_nilCheck rfl rfl ?_
   refine wl_fieldAddr rfl fo_31_1 rfl ?_
   first | (refine wl_store hS200 rfl rfl sz_28 (by first | rfl | assumption | exact hS200.own_one 0 rfl | exact hS200.own_one 3 rfl | exact hS200.own_one 4 rfl | exact hS200.own_one 5 rfl) (i := 2) rfl (by first | decide | exact Nat.le_of_ble_eq_true rfl | (simp; done) | omega) ?_) | (refine wl_store hS200 rfl rfl sz_28 (by first | rfl | assumption | exact hS200.own_one 0 rfl | exact hS200.own_one 3 rfl | exact hS200.own_one 4 rfl | exact hS200.own_one 5 rfl) (i := 6) rfl (by first | decide | exact Nat.le_of_ble_eq_true rfl | (simp; done) | omega) ?_)
   intro w201 hS202; dsimp only [List.set] at hS202
   clear hS200
   refine wl_nil (qs_seq ?_)
   refine wc_sub (L' := [(9, _), (8, _), (5, _), (0, _)]) (.cons rfl (.cons rfl (.cons rfl (.cons rfl .nil)))) ?_
   refine wc_seq (wc_region (wl_move rfl rfl (wl_move rfl rfl (wl_nilCheck rfl rfl ?_))))
   refine wl_fieldAddr rfl fo_31_2 rfl ?_
   refine wl_load rfl ag_29 (by first | assumption | exact hS202.cell 2 rfl rfl | exact hS202.cell 6 rfl rfl) rfl ?_
   refine wl_move rfl rfl ?_
   refine wl_rowBuild stC [b64 o.s] hS202 rfl Tryz.underlying29 ifz_9 rfl rfl rfl rfl (by first | rfl | simp [RowC.cells, fillL, splice]) rfl ?_
   intro b203 w203 hS203
   clear hS202
   refine wl_rowApp stC 6 hS203 rfl rfl rfl (hS203.rd 0 rfl (by simp)) Tryz.underlying29 Tryz.underlying29 (by intro k hk; cases hk) ifo_9 rfl (by simp only [List.length_cons, List.length_nil]; omega) rfl (by simp only [List.length_cons, List.length_nil]; omega) ?_
   intro v204 w204 hS204; dsimp only [List.set] at hS204
   clear hS203
   have h1v204 : v204.oneCell' = true := hS204.own_one 6 rfl
   refine wl_nilCheck rfl rfl ?_
   refine wl_fieldAddr rfl fo_31_2 rfl ?_
   first | (refine wl_store hS204 rfl rfl sz_29 (by first | rfl | assumption | exact hS204.own_one 0 rfl | exact hS204.own_one 4 rfl | exact hS204.own_one 5 rfl | exact hS204.own_one 6 rfl) (i := 3) rfl (by first | decide | exact Nat.le_of_ble_eq_true rfl | (simp; done) | omega) ?_) | (refine wl_store hS204 rfl rfl sz_29 (by first | rfl | assumption | exact hS204.own_one 0 rfl | exact hS204.own_one 4 rfl | exact hS204.own_one 5 rfl | exact hS204.own_one 6 rfl) (i := 7) rfl (by first | decide | exact Nat.le_of_ble_eq_true rfl | (simp; done) | omega) ?_)
   intro w205 hS206; dsimp only [List.set] at hS206
   clear hS204
   refine wl_nil (qs_seq ?_)
   refine wc_sub (L' := [(9, _), (5, _), (0, _)]) (.cons rfl (.cons rfl (.cons rfl .nil))) ?_
   refine wc_ret (qs_then_ret ?_)
   refine fin0 (.inr rfl) rfl ?_
   have hz := hS206.pick [3, 4, 5, 6, 8] rfl
   exact ⟨_, rfl, rfl, ⟨M.ids ++ [a], M.refs ++ [1], M.pages ++ [b64 o.s]⟩, by rw [hv2]; exact hR.add hv1, by simp, moT_shut hz⟩
  refine wc_skip (qs_seq (wc_seq (wc_seq ?_)))
  have hcc : ¬ (((o.d = 0 ∨ o.d = 10) ∧ a ≠ 0) ∨ o.d = 8) := by omega
  refine wc_region (wl_move rfl rfl ?_)
  refine wl_lss rfl rfl rfl ?_
  refine wl_nil (qs_seq ?_)
  refine wc_condD rfl (fun h207 => ?_) (fun h207 => ?_)
  ·exact absurd h207 (by omega)
  refine wc_skip (qs_seq (wc_seq ?_))
  have hds := dov_some hD hcc hV
  obtain ⟨a1, c1, a2, c2, a3, c3, hSo208⟩ := moT_open (hS4.pick [0, 1, 2] rfl)
  refine wc_region ?_
  refine wl_fieldAddr rfl fo_33_0 rfl ?_
  refine wl_load rfl ag_3 (by first | assumption | exact hSo208.cell 0 rfl rfl | exact hSo208.cell 4 rfl rfl) rfl ?_
  refine wl_nil (qs_seq (wc_block (wc_seq (wc_region ?_))))
  refine wl_eql rfl rfl rfl ?_
  refine wl_assign rfl rfl (wl_nil (qs_seq ?_))
  refine wc_sub (L' := [(77, _), (76, _), (9, _), (5, _), (0, _)]) (.cons rfl (.cons rfl (.cons rfl (.cons rfl (.cons rfl .nil))))) ?_
  refine wc_condD rfl (fun h209 => ?_) (fun h209 => ?_)
  ·refine wc_region (wl_move rfl rfl (wl_nilCheck rfl rfl ?_))
   refine wl_fieldAddr rfl fo_31_1 rfl ?_
   refine wl_load rfl ag_28 (by first | assumption | exact hSo208.cell 0 rfl rfl | exact hSo208.cell 4 rfl rfl) rfl ?_
   refine wl_move rfl rfl ?_
   refine wl_rowIdx inC 2 k hSo208 rfl rfl rfl (by rfl) hkr es_28 rfl ?_
   intro bx210 capx210 hvx210
   refine wl_rowLoad 2 k 0 hSo208 rfl hvx210 rfl rfl hkr ag_3 rfl rfl ?_
   refine wl_add rfl rfl (by omega) (by omega) rfl ?_
   refine wl_rowIdx inC 2 k hSo208 rfl rfl rfl (by rfl) hkr es_28 rfl ?_
   intro bx211 capx211 hvx211
   refine wl_rowStore 2 k (r + 1) hSo208 rfl hvx211 rfl rfl sz_3 (by first | rfl | (simp; done)) (by first | omega | exact (List.getElem?_eq_some_iff.1 hkr).1) ?_
   intro w212 hS213; dsimp only [List.set] at hS213
   clear hSo208
   refine wl_nil (qs_block_normal ?_)
   refine fin0 (.inl rfl) rfl ?_
   obtain ⟨_, hv⟩ : o.d = 1 ∧ _ := by rcases hds with h | h | h | h | h; exact h; all_goals (exfalso; omega)
   have hm := hR.set (r' := r + 1) (pg' := pg) hk hV; rw [← hv, set_same hkp] at hm
   exact ⟨_, rfl, rfl, _, hm, by show M.ids.length ≤ _; omega, moT_shut (M := ⟨M.ids, M.refs.set k (r + 1), M.pages⟩) (hS213.pick [0, 1, 2, 3, 5] rfl)⟩
  refine wc_seq (wc_region ?_)
  refine wl_eql rfl rfl rfl ?_
  refine wl_assign rfl rfl (wl_nil (qs_seq ?_))
  refine wc_condD rfl (fun h214 => ?_) (fun h214 => ?_)
  ·refine wc_seq (wc_region (wl_move rfl rfl (wl_nilCheck rfl rfl ?_)))
   refine wl_fieldAddr rfl fo_31_1 rfl ?_
   refine wl_load rfl ag_28 (by first | assumption | exact hSo208.cell 0 rfl rfl | exact hSo208.cell 4 rfl rfl) rfl ?_
   refine wl_move rfl rfl ?_
   refine wl_rowIdx inC 2 k hSo208 rfl rfl rfl (by rfl) hkr es_28 rfl ?_
   intro bx215 capx215 hvx215
   refine wl_rowLoad 2 k 0 hSo208 rfl hvx215 rfl rfl hkr ag_3 rfl rfl ?_
   refine wl_sub' rfl rfl (by omega) (by omega) rfl ?_
   refine wl_rowIdx inC 2 k hSo208 rfl rfl rfl (by rfl) hkr es_28 rfl ?_
   intro bx216 capx216 hvx216
   refine wl_rowStore 2 k (r - 1) hSo208 rfl hvx216 rfl rfl sz_3 (by first | rfl | (simp; done)) (by first | omega | exact (List.getElem?_eq_some_iff.1 hkr).1) ?_
   intro w217 hS218; dsimp only [List.set] at hS218
   clear hSo208
   refine wl_nil (qs_seq ?_)
   refine wc_sub (L' := [(9, _), (0, _)]) (.cons rfl (.cons rfl .nil)) ?_
   refine wc_seq ?_
   have hkr2 : (M.refs.set k (r - 1))[k]? = some (r - 1) := List.getElem?_set_self (by omega)
   refine wc_region (wl_move rfl rfl (wl_nilCheck rfl rfl ?_))
   refine wl_fieldAddr rfl fo_31_1 rfl ?_
   refine wl_load rfl ag_28 (by first | assumption | exact hS218.cell 0 rfl rfl | exact hS218.cell 4 rfl rfl) rfl ?_
   refine wl_move rfl rfl ?_
   refine wl_rowIdx inC 2 k hS218 rfl rfl rfl (by rfl) hkr2 es_28 rfl ?_
   intro bx219 capx219 hvx219
   refine wl_rowLoad 2 k 0 hS218 rfl hvx219 rfl rfl hkr2 ag_3 rfl rfl ?_
   refine wl_eql rfl rfl rfl ?_
   refine wl_nil (qs_seq ?_)
   refine wc_condD rfl (fun h220 => ?_) (fun h220 => ?_)
   ·refine wc_seq ?_
    obtain ⟨_, _, hqc, hcp1, _⟩ := hS218.own_shape 1 rfl; cases hqc
    have hS221 := hS218.drew
    refine wc_draw [0, 2, 3, 4, 5, 6, 7, 9, 10, 11, 12, 13, 14, 15, 1, 8, 16, 17, 18, 19] [1, 8, 16, 19] mix (by kernel_rfl) ?_
    refine vc_p rfl rfl rfl (fun _ => (ev_move rfl)) ?_
    refine vc_p rfl rfl rfl (fun _ => (ev_move rfl)) ?_
    refine vc_p rfl rfl rfl (fun _ => (ev_nilCheck rfl)) ?_
    refine vc_p rfl rfl rfl (fun _ => (ev_fieldAddr rfl fo_31_0)) ?_
    refine vc_q rfl rfl rfl (ev_load rfl ag_28 (by first | assumption | exact hS221.cell 0 rfl rfl | exact hS221.cell 4 rfl rfl)) ?_
    refine vc_p rfl rfl rfl (fun _ => (ev_move rfl)) ?_
    refine vc_p rfl rfl rfl (fun _ => (ev_view 0 k Tryz.underlying28 sz_3 rfl (bndN _) (bndS k _ rfl rfl) (by omega) (by omega))) ?_
    refine vc_p rfl rfl rfl (fun _ => (ev_move rfl)) ?_
    refine vc_p rfl rfl rfl (fun _ => (ev_nilCheck rfl)) ?_
    refine vc_p rfl rfl rfl (fun _ => (ev_fieldAddr rfl fo_31_0)) ?_
    refine vc_q rfl rfl rfl (ev_load rfl ag_28 (by first | assumption | exact hS221.cell 0 rfl rfl | exact hS221.cell 4 rfl rfl)) ?_
    refine vc_p rfl rfl rfl (fun _ => (ev_move rfl)) ?_
    refine vc_p rfl rfl rfl (fun _ => (ev_add rfl rfl (by omega) (by omega))) ?_
    refine vc_p rfl rfl rfl (fun _ => (ev_view (k + 1) M.ids.length Tryz.underlying28 sz_3 rfl (bndS (k + 1) _ rfl (by omega)) (bndN _) (by omega) (by omega))) ?_
    refine vc_s rfl rfl rfl rfl rfl rfl ?_
    refine wl_rowBuild inC [] hS221 rfl Tryz.underlying28 ifz_3 rfl rfl rfl rfl (by first | rfl | simp [RowC.cells, fillL, splice]) rfl ?_
    intro b222 w222 hS222
    clear hS221
    refine vc_e (.cons (.inl ⟨rfl, (ev_load rfl ag_28 (by first | assumption | exact hS222.cell 1 rfl rfl | exact hS222.cell 5 rfl rfl))⟩) (.cons (.inl ⟨rfl, (ev_load rfl ag_28 (by first | assumption | exact hS222.cell 1 rfl rfl | exact hS222.cell 5 rfl rfl))⟩) .nil)) ?_
    refine vc_s rfl rfl rfl rfl rfl rfl ?_
    refine wl_rowApp inC 0 hS222 rfl rfl rfl (Ent.sat (ent_view (C := inC) (l := M.ids) (A := 0) (B := k) (by omega) (by omega) (by omega) hcp1) hS222 2 rfl) Tryz.underlying28 Tryz.underlying28 (by intro k hk; cases hk) ifo_3 rfl (by simp only [List.length_take, List.length_drop, List.length_append, List.length_nil]; omega) rfl (by simp only [List.length_take, List.length_drop, List.length_append, List.length_nil]; omega) ?_
    intro v223 w223 hS223; dsimp only [List.set] at hS223
    clear hS222
    have h1v223 : v223.oneCell' = true := hS223.own_one 0 rfl
    refine vc_e (.cons (.inl ⟨rfl, (ev_load rfl ag_28 (by first | assumption | exact hS223.cell 1 rfl rfl | exact hS223.cell 5 rfl rfl))⟩) (.skip (by kernel_rfl) .nil)) ?_
    refine vc_s rfl rfl rfl rfl rfl rfl ?_
    refine wl_rowApp inC 0 hS223 rfl rfl rfl (Ent.sat (ent_view (C := inC) (l := M.ids) (A := (k + 1)) (B := M.ids.length) (by omega) (by omega) (by omega) hcp1) hS223 2 rfl) Tryz.underlying28 Tryz.underlying28 (by intro k hk; cases hk) ifo_3 rfl (by simp only [List.length_take, List.length_drop, List.length_append, List.length_nil]; omega) rfl (by simp only [List.length_take, List.length_drop, List.length_append, List.length_nil]; omega) ?_
    intro v224 w224 hS224; dsimp only [List.set] at hS224
    clear hS223
    have h1v224 : v224.oneCell' = true := hS224.own_one 0 rfl
    refine vc_e (.skip (by kernel_rfl) (.skip (by kernel_rfl) .nil)) ?_
    refine vc_p rfl rfl rfl (fun _ => (ev_nilCheck rfl)) ?_
    refine vc_p rfl rfl rfl (fun _ => (ev_fieldAddr rfl fo_31_0)) ?_
    refine vc_s rfl rfl rfl rfl rfl rfl ?_
    first | (refine wl_store hS224 rfl rfl sz_28 (by first | rfl | assumption | exact hS224.own_one 0 rfl | exact hS224.own_one 2 rfl | exact hS224.own_one 3 rfl | exact hS224.own_one 4 rfl) (i := 1) rfl (by first | decide | exact Nat.le_of_ble_eq_true rfl | (simp; done) | omega) ?_) | (refine wl_store hS224 rfl rfl sz_28 (by first | rfl | assumption | exact hS224.own_one 0 rfl | exact hS224.own_one 2 rfl | exact hS224.own_one 3 rfl | exact hS224.own_one 4 rfl) (i := 5) rfl (by first | decide | exact Nat.le_of_ble_eq_true rfl | (simp; done) | omega) ?_)
    intro w225 hS226; dsimp only [List.set] at hS226
    clear hS224
    refine vc_e0 (.skip (by kernel_rfl) (.skip (by kernel_rfl) .nil)) ?_
    refine VC.nil (qs_seq ?_)
    refine wc_sub (L' := [(9, _), (0, _)]) (.cons rfl (.cons rfl .nil)) ?_
    refine wc_seq ?_
    have hls : (M.refs.set k (r - 1)).length = M.refs.length := List.length_set
    obtain ⟨_, _, hqc, hcp2, _⟩ := hS226.own_shape 3 rfl; rw [List.length_set] at hqc hcp2; cases hqc
    have hS227 := hS226.drew
    refine wc_draw [0, 2, 3, 4, 5, 6, 7, 9, 10, 11, 12, 13, 14, 15, 1, 8, 16, 17, 18, 19] [1, 8, 16, 19] mix (by kernel_rfl) ?_
    refine vc_p rfl rfl rfl (fun _ => (ev_move rfl)) ?_
    refine vc_p rfl rfl rfl (fun _ => (ev_move rfl)) ?_
    refine vc_p rfl rfl rfl (fun _ => (ev_nilCheck rfl)) ?_
    refine vc_p rfl rfl rfl (fun _ => (ev_fieldAddr rfl fo_31_1)) ?_
    refine vc_q rfl rfl rfl (ev_load rfl ag_28 (by first | assumption | exact hS227.cell 1 rfl rfl | exact hS227.cell 5 rfl rfl)) ?_
    refine vc_p rfl rfl rfl (fun _ => (ev_move rfl)) ?_
    refine vc_p rfl rfl rfl (fun _ => (ev_view 0 k Tryz.underlying28 sz_3 rfl (bndN _) (bndS k _ rfl rfl) (by omega) (by omega))) ?_
    refine vc_p rfl rfl rfl (fun _ => (ev_move rfl)) ?_
    refine vc_p rfl rfl rfl (fun _ => (ev_nilCheck rfl)) ?_
    refine vc_p rfl rfl rfl (fun _ => (ev_fieldAddr rfl fo_31_1)) ?_
    refine vc_q rfl rfl rfl (ev_load rfl ag_28 (by first | assumption | exact hS227.cell 1 rfl rfl | exact hS227.cell 5 rfl rfl)) ?_
    refine vc_p rfl rfl rfl (fun _ => (ev_move rfl)) ?_
    refine vc_p rfl rfl rfl (fun _ => (ev_add rfl rfl (by omega) (by omega))) ?_
    refine vc_p rfl rfl rfl (fun _ => (ev_view (k + 1) M.refs.length Tryz.underlying28 sz_3 rfl (bndS (k + 1) _ rfl (by omega)) (bndN _) (by omega) (by omega))) ?_
    refine vc_s rfl rfl rfl rfl rfl rfl ?_
    refine wl_rowBuild inC [] hS227 rfl Tryz.underlying28 ifz_3 rfl rfl rfl rfl (by first | rfl | simp [RowC.cells, fillL, splice]) rfl ?_
    intro b228 w228 hS228
    clear hS227
    refine vc_e (.cons (.inl ⟨rfl, (ev_load rfl ag_28 (by first | assumption | exact hS228.cell 2 rfl rfl | exact hS228.cell 6 rfl rfl))⟩) (.cons (.inl ⟨rfl, (ev_load rfl ag_28 (by first | assumption | exact hS228.cell 2 rfl rfl | exact hS228.cell 6 rfl rfl))⟩) .nil)) ?_
    refine vc_s rfl rfl rfl rfl rfl rfl ?_
    refine wl_rowApp inC 0 hS228 rfl rfl rfl (Ent.sat (ent_view2 (C := inC) (l := M.refs.set k (r - 1)) (n := M.refs.length) (A := 0) (B := k) hls (by omega) (by omega) (by omega) hcp2) hS228 4 rfl) Tryz.underlying28 Tryz.underlying28 (by intro k hk; cases hk) ifo_3 rfl (by simp only [List.length_take, List.length_drop, List.length_append, List.length_nil, List.length_set]; omega) rfl (by simp only [List.length_take, List.length_drop, List.length_append, List.length_nil, List.length_set]; omega) ?_
    intro v229 w229 hS229; dsimp only [List.set] at hS229
    clear hS228
    have h1v229 : v229.oneCell' = true := hS229.own_one 0 rfl
    refine vc_e (.cons (.inl ⟨rfl, (ev_load rfl ag_28 (by first | assumption | exact hS229.cell 2 rfl rfl | exact hS229.cell 6 rfl rfl))⟩) (.skip (by kernel_rfl) .nil)) ?_
    refine vc_s rfl rfl rfl rfl rfl rfl ?_
    refine wl_rowApp inC 0 hS229 rfl rfl rfl (Ent.sat (ent_view2 (C := inC) (l := M.refs.set k (r - 1)) (n := M.refs.length) (A := (k + 1)) (B := M.refs.length) hls (by omega) (by omega) (by omega) hcp2) hS229 4 rfl) Tryz.underlying28 Tryz.underlying28 (by intro k hk; cases hk) ifo_3 rfl (by simp only [List.length_take, List.length_drop, List.length_append, List.length_nil, List.length_set]; omega) rfl (by simp only [List.length_take, List.length_drop, List.length_append, List.length_nil, List.length_set]; omega) ?_
    intro v230 w230 hS230; dsimp only [List.set] at hS230
    clear hS229
    have h1v230 : v230.oneCell' = true := hS230.own_one 0 rfl
    refine vc_e (.skip (by kernel_rfl) (.skip (by kernel_rfl) .nil)) ?_
    refine vc_p rfl rfl rfl (fun _ => (ev_nilCheck rfl)) ?_
    refine vc_p rfl rfl rfl (fun _ => (ev_fieldAddr rfl fo_31_1)) ?_
    refine vc_s rfl rfl rfl rfl rfl rfl ?_
    first | (refine wl_store hS230 rfl rfl sz_28 (by first | rfl | assumption | exact hS230.own_one 0 rfl | exact hS230.own_one 1 rfl | exact hS230.own_one 3 rfl | exact hS230.own_one 4 rfl | exact hS230.own_one 5 rfl) (i := 2) rfl (by first | decide | exact Nat.le_of_ble_eq_true rfl | (simp; done) | omega) ?_) | (refine wl_store hS230 rfl rfl sz_28 (by first | rfl | assumption | exact hS230.own_one 0 rfl | exact hS230.own_one 1 rfl | exact hS230.own_one 3 rfl | exact hS230.own_one 4 rfl | exact hS230.own_one 5 rfl) (i := 6) rfl (by first | decide | exact Nat.le_of_ble_eq_true rfl | (simp; done) | omega) ?_)
    intro w231 hS232; dsimp only [List.set] at hS232
    clear hS230
    refine vc_e0 (.skip (by kernel_rfl) (.skip (by kernel_rfl) .nil)) ?_
    refine VC.nil (qs_seq ?_)
    refine wc_sub (L' := [(9, _), (0, _)]) (.cons rfl (.cons rfl .nil)) ?_
    obtain ⟨_, _, hqc, hcp3, _⟩ := hS232.own_shape 5 rfl; cases hqc
    have hS233 := hS232.drew
    refine wc_draw [0, 2, 3, 4, 5, 6, 7, 9, 10, 11, 12, 13, 14, 15, 1, 8, 16, 17, 18, 19] [1, 8, 16, 19] mix (by kernel_rfl) ?_
    refine vc_p rfl rfl rfl (fun _ => (ev_move rfl)) ?_
    refine vc_p rfl rfl rfl (fun _ => (ev_move rfl)) ?_
    refine vc_p rfl rfl rfl (fun _ => (ev_nilCheck rfl)) ?_
    refine vc_p rfl rfl rfl (fun _ => (ev_fieldAddr rfl fo_31_2)) ?_
    refine vc_q rfl rfl rfl (ev_load rfl ag_29 (by first | assumption | exact hS233.cell 2 rfl rfl | exact hS233.cell 6 rfl rfl)) ?_
    refine vc_p rfl rfl rfl (fun _ => (ev_move rfl)) ?_
    refine vc_p rfl rfl rfl (fun _ => (ev_view 0 k Tryz.underlying29 sz_9 rfl (bndN _) (bndS k _ rfl rfl) (by omega) (by omega))) ?_
    refine vc_p rfl rfl rfl (fun _ => (ev_move rfl)) ?_
    refine vc_p rfl rfl rfl (fun _ => (ev_nilCheck rfl)) ?_
    refine vc_p rfl rfl rfl (fun _ => (ev_fieldAddr rfl fo_31_2)) ?_
    refine vc_q rfl rfl rfl (ev_load rfl ag_29 (by first | assumption | exact hS233.cell 2 rfl rfl | exact hS233.cell 6 rfl rfl)) ?_
    refine vc_p rfl rfl rfl (fun _ => (ev_move rfl)) ?_
    refine vc_p rfl rfl rfl (fun _ => (ev_add rfl rfl (by omega) (by omega))) ?_
    refine vc_p rfl rfl rfl (fun _ => (ev_view (k + 1) M.pages.length Tryz.underlying29 sz_9 rfl (bndS (k + 1) _ rfl (by omega)) (bndN _) (by omega) (by omega))) ?_
    refine vc_s rfl rfl rfl rfl rfl rfl ?_
    refine wl_rowBuild stC [] hS233 rfl Tryz.underlying29 ifz_9 rfl rfl rfl rfl (by first | rfl | simp [RowC.cells, fillL, splice]) rfl ?_
    intro b234 w234 hS234
    clear hS233
    refine vc_e (.cons (.inl ⟨rfl, (ev_load rfl ag_29 (by first | assumption | exact hS234.cell 3 rfl rfl | exact hS234.cell 7 rfl rfl))⟩) (.cons (.inl ⟨rfl, (ev_load rfl ag_29 (by first | assumption | exact hS234.cell 3 rfl rfl | exact hS234.cell 7 rfl rfl))⟩) .nil)) ?_
    refine vc_s rfl rfl rfl rfl rfl rfl ?_
    refine wl_rowApp stC 0 hS234 rfl rfl rfl (Ent.sat (ent_view (C := stC) (l := M.pages) (A := 0) (B := k) (by omega) (by omega) (by omega) hcp3) hS234 6 rfl) Tryz.underlying29 Tryz.underlying29 (by intro k hk; cases hk) ifo_9 rfl (by simp only [List.length_take, List.length_drop, List.length_append, List.length_nil]; omega) rfl (by simp only [List.length_take, List.length_drop, List.length_append, List.length_nil]; omega) ?_
    intro v235 w235 hS235; dsimp only [List.set] at hS235
    clear hS234
    have h1v235 : v235.oneCell' = true := hS235.own_one 0 rfl
    refine vc_e (.cons (.inl ⟨rfl, (ev_load rfl ag_29 (by first | assumption | exact hS235.cell 3 rfl rfl | exact hS235.cell 7 rfl rfl))⟩) (.skip (by kernel_rfl) .nil)) ?_
    refine vc_s rfl rfl rfl rfl rfl rfl ?_
    refine wl_rowApp stC 0 hS235 rfl rfl rfl (Ent.sat (ent_view (C := stC) (l := M.pages) (A := (k + 1)) (B := M.pages.length) (by omega) (by omega) (by omega) hcp3) hS235 6 rfl) Tryz.underlying29 Tryz.underlying29 (by intro k hk; cases hk) ifo_9 rfl (by simp only [List.length_take, List.length_drop, List.length_append, List.length_nil]; omega) rfl (by simp only [List.length_take, List.length_drop, List.length_append, List.length_nil]; omega) ?_
    intro v236 w236 hS236; dsimp only [List.set] at hS236
    clear hS235
    have h1v236 : v236.oneCell' = true := hS236.own_one 0 rfl
    refine vc_e (.skip (by kernel_rfl) (.skip (by kernel_rfl) .nil)) ?_
    refine vc_p rfl rfl rfl (fun _ => (ev_nilCheck rfl)) ?_
    refine vc_p rfl rfl rfl (fun _ => (ev_fieldAddr rfl fo_31_2)) ?_
    refine vc_s rfl rfl rfl rfl rfl rfl ?_
    first | (refine wl_store hS236 rfl rfl sz_29 (by first | rfl | assumption | exact hS236.own_one 0 rfl | exact hS236.own_one 1 rfl | exact hS236.own_one 2 rfl | exact hS236.own_one 4 rfl | exact hS236.own_one 5 rfl | exact hS236.own_one 6 rfl) (i := 3) rfl (by first | decide | exact Nat.le_of_ble_eq_true rfl | (simp; done) | omega) ?_) | (refine wl_store hS236 rfl rfl sz_29 (by first | rfl | assumption | exact hS236.own_one 0 rfl | exact hS236.own_one 1 rfl | exact hS236.own_one 2 rfl | exact hS236.own_one 4 rfl | exact hS236.own_one 5 rfl | exact hS236.own_one 6 rfl) (i := 7) rfl (by first | decide | exact Nat.le_of_ble_eq_true rfl | (simp; done) | omega) ?_)
    intro w237 hS238; dsimp only [List.set] at hS238
    clear hS236
    refine vc_e0 (.skip (by kernel_rfl) (.skip (by kernel_rfl) .nil)) ?_
    refine VC.nil (qs_block_normal ?_)
    refine fin0 (.inl rfl) rfl ?_
    have hv : V' = up V o.id none := by rcases hds with h | h | h | h | h; all_goals first | (exfalso; omega) | exact h.2.2
    have hz := hS238.pick [3, 2, 1, 0, 8] rfl
    have hm := (hR.set (r' := r - 1) (pg' := pg) hk hV).del (k := k) (id := o.id) hk; rw [set_same hkp] at hm
    have hv3 : up (up V o.id (some (r - 1, pg))) o.id none = V' := by rw [hv]; funext j; by_cases q : j = o.id; (subst q; rw [up_self, up_self]); rw [up_ne q, up_ne q, up_ne q]
    rw [hv3] at hm
    rw [vsl hkl, vsl2 (l := M.refs.set k (r - 1)) (n := M.refs.length) (k := k) List.length_set (by omega), vsl (l := M.pages) (k := k) (by omega)] at hz
    exact ⟨_, rfl, rfl, _, hm, by dsimp only; have := List.length_eraseIdx_le M.ids k; omega, moT_shut hz⟩
   refine wc_skip (qs_block_normal ?_)
   refine fin0 (.inl rfl) rfl ?_
   have hv : V' = up V o.id (some (r - 1, pg)) := by rcases hds with h | h | h | h | h; all_goals first | (exfalso; omega) | exact h.2.2
   have hm := hR.set (r' := r - 1) (pg' := pg) hk hV; rw [← hv, set_same hkp] at hm
   exact ⟨_, rfl, rfl, _, hm, by show M.ids.length ≤ _; omega, moT_shut (M := ⟨M.ids, M.refs.set k (r - 1), M.pages⟩) (hS218.pick [0, 1, 2, 3, 5] rfl)⟩
  refine wc_seq (wc_region ?_)
  refine wl_eql rfl rfl rfl ?_
  refine wl_assign rfl rfl (wl_nil (qs_seq ?_))
  refine wc_condD rfl (fun h239 => ?_) (fun h239 => ?_)
  ·refine wc_seq (wc_region (wl_move rfl rfl (wl_nilCheck rfl rfl ?_)))
   refine wl_fieldAddr rfl fo_31_2 rfl ?_
   refine wl_load rfl ag_29 (by first | assumption | exact hSo208.cell 0 rfl rfl | exact hSo208.cell 4 rfl rfl) rfl ?_
   refine wl_move rfl rfl ?_
   refine wl_rowIdx stC 3 k hSo208 rfl rfl rfl (by rfl) hkp es_29 rfl ?_
   intro bx240 capx240 hvx240
   refine wl_rowLoad 3 k 0 hSo208 rfl hvx240 rfl rfl hkp ag_9 rfl rfl ?_
   refine wl_rowBytes hSo208 rfl Tryz.underlying9 Tryz.underlying70 Tryz.underlying5 rfl ?_
   intro v241 w241 hS241
   clear hSo208
   refine wl_assign rfl rfl (wl_nil (qs_seq ?_))
   refine wc_sub (L' := [(11, _), (9, _), (5, _), (0, _)]) (.cons rfl (.cons rfl (.cons rfl (.cons rfl .nil)))) ?_
   refine wc_seq ?_
   obtain ⟨hrng, hv3⟩ : (0 ≤ o.at_ ∧ o.at_ < 64) ∧ V' = up V o.id (some (r, pg.set o.at_.toNat (u8 o.n))) := by rcases hds with h | h | h | h | h; all_goals first | (exfalso; omega) | exact h.2
   obtain ⟨cb, hcb⟩ : ∃ c, pg[o.at_.toNat]? = some c := ⟨_, List.getElem?_eq_getElem (by omega)⟩
   refine wc_region (wl_move rfl rfl ?_)
   refine wl_fieldAddr rfl fo_33_2 rfl ?_
   refine wl_load rfl ag_3 (by first | assumption | exact hS241.cell 1 rfl rfl | exact hS241.cell 5 rfl rfl) rfl ?_
   refine wl_fieldAddr rfl fo_33_3 rfl ?_
   refine wl_load rfl ag_3 (by first | assumption | exact hS241.cell 1 rfl rfl | exact hS241.cell 5 rfl rfl) rfl ?_
   refine wl_convII Tryz.underlying3 Tryz.underlying5 rfl (c := ((u8 o.n).toNat : Int)) (wrapU8 o.n) rfl ?_
   refine wl_rowIdx byC 0 o.at_.toNat hS241 rfl rfl rfl (by omega) hcb es_70 rfl ?_
   intro bx242 capx242 hvx242
   refine wl_rowStore 0 o.at_.toNat (u8 o.n) hS241 rfl hvx242 rfl rfl sz_5 (by first | rfl | (simp; done)) (by first | omega | exact (List.getElem?_eq_some_iff.1 hcb).1) ?_
   intro w243 hS244; dsimp only [List.set] at hS244
   clear hS241
   refine wl_nil (qs_seq ?_)
   refine wc_sub (L' := [(11, _), (9, _), (0, _)]) (.cons rfl (.cons rfl (.cons rfl .nil))) ?_
   obtain ⟨pb, pc9, hq9, _⟩ := hS244.own_at 4 rfl (by omega); cases hq9
   have hS245 := hS244.drew
   refine wc_draw [0, 1, 2, 3, 4, 5, 6, 7, 8] [8] mix (by kernel_rfl) ?_
   refine vc_p rfl rfl rfl (fun _ => (ev_move rfl)) ?_
   refine vc_p rfl rfl rfl (fun _ => (ev_nilCheck rfl)) ?_
   refine vc_p rfl rfl rfl (fun _ => (ev_fieldAddr rfl fo_31_2)) ?_
   refine vc_q rfl rfl rfl (ev_load rfl ag_29 (by first | assumption | exact hS245.cell 1 rfl rfl | exact hS245.cell 5 rfl rfl)) ?_
   refine vc_p rfl rfl rfl (fun _ => (ev_move rfl)) ?_
   refine vc_p rfl rfl rfl (fun _ => (ev_move rfl)) ?_
   refine vc_q rfl rfl rfl (ev_rowStr 0 hS245 rfl rfl Tryz.underlying70 Tryz.underlying5 Tryz.underlying9) ?_
   refine vc_p rfl rfl rfl (fun _ => (ev_indexAddr k rfl rfl (by first | rfl | omega) (by omega) es_29)) ?_
   refine vc_s rfl rfl rfl rfl rfl rfl ?_
   refine wl_rowStore 4 k (pg.set o.at_.toNat (u8 o.n)) hS245 rfl rfl (congrArg (fun q => some (ptrV pb q)) (show 0 + k * 1 = k * 1 by omega)) rfl sz_9 rfl (by omega) ?_
   intro w246 hS246; dsimp only [List.set] at hS246
   clear hS245
   refine vc_e0 (.skip (by kernel_rfl) (.skip (by kernel_rfl) .nil)) ?_
   refine VC.nil (qs_block_normal ?_)
   refine fin0 (.inl rfl) rfl ?_
   have hm := hR.set (r' := r) (pg' := pg.set o.at_.toNat (u8 o.n)) hk hV; rw [← hv3, set_same hkr] at hm
   exact ⟨_, rfl, rfl, _, hm, by show M.ids.length ≤ _; omega, moT_shut (M := ⟨M.ids, M.refs, M.pages.set k (pg.set o.at_.toNat (u8 o.n))⟩) (hS246.pick [1, 2, 3, 4, 6] rfl)⟩
  refine wc_skip (qs_block_normal ?_)
  refine fin0 (.inl rfl) rfl ?_
  obtain ⟨_, hv⟩ : (o.d ≠ 1 ∧ o.d ≠ 2 ∧ o.d ≠ 3) ∧ _ := by rcases hds with h | h | h | h | h; all_goals first | (exfalso; omega) | exact h
  exact ⟨_, rfl, rfl, M, by rw [hv]; exact hR, by omega, moT_shut (hSo208.pick [0, 1, 2, 3, 5] rfl)⟩
 refine wl_guard rfl rfl (decide_eq_false h150) ?_
 refine wl_fieldAddr rfl fo_33_0 rfl ?_
 refine wl_guard rfl rfl (decide_eq_false h150) ?_
 refine wl_load rfl ag_3 (by first | assumption | exact hS4.cell 1 rfl rfl) rfl ?_
 refine wl_guard rfl rfl (decide_eq_false h150) ?_
 refine wl_eql rfl rfl rfl ?_
 refine wl_pickF rfl (decide_eq_false h150) rfl rfl ?_
 refine wl_move rfl rfl ?_
 refine wl_splitD 29 rfl (fun h247 => ?_) (fun h247 => ?_)
 ·refine wl_guard rfl rfl (decide_eq_true h247) ?_
  refine wl_move rfl rfl ?_
  refine wl_guard rfl rfl (decide_eq_true h247) ?_
  refine wl_neq rfl rfl rfl ?_
  refine wl_pickT rfl (decide_eq_true h247) rfl rfl ?_
  refine wl_move rfl rfl ?_
  refine wl_splitD 33 rfl (fun h248 => ?_) (fun h248 => ?_)
  ·refine wl_unwanted rfl rfl (decide_eq_true h248) rfl ?_
   refine wl_unwanted rfl rfl (decide_eq_true h248) rfl ?_
   refine wl_unwanted rfl rfl (decide_eq_true h248) rfl ?_
   refine wl_pickT rfl (decide_eq_true h248) rfl rfl ?_
   refine wl_nil (qs_seq ?_)
   refine wc_sub (L' := [(37, _), (9, _), (8, _), (5, _), (0, _), (2, _)]) (.cons rfl (.cons rfl (.cons rfl (.cons rfl (.cons rfl (.cons rfl .nil)))))) ?_
   refine wc_condT rfl ?_
   refine wc_seq ?_
   have hcc : ((o.d = 0 ∨ o.d = 10) ∧ a ≠ 0) ∨ o.d = 8 := by omega
   obtain ⟨hv1, hv2⟩ := dov_add hD hcc
   refine wc_region (wl_move rfl rfl (wl_assign rfl rfl (wl_nil (qs_seq (wc_seq (wc_seq (wc_region ?_)))))))
   refine wl_fieldAddr rfl fo_33_0 rfl ?_
   refine wl_load rfl ag_3 (by first | assumption | exact hS4.cell 1 rfl rfl) rfl ?_
   refine wl_eql rfl rfl rfl ?_
   refine wl_nil (qs_seq ?_)
   refine wc_sub (L' := [(41, _), (10, _), (9, _), (8, _), (5, _), (0, _)]) (.cons rfl (.cons rfl (.cons rfl (.cons rfl (.cons rfl (.cons rfl .nil)))))) ?_
   refine wc_condD rfl (fun h249 => ?_) (fun h249 => ?_)
   ·refine wc_region ?_
    refine wl_fieldAddr rfl fo_33_1 rfl ?_
    refine wl_load rfl ag_3 (by first | assumption | exact hS4.cell 1 rfl rfl) rfl ?_
    refine wl_assign rfl rfl (wl_nil (qs_seq (wc_seq ?_)))
    rw [if_pos (by omega)] at hv1 hv2
    obtain ⟨a1, c1, a2, c2, a3, c3, hSo250⟩ := moT_open (hS4.pick [0, 1, 2] rfl)
    refine wc_region (wl_move rfl rfl (wl_move rfl rfl (wl_nilCheck rfl rfl ?_)))
    refine wl_fieldAddr rfl fo_31_0 rfl ?_
    refine wl_load rfl ag_28 (by first | assumption | exact hSo250.cell 0 rfl rfl | exact hSo250.cell 4 rfl rfl) rfl ?_
    refine wl_move rfl rfl ?_
    refine wl_rowBuild inC [o.id] hSo250 rfl Tryz.underlying28 ifz_3 rfl rfl rfl rfl (by first | rfl | simp [RowC.cells, fillL, splice]) rfl ?_
    intro b251 w251 hS251
    clear hSo250
    refine wl_rowApp inC 2 hS251 rfl rfl rfl (hS251.rd 0 rfl (by simp)) Tryz.underlying28 Tryz.underlying28 (by intro k hk; cases hk) ifo_3 rfl (by simp only [List.length_cons, List.length_nil]; omega) rfl (by simp only [List.length_cons, List.length_nil]; omega) ?_
    intro v252 w252 hS252; dsimp only [List.set] at hS252
    clear hS251
    have h1v252 : v252.oneCell' = true := hS252.own_one 2 rfl
    refine wl_nilCheck rfl rfl ?_
    refine wl_fieldAddr rfl fo_31_0 rfl ?_
    first | (refine wl_store hS252 rfl rfl sz_28 (by first | rfl | assumption | exact hS252.own_one 0 rfl | exact hS252.own_one 2 rfl | exact hS252.own_one 3 rfl | exact hS252.own_one 4 rfl) (i := 1) rfl (by first | decide | exact Nat.le_of_ble_eq_true rfl | (simp; done) | omega) ?_) | (refine wl_store hS252 rfl rfl sz_28 (by first | rfl | assumption | exact hS252.own_one 0 rfl | exact hS252.own_one 2 rfl | exact hS252.own_one 3 rfl | exact hS252.own_one 4 rfl) (i := 5) rfl (by first | decide | exact Nat.le_of_ble_eq_true rfl | (simp; done) | omega) ?_)
    intro w253 hS254; dsimp only [List.set] at hS254
    clear hS252
    refine wl_nil (qs_seq ?_)
    refine wc_sub (L' := [(9, _), (8, _), (5, _), (0, _)]) (.cons rfl (.cons rfl (.cons rfl (.cons rfl .nil)))) ?_
    refine wc_seq (wc_region (wl_move rfl rfl (wl_move rfl rfl (wl_nilCheck rfl rfl ?_))))
    refine wl_fieldAddr rfl fo_31_1 rfl ?_
    refine wl_load rfl ag_28 (by first | assumption | exact hS254.cell 1 rfl rfl | exact hS254.cell 5 rfl rfl) rfl ?_
    refine wl_rowBuild inC [1] hS254 rfl Tryz.underlying28 ifz_3 rfl rfl rfl rfl (by first | rfl | simp [RowC.cells, fillL, splice]) rfl ?_
    intro b255 w255 hS255
    clear hS254
    refine wl_rowApp inC 4 hS255 rfl rfl rfl (hS255.rd 0 rfl (by simp)) Tryz.underlying28 Tryz.underlying28 (by intro k hk; cases hk) ifo_3 rfl (by simp only [List.length_cons, List.length_nil]; omega) rfl (by simp only [List.length_cons, List.length_nil]; omega) ?_
    intro v256 w256 hS256; dsimp only [List.set] at hS256
    clear hS255
    have h1v256 : v256.oneCell' = true := hS256.own_one 4 rfl
    refine wl_nilCheck rfl rfl ?_
    refine wl_fieldAddr rfl fo_31_1 rfl ?_
    first | (refine wl_store hS256 rfl rfl sz_28 (by first | rfl | assumption | exact hS256.own_one 0 rfl | exact hS256.own_one 3 rfl | exact hS256.own_one 4 rfl | exact hS256.own_one 5 rfl) (i := 2) rfl (by first | decide | exact Nat.le_of_ble_eq_true rfl | (simp; done) | omega) ?_) | (refine wl_store hS256 rfl rfl sz_28 (by first | rfl | assumption | exact hS256.own_one 0 rfl | exact hS256.own_one 3 rfl | exact hS256.own_one 4 rfl | exact hS256.own_one 5 rfl) (i := 6) rfl (by first | decide | exact Nat.le_of_ble_eq_true rfl | (simp; done) | omega) ?_)
    intro w257 hS258; dsimp only [List.set] at hS258
    clear hS256
    refine wl_nil (qs_seq ?_)
    refine wc_sub (L' := [(9, _), (8, _), (5, _), (0, _)]) (.cons rfl (.cons rfl (.cons rfl (.cons rfl .nil)))) ?_
    refine wc_seq (wc_region (wl_move rfl rfl (wl_move rfl rfl (wl_nilCheck rfl rfl ?_))))
    refine wl_fieldAddr rfl fo_31_2 rfl ?_
    refine wl_load rfl ag_29 (by first | assumption | exact hS258.cell 2 rfl rfl | exact hS258.cell 6 rfl rfl) rfl ?_
    refine wl_move rfl rfl ?_
    refine wl_rowBuild stC [b64 o.s] hS258 rfl Tryz.underlying29 ifz_9 rfl rfl rfl rfl (by first | rfl | simp [RowC.cells, fillL, splice]) rfl ?_
    intro b259 w259 hS259
    clear hS258
    refine wl_rowApp stC 6 hS259 rfl rfl rfl (hS259.rd 0 rfl (by simp)) Tryz.underlying29 Tryz.underlying29 (by intro k hk; cases hk) ifo_9 rfl (by simp only [List.length_cons, List.length_nil]; omega) rfl (by simp only [List.length_cons, List.length_nil]; omega) ?_
    intro v260 w260 hS260; dsimp only [List.set] at hS260
    clear hS259
    have h1v260 : v260.oneCell' = true := hS260.own_one 6 rfl
    refine wl_nilCheck rfl rfl ?_
    refine wl_fieldAddr rfl fo_31_2 rfl ?_
    first | (refine wl_store hS260 rfl rfl sz_29 (by first | rfl | assumption | exact hS260.own_one 0 rfl | exact hS260.own_one 4 rfl | exact hS260.own_one 5 rfl | exact hS260.own_one 6 rfl) (i := 3) rfl (by first | decide | exact Nat.le_of_ble_eq_true rfl | (simp; done) | omega) ?_) | (refine wl_store hS260 rfl rfl sz_29 (by first | rfl | assumption | exact hS260.own_one 0 rfl | exact hS260.own_one 4 rfl | exact hS260.own_one 5 rfl | exact hS260.own_one 6 rfl) (i := 7) rfl (by first | decide | exact Nat.le_of_ble_eq_true rfl | (simp; done) | omega) ?_)
    intro w261 hS262; dsimp only [List.set] at hS262
    clear hS260
    refine wl_nil (qs_seq ?_)
    refine wc_sub (L' := [(9, _), (5, _), (0, _)]) (.cons rfl (.cons rfl (.cons rfl .nil))) ?_
    refine wc_ret (qs_then_ret ?_)
    refine fin0 (.inr rfl) rfl ?_
    have hz := hS262.pick [3, 4, 5, 6, 8] rfl
    exact ⟨_, rfl, rfl, ⟨M.ids ++ [o.id], M.refs ++ [1], M.pages ++ [b64 o.s]⟩, by rw [hv2]; exact hR.add hv1, by simp, moT_shut hz⟩
   refine wc_skip (qs_seq (wc_seq ?_))
   rw [if_neg (by omega)] at hv1 hv2
   obtain ⟨a1, c1, a2, c2, a3, c3, hSo263⟩ := moT_open (hS4.pick [0, 1, 2] rfl)
   refine wc_region (wl_move rfl rfl (wl_move rfl rfl (wl_nilCheck rfl rfl ?_)))
   refine wl_fieldAddr rfl fo_31_0 rfl ?_
   refine wl_load rfl ag_28 (by first | assumption | exact hSo263.cell 0 rfl rfl | exact hSo263.cell 4 rfl rfl) rfl ?_
   refine wl_move rfl rfl ?_
   refine wl_rowBuild inC [a] hSo263 rfl Tryz.underlying28 ifz_3 rfl rfl rfl rfl (by first | rfl | simp [RowC.cells, fillL, splice]) rfl ?_
   intro b264 w264 hS264
   clear hSo263
   refine wl_rowApp inC 2 hS264 rfl rfl rfl (hS264.rd 0 rfl (by simp)) Tryz.underlying28 Tryz.underlying28 (by intro k hk; cases hk) ifo_3 rfl (by simp only [List.length_cons, List.length_nil]; omega) rfl (by simp only [List.length_cons, List.length_nil]; omega) ?_
   intro v265 w265 hS265; dsimp only [List.set] at hS265
   clear hS264
   have h1v265 : v265.oneCell' = true := hS265.own_one 2 rfl
   refine wl_nilCheck rfl rfl ?_
   refine wl_fieldAddr rfl fo_31_0 rfl ?_
   first | (refine wl_store hS265 rfl rfl sz_28 (by first | rfl | assumption | exact hS265.own_one 0 rfl | exact hS265.own_one 2 rfl | exact hS265.own_one 3 rfl | exact hS265.own_one 4 rfl) (i := 1) rfl (by first | decide | exact Nat.le_of_ble_eq_true rfl | (simp; done) | omega) ?_) | (refine wl_store hS265 rfl rfl sz_28 (by first | rfl | assumption | exact hS265.own_one 0 rfl | exact hS265.own_one 2 rfl | exact hS265.own_one 3 rfl | exact hS265.own_one 4 rfl) (i := 5) rfl (by first | decide | exact Nat.le_of_ble_eq_true rfl | (simp; done) | omega) ?_)
   intro w266 hS267; dsimp only [List.set] at hS267
   clear hS265
   refine wl_nil (qs_seq ?_)
   refine wc_sub (L' := [(9, _), (8, _), (5, _), (0, _)]) (.cons rfl (.cons rfl (.cons rfl (.cons rfl .nil)))) ?_
   refine wc_seq (wc_region (wl_move rfl rfl (wl_move rfl rfl (wl_nilCheck rfl rfl ?_))))
   refine wl_fieldAddr rfl fo_31_1 rfl ?_
   refine wl_load rfl ag_28 (by first | assumption | exact hS267.cell 1 rfl rfl | exact hS267.cell 5 rfl rfl) rfl ?_
   refine wl_rowBuild inC [1] hS267 rfl Tryz.underlying28 ifz_3 rfl rfl rfl rfl (by first | rfl | simp [RowC.cells, fillL, splice]) rfl ?_
   intro b268 w268 hS268
   clear hS267
   refine wl_rowApp inC 4 hS268 rfl rfl rfl (hS268.rd 0 rfl (by simp)) Tryz.underlying28 Tryz.underlying28 (by intro k hk; cases hk) ifo_3 rfl (by simp only [List.length_cons, List.length_nil]; omega) rfl (by simp only [List.length_cons, List.length_nil]; omega) ?_
   intro v269 w269 hS269; dsimp only [List.set] at hS269
   clear hS268
   have h1v269 : v269.oneCell' = true := hS269.own_one 4 rfl
   refine wl_nilCheck rfl rfl ?_
   refine wl_fieldAddr rfl fo_31_1 rfl ?_
   first | (refine wl_store hS269 rfl rfl sz_28 (by first | rfl | assumption | exact hS269.own_one 0 rfl | exact hS269.own_one 3 rfl | exact hS269.own_one 4 rfl | exact hS269.own_one 5 rfl) (i := 2) rfl (by first | decide | exact Nat.le_of_ble_eq_true rfl | (simp; done) | omega) ?_) | (refine wl_store hS269 rfl rfl sz_28 (by first | rfl | assumption | exact hS269.own_one 0 rfl | exact hS269.own_one 3 rfl | exact hS269.own_one 4 rfl | exact hS269.own_one 5 rfl) (i := 6) rfl (by first | decide | exact Nat.le_of_ble_eq_true rfl | (simp; done) | omega) ?_)
   intro w270 hS271; dsimp only [List.set] at hS271
   clear hS269
   refine wl_nil (qs_seq ?_)
   refine wc_sub (L' := [(9, _), (8, _), (5, _), (0, _)]) (.cons rfl (.cons rfl (.cons rfl (.cons rfl .nil)))) ?_
   refine wc_seq (wc_region (wl_move rfl rfl (wl_move rfl rfl (wl_nilCheck rfl rfl ?_))))
   refine wl_fieldAddr rfl fo_31_2 rfl ?_
   refine wl_load rfl ag_29 (by first | assumption | exact hS271.cell 2 rfl rfl | exact hS271.cell 6 rfl rfl) rfl ?_
   refine wl_move rfl rfl ?_
   refine wl_rowBuild stC [b64 o.s] hS271 rfl Tryz.underlying29 ifz_9 rfl rfl rfl rfl (by first | rfl | simp [RowC.cells, fillL, splice]) rfl ?_
   intro b272 w272 hS272
   clear hS271
   refine wl_rowApp stC 6 hS272 rfl rfl rfl (hS272.rd 0 rfl (by simp)) Tryz.underlying29 Tryz.underlying29 (by intro k hk; cases hk) ifo_9 rfl (by simp only [List.length_cons, List.length_nil]; omega) rfl (by simp only [List.length_cons, List.length_nil]; omega) ?_
   intro v273 w273 hS273; dsimp only [List.set] at hS273
   clear hS272
   have h1v273 : v273.oneCell' = true := hS273.own_one 6 rfl
   refine wl_nilCheck rfl rfl ?_
   refine wl_fieldAddr rfl fo_31_2 rfl ?_
   first | (refine wl_store hS273 rfl rfl sz_29 (by first | rfl | assumption | exact hS273.own_one 0 rfl | exact hS273.own_one 4 rfl | exact hS273.own_one 5 rfl | exact hS273.own_one 6 rfl) (i := 3) rfl (by first | decide | exact Nat.le_of_ble_eq_true rfl | (simp; done) | omega) ?_) | (refine wl_store hS273 rfl rfl sz_29 (by first | rfl | assumption | exact hS273.own_one 0 rfl | exact hS273.own_one 4 rfl | exact hS273.own_one 5 rfl | exact hS273.own_one 6 rfl) (i := 7) rfl (by first | decide | exact Nat.le_of_ble_eq_true rfl | (simp; done) | omega) ?_)
   intro w274 hS275; dsimp only [List.set] at hS275
   clear hS273
   refine wl_nil (qs_seq ?_)
   refine wc_sub (L' := [(9, _), (5, _), (0, _)]) (.cons rfl (.cons rfl (.cons rfl .nil))) ?_
   refine wc_ret (qs_then_ret ?_)
   refine fin0 (.inr rfl) rfl ?_
   have hz := hS275.pick [3, 4, 5, 6, 8] rfl
   exact ⟨_, rfl, rfl, ⟨M.ids ++ [a], M.refs ++ [1], M.pages ++ [b64 o.s]⟩, by rw [hv2]; exact hR.add hv1, by simp, moT_shut hz⟩
  refine wl_guard rfl rfl (decide_eq_false h248) ?_
  refine wl_fieldAddr rfl fo_33_0 rfl ?_
  refine wl_guard rfl rfl (decide_eq_false h248) ?_
  refine wl_load rfl ag_3 (by first | assumption | exact hS4.cell 1 rfl rfl) rfl ?_
  refine wl_guard rfl rfl (decide_eq_false h248) ?_
  refine wl_eql rfl rfl rfl ?_
  refine wl_pickF rfl (decide_eq_false h248) rfl rfl ?_
  refine wl_nil (qs_seq ?_)
  refine wc_sub (L' := [(37, _), (9, _), (8, _), (5, _), (0, _), (2, _)]) (.cons rfl (.cons rfl (.cons rfl (.cons rfl (.cons rfl (.cons rfl .nil)))))) ?_
  refine wc_condD rfl (fun h276 => ?_) (fun h276 => ?_)
  ·refine wc_seq ?_
   have hcc : ((o.d = 0 ∨ o.d = 10) ∧ a ≠ 0) ∨ o.d = 8 := by omega
   obtain ⟨hv1, hv2⟩ := dov_add hD hcc
   refine wc_region (wl_move rfl rfl (wl_assign rfl rfl (wl_nil (qs_seq (wc_seq (wc_seq (wc_region ?_)))))))
   refine wl_fieldAddr rfl fo_33_0 rfl ?_
   refine wl_load rfl ag_3 (by first | assumption | exact hS4.cell 1 rfl rfl) rfl ?_
   refine wl_eql rfl rfl rfl ?_
   refine wl_nil (qs_seq ?_)
   refine wc_sub (L' := [(41, _), (10, _), (9, _), (8, _), (5, _), (0, _)]) (.cons rfl (.cons rfl (.cons rfl (.cons rfl (.cons rfl (.cons rfl .nil)))))) ?_
   refine wc_condD rfl (fun h277 => ?_) (fun h277 => ?_)
   ·refine wc_region ?_
    refine wl_fieldAddr rfl fo_33_1 rfl ?_
    refine wl_load rfl ag_3 (by first | assumption | exact hS4.cell 1 rfl rfl) rfl ?_
    refine wl_assign rfl rfl (wl_nil (qs_seq (wc_seq ?_)))
    rw [if_pos (by omega)] at hv1 hv2
    obtain ⟨a1, c1, a2, c2, a3, c3, hSo278⟩ := moT_open (hS4.pick [0, 1, 2] rfl)
    refine wc_region (wl_move rfl rfl (wl_move rfl rfl (wl_nilCheck rfl rfl ?_)))
    refine wl_fieldAddr rfl fo_31_0 rfl ?_
    refine wl_load rfl ag_28 (by first | assumption | exact hSo278.cell 0 rfl rfl | exact hSo278.cell 4 rfl rfl) rfl ?_
    refine wl_move rfl rfl ?_
    refine wl_rowBuild inC [o.id] hSo278 rfl Tryz.underlying28 ifz_3 rfl rfl rfl rfl (by first | rfl | simp [RowC.cells, fillL, splice]) rfl ?_
    intro b279 w279 hS279
    clear hSo278
    refine wl_rowApp inC 2 hS279 rfl rfl rfl (hS279.rd 0 rfl (by simp)) Tryz.underlying28 Tryz.underlying28 (by intro k hk; cases hk) ifo_3 rfl (by simp only [List.length_cons, List.length_nil]; omega) rfl (by simp only [List.length_cons, List.length_nil]; omega) ?_
    intro v280 w280 hS280; dsimp only [List.set] at hS280
    clear hS279
    have h1v280 : v280.oneCell' = true := hS280.own_one 2 rfl
    refine wl_nilCheck rfl rfl ?_
    refine wl_fieldAddr rfl fo_31_0 rfl ?_
    first | (refine wl_store hS280 rfl rfl sz_28 (by first | rfl | assumption | exact hS280.own_one 0 rfl | exact hS280.own_one 2 rfl | exact hS280.own_one 3 rfl | exact hS280.own_one 4 rfl) (i := 1) rfl (by first | decide | exact Nat.le_of_ble_eq_true rfl | (simp; done) | omega) ?_) | (refine wl_store hS280 rfl rfl sz_28 (by first | rfl | assumption | exact hS280.own_one 0 rfl | exact hS280.own_one 2 rfl | exact hS280.own_one 3 rfl | exact hS280.own_one 4 rfl) (i := 5) rfl (by first | decide | exact Nat.le_of_ble_eq_true rfl | (simp; done) | omega) ?_)
    intro w281 hS282; dsimp only [List.set] at hS282
    clear hS280
    refine wl_nil (qs_seq ?_)
    refine wc_sub (L' := [(9, _), (8, _), (5, _), (0, _)]) (.cons rfl (.cons rfl (.cons rfl (.cons rfl .nil)))) ?_
    refine wc_seq (wc_region (wl_move rfl rfl (wl_move rfl rfl (wl_nilCheck rfl rfl ?_))))
    refine wl_fieldAddr rfl fo_31_1 rfl ?_
    refine wl_load rfl ag_28 (by first | assumption | exact hS282.cell 1 rfl rfl | exact hS282.cell 5 rfl rfl) rfl ?_
    refine wl_rowBuild inC [1] hS282 rfl Tryz.underlying28 ifz_3 rfl rfl rfl rfl (by first | rfl | simp [RowC.cells, fillL, splice]) rfl ?_
    intro b283 w283 hS283
    clear hS282
    refine wl_rowApp inC 4 hS283 rfl rfl rfl (hS283.rd 0 rfl (by simp)) Tryz.underlying28 Tryz.underlying28 (by intro k hk; cases hk) ifo_3 rfl (by simp only [List.length_cons, List.length_nil]; omega) rfl (by simp only [List.length_cons, List.length_nil]; omega) ?_
    intro v284 w284 hS284; dsimp only [List.set] at hS284
    clear hS283
    have h1v284 : v284.oneCell' = true := hS284.own_one 4 rfl
    refine wl_nilCheck rfl rfl ?_
    refine wl_fieldAddr rfl fo_31_1 rfl ?_
    first | (refine wl_store hS284 rfl rfl sz_28 (by first | rfl | assumption | exact hS284.own_one 0 rfl | exact hS284.own_one 3 rfl | exact hS284.own_one 4 rfl | exact hS284.own_one 5 rfl) (i := 2) rfl (by first | decide | exact Nat.le_of_ble_eq_true rfl | (simp; done) | omega) ?_) | (refine wl_store hS284 rfl rfl sz_28 (by first | rfl | assumption | exact hS284.own_one 0 rfl | exact hS284.own_one 3 rfl | exact hS284.own_one 4 rfl | exact hS284.own_one 5 rfl) (i := 6) rfl (by first | decide | exact Nat.le_of_ble_eq_true rfl | (simp; done) | omega) ?_)
    intro w285 hS286; dsimp only [List.set] at hS286
    clear hS284
    refine wl_nil (qs_seq ?_)
    refine wc_sub (L' := [(9, _), (8, _), (5, _), (0, _)]) (.cons rfl (.cons rfl (.cons rfl (.cons rfl .nil)))) ?_
    refine wc_seq (wc_region (wl_move rfl rfl (wl_move rfl rfl (wl_nilCheck rfl rfl ?_))))
    refine wl_fieldAddr rfl fo_31_2 rfl ?_
    refine wl_load rfl ag_29 (by first | assumption | exact hS286.cell 2 rfl rfl | exact hS286.cell 6 rfl rfl) rfl ?_
    refine wl_move rfl rfl ?_
    refine wl_rowBuild stC [b64 o.s] hS286 rfl Tryz.underlying29 ifz_9 rfl rfl rfl rfl (by first | rfl | simp [RowC.cells, fillL, splice]) rfl ?_
    intro b287 w287 hS287
    clear hS286
    refine wl_rowApp stC 6 hS287 rfl rfl rfl (hS287.rd 0 rfl (by simp)) Tryz.underlying29 Tryz.underlying29 (by intro k hk; cases hk) ifo_9 rfl (by simp only [List.length_cons, List.length_nil]; omega) rfl (by simp only [List.length_cons, List.length_nil]; omega) ?_
    intro v288 w288 hS288; dsimp only [List.set] at hS288
    clear hS287
    have h1v288 : v288.oneCell' = true := hS288.own_one 6 rfl
    refine wl_nilCheck rfl rfl ?_
    refine wl_fieldAddr rfl fo_31_2 rfl ?_
    first | (refine wl_store hS288 rfl rfl sz_29 (by first | rfl | assumption | exact hS288.own_one 0 rfl | exact hS288.own_one 4 rfl | exact hS288.own_one 5 rfl | exact hS288.own_one 6 rfl) (i := 3) rfl (by first | decide | exact Nat.le_of_ble_eq_true rfl | (simp; done) | omega) ?_) | (refine wl_store hS288 rfl rfl sz_29 (by first | rfl | assumption | exact hS288.own_one 0 rfl | exact hS288.own_one 4 rfl | exact hS288.own_one 5 rfl | exact hS288.own_one 6 rfl) (i := 7) rfl (by first | decide | exact Nat.le_of_ble_eq_true rfl | (simp; done) | omega) ?_)
    intro w289 hS290; dsimp only [List.set] at hS290
    clear hS288
    refine wl_nil (qs_seq ?_)
    refine wc_sub (L' := [(9, _), (5, _), (0, _)]) (.cons rfl (.cons rfl (.cons rfl .nil))) ?_
    refine wc_ret (qs_then_ret ?_)
    refine fin0 (.inr rfl) rfl ?_
    have hz := hS290.pick [3, 4, 5, 6, 8] rfl
    exact ⟨_, rfl, rfl, ⟨M.ids ++ [o.id], M.refs ++ [1], M.pages ++ [b64 o.s]⟩, by rw [hv2]; exact hR.add hv1, by simp, moT_shut hz⟩
   refine wc_skip (qs_seq (wc_seq ?_))
   rw [if_neg (by omega)] at hv1 hv2
   obtain ⟨a1, c1, a2, c2, a3, c3, hSo291⟩ := moT_open (hS4.pick [0, 1, 2] rfl)
   refine wc_region (wl_move rfl rfl (wl_move rfl rfl (wl_nilCheck rfl rfl ?_)))
   refine wl_fieldAddr rfl fo_31_0 rfl ?_
   refine wl_load rfl ag_28 (by first | assumption | exact hSo291.cell 0 rfl rfl | exact hSo291.cell 4 rfl rfl) rfl ?_
   refine wl_move rfl rfl ?_
   refine wl_rowBuild inC [a] hSo291 rfl Tryz.underlying28 ifz_3 rfl rfl rfl rfl (by first | rfl | simp [RowC.cells, fillL, splice]) rfl ?_
   intro b292 w292 hS292
   clear hSo291
   refine wl_rowApp inC 2 hS292 rfl rfl rfl (hS292.rd 0 rfl (by simp)) Tryz.underlying28 Tryz.underlying28 (by intro k hk; cases hk) ifo_3 rfl (by simp only [List.length_cons, List.length_nil]; omega) rfl (by simp only [List.length_cons, List.length_nil]; omega) ?_
   intro v293 w293 hS293; dsimp only [List.set] at hS293
   clear hS292
   have h1v293 : v293.oneCell' = true := hS293.own_one 2 rfl
   refine wl_nilCheck rfl rfl ?_
   refine wl_fieldAddr rfl fo_31_0 rfl ?_
   first | (refine wl_store hS293 rfl rfl sz_28 (by first | rfl | assumption | exact hS293.own_one 0 rfl | exact hS293.own_one 2 rfl | exact hS293.own_one 3 rfl | exact hS293.own_one 4 rfl) (i := 1) rfl (by first | decide | exact Nat.le_of_ble_eq_true rfl | (simp; done) | omega) ?_) | (refine wl_store hS293 rfl rfl sz_28 (by first | rfl | assumption | exact hS293.own_one 0 rfl | exact hS293.own_one 2 rfl | exact hS293.own_one 3 rfl | exact hS293.own_one 4 rfl) (i := 5) rfl (by first | decide | exact Nat.le_of_ble_eq_true rfl | (simp; done) | omega) ?_)
   intro w294 hS295; dsimp only [List.set] at hS295
   clear hS293
   refine wl_nil (qs_seq ?_)
   refine wc_sub (L' := [(9, _), (8, _), (5, _), (0, _)]) (.cons rfl (.cons rfl (.cons rfl (.cons rfl .nil)))) ?_
   refine wc_seq (wc_region (wl_move rfl rfl (wl_move rfl rfl (wl_nilCheck rfl rfl ?_))))
   refine wl_fieldAddr rfl fo_31_1 rfl ?_
   refine wl_load rfl ag_28 (by first | assumption | exact hS295.cell 1 rfl rfl | exact hS295.cell 5 rfl rfl) rfl ?_
   refine wl_rowBuild inC [1] hS295 rfl Tryz.underlying28 ifz_3 rfl rfl rfl rfl (by first | rfl | simp [RowC.cells, fillL, splice]) rfl ?_
   intro b296 w296 hS296
   clear hS295
   refine wl_rowApp inC 4 hS296 rfl rfl rfl (hS296.rd 0 rfl (by simp)) Tryz.underlying28 Tryz.underlying28 (by intro k hk; cases hk) ifo_3 rfl (by simp only [List.length_cons, List.length_nil]; omega) rfl (by simp only [List.length_cons, List.length_nil]; omega) ?_
   intro v297 w297 hS297; dsimp only [List.set] at hS297
   clear hS296
   have h1v297 : v297.oneCell' = true := hS297.own_one 4 rfl
   refine wl_nilCheck rfl rfl ?_
   refine wl_fieldAddr rfl fo_31_1 rfl ?_
   first | (refine wl_store hS297 rfl rfl sz_28 (by first | rfl | assumption | exact hS297.own_one 0 rfl | exact hS297.own_one 3 rfl | exact hS297.own_one 4 rfl | exact hS297.own_one 5 rfl) (i := 2) rfl (by first | decide | exact Nat.le_of_ble_eq_true rfl | (simp; done) | omega) ?_) | (refine wl_store hS297 rfl rfl sz_28 (by first | rfl | assumption | exact hS297.own_one 0 rfl | exact hS297.own_one 3 rfl | exact hS297.own_one 4 rfl | exact hS297.own_one 5 rfl) (i := 6) rfl (by first | decide | exact Nat.le_of_ble_eq_true rfl | (simp; done) | omega) ?_)
   intro w298 hS299; dsimp only [List.set] at hS299
   clear hS297
   refine wl_nil (qs_seq ?_)
   refine wc_sub (L' := [(9, _), (8, _), (5, _), (0, _)]) (.cons rfl (.cons rfl (.cons rfl (.cons rfl .nil)))) ?_
   refine wc_seq (wc_region (wl_move rfl rfl (wl_move rfl rfl (wl_nilCheck rfl rfl ?_))))
   refine wl_fieldAddr rfl fo_31_2 rfl ?_
   refine wl_load rfl ag_29 (by first | assumption | exact hS299.cell 2 rfl rfl | exact hS299.cell 6 rfl rfl) rfl ?_
   refine wl_move rfl rfl ?_
   refine wl_rowBuild stC [b64 o.s] hS299 rfl Tryz.underlying29 ifz_9 rfl rfl rfl rfl (by first | rfl | simp [RowC.cells, fillL, splice]) rfl ?_
   intro b300 w300 hS300
   clear hS299
   refine wl_rowApp stC 6 hS300 rfl rfl rfl (hS300.rd 0 rfl (by simp)) Tryz.underlying29 Tryz.underlying29 (by intro k hk; cases hk) ifo_9 rfl (by simp only [List.length_cons, List.length_nil]; omega) rfl (by simp only [List.length_cons, List.length_nil]; omega) ?_
   intro v301 w301 hS301; dsimp only [List.set] at hS301
   clear hS300
   have h1v301 : v301.oneCell' = true := hS301.own_one 6 rfl
   refine wl_nilCheck rfl rfl ?_
   refine wl_fieldAddr rfl fo_31_2 rfl ?_
   first | (refine wl_store hS301 rfl rfl sz_29 (by first | rfl | assumption | exact hS301.own_one 0 rfl | exact hS301.own_one 4 rfl | exact hS301.own_one 5 rfl | exact hS301.own_one 6 rfl) (i := 3) rfl (by first | decide | exact Nat.le_of_ble_eq_true rfl | (simp; done) | omega) ?_) | (refine wl_store hS301 rfl rfl sz_29 (by first | rfl | assumption | exact hS301.own_one 0 rfl | exact hS301.own_one 4 rfl | exact hS301.own_one 5 rfl | exact hS301.own_one 6 rfl) (i := 7) rfl (by first | decide | exact Nat.le_of_ble_eq_true rfl | (simp; done) | omega) ?_)
   intro w302 hS303; dsimp only [List.set] at hS303
   clear hS301
   refine wl_nil (qs_seq ?_)
   refine wc_sub (L' := [(9, _), (5, _), (0, _)]) (.cons rfl (.cons rfl (.cons rfl .nil))) ?_
   refine wc_ret (qs_then_ret ?_)
   refine fin0 (.inr rfl) rfl ?_
   have hz := hS303.pick [3, 4, 5, 6, 8] rfl
   exact ⟨_, rfl, rfl, ⟨M.ids ++ [a], M.refs ++ [1], M.pages ++ [b64 o.s]⟩, by rw [hv2]; exact hR.add hv1, by simp, moT_shut hz⟩
  refine wc_skip (qs_seq (wc_seq (wc_seq ?_)))
  have hcc : ¬ (((o.d = 0 ∨ o.d = 10) ∧ a ≠ 0) ∨ o.d = 8) := by omega
  refine wc_region (wl_move rfl rfl ?_)
  refine wl_lss rfl rfl rfl ?_
  refine wl_nil (qs_seq ?_)
  refine wc_condD rfl (fun h304 => ?_) (fun h304 => ?_)
  ·exact absurd h304 (by omega)
  refine wc_skip (qs_seq (wc_seq ?_))
  have hds := dov_some hD hcc hV
  obtain ⟨a1, c1, a2, c2, a3, c3, hSo305⟩ := moT_open (hS4.pick [0, 1, 2] rfl)
  refine wc_region ?_
  refine wl_fieldAddr rfl fo_33_0 rfl ?_
  refine wl_load rfl ag_3 (by first | assumption | exact hSo305.cell 0 rfl rfl | exact hSo305.cell 4 rfl rfl) rfl ?_
  refine wl_nil (qs_seq (wc_block (wc_seq (wc_region ?_))))
  refine wl_eql rfl rfl rfl ?_
  refine wl_assign rfl rfl (wl_nil (qs_seq ?_))
  refine wc_sub (L' := [(77, _), (76, _), (9, _), (5, _), (0, _)]) (.cons rfl (.cons rfl (.cons rfl (.cons rfl (.cons rfl .nil))))) ?_
  refine wc_condD rfl (fun h306 => ?_) (fun h306 => ?_)
  ·refine wc_region (wl_move rfl rfl (wl_nilCheck rfl rfl ?_))
   refine wl_fieldAddr rfl fo_31_1 rfl ?_
   refine wl_load rfl ag_28 (by first | assumption | exact hSo305.cell 0 rfl rfl | exact hSo305.cell 4 rfl rfl) rfl ?_
   refine wl_move rfl rfl ?_
   refine wl_rowIdx inC 2 k hSo305 rfl rfl rfl (by rfl) hkr es_28 rfl ?_
   intro bx307 capx307 hvx307
   refine wl_rowLoad 2 k 0 hSo305 rfl hvx307 rfl rfl hkr ag_3 rfl rfl ?_
   refine wl_add rfl rfl (by omega) (by omega) rfl ?_
   refine wl_rowIdx inC 2 k hSo305 rfl rfl rfl (by rfl) hkr es_28 rfl ?_
   intro bx308 capx308 hvx308
   refine wl_rowStore 2 k (r + 1) hSo305 rfl hvx308 rfl rfl sz_3 (by first | rfl | (simp; done)) (by first | omega | exact (List.getElem?_eq_some_iff.1 hkr).1) ?_
   intro w309 hS310; dsimp only [List.set] at hS310
   clear hSo305
   refine wl_nil (qs_block_normal ?_)
   refine fin0 (.inl rfl) rfl ?_
   obtain ⟨_, hv⟩ : o.d = 1 ∧ _ := by rcases hds with h | h | h | h | h; exact h; all_goals (exfalso; omega)
   have hm := hR.set (r' := r + 1) (pg' := pg) hk hV; rw [← hv, set_same hkp] at hm
   exact ⟨_, rfl, rfl, _, hm, by show M.ids.length ≤ _; omega, moT_shut (M := ⟨M.ids, M.refs.set k (r + 1), M.pages⟩) (hS310.pick [0, 1, 2, 3, 5] rfl)⟩
  refine wc_seq (wc_region ?_)
  refine wl_eql rfl rfl rfl ?_
  refine wl_assign rfl rfl (wl_nil (qs_seq ?_))
  refine wc_condD rfl (fun h311 => ?_) (fun h311 => ?_)
  ·refine wc_seq (wc_region (wl_move rfl rfl (wl_nilCheck rfl rfl ?_)))
   refine wl_fieldAddr rfl fo_31_1 rfl ?_
   refine wl_load rfl ag_28 (by first | assumption | exact hSo305.cell 0 rfl rfl | exact hSo305.cell 4 rfl rfl) rfl ?_
   refine wl_move rfl rfl ?_
   refine wl_rowIdx inC 2 k hSo305 rfl rfl rfl (by rfl) hkr es_28 rfl ?_
   intro bx312 capx312 hvx312
   refine wl_rowLoad 2 k 0 hSo305 rfl hvx312 rfl rfl hkr ag_3 rfl rfl ?_
   refine wl_sub' rfl rfl (by omega) (by omega) rfl ?_
   refine wl_rowIdx inC 2 k hSo305 rfl rfl rfl (by rfl) hkr es_28 rfl ?_
   intro bx313 capx313 hvx313
   refine wl_rowStore 2 k (r - 1) hSo305 rfl hvx313 rfl rfl sz_3 (by first | rfl | (simp; done)) (by first | omega | exact (List.getElem?_eq_some_iff.1 hkr).1) ?_
   intro w314 hS315; dsimp only [List.set] at hS315
   clear hSo305
   refine wl_nil (qs_seq ?_)
   refine wc_sub (L' := [(9, _), (0, _)]) (.cons rfl (.cons rfl .nil)) ?_
   refine wc_seq ?_
   have hkr2 : (M.refs.set k (r - 1))[k]? = some (r - 1) := List.getElem?_set_self (by omega)
   refine wc_region (wl_move rfl rfl (wl_nilCheck rfl rfl ?_))
   refine wl_fieldAddr rfl fo_31_1 rfl ?_
   refine wl_load rfl ag_28 (by first | assumption | exact hS315.cell 0 rfl rfl | exact hS315.cell 4 rfl rfl) rfl ?_
   refine wl_move rfl rfl ?_
   refine wl_rowIdx inC 2 k hS315 rfl rfl rfl (by rfl) hkr2 es_28 rfl ?_
   intro bx316 capx316 hvx316
   refine wl_rowLoad 2 k 0 hS315 rfl hvx316 rfl rfl hkr2 ag_3 rfl rfl ?_
   refine wl_eql rfl rfl rfl ?_
   refine wl_nil (qs_seq ?_)
   refine wc_condD rfl (fun h317 => ?_) (fun h317 => ?_)
   ·refine wc_seq ?_
    obtain ⟨_, _, hqc, hcp1, _⟩ := hS315.own_shape 1 rfl; cases hqc
    have hS318 := hS315.drew
    refine wc_draw [0, 2, 3, 4, 5, 6, 7, 9, 10, 11, 12, 13, 14, 15, 1, 8, 16, 17, 18, 19] [1, 8, 16, 19] mix (by kernel_rfl) ?_
    refine vc_p rfl rfl rfl (fun _ => (ev_move rfl)) ?_
    refine vc_p rfl rfl rfl (fun _ => (ev_move rfl)) ?_
    refine vc_p rfl rfl rfl (fun _ => (ev_nilCheck rfl)) ?_
    refine vc_p rfl rfl rfl (fun _ => (ev_fieldAddr rfl fo_31_0)) ?_
    refine vc_q rfl rfl rfl (ev_load rfl ag_28 (by first | assumption | exact hS318.cell 0 rfl rfl | exact hS318.cell 4 rfl rfl)) ?_
    refine vc_p rfl rfl rfl (fun _ => (ev_move rfl)) ?_
    refine vc_p rfl rfl rfl (fun _ => (ev_view 0 k Tryz.underlying28 sz_3 rfl (bndN _) (bndS k _ rfl rfl) (by omega) (by omega))) ?_
    refine vc_p rfl rfl rfl (fun _ => (ev_move rfl)) ?_
    refine vc_p rfl rfl rfl (fun _ => (ev_nilCheck rfl)) ?_
    refine vc_p rfl rfl rfl (fun _ => (ev_fieldAddr rfl fo_31_0)) ?_
    refine vc_q rfl rfl rfl (ev_load rfl ag_28 (by first | assumption | exact hS318.cell 0 rfl rfl | exact hS318.cell 4 rfl rfl)) ?_
    refine vc_p rfl rfl rfl (fun _ => (ev_move rfl)) ?_
    refine vc_p rfl rfl rfl (fun _ => (ev_add rfl rfl (by omega) (by omega))) ?_
    refine vc_p rfl rfl rfl (fun _ => (ev_view (k + 1) M.ids.length Tryz.underlying28 sz_3 rfl (bndS (k + 1) _ rfl (by omega)) (bndN _) (by omega) (by omega))) ?_
    refine vc_s rfl rfl rfl rfl rfl rfl ?_
    refine wl_rowBuild inC [] hS318 rfl Tryz.underlying28 ifz_3 rfl rfl rfl rfl (by first | rfl | simp [RowC.cells, fillL, splice]) rfl ?_
    intro b319 w319 hS319
    clear hS318
    refine vc_e (.cons (.inl ⟨rfl, (ev_load rfl ag_28 (by first | assumption | exact hS319.cell 1 rfl rfl | exact hS319.cell 5 rfl rfl))⟩) (.cons (.inl ⟨rfl, (ev_load rfl ag_28 (by first | assumption | exact hS319.cell 1 rfl rfl | exact hS319.cell 5 rfl rfl))⟩) .nil)) ?_
    refine vc_s rfl rfl rfl rfl rfl rfl ?_
    refine wl_rowApp inC 0 hS319 rfl rfl rfl (Ent.sat (ent_view (C := inC) (l := M.ids) (A := 0) (B := k) (by omega) (by omega) (by omega) hcp1) hS319 2 rfl) Tryz.underlying28 Tryz.underlying28 (by intro k hk; cases hk) ifo_3 rfl (by simp only [List.length_take, List.length_drop, List.length_append, List.length_nil]; omega) rfl (by simp only [List.length_take, List.length_drop, List.length_append, List.length_nil]; omega) ?_
    intro v320 w320 hS320; dsimp only [List.set] at hS320
    clear hS319
    have h1v320 : v320.oneCell' = true := hS320.own_one 0 rfl
    refine vc_e (.cons (.inl ⟨rfl, (ev_load rfl ag_28 (by first | assumption | exact hS320.cell 1 rfl rfl | exact hS320.cell 5 rfl rfl))⟩) (.skip (by kernel_rfl) .nil)) ?_
    refine vc_s rfl rfl rfl rfl rfl rfl ?_
    refine wl_rowApp inC 0 hS320 rfl rfl rfl (Ent.sat (ent_view (C := inC) (l := M.ids) (A := (k + 1)) (B := M.ids.length) (by omega) (by omega) (by omega) hcp1) hS320 2 rfl) Tryz.underlying28 Tryz.underlying28 (by intro k hk; cases hk) ifo_3 rfl (by simp only [List.length_take, List.length_drop, List.length_append, List.length_nil]; omega) rfl (by simp only [List.length_take, List.length_drop, List.length_append, List.length_nil]; omega) ?_
    intro v321 w321 hS321; dsimp only [List.set] at hS321
    clear hS320
    have h1v321 : v321.oneCell' = true := hS321.own_one 0 rfl
    refine vc_e (.skip (by kernel_rfl) (.skip (by kernel_rfl) .nil)) ?_
    refine vc_p rfl rfl rfl (fun _ => (ev_nilCheck rfl)) ?_
    refine vc_p rfl rfl rfl (fun _ => (ev_fieldAddr rfl fo_31_0)) ?_
    refine vc_s rfl rfl rfl rfl rfl rfl ?_
    first | (refine wl_store hS321 rfl rfl sz_28 (by first | rfl | assumption | exact hS321.own_one 0 rfl | exact hS321.own_one 2 rfl | exact hS321.own_one 3 rfl | exact hS321.own_one 4 rfl) (i := 1) rfl (by first | decide | exact Nat.le_of_ble_eq_true rfl | (simp; done) | omega) ?_) | (refine wl_store hS321 rfl rfl sz_28 (by first | rfl | assumption | exact hS321.own_one 0 rfl | exact hS321.own_one 2 rfl | exact hS321.own_one 3 rfl | exact hS321.own_one 4 rfl) (i := 5) rfl (by first | decide | exact Nat.le_of_ble_eq_true rfl | (simp; done) | omega) ?_)
    intro w322 hS323; dsimp only [List.set] at hS323
    clear hS321
    refine vc_e0 (.skip (by kernel_rfl) (.skip (by kernel_rfl) .nil)) ?_
    refine VC.nil (qs_seq ?_)
    refine wc_sub (L' := [(9, _), (0, _)]) (.cons rfl (.cons rfl .nil)) ?_
    refine wc_seq ?_
    have hls : (M.refs.set k (r - 1)).length = M.refs.length := List.length_set
    obtain ⟨_, _, hqc, hcp2, _⟩ := hS323.own_shape 3 rfl; rw [List.length_set] at hqc hcp2; cases hqc
    have hS324 := hS323.drew
    refine wc_draw [0, 2, 3, 4, 5, 6, 7, 9, 10, 11, 12, 13, 14, 15, 1, 8, 16, 17, 18, 19] [1, 8, 16, 19] mix (by kernel_rfl) ?_
    refine vc_p rfl rfl rfl (fun _ => (ev_move rfl)) ?_
    refine vc_p rfl rfl rfl (fun _ => (ev_move rfl)) ?_
    refine vc_p rfl rfl rfl (fun _ => (ev_nilCheck rfl)) ?_
    refine vc_p rfl rfl rfl (fun _ => (ev_fieldAddr rfl fo_31_1)) ?_
    refine vc_q rfl rfl rfl (ev_load rfl ag_28 (by first | assumption | exact hS324.cell 1 rfl rfl | exact hS324.cell 5 rfl rfl)) ?_
    refine vc_p rfl rfl rfl (fun _ => (ev_move rfl)) ?_
    refine vc_p rfl rfl rfl (fun _ => (ev_view 0 k Tryz.underlying28 sz_3 rfl (bndN _) (bndS k _ rfl rfl) (by omega) (by omega))) ?_
    refine vc_p rfl rfl rfl (fun _ => (ev_move rfl)) ?_
    refine vc_p rfl rfl rfl (fun _ => (ev_nilCheck rfl)) ?_
    refine vc_p rfl rfl rfl (fun _ => (ev_fieldAddr rfl fo_31_1)) ?_
    refine vc_q rfl rfl rfl (ev_load rfl ag_28 (by first | assumption | exact hS324.cell 1 rfl rfl | exact hS324.cell 5 rfl rfl)) ?_
    refine vc_p rfl rfl rfl (fun _ => (ev_move rfl)) ?_
    refine vc_p rfl rfl rfl (fun _ => (ev_add rfl rfl (by omega) (by omega))) ?_
    refine vc_p rfl rfl rfl (fun _ => (ev_view (k + 1) M.refs.length Tryz.underlying28 sz_3 rfl (bndS (k + 1) _ rfl (by omega)) (bndN _) (by omega) (by omega))) ?_
    refine vc_s rfl rfl rfl rfl rfl rfl ?_
    refine wl_rowBuild inC [] hS324 rfl Tryz.underlying28 ifz_3 rfl rfl rfl rfl (by first | rfl | simp [RowC.cells, fillL, splice]) rfl ?_
    intro b325 w325 hS325
    clear hS324
    refine vc_e (.cons (.inl ⟨rfl, (ev_load rfl ag_28 (by first | assumption | exact hS325.cell 2 rfl rfl | exact hS325.cell 6 rfl rfl))⟩) (.cons (.inl ⟨rfl, (ev_load rfl ag_28 (by first | assumption | exact hS325.cell 2 rfl rfl | exact hS325.cell 6 rfl rfl))⟩) .nil)) ?_
    refine vc_s rfl rfl rfl rfl rfl rfl ?_
    refine wl_rowApp inC 0 hS325 rfl rfl rfl (Ent.sat (ent_view2 (C := inC) (l := M.refs.set k (r - 1)) (n := M.refs.length) (A := 0) (B := k) hls (by omega) (by omega) (by omega) hcp2) hS325 4 rfl) Tryz.underlying28 Tryz.underlying28 (by intro k hk; cases hk) ifo_3 rfl (by simp only [List.length_take, List.length_drop, List.length_append, List.length_nil, List.length_set]; omega) rfl (by simp only [List.length_take, List.length_drop, List.length_append, List.length_nil, List.length_set]; omega) ?_
    intro v326 w326 hS326; dsimp only [List.set] at hS326
    clear hS325
    have h1v326 : v326.oneCell' = true := hS326.own_one 0 rfl
    refine vc_e (.cons (.inl ⟨rfl, (ev_load rfl ag_28 (by first | assumption | exact hS326.cell 2 rfl rfl | exact hS326.cell 6 rfl rfl))⟩) (.skip (by kernel_rfl) .nil)) ?_
    refine vc_s rfl rfl rfl rfl rfl rfl ?_
    refine wl_rowApp inC 0 hS326 rfl rfl rfl (Ent.sat (ent_view2 (C := inC) (l := M.refs.set k (r - 1)) (n := M.refs.length) (A := (k + 1)) (B := M.refs.length) hls (by omega) (by omega) (by omega) hcp2) hS326 4 rfl) Tryz.underlying28 Tryz.underlying28 (by intro k hk; cases hk) ifo_3 rfl (by simp only [List.length_take, List.length_drop, List.length_append, List.length_nil, List.length_set]; omega) rfl (by simp only [List.length_take, List.length_drop, List.length_append, List.length_nil, List.length_set]; omega) ?_
    intro v327 w327 hS327; dsimp only [List.set] at hS327
    clear hS326
    have h1v327 : v327.oneCell' = true := hS327.own_one 0 rfl
    refine vc_e (.skip (by kernel_rfl) (.skip (by kernel_rfl) .nil)) ?_
    refine vc_p rfl rfl rfl (fun _ => (ev_nilCheck rfl)) ?_
    refine vc_p rfl rfl rfl (fun _ => (ev_fieldAddr rfl fo_31_1)) ?_
    refine vc_s rfl rfl rfl rfl rfl rfl ?_
    first | (refine wl_store hS327 rfl rfl sz_28 (by first | rfl | assumption | exact hS327.own_one 0 rfl | exact hS327.own_one 1 rfl | exact hS327.own_one 3 rfl | exact hS327.own_one 4 rfl | exact hS327.own_one 5 rfl) (i := 2) rfl (by first | decide | exact Nat.le_of_ble_eq_true rfl | (simp; done) | omega) ?_) | (refine wl_store hS327 rfl rfl sz_28 (by first | rfl | assumption | exact hS327.own_one 0 rfl | exact hS327.own_one 1 rfl | exact hS327.own_one 3 rfl | exact hS327.own_one 4 rfl | exact hS327.own_one 5 rfl) (i := 6) rfl (by first | decide | exact Nat.le_of_ble_eq_true rfl | (simp; done) | omega) ?_)
    intro w328 hS329; dsimp only [List.set] at hS329
    clear hS327
    refine vc_e0 (.skip (by kernel_rfl) (.skip (by kernel_rfl) .nil)) ?_
    refine VC.nil (qs_seq ?_)
    refine wc_sub (L' := [(9, _), (0, _)]) (.cons rfl (.cons rfl .nil)) ?_
    obtain ⟨_, _, hqc, hcp3, _⟩ := hS329.own_shape 5 rfl; cases hqc
    have hS330 := hS329.drew
    refine wc_draw [0, 2, 3, 4, 5, 6, 7, 9, 10, 11, 12, 13, 14, 15, 1, 8, 16, 17, 18, 19] [1, 8, 16, 19] mix (by kernel_rfl) ?_
    refine vc_p rfl rfl rfl (fun _ => (ev_move rfl)) ?_
    refine vc_p rfl rfl rfl (fun _ => (ev_move rfl)) ?_
    refine vc_p rfl rfl rfl (fun _ => (ev_nilCheck rfl)) ?_
    refine vc_p rfl rfl rfl (fun _ => (ev_fieldAddr rfl fo_31_2)) ?_
    refine vc_q rfl rfl rfl (ev_load rfl ag_29 (by first | assumption | exact hS330.cell 2 rfl rfl | exact hS330.cell 6 rfl rfl)) ?_
    refine vc_p rfl rfl rfl (fun _ => (ev_move rfl)) ?_
    refine vc_p rfl rfl rfl (fun _ => (ev_view 0 k Tryz.underlying29 sz_9 rfl (bndN _) (bndS k _ rfl rfl) (by omega) (by omega))) ?_
    refine vc_p rfl rfl rfl (fun _ => (ev_move rfl)) ?_
    refine vc_p rfl rfl rfl (fun _ => (ev_nilCheck rfl)) ?_
    refine vc_p rfl rfl rfl (fun _ => (ev_fieldAddr rfl fo_31_2)) ?_
    refine vc_q rfl rfl rfl (ev_load rfl ag_29 (by first | assumption | exact hS330.cell 2 rfl rfl | exact hS330.cell 6 rfl rfl)) ?_
    refine vc_p rfl rfl rfl (fun _ => (ev_move rfl)) ?_
    refine vc_p rfl rfl rfl (fun _ => (ev_add rfl rfl (by omega) (by omega))) ?_
    refine vc_p rfl rfl rfl (fun _ => (ev_view (k + 1) M.pages.length Tryz.underlying29 sz_9 rfl (bndS (k + 1) _ rfl (by omega)) (bndN _) (by omega) (by omega))) ?_
    refine vc_s rfl rfl rfl rfl rfl rfl ?_
    refine wl_rowBuild stC [] hS330 rfl Tryz.underlying29 ifz_9 rfl rfl rfl rfl (by first | rfl | simp [RowC.cells, fillL, splice]) rfl ?_
    intro b331 w331 hS331
    clear hS330
    refine vc_e (.cons (.inl ⟨rfl, (ev_load rfl ag_29 (by first | assumption | exact hS331.cell 3 rfl rfl | exact hS331.cell 7 rfl rfl))⟩) (.cons (.inl ⟨rfl, (ev_load rfl ag_29 (by first | assumption | exact hS331.cell 3 rfl rfl | exact hS331.cell 7 rfl rfl))⟩) .nil)) ?_
    refine vc_s rfl rfl rfl rfl rfl rfl ?_
    refine wl_rowApp stC 0 hS331 rfl rfl rfl (Ent.sat (ent_view (C := stC) (l := M.pages) (A := 0) (B := k) (by omega) (by omega) (by omega) hcp3) hS331 6 rfl) Tryz.underlying29 Tryz.underlying29 (by intro k hk; cases hk) ifo_9 rfl (by simp only [List.length_take, List.length_drop, List.length_append, List.length_nil]; omega) rfl (by simp only [List.length_take, List.length_drop, List.length_append, List.length_nil]; omega) ?_
    intro v332 w332 hS332; dsimp only [List.set] at hS332
    clear hS331
    have h1v332 : v332.oneCell' = true := hS332.own_one 0 rfl
    refine vc_e (.cons (.inl ⟨rfl, (ev_load rfl ag_29 (by first | assumption | exact hS332.cell 3 rfl rfl | exact hS332.cell 7 rfl rfl))⟩) (.skip (by kernel_rfl) .nil)) ?_
    refine vc_s rfl rfl rfl rfl rfl rfl ?_
    refine wl_rowApp stC 0 hS332 rfl rfl rfl (Ent.sat (ent_view (C := stC) (l := M.pages) (A := (k + 1)) (B := M.pages.length) (by omega) (by omega) (by omega) hcp3) hS332 6 rfl) Tryz.underlying29 Tryz.underlying29 (by intro k hk; cases hk) ifo_9 rfl (by simp only [List.length_take, List.length_drop, List.length_append, List.length_nil]; omega) rfl (by simp only [List.length_take, List.length_drop, List.length_append, List.length_nil]; omega) ?_
    intro v333 w333 hS333; dsimp only [List.set] at hS333
    clear hS332
    have h1v333 : v333.oneCell' = true := hS333.own_one 0 rfl
    refine vc_e (.skip (by kernel_rfl) (.skip (by kernel_rfl) .nil)) ?_
    refine vc_p rfl rfl rfl (fun _ => (ev_nilCheck rfl)) ?_
    refine vc_p rfl rfl rfl (fun _ => (ev_fieldAddr rfl fo_31_2)) ?_
    refine vc_s rfl rfl rfl rfl rfl rfl ?_
    first | (refine wl_store hS333 rfl rfl sz_29 (by first | rfl | assumption | exact hS333.own_one 0 rfl | exact hS333.own_one 1 rfl | exact hS333.own_one 2 rfl | exact hS333.own_one 4 rfl | exact hS333.own_one 5 rfl | exact hS333.own_one 6 rfl) (i := 3) rfl (by first | decide | exact Nat.le_of_ble_eq_true rfl | (simp; done) | omega) ?_) | (refine wl_store hS333 rfl rfl sz_29 (by first | rfl | assumption | exact hS333.own_one 0 rfl | exact hS333.own_one 1 rfl | exact hS333.own_one 2 rfl | exact hS333.own_one 4 rfl | exact hS333.own_one 5 rfl | exact hS333.own_one 6 rfl) (i := 7) rfl (by first | decide | exact Nat.le_of_ble_eq_true rfl | (simp; done) | omega) ?_)
    intro w334 hS335; dsimp only [List.set] at hS335
    clear hS333
    refine vc_e0 (.skip (by kernel_rfl) (.skip (by kernel_rfl) .nil)) ?_
    refine VC.nil (qs_block_normal ?_)
    refine fin0 (.inl rfl) rfl ?_
    have hv : V' = up V o.id none := by rcases hds with h | h | h | h | h; all_goals first | (exfalso; omega) | exact h.2.2
    have hz := hS335.pick [3, 2, 1, 0, 8] rfl
    have hm := (hR.set (r' := r - 1) (pg' := pg) hk hV).del (k := k) (id := o.id) hk; rw [set_same hkp] at hm
    have hv3 : up (up V o.id (some (r - 1, pg))) o.id none = V' := by rw [hv]; funext j; by_cases q : j = o.id; (subst q; rw [up_self, up_self]); rw [up_ne q, up_ne q, up_ne q]
    rw [hv3] at hm
    rw [vsl hkl, vsl2 (l := M.refs.set k (r - 1)) (n := M.refs.length) (k := k) List.length_set (by omega), vsl (l := M.pages) (k := k) (by omega)] at hz
    exact ⟨_, rfl, rfl, _, hm, by dsimp only; have := List.length_eraseIdx_le M.ids k; omega, moT_shut hz⟩
   refine wc_skip (qs_block_normal ?_)
   refine fin0 (.inl rfl) rfl ?_
   have hv : V' = up V o.id (some (r - 1, pg)) := by rcases hds with h | h | h | h | h; all_goals first | (exfalso; omega) | exact h.2.2
   have hm := hR.set (r' := r - 1) (pg' := pg) hk hV; rw [← hv, set_same hkp] at hm
   exact ⟨_, rfl, rfl, _, hm, by show M.ids.length ≤ _; omega, moT_shut (M := ⟨M.ids, M.refs.set k (r - 1), M.pages⟩) (hS315.pick [0, 1, 2, 3, 5] rfl)⟩
  refine wc_seq (wc_region ?_)
  refine wl_eql rfl rfl rfl ?_
  refine wl_assign rfl rfl (wl_nil (qs_seq ?_))
  refine wc_condD rfl (fun h336 => ?_) (fun h336 => ?_)
  ·refine wc_seq (wc_region (wl_move rfl rfl (wl_nilCheck rfl rfl ?_)))
   refine wl_fieldAddr rfl fo_31_2 rfl ?_
   refine wl_load rfl ag_29 (by first | assumption | exact hSo305.cell 0 rfl rfl | exact hSo305.cell 4 rfl rfl) rfl ?_
   refine wl_move rfl rfl ?_
   refine wl_rowIdx stC 3 k hSo305 rfl rfl rfl (by rfl) hkp es_29 rfl ?_
   intro bx337 capx337 hvx337
   refine wl_rowLoad 3 k 0 hSo305 rfl hvx337 rfl rfl hkp ag_9 rfl rfl ?_
   refine wl_rowBytes hSo305 rfl Tryz.underlying9 Tryz.underlying70 Tryz.underlying5 rfl ?_
   intro v338 w338 hS338
   clear hSo305
   refine wl_assign rfl rfl (wl_nil (qs_seq ?_))
   refine wc_sub (L' := [(11, _), (9, _), (5, _), (0, _)]) (.cons rfl (.cons rfl (.cons rfl (.cons rfl .nil)))) ?_
   refine wc_seq ?_
   obtain ⟨hrng, hv3⟩ : (0 ≤ o.at_ ∧ o.at_ < 64) ∧ V' = up V o.id (some (r, pg.set o.at_.toNat (u8 o.n))) := by rcases hds with h | h | h | h | h; all_goals first | (exfalso; omega) | exact h.2
   obtain ⟨cb, hcb⟩ : ∃ c, pg[o.at_.toNat]? = some c := ⟨_, List.getElem?_eq_getElem (by omega)⟩
   refine wc_region (wl_move rfl rfl ?_)
   refine wl_fieldAddr rfl fo_33_2 rfl ?_
   refine wl_load rfl ag_3 (by first | assumption | exact hS338.cell 1 rfl rfl | exact hS338.cell 5 rfl rfl) rfl ?_
   refine wl_fieldAddr rfl fo_33_3 rfl ?_
   refine wl_load rfl ag_3 (by first | assumption | exact hS338.cell 1 rfl rfl | exact hS338.cell 5 rfl rfl) rfl ?_
   refine wl_convII Tryz.underlying3 Tryz.underlying5 rfl (c := ((u8 o.n).toNat : Int)) (wrapU8 o.n) rfl ?_
   refine wl_rowIdx byC 0 o.at_.toNat hS338 rfl rfl rfl (by omega) hcb es_70 rfl ?_
   intro bx339 capx339 hvx339
   refine wl_rowStore 0 o.at_.toNat (u8 o.n) hS338 rfl hvx339 rfl rfl sz_5 (by first | rfl | (simp; done)) (by first | omega | exact (List.getElem?_eq_some_iff.1 hcb).1) ?_
   intro w340 hS341; dsimp only [List.set] at hS341
   clear hS338
   refine wl_nil (qs_seq ?_)
   refine wc_sub (L' := [(11, _), (9, _), (0, _)]) (.cons rfl (.cons rfl (.cons rfl .nil))) ?_
   obtain ⟨pb, pc9, hq9, _⟩ := hS341.own_at 4 rfl (by omega); cases hq9
   have hS342 := hS341.drew
   refine wc_draw [0, 1, 2, 3, 4, 5, 6, 7, 8] [8] mix (by kernel_rfl) ?_
   refine vc_p rfl rfl rfl (fun _ => (ev_move rfl)) ?_
   refine vc_p rfl rfl rfl (fun _ => (ev_nilCheck rfl)) ?_
   refine vc_p rfl rfl rfl (fun _ => (ev_fieldAddr rfl fo_31_2)) ?_
   refine vc_q rfl rfl rfl (ev_load rfl ag_29 (by first | assumption | exact hS342.cell 1 rfl rfl | exact hS342.cell 5 rfl rfl)) ?_
   refine vc_p rfl rfl rfl (fun _ => (ev_move rfl)) ?_
   refine vc_p rfl rfl rfl (fun _ => (ev_move rfl)) ?_
   refine vc_q rfl rfl rfl (ev_rowStr 0 hS342 rfl rfl Tryz.underlying70 Tryz.underlying5 Tryz.underlying9) ?_
   refine vc_p rfl rfl rfl (fun _ => (ev_indexAddr k rfl rfl (by first | rfl | omega) (by omega) es_29)) ?_
   refine vc_s rfl rfl rfl rfl rfl rfl ?_
   refine wl_rowStore 4 k (pg.set o.at_.toNat (u8 o.n)) hS342 rfl rfl (congrArg (fun q => some (ptrV pb q)) (show 0 + k * 1 = k * 1 by omega)) rfl sz_9 rfl (by omega) ?_
   intro w343 hS343; dsimp only [List.set] at hS343
   clear hS342
   refine vc_e0 (.skip (by kernel_rfl) (.skip (by kernel_rfl) .nil)) ?_
   refine VC.nil (qs_block_normal ?_)
   refine fin0 (.inl rfl) rfl ?_
   have hm := hR.set (r' := r) (pg' := pg.set o.at_.toNat (u8 o.n)) hk hV; rw [← hv3, set_same hkr] at hm
   exact ⟨_, rfl, rfl, _, hm, by show M.ids.length ≤ _; omega, moT_shut (M := ⟨M.ids, M.refs, M.pages.set k (pg.set o.at_.toNat (u8 o.n))⟩) (hS343.pick [1, 2, 3, 4, 6] rfl)⟩
  refine wc_skip (qs_block_normal ?_)
  refine fin0 (.inl rfl) rfl ?_
  obtain ⟨_, hv⟩ : (o.d ≠ 1 ∧ o.d ≠ 2 ∧ o.d ≠ 3) ∧ _ := by rcases hds with h | h | h | h | h; all_goals first | (exfalso; omega) | exact h
  exact ⟨_, rfl, rfl, M, by rw [hv]; exact hR, by omega, moT_shut (hSo305.pick [0, 1, 2, 3, 5] rfl)⟩
 refine wl_unwanted rfl rfl (decide_eq_false h247) rfl ?_
 refine wl_unwanted rfl rfl (decide_eq_false h247) rfl ?_
 refine wl_pickF rfl (decide_eq_false h247) rfl rfl ?_
 refine wl_move rfl rfl ?_
 refine wl_guard rfl rfl rfl ?_
 refine wl_fieldAddr rfl fo_33_0 rfl ?_
 refine wl_guard rfl rfl rfl ?_
 refine wl_load rfl ag_3 (by first | assumption | exact hS4.cell 1 rfl rfl) rfl ?_
 refine wl_guard rfl rfl rfl ?_
 refine wl_eql rfl rfl rfl ?_
 refine wl_pickF rfl rfl rfl rfl ?_
 refine wl_nil (qs_seq ?_)
 refine wc_sub (L' := [(37, _), (9, _), (8, _), (5, _), (0, _), (2, _)]) (.cons rfl (.cons rfl (.cons rfl (.cons rfl (.cons rfl (.cons rfl .nil)))))) ?_
 refine wc_condD rfl (fun h344 => ?_) (fun h344 => ?_)
 ·refine wc_seq ?_
  have hcc : ((o.d = 0 ∨ o.d = 10) ∧ a ≠ 0) ∨ o.d = 8 := by omega
  obtain ⟨hv1, hv2⟩ := dov_add hD hcc
  refine wc_region (wl_move rfl rfl (wl_assign rfl rfl (wl_nil (qs_seq (wc_seq (wc_seq (wc_region ?_)))))))
  refine wl_fieldAddr rfl fo_33_0 rfl ?_
  refine wl_load rfl ag_3 (by first | assumption | exact hS4.cell 1 rfl rfl) rfl ?_
  refine wl_eql rfl rfl rfl ?_
  refine wl_nil (qs_seq ?_)
  refine wc_sub (L' := [(41, _), (10, _), (9, _), (8, _), (5, _), (0, _)]) (.cons rfl (.cons rfl (.cons rfl (.cons rfl (.cons rfl (.cons rfl .nil)))))) ?_
  refine wc_condD rfl (fun h345 => ?_) (fun h345 => ?_)
  ·refine wc_region ?_
   refine wl_fieldAddr rfl fo_33_1 rfl ?_
   refine wl_load rfl ag_3 (by first | assumption | exact hS4.cell 1 rfl rfl) rfl ?_
   refine wl_assign rfl rfl (wl_nil (qs_seq (wc_seq ?_)))
   rw [if_pos (by omega)] at hv1 hv2
   obtain ⟨a1, c1, a2, c2, a3, c3, hSo346⟩ := moT_open (hS4.pick [0, 1, 2] rfl)
   refine wc_region (wl_move rfl rfl (wl_move rfl rfl (wl_nilCheck rfl rfl ?_)))
   refine wl_fieldAddr rfl fo_31_0 rfl ?_
   refine wl_load rfl ag_28 (by first | assumption | exact hSo346.cell 0 rfl rfl | exact hSo346.cell 4 rfl rfl) rfl ?_
   refine wl_move rfl rfl ?_
   refine wl_rowBuild inC [o.id] hSo346 rfl Tryz.underlying28 ifz_3 rfl rfl rfl rfl (by first | rfl | simp [RowC.cells, fillL, splice]) rfl ?_
   intro b347 w347 hS347
   clear hSo346
   refine wl_rowApp inC 2 hS347 rfl rfl rfl (hS347.rd 0 rfl (by simp)) Tryz.underlying28 Tryz.underlying28 (by intro k hk; cases hk) ifo_3 rfl (by simp only [List.length_cons, List.length_nil]; omega) rfl (by simp only [List.length_cons, List.length_nil]; omega) ?_
   intro v348 w348 hS348; dsimp only [List.set] at hS348
   clear hS347
   have h1v348 : v348.oneCell' = true := hS348.own_one 2 rfl
   refine wl_nilCheck rfl rfl ?_
   refine wl_fieldAddr rfl fo_31_0 rfl ?_
   first | (refine wl_store hS348 rfl rfl sz_28 (by first | rfl | assumption | exact hS348.own_one 0 rfl | exact hS348.own_one 2 rfl | exact hS348.own_one 3 rfl | exact hS348.own_one 4 rfl) (i := 1) rfl (by first | decide | exact Nat.le_of_ble_eq_true rfl | (simp; done) | omega) ?_) | (refine wl_store hS348 rfl rfl sz_28 (by first | rfl | assumption | exact hS348.own_one 0 rfl | exact hS348.own_one 2 rfl | exact hS348.own_one 3 rfl | exact hS348.own_one 4 rfl) (i := 5) rfl (by first | decide | exact Nat.le_of_ble_eq_true rfl | (simp; done) | omega) ?_)
   intro w349 hS350; dsimp only [List.set] at hS350
   clear hS348
   refine wl_nil (qs_seq ?_)
   refine wc_sub (L' := [(9, _), (8, _), (5, _), (0, _)]) (.cons rfl (.cons rfl (.cons rfl (.cons rfl .nil)))) ?_
   refine wc_seq (wc_region (wl_move rfl rfl (wl_move rfl rfl (wl_nilCheck rfl rfl ?_))))
   refine wl_fieldAddr rfl fo_31_1 rfl ?_
   refine wl_load rfl ag_28 (by first | assumption | exact hS350.cell 1 rfl rfl | exact hS350.cell 5 rfl rfl) rfl ?_
   refine wl_rowBuild inC [1] hS350 rfl Tryz.underlying28 ifz_3 rfl rfl rfl rfl (by first | rfl | simp [RowC.cells, fillL, splice]) rfl ?_
   intro b351 w351 hS351
   clear hS350
   refine wl_rowApp inC 4 hS351 rfl rfl rfl (hS351.rd 0 rfl (by simp)) Tryz.underlying28 Tryz.underlying28 (by intro k hk; cases hk) ifo_3 rfl (by simp only [List.length_cons, List.length_nil]; omega) rfl (by simp only [List.length_cons, List.length_nil]; omega) ?_
   intro v352 w352 hS352; dsimp only [List.set] at hS352
   clear hS351
   have h1v352 : v352.oneCell' = true := hS352.own_one 4 rfl
   refine wl_nilCheck rfl rfl ?_
   refine wl_fieldAddr rfl fo_31_1 rfl ?_
   first | (refine wl_store hS352 rfl rfl sz_28 (by first | rfl | assumption | exact hS352.own_one 0 rfl | exact hS352.own_one 3 rfl | exact hS352.own_one 4 rfl | exact hS352.own_one 5 rfl) (i := 2) rfl (by first | decide | exact Nat.le_of_ble_eq_true rfl | (simp; done) | omega) ?_) | (refine wl_store hS352 rfl rfl sz_28 (by first | rfl | assumption | exact hS352.own_one 0 rfl | exact hS352.own_one 3 rfl | exact hS352.own_one 4 rfl | exact hS352.own_one 5 rfl) (i := 6) rfl (by first | decide | exact Nat.le_of_ble_eq_true rfl | (simp; done) | omega) ?_)
   intro w353 hS354; dsimp only [List.set] at hS354
   clear hS352
   refine wl_nil (qs_seq ?_)
   refine wc_sub (L' := [(9, _), (8, _), (5, _), (0, _)]) (.cons rfl (.cons rfl (.cons rfl (.cons rfl .nil)))) ?_
   refine wc_seq (wc_region (wl_move rfl rfl (wl_move rfl rfl (wl_nilCheck rfl rfl ?_))))
   refine wl_fieldAddr rfl fo_31_2 rfl ?_
   refine wl_load rfl ag_29 (by first | assumption | exact hS354.cell 2 rfl rfl | exact hS354.cell 6 rfl rfl) rfl ?_
   refine wl_move rfl rfl ?_
   refine wl_rowBuild stC [b64 o.s] hS354 rfl Tryz.underlying29 ifz_9 rfl rfl rfl rfl (by first | rfl | simp [RowC.cells, fillL, splice]) rfl ?_
   intro b355 w355 hS355
   clear hS354
   refine wl_rowApp stC 6 hS355 rfl rfl rfl (hS355.rd 0 rfl (by simp)) Tryz.underlying29 Tryz.underlying29 (by intro k hk; cases hk) ifo_9 rfl (by simp only [List.length_cons, List.length_nil]; omega) rfl (by simp only [List.length_cons, List.length_nil]; omega) ?_
   intro v356 w356 hS356; dsimp only [List.set] at hS356
   clear hS355
   have h1v356 : v356.oneCell' = true := hS356.own_one 6 rfl
   refine wl_nilCheck rfl rfl ?_
   refine wl_fieldAddr rfl fo_31_2 rfl ?_
   first | (refine wl_store hS356 rfl rfl sz_29 (by first | rfl | assumption | exact hS356.own_one 0 rfl | exact hS356.own_one 4 rfl | exact hS356.own_one 5 rfl | exact hS356.own_one 6 rfl) (i := 3) rfl (by first | decide | exact Nat.le_of_ble_eq_true rfl | (simp; done) | omega) ?_) | (refine wl_store hS356 rfl rfl sz_29 (by first | rfl | assumption | exact hS356.own_one 0 rfl | exact hS356.own_one 4 rfl | exact hS356.own_one 5 rfl | exact hS356.own_one 6 rfl) (i := 7) rfl (by first | decide | exact Nat.le_of_ble_eq_true rfl | (simp; done) | omega) ?_)
   intro w357 hS358; dsimp only [List.set] at hS358
   clear hS356
   refine wl_nil (qs_seq ?_)
   refine wc_sub (L' := [(9, _), (5, _), (0, _)]) (.cons rfl (.cons rfl (.cons rfl .nil))) ?_
   refine wc_ret (qs_then_ret ?_)
   refine fin0 (.inr rfl) rfl ?_
   have hz := hS358.pick [3, 4, 5, 6, 8] rfl
   exact ⟨_, rfl, rfl, ⟨M.ids ++ [o.id], M.refs ++ [1], M.pages ++ [b64 o.s]⟩, by rw [hv2]; exact hR.add hv1, by simp, moT_shut hz⟩
  refine wc_skip (qs_seq (wc_seq ?_))
  rw [if_neg (by omega)] at hv1 hv2
  obtain ⟨a1, c1, a2, c2, a3, c3, hSo359⟩ := moT_open (hS4.pick [0, 1, 2] rfl)
  refine wc_region (wl_move rfl rfl (wl_move rfl rfl (wl_nilCheck rfl rfl ?_)))
  refine wl_fieldAddr rfl fo_31_0 rfl ?_
  refine wl_load rfl ag_28 (by first | assumption | exact hSo359.cell 0 rfl rfl | exact hSo359.cell 4 rfl rfl) rfl ?_
  refine wl_move rfl rfl ?_
  refine wl_rowBuild inC [a] hSo359 rfl Tryz.underlying28 ifz_3 rfl rfl rfl rfl (by first | rfl | simp [RowC.cells, fillL, splice]) rfl ?_
  intro b360 w360 hS360
  clear hSo359
  refine wl_rowApp inC 2 hS360 rfl rfl rfl (hS360.rd 0 rfl (by simp)) Tryz.underlying28 Tryz.underlying28 (by intro k hk; cases hk) ifo_3 rfl (by simp only [List.length_cons, List.length_nil]; omega) rfl (by simp only [List.length_cons, List.length_nil]; omega) ?_
  intro v361 w361 hS361; dsimp only [List.set] at hS361
  clear hS360
  have h1v361 : v361.oneCell' = true := hS361.own_one 2 rfl
  refine wl_nilCheck rfl rfl ?_
  refine wl_fieldAddr rfl fo_31_0 rfl ?_
  first | (refine wl_store hS361 rfl rfl sz_28 (by first | rfl | assumption | exact hS361.own_one 0 rfl | exact hS361.own_one 2 rfl | exact hS361.own_one 3 rfl | exact hS361.own_one 4 rfl) (i := 1) rfl (by first | decide | exact Nat.le_of_ble_eq_true rfl | (simp; done) | omega) ?_) | (refine wl_store hS361 rfl rfl sz_28 (by first | rfl | assumption | exact hS361.own_one 0 rfl | exact hS361.own_one 2 rfl | exact hS361.own_one 3 rfl | exact hS361.own_one 4 rfl) (i := 5) rfl (by first | decide | exact Nat.le_of_ble_eq_true rfl | (simp; done) | omega) ?_)
  intro w362 hS363; dsimp only [List.set] at hS363
  clear hS361
  refine wl_nil (qs_seq ?_)
  refine wc_sub (L' := [(9, _), (8, _), (5, _), (0, _)]) (.cons rfl (.cons rfl (.cons rfl (.cons rfl .nil)))) ?_
  refine wc_seq (wc_region (wl_move rfl rfl (wl_move rfl rfl (wl_nilCheck rfl rfl ?_))))
  refine wl_fieldAddr rfl fo_31_1 rfl ?_
  refine wl_load rfl ag_28 (by first | assumption | exact hS363.cell 1 rfl rfl | exact hS363.cell 5 rfl rfl) rfl ?_
  refine wl_rowBuild inC [1] hS363 rfl Tryz.underlying28 ifz_3 rfl rfl rfl rfl (by first | rfl | simp [RowC.cells, fillL, splice]) rfl ?_
  intro b364 w364 hS364
  clear hS363
  refine wl_rowApp inC 4 hS364 rfl rfl rfl (hS364.rd 0 rfl (by simp)) Tryz.underlying28 Tryz.underlying28 (by intro k hk; cases hk) ifo_3 rfl (by simp only [List.length_cons, List.length_nil]; omega) rfl (by simp only [List.length_cons, List.length_nil]; omega) ?_
  intro v365 w365 hS365; dsimp only [List.set] at hS365
  clear hS364
  have h1v365 : v365.oneCell' = true := hS365.own_one 4 rfl
  refine wl_nilCheck rfl rfl ?_
  refine wl_fieldAddr rfl fo_31_1 rfl ?_
  first | (refine wl_store hS365 rfl rfl sz_28 (by first | rfl | assumption | exact hS365.own_one 0 rfl | exact hS365.own_one 3 rfl | exact hS365.own_one 4 rfl | exact hS365.own_one 5 rfl) (i := 2) rfl (by first | decide | exact Nat.le_of_ble_eq_true rfl | (simp; done) | omega) ?_) | (refine wl_store hS365 rfl rfl sz_28 (by first | rfl | assumption | exact hS365.own_one 0 rfl | exact hS365.own_one 3 rfl | exact hS365.own_one 4 rfl | exact hS365.own_one 5 rfl) (i := 6) rfl (by first | decide | exact Nat.le_of_ble_eq_true rfl | (simp; done) | omega) ?_)
  intro w366 hS367; dsimp only [List.set] at hS367
  clear hS365
  refine wl_nil (qs_seq ?_)
  refine wc_sub (L' := [(9, _), (8, _), (5, _), (0, _)]) (.cons rfl (.cons rfl (.cons rfl (.cons rfl .nil)))) ?_
  refine wc_seq (wc_region (wl_move rfl rfl (wl_move rfl rfl (wl_nilCheck rfl rfl ?_))))
  refine wl_fieldAddr rfl fo_31_2 rfl ?_
  refine wl_load rfl ag_29 (by first | assumption | exact hS367.cell 2 rfl rfl | exact hS367.cell 6 rfl rfl) rfl ?_
  refine wl_move rfl rfl ?_
  refine wl_rowBuild stC [b64 o.s] hS367 rfl Tryz.underlying29 ifz_9 rfl rfl rfl rfl (by first | rfl | simp [RowC.cells, fillL, splice]) rfl ?_
  intro b368 w368 hS368
  clear hS367
  refine wl_rowApp stC 6 hS368 rfl rfl rfl (hS368.rd 0 rfl (by simp)) Tryz.underlying29 Tryz.underlying29 (by intro k hk; cases hk) ifo_9 rfl (by simp only [List.length_cons, List.length_nil]; omega) rfl (by simp only [List.length_cons, List.length_nil]; omega) ?_
  intro v369 w369 hS369; dsimp only [List.set] at hS369
  clear hS368
  have h1v369 : v369.oneCell' = true := hS369.own_one 6 rfl
  refine wl_nilCheck rfl rfl ?_
  refine wl_fieldAddr rfl fo_31_2 rfl ?_
  first | (refine wl_store hS369 rfl rfl sz_29 (by first | rfl | assumption | exact hS369.own_one 0 rfl | exact hS369.own_one 4 rfl | exact hS369.own_one 5 rfl | exact hS369.own_one 6 rfl) (i := 3) rfl (by first | decide | exact Nat.le_of_ble_eq_true rfl | (simp; done) | omega) ?_) | (refine wl_store hS369 rfl rfl sz_29 (by first | rfl | assumption | exact hS369.own_one 0 rfl | exact hS369.own_one 4 rfl | exact hS369.own_one 5 rfl | exact hS369.own_one 6 rfl) (i := 7) rfl (by first | decide | exact Nat.le_of_ble_eq_true rfl | (simp; done) | omega) ?_)
  intro w370 hS371; dsimp only [List.set] at hS371
  clear hS369
  refine wl_nil (qs_seq ?_)
  refine wc_sub (L' := [(9, _), (5, _), (0, _)]) (.cons rfl (.cons rfl (.cons rfl .nil))) ?_
  refine wc_ret (qs_then_ret ?_)
  refine fin0 (.inr rfl) rfl ?_
  have hz := hS371.pick [3, 4, 5, 6, 8] rfl
  exact ⟨_, rfl, rfl, ⟨M.ids ++ [a], M.refs ++ [1], M.pages ++ [b64 o.s]⟩, by rw [hv2]; exact hR.add hv1, by simp, moT_shut hz⟩
 refine wc_skip (qs_seq (wc_seq (wc_seq ?_)))
 have hcc : ¬ (((o.d = 0 ∨ o.d = 10) ∧ a ≠ 0) ∨ o.d = 8) := by omega
 refine wc_region (wl_move rfl rfl ?_)
 refine wl_lss rfl rfl rfl ?_
 refine wl_nil (qs_seq ?_)
 refine wc_condD rfl (fun h372 => ?_) (fun h372 => ?_)
 ·exact absurd h372 (by omega)
 refine wc_skip (qs_seq (wc_seq ?_))
 have hds := dov_some hD hcc hV
 obtain ⟨a1, c1, a2, c2, a3, c3, hSo373⟩ := moT_open (hS4.pick [0, 1, 2] rfl)
 refine wc_region ?_
 refine wl_fieldAddr rfl fo_33_0 rfl ?_
 refine wl_load rfl ag_3 (by first | assumption | exact hSo373.cell 0 rfl rfl | exact hSo373.cell 4 rfl rfl) rfl ?_
 refine wl_nil (qs_seq (wc_block (wc_seq (wc_region ?_))))
 refine wl_eql rfl rfl rfl ?_
 refine wl_assign rfl rfl (wl_nil (qs_seq ?_))
 refine wc_sub (L' := [(77, _), (76, _), (9, _), (5, _), (0, _)]) (.cons rfl (.cons rfl (.cons rfl (.cons rfl (.cons rfl .nil))))) ?_
 refine wc_condD rfl (fun h374 => ?_) (fun h374 => ?_)
 ·refine wc_region (wl_move rfl rfl (wl_nilCheck rfl rfl ?_))
  refine wl_fieldAddr rfl fo_31_1 rfl ?_
  refine wl_load rfl ag_28 (by first | assumption | exact hSo373.cell 0 rfl rfl | exact hSo373.cell 4 rfl rfl) rfl ?_
  refine wl_move rfl rfl ?_
  refine wl_rowIdx inC 2 k hSo373 rfl rfl rfl (by rfl) hkr es_28 rfl ?_
  intro bx375 capx375 hvx375
  refine wl_rowLoad 2 k 0 hSo373 rfl hvx375 rfl rfl hkr ag_3 rfl rfl ?_
  refine wl_add rfl rfl (by omega) (by omega) rfl ?_
  refine wl_rowIdx inC 2 k hSo373 rfl rfl rfl (by rfl) hkr es_28 rfl ?_
  intro bx376 capx376 hvx376
  refine wl_rowStore 2 k (r + 1) hSo373 rfl hvx376 rfl rfl sz_3 (by first | rfl | (simp; done)) (by first | omega | exact (List.getElem?_eq_some_iff.1 hkr).1) ?_
  intro w377 hS378; dsimp only [List.set] at hS378
  clear hSo373
  refine wl_nil (qs_block_normal ?_)
  refine fin0 (.inl rfl) rfl ?_
  obtain ⟨_, hv⟩ : o.d = 1 ∧ _ := by rcases hds with h | h | h | h | h; exact h; all_goals (exfalso; omega)
  have hm := hR.set (r' := r + 1) (pg' := pg) hk hV; rw [← hv, set_same hkp] at hm
  exact ⟨_, rfl, rfl, _, hm, by show M.ids.length ≤ _; omega, moT_shut (M := ⟨M.ids, M.refs.set k (r + 1), M.pages⟩) (hS378.pick [0, 1, 2, 3, 5] rfl)⟩
 refine wc_seq (wc_region ?_)
 refine wl_eql rfl rfl rfl ?_
 refine wl_assign rfl rfl (wl_nil (qs_seq ?_))
 refine wc_condD rfl (fun h379 => ?_) (fun h379 => ?_)
 ·refine wc_seq (wc_region (wl_move rfl rfl (wl_nilCheck rfl rfl ?_)))
  refine wl_fieldAddr rfl fo_31_1 rfl ?_
  refine wl_load rfl ag_28 (by first | assumption | exact hSo373.cell 0 rfl rfl | exact hSo373.cell 4 rfl rfl) rfl ?_
  refine wl_move rfl rfl ?_
  refine wl_rowIdx inC 2 k hSo373 rfl rfl rfl (by rfl) hkr es_28 rfl ?_
  intro bx380 capx380 hvx380
  refine wl_rowLoad 2 k 0 hSo373 rfl hvx380 rfl rfl hkr ag_3 rfl rfl ?_
  refine wl_sub' rfl rfl (by omega) (by omega) rfl ?_
  refine wl_rowIdx inC 2 k hSo373 rfl rfl rfl (by rfl) hkr es_28 rfl ?_
  intro bx381 capx381 hvx381
  refine wl_rowStore 2 k (r - 1) hSo373 rfl hvx381 rfl rfl sz_3 (by first | rfl | (simp; done)) (by first | omega | exact (List.getElem?_eq_some_iff.1 hkr).1) ?_
  intro w382 hS383; dsimp only [List.set] at hS383
  clear hSo373
  refine wl_nil (qs_seq ?_)
  refine wc_sub (L' := [(9, _), (0, _)]) (.cons rfl (.cons rfl .nil)) ?_
  refine wc_seq ?_
  have hkr2 : (M.refs.set k (r - 1))[k]? = some (r - 1) := List.getElem?_set_self (by omega)
  refine wc_region (wl_move rfl rfl (wl_nilCheck rfl rfl ?_))
  refine wl_fieldAddr rfl fo_31_1 rfl ?_
  refine wl_load rfl ag_28 (by first | assumption | exact hS383.cell 0 rfl rfl | exact hS383.cell 4 rfl rfl) rfl ?_
  refine wl_move rfl rfl ?_
  refine wl_rowIdx inC 2 k hS383 rfl rfl rfl (by rfl) hkr2 es_28 rfl ?_
  intro bx384 capx384 hvx384
  refine wl_rowLoad 2 k 0 hS383 rfl hvx384 rfl rfl hkr2 ag_3 rfl rfl ?_
  refine wl_eql rfl rfl rfl ?_
  refine wl_nil (qs_seq ?_)
  refine wc_condD rfl (fun h385 => ?_) (fun h385 => ?_)
  ·refine wc_seq ?_
   obtain ⟨_, _, hqc, hcp1, _⟩ := hS383.own_shape 1 rfl; cases hqc
   have hS386 := hS383.drew
   refine wc_draw [0, 2, 3, 4, 5, 6, 7, 9, 10, 11, 12, 13, 14, 15, 1, 8, 16, 17, 18, 19] [1, 8, 16, 19] mix (by kernel_rfl) ?_
   refine vc_p rfl rfl rfl (fun _ => (ev_move rfl)) ?_
   refine vc_p rfl rfl rfl (fun _ => (ev_move rfl)) ?_
   refine vc_p rfl rfl rfl (fun _ => (ev_nilCheck rfl)) ?_
   refine vc_p rfl rfl rfl (fun _ => (ev_fieldAddr rfl fo_31_0)) ?_
   refine vc_q rfl rfl rfl (ev_load rfl ag_28 (by first | assumption | exact hS386.cell 0 rfl rfl | exact hS386.cell 4 rfl rfl)) ?_
   refine vc_p rfl rfl rfl (fun _ => (ev_move rfl)) ?_
   refine vc_p rfl rfl rfl (fun _ => (ev_view 0 k Tryz.underlying28 sz_3 rfl (bndN _) (bndS k _ rfl rfl) (by omega) (by omega))) ?_
   refine vc_p rfl rfl rfl (fun _ => (ev_move rfl)) ?_
   refine vc_p rfl rfl rfl (fun _ => (ev_nilCheck rfl)) ?_
   refine vc_p rfl rfl rfl (fun _ => (ev_fieldAddr rfl fo_31_0)) ?_
   refine vc_q rfl rfl rfl (ev_load rfl ag_28 (by first | assumption | exact hS386.cell 0 rfl rfl | exact hS386.cell 4 rfl rfl)) ?_
   refine vc_p rfl rfl rfl (fun _ => (ev_move rfl)) ?_
   refine vc_p rfl rfl rfl (fun _ => (ev_add rfl rfl (by omega) (by omega))) ?_
   refine vc_p rfl rfl rfl (fun _ => (ev_view (k + 1) M.ids.length Tryz.underlying28 sz_3 rfl (bndS (k + 1) _ rfl (by omega)) (bndN _) (by omega) (by omega))) ?_
   refine vc_s rfl rfl rfl rfl rfl rfl ?_
   refine wl_rowBuild inC [] hS386 rfl Tryz.underlying28 ifz_3 rfl rfl rfl rfl (by first | rfl | simp [RowC.cells, fillL, splice]) rfl ?_
   intro b387 w387 hS387
   clear hS386
   refine vc_e (.cons (.inl ⟨rfl, (ev_load rfl ag_28 (by first | assumption | exact hS387.cell 1 rfl rfl | exact hS387.cell 5 rfl rfl))⟩) (.cons (.inl ⟨rfl, (ev_load rfl ag_28 (by first | assumption | exact hS387.cell 1 rfl rfl | exact hS387.cell 5 rfl rfl))⟩) .nil)) ?_
   refine vc_s rfl rfl rfl rfl rfl rfl ?_
   refine wl_rowApp inC 0 hS387 rfl rfl rfl (Ent.sat (ent_view (C := inC) (l := M.ids) (A := 0) (B := k) (by omega) (by omega) (by omega) hcp1) hS387 2 rfl) Tryz.underlying28 Tryz.underlying28 (by intro k hk; cases hk) ifo_3 rfl (by simp only [List.length_take, List.length_drop, List.length_append, List.length_nil]; omega) rfl (by simp only [List.length_take, List.length_drop, List.length_append, List.length_nil]; omega) ?_
   intro v388 w388 hS388; dsimp only [List.set] at hS388
   clear hS387
   have h1v388 : v388.oneCell' = true := hS388.own_one 0 rfl
   refine vc_e (.cons (.inl ⟨rfl, (ev_load rfl ag_28 (by first | assumption | exact hS388.cell 1 rfl rfl | exact hS388.cell 5 rfl rfl))⟩) (.skip (by kernel_rfl) .nil)) ?_
   refine vc_s rfl rfl rfl rfl rfl rfl ?_
   refine wl_rowApp inC 0 hS388 rfl rfl rfl (Ent.sat (ent_view (C := inC) (l := M.ids) (A := (k + 1)) (B := M.ids.length) (by omega) (by omega) (by omega) hcp1) hS388 2 rfl) Tryz.underlying28 Tryz.underlying28 (by intro k hk; cases hk) ifo_3 rfl (by simp only [List.length_take, List.length_drop, List.length_append, List.length_nil]; omega) rfl (by simp only [List.length_take, List.length_drop, List.length_append, List.length_nil]; omega) ?_
   intro v389 w389 hS389; dsimp only [List.set] at hS389
   clear hS388
   have h1v389 : v389.oneCell' = true := hS389.own_one 0 rfl
   refine vc_e (.skip (by kernel_rfl) (.skip (by kernel_rfl) .nil)) ?_
   refine vc_p rfl rfl rfl (fun _ => (ev_nilCheck rfl)) ?_
   refine vc_p rfl rfl rfl (fun _ => (ev_fieldAddr rfl fo_31_0)) ?_
   refine vc_s rfl rfl rfl rfl rfl rfl ?_
   first | (refine wl_store hS389 rfl rfl sz_28 (by first | rfl | assumption | exact hS389.own_one 0 rfl | exact hS389.own_one 2 rfl | exact hS389.own_one 3 rfl | exact hS389.own_one 4 rfl) (i := 1) rfl (by first | decide | exact Nat.le_of_ble_eq_true rfl | (simp; done) | omega) ?_) | (refine wl_store hS389 rfl rfl sz_28 (by first | rfl | assumption | exact hS389.own_one 0 rfl | exact hS389.own_one 2 rfl | exact hS389.own_one 3 rfl | exact hS389.own_one 4 rfl) (i := 5) rfl (by first | decide | exact Nat.le_of_ble_eq_true rfl | (simp; done) | omega) ?_)
   intro w390 hS391; dsimp only [List.set] at hS391
   clear hS389
   refine vc_e0 (.skip (by kernel_rfl) (.skip (by kernel_rfl) .nil)) ?_
   refine VC.nil (qs_seq ?_)
   refine wc_sub (L' := [(9, _), (0, _)]) (.cons rfl (.cons rfl .nil)) ?_
   refine wc_seq ?_
   have hls : (M.refs.set k (r - 1)).length = M.refs.length := List.length_set
   obtain ⟨_, _, hqc, hcp2, _⟩ := hS391.own_shape 3 rfl; rw [List.length_set] at hqc hcp2; cases hqc
   have hS392 := hS391.drew
   refine wc_draw [0, 2, 3, 4, 5, 6, 7, 9, 10, 11, 12, 13, 14, 15, 1, 8, 16, 17, 18, 19] [1, 8, 16, 19] mix (by kernel_rfl) ?_
   refine vc_p rfl rfl rfl (fun _ => (ev_move rfl)) ?_
   refine vc_p rfl rfl rfl (fun _ => (ev_move rfl)) ?_
   refine vc_p rfl rfl rfl (fun _ => (ev_nilCheck rfl)) ?_
   refine vc_p rfl rfl rfl (fun _ => (ev_fieldAddr rfl fo_31_1)) ?_
   refine vc_q rfl rfl rfl (ev_load rfl ag_28 (by first | assumption | exact hS392.cell 1 rfl rfl | exact hS392.cell 5 rfl rfl)) ?_
   refine vc_p rfl rfl rfl (fun _ => (ev_move rfl)) ?_
   refine vc_p rfl rfl rfl (fun _ => (ev_view 0 k Tryz.underlying28 sz_3 rfl (bndN _) (bndS k _ rfl rfl) (by omega) (by omega))) ?_
   refine vc_p rfl rfl rfl (fun _ => (ev_move rfl)) ?_
   refine vc_p rfl rfl rfl (fun _ => (ev_nilCheck rfl)) ?_
   refine vc_p rfl rfl rfl (fun _ => (ev_fieldAddr rfl fo_31_1)) ?_
   refine vc_q rfl rfl rfl (ev_load rfl ag_28 (by first | assumption | exact hS392.cell 1 rfl rfl | exact hS392.cell 5 rfl rfl)) ?_
   refine vc_p rfl rfl rfl (fun _ => (ev_move rfl)) ?_
   refine vc_p rfl rfl rfl (fun _ => (ev_add rfl rfl (by omega) (by omega))) ?_
   refine vc_p rfl rfl rfl (fun _ => (ev_view (k + 1) M.refs.length Tryz.underlying28 sz_3 rfl (bndS (k + 1) _ rfl (by omega)) (bndN _) (by omega) (by omega))) ?_
   refine vc_s rfl rfl rfl rfl rfl rfl ?_
   refine wl_rowBuild inC [] hS392 rfl Tryz.underlying28 ifz_3 rfl rfl rfl rfl (by first | rfl | simp [RowC.cells, fillL, splice]) rfl ?_
   intro b393 w393 hS393
   clear hS392
   refine vc_e (.cons (.inl ⟨rfl, (ev_load rfl ag_28 (by first | assumption | exact hS393.cell 2 rfl rfl | exact hS393.cell 6 rfl rfl))⟩) (.cons (.inl ⟨rfl, (ev_load rfl ag_28 (by first | assumption | exact hS393.cell 2 rfl rfl | exact hS393.cell 6 rfl rfl))⟩) .nil)) ?_
   refine vc_s rfl rfl rfl rfl rfl rfl ?_
   refine wl_rowApp inC 0 hS393 rfl rfl rfl (Ent.sat (ent_view2 (C := inC) (l := M.refs.set k (r - 1)) (n := M.refs.length) (A := 0) (B := k) hls (by omega) (by omega) (by omega) hcp2) hS393 4 rfl) Tryz.underlying28 Tryz.underlying28 (by intro k hk; cases hk) ifo_3 rfl (by simp only [List.length_take, List.length_drop, List.length_append, List.length_nil, List.length_set]; omega) rfl (by simp only [List.length_take, List.length_drop, List.length_append, List.length_nil, List.length_set]; omega) ?_
   intro v394 w394 hS394; dsimp only [List.set] at hS394
   clear hS393
   have h1v394 : v394.oneCell' = true := hS394.own_one 0 rfl
   refine vc_e (.cons (.inl ⟨rfl, (ev_load rfl ag_28 (by first | assumption | exact hS394.cell 2 rfl rfl | exact hS394.cell 6 rfl rfl))⟩) (.skip (by kernel_rfl) .nil)) ?_
   refine vc_s rfl rfl rfl rfl rfl rfl ?_
   refine wl_rowApp inC 0 hS394 rfl rfl rfl (Ent.sat (ent_view2 (C := inC) (l := M.refs.set k (r - 1)) (n := M.refs.length) (A := (k + 1)) (B := M.refs.length) hls (by omega) (by omega) (by omega) hcp2) hS394 4 rfl) Tryz.underlying28 Tryz.underlying28 (by intro k hk; cases hk) ifo_3 rfl (by simp only [List.length_take, List.length_drop, List.length_append, List.length_nil, List.length_set]; omega) rfl (by simp only [List.length_take, List.length_drop, List.length_append, List.length_nil, List.length_set]; omega) ?_
   intro v395 w395 hS395; dsimp only [List.set] at hS395
   clear hS394
   have h1v395 : v395.oneCell' = true := hS395.own_one 0 rfl
   refine vc_e (.skip (by kernel_rfl) (.skip (by kernel_rfl) .nil)) ?_
   refine vc_p rfl rfl rfl (fun _ => (ev_nilCheck rfl)) ?_
   refine vc_p rfl rfl rfl (fun _ => (ev_fieldAddr rfl fo_31_1)) ?_
   refine vc_s rfl rfl rfl rfl rfl rfl ?_
   first | (refine wl_store hS395 rfl rfl sz_28 (by first | rfl | assumption | exact hS395.own_one 0 rfl | exact hS395.own_one 1 rfl | exact hS395.own_one 3 rfl | exact hS395.own_one 4 rfl | exact hS395.own_one 5 rfl) (i := 2) rfl (by first | decide | exact Nat.le_of_ble_eq_true rfl | (simp; done) | omega) ?_) | (refine wl_store hS395 rfl rfl sz_28 (by first | rfl | assumption | exact hS395.own_one 0 rfl | exact hS395.own_one 1 rfl | exact hS395.own_one 3 rfl | exact hS395.own_one 4 rfl | exact hS395.own_one 5 rfl) (i := 6) rfl (by first | decide | exact Nat.le_of_ble_eq_true rfl | (simp; done) | omega) ?_)
   intro w396 hS397; dsimp only [List.set] at hS397
   clear hS395
   refine vc_e0 (.skip (by kernel_rfl) (.skip (by kernel_rfl) .nil)) ?_
   refine VC.nil (qs_seq ?_)
   refine wc_sub (L' := [(9, _), (0, _)]) (.cons rfl (.cons rfl .nil)) ?_
   obtain ⟨_, _, hqc, hcp3, _⟩ := hS397.own_shape 5 rfl; cases hqc
   have hS398 := hS397.drew
   refine wc_draw [0, 2, 3, 4, 5, 6, 7, 9, 10, 11, 12, 13, 14, 15, 1, 8, 16, 17, 18, 19] [1, 8, 16, 19] mix (by kernel_rfl) ?_
   refine vc_p rfl rfl rfl (fun _ => (ev_move rfl)) ?_
   refine vc_p rfl rfl rfl (fun _ => (ev_move rfl)) ?_
   refine vc_p rfl rfl rfl (fun _ => (ev_nilCheck rfl)) ?_
   refine vc_p rfl rfl rfl (fun _ => (ev_fieldAddr rfl fo_31_2)) ?_
   refine vc_q rfl rfl rfl (ev_load rfl ag_29 (by first | assumption | exact hS398.cell 2 rfl rfl | exact hS398.cell 6 rfl rfl)) ?_
   refine vc_p rfl rfl rfl (fun _ => (ev_move rfl)) ?_
   refine vc_p rfl rfl rfl (fun _ => (ev_view 0 k Tryz.underlying29 sz_9 rfl (bndN _) (bndS k _ rfl rfl) (by omega) (by omega))) ?_
   refine vc_p rfl rfl rfl (fun _ => (ev_move rfl)) ?_
   refine vc_p rfl rfl rfl (fun _ => (ev_nilCheck rfl)) ?_
   refine vc_p rfl rfl rfl (fun _ => (ev_fieldAddr rfl fo_31_2)) ?_
   refine vc_q rfl rfl rfl (ev_load rfl ag_29 (by first | assumption | exact hS398.cell 2 rfl rfl | exact hS398.cell 6 rfl rfl)) ?_
   refine vc_p rfl rfl rfl (fun _ => (ev_move rfl)) ?_
   refine vc_p rfl rfl rfl (fun _ => (ev_add rfl rfl (by omega) (by omega))) ?_
   refine vc_p rfl rfl rfl (fun _ => (ev_view (k + 1) M.pages.length Tryz.underlying29 sz_9 rfl (bndS (k + 1) _ rfl (by omega)) (bndN _) (by omega) (by omega))) ?_
   refine vc_s rfl rfl rfl rfl rfl rfl ?_
   refine wl_rowBuild stC [] hS398 rfl Tryz.underlying29 ifz_9 rfl rfl rfl rfl (by first | rfl | simp [RowC.cells, fillL, splice]) rfl ?_
   intro b399 w399 hS399
   clear hS398
   refine vc_e (.cons (.inl ⟨rfl, (ev_load rfl ag_29 (by first | assumption | exact hS399.cell 3 rfl rfl | exact hS399.cell 7 rfl rfl))⟩) (.cons (.inl ⟨rfl, (ev_load rfl ag_29 (by first | assumption | exact hS399.cell 3 rfl rfl | exact hS399.cell 7 rfl rfl))⟩) .nil)) ?_
   refine vc_s rfl rfl rfl rfl rfl rfl ?_
   refine wl_rowApp stC 0 hS399 rfl rfl rfl (Ent.sat (ent_view (C := stC) (l := M.pages) (A := 0) (B := k) (by omega) (by omega) (by omega) hcp3) hS399 6 rfl) Tryz.underlying29 Tryz.underlying29 (by intro k hk; cases hk) ifo_9 rfl (by simp only [List.length_take, List.length_drop, List.length_append, List.length_nil]; omega) rfl (by simp only [List.length_take, List.length_drop, List.length_append, List.length_nil]; omega) ?_
   intro v400 w400 hS400; dsimp only [List.set] at hS400
   clear hS399
   have h1v400 : v400.oneCell' = true := hS400.own_one 0 rfl
   refine vc_e (.cons (.inl ⟨rfl, (ev_load rfl ag_29 (by first | assumption | exact hS400.cell 3 rfl rfl | exact hS400.cell 7 rfl rfl))⟩) (.skip (by kernel_rfl) .nil)) ?_
   refine vc_s rfl rfl rfl rfl rfl rfl ?_
   refine wl_rowApp stC 0 hS400 rfl rfl rfl (Ent.sat (ent_view (C := stC) (l := M.pages) (A := (k + 1)) (B := M.pages.length) (by omega) (by omega) (by omega) hcp3) hS400 6 rfl) Tryz.underlying29 Tryz.underlying29 (by intro k hk; cases hk) ifo_9 rfl (by simp only [List.length_take, List.length_drop, List.length_append, List.length_nil]; omega) rfl (by simp only [List.length_take, List.length_drop, List.length_append, List.length_nil]; omega) ?_
   intro v401 w401 hS401; dsimp only [List.set] at hS401
   clear hS400
   have h1v401 : v401.oneCell' = true := hS401.own_one 0 rfl
   refine vc_e (.skip (by kernel_rfl) (.skip (by kernel_rfl) .nil)) ?_
   refine vc_p rfl rfl rfl (fun _ => (ev_nilCheck rfl)) ?_
   refine vc_p rfl rfl rfl (fun _ => (ev_fieldAddr rfl fo_31_2)) ?_
   refine vc_s rfl rfl rfl rfl rfl rfl ?_
   first | (refine wl_store hS401 rfl rfl sz_29 (by first | rfl | assumption | exact hS401.own_one 0 rfl | exact hS401.own_one 1 rfl | exact hS401.own_one 2 rfl | exact hS401.own_one 4 rfl | exact hS401.own_one 5 rfl | exact hS401.own_one 6 rfl) (i := 3) rfl (by first | decide | exact Nat.le_of_ble_eq_true rfl | (simp; done) | omega) ?_) | (refine wl_store hS401 rfl rfl sz_29 (by first | rfl | assumption | exact hS401.own_one 0 rfl | exact hS401.own_one 1 rfl | exact hS401.own_one 2 rfl | exact hS401.own_one 4 rfl | exact hS401.own_one 5 rfl | exact hS401.own_one 6 rfl) (i := 7) rfl (by first | decide | exact Nat.le_of_ble_eq_true rfl | (simp; done) | omega) ?_)
   intro w402 hS403; dsimp only [List.set] at hS403
   clear hS401
   refine vc_e0 (.skip (by kernel_rfl) (.skip (by kernel_rfl) .nil)) ?_
   refine VC.nil (qs_block_normal ?_)
   refine fin0 (.inl rfl) rfl ?_
   have hv : V' = up V o.id none := by rcases hds with h | h | h | h | h; all_goals first | (exfalso; omega) | exact h.2.2
   have hz := hS403.pick [3, 2, 1, 0, 8] rfl
   have hm := (hR.set (r' := r - 1) (pg' := pg) hk hV).del (k := k) (id := o.id) hk; rw [set_same hkp] at hm
   have hv3 : up (up V o.id (some (r - 1, pg))) o.id none = V' := by rw [hv]; funext j; by_cases q : j = o.id; (subst q; rw [up_self, up_self]); rw [up_ne q, up_ne q, up_ne q]
   rw [hv3] at hm
   rw [vsl hkl, vsl2 (l := M.refs.set k (r - 1)) (n := M.refs.length) (k := k) List.length_set (by omega), vsl (l := M.pages) (k := k) (by omega)] at hz
   exact ⟨_, rfl, rfl, _, hm, by dsimp only; have := List.length_eraseIdx_le M.ids k; omega, moT_shut hz⟩
  refine wc_skip (qs_block_normal ?_)
  refine fin0 (.inl rfl) rfl ?_
  have hv : V' = up V o.id (some (r - 1, pg)) := by rcases hds with h | h | h | h | h; all_goals first | (exfalso; omega) | exact h.2.2
  have hm := hR.set (r' := r - 1) (pg' := pg) hk hV; rw [← hv, set_same hkp] at hm
  exact ⟨_, rfl, rfl, _, hm, by show M.ids.length ≤ _; omega, moT_shut (M := ⟨M.ids, M.refs.set k (r - 1), M.pages⟩) (hS383.pick [0, 1, 2, 3, 5] rfl)⟩
 refine wc_seq (wc_region ?_)
 refine wl_eql rfl rfl rfl ?_
 refine wl_assign rfl rfl (wl_nil (qs_seq ?_))
 refine wc_condD rfl (fun h404 => ?_) (fun h404 => ?_)
 ·refine wc_seq (wc_region (wl_move rfl rfl (wl_nilCheck rfl rfl ?_)))
  refine wl_fieldAddr rfl fo_31_2 rfl ?_
  refine wl_load rfl ag_29 (by first | assumption | exact hSo373.cell 0 rfl rfl | exact hSo373.cell 4 rfl rfl) rfl ?_
  refine wl_move rfl rfl ?_
  refine wl_rowIdx stC 3 k hSo373 rfl rfl rfl (by rfl) hkp es_29 rfl ?_
  intro bx405 capx405 hvx405
  refine wl_rowLoad 3 k 0 hSo373 rfl hvx405 rfl rfl hkp ag_9 rfl rfl ?_
  refine wl_rowBytes hSo373 rfl Tryz.underlying9 Tryz.underlying70 Tryz.underlying5 rfl ?_
  intro v406 w406 hS406
  clear hSo373
  refine wl_assign rfl rfl (wl_nil (qs_seq ?_))
  refine wc_sub (L' := [(11, _), (9, _), (5, _), (0, _)]) (.cons rfl (.cons rfl (.cons rfl (.cons rfl .nil)))) ?_
  refine wc_seq ?_
  obtain ⟨hrng, hv3⟩ : (0 ≤ o.at_ ∧ o.at_ < 64) ∧ V' = up V o.id (some (r, pg.set o.at_.toNat (u8 o.n))) := by rcases hds with h | h | h | h | h; all_goals first | (exfalso; omega) | exact h.2
  obtain ⟨cb, hcb⟩ : ∃ c, pg[o.at_.toNat]? = some c := ⟨_, List.getElem?_eq_getElem (by omega)⟩
  refine wc_region (wl_move rfl rfl ?_)
  refine wl_fieldAddr rfl fo_33_2 rfl ?_
  refine wl_load rfl ag_3 (by first | assumption | exact hS406.cell 1 rfl rfl | exact hS406.cell 5 rfl rfl) rfl ?_
  refine wl_fieldAddr rfl fo_33_3 rfl ?_
  refine wl_load rfl ag_3 (by first | assumption | exact hS406.cell 1 rfl rfl | exact hS406.cell 5 rfl rfl) rfl ?_
  refine wl_convII Tryz.underlying3 Tryz.underlying5 rfl (c := ((u8 o.n).toNat : Int)) (wrapU8 o.n) rfl ?_
  refine wl_rowIdx byC 0 o.at_.toNat hS406 rfl rfl rfl (by omega) hcb es_70 rfl ?_
  intro bx407 capx407 hvx407
  refine wl_rowStore 0 o.at_.toNat (u8 o.n) hS406 rfl hvx407 rfl rfl sz_5 (by first | rfl | (simp; done)) (by first | omega | exact (List.getElem?_eq_some_iff.1 hcb).1) ?_
  intro w408 hS409; dsimp only [List.set] at hS409
  clear hS406
  refine wl_nil (qs_seq ?_)
  refine wc_sub (L' := [(11, _), (9, _), (0, _)]) (.cons rfl (.cons rfl (.cons rfl .nil))) ?_
  obtain ⟨pb, pc9, hq9, _⟩ := hS409.own_at 4 rfl (by omega); cases hq9
  have hS410 := hS409.drew
  refine wc_draw [0, 1, 2, 3, 4, 5, 6, 7, 8] [8] mix (by kernel_rfl) ?_
  refine vc_p rfl rfl rfl (fun _ => (ev_move rfl)) ?_
  refine vc_p rfl rfl rfl (fun _ => (ev_nilCheck rfl)) ?_
  refine vc_p rfl rfl rfl (fun _ => (ev_fieldAddr rfl fo_31_2)) ?_
  refine vc_q rfl rfl rfl (ev_load rfl ag_29 (by first | assumption | exact hS410.cell 1 rfl rfl | exact hS410.cell 5 rfl rfl)) ?_
  refine vc_p rfl rfl rfl (fun _ => (ev_move rfl)) ?_
  refine vc_p rfl rfl rfl (fun _ => (ev_move rfl)) ?_
  refine vc_q rfl rfl rfl (ev_rowStr 0 hS410 rfl rfl Tryz.underlying70 Tryz.underlying5 Tryz.underlying9) ?_
  refine vc_p rfl rfl rfl (fun _ => (ev_indexAddr k rfl rfl (by first | rfl | omega) (by omega) es_29)) ?_
  refine vc_s rfl rfl rfl rfl rfl rfl ?_
  refine wl_rowStore 4 k (pg.set o.at_.toNat (u8 o.n)) hS410 rfl rfl (congrArg (fun q => some (ptrV pb q)) (show 0 + k * 1 = k * 1 by omega)) rfl sz_9 rfl (by omega) ?_
  intro w411 hS411; dsimp only [List.set] at hS411
  clear hS410
  refine vc_e0 (.skip (by kernel_rfl) (.skip (by kernel_rfl) .nil)) ?_
  refine VC.nil (qs_block_normal ?_)
  refine fin0 (.inl rfl) rfl ?_
  have hm := hR.set (r' := r) (pg' := pg.set o.at_.toNat (u8 o.n)) hk hV; rw [← hv3, set_same hkr] at hm
  exact ⟨_, rfl, rfl, _, hm, by show M.ids.length ≤ _; omega, moT_shut (M := ⟨M.ids, M.refs, M.pages.set k (pg.set o.at_.toNat (u8 o.n))⟩) (hS411.pick [1, 2, 3, 4, 6] rfl)⟩
 refine wc_skip (qs_block_normal ?_)
 refine fin0 (.inl rfl) rfl ?_
 obtain ⟨_, hv⟩ : (o.d ≠ 1 ∧ o.d ≠ 2 ∧ o.d ≠ 3) ∧ _ := by rcases hds with h | h | h | h | h; all_goals first | (exfalso; omega) | exact h
 exact ⟨_, rfl, rfl, M, by rw [hv]; exact hR, by omega, moT_shut (hSo373.pick [0, 1, 2, 3, 5] rfl)⟩
end Go.Proofs.YtnicmcdeoimhlaaGreat
