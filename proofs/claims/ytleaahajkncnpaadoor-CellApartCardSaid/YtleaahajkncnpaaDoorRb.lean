/- the reference of layer 3: Put, pending -/
import Derived.Test.YtleaahajkncnpaaDoorRa
import Derived.Test.YtleaahajkncnpaaDoorDe
namespace Go.Proofs.YtleaahajkncnpaaDoor
open Go.RowKit M
set_option linter.unusedVariables false
theorem put_set {B t : Bytes} {a i : Nat} {c : UInt8} (h : a + t.length ≤ B.length) (hc : t[i]? = some c) : (B.take a ++ t.take i ++ B.drop (a + i)).set (a + i) c = B.take a ++ t.take (i + 1) ++ B.drop (a + (i + 1)) := by
  have hi := (List.getElem?_eq_some_iff.1 hc).1
  have h1 : B.drop (a + i) = B[a + i] :: B.drop (a + i + 1) := List.drop_eq_getElem_cons (by omega)
  have h2 : (B.take a ++ t.take i).length = a + i := by simp; omega
  rw [h1, List.set_append_right _ _ (by omega), h2, Nat.sub_self, List.set_cons_zero, List.take_add_one, hc]
  simp [Nat.add_assoc]
theorem fillB_len (s : Bytes) (m : Nat) (h : s.length ≤ m) : (fillB s m).length = m := by simp [fillB]; omega
theorem fill_more (s : Bytes) (j : Nat) : (s ++ List.replicate j (0 : UInt8)) ++ [0] = s ++ List.replicate (j + 1) 0 := by rw [List.append_assoc, List.replicate_succ']
theorem put_begin {w : World} {v : Value} {s t : Bytes} {a j : Nat} {F : Th} (hj : s.length + j = max s.length (a + t.length)) (h : Sat w [rowT byC v (s ++ List.replicate j 0), F]) : Sat w [rowT byC v ((fillB s (max s.length (a + t.length))).take a ++ t.take 0 ++ (fillB s (max s.length (a + t.length))).drop (a + 0)), F] := by
  have e : s ++ List.replicate j 0 = (fillB s (max s.length (a + t.length))).take a ++ t.take 0 ++ (fillB s (max s.length (a + t.length))).drop (a + 0) := by
    rw [← hj]; simp [fillB]
  rw [← e]; exact h
theorem put_done {s t : Bytes} {a i : Nat} (ht : t ≠ []) (h : i = t.length) : (fillB s (max s.length (a + t.length))).take a ++ t.take i ++ (fillB s (max s.length (a + t.length))).drop (a + i) = putB s a t := by
  rw [h, List.take_length, put2 s t a ht]
set_option maxRecDepth 100000 in
theorem putR_sp {w : World} {F : Th} (hS : Sat w [F]) (s t : Bytes) (a : Nat) (h1 : s.length ≤ 16777216) (h2 : a + t.length ≤ 33554432) :
    Calls Tryd.prog 49 #[strV s, intV a, strV t] w (Ret fun v w' => v = strV (putB s a t) ∧ Sat w' [F]) := by
  refine calls_enter Tryd.func49 rfl Tryd.ntmps49 rfl ?_
  refine wc_seq ?_
  refine wc_region ?_
  refine wl_assign rfl rfl ?_
  refine wl_nil ?_
  refine qs_seq ?_
  refine wc_seq ?_
  refine wc_seq ?_
  refine wc_region ?_
  refine wl_move rfl rfl ?_
  refine wl_eqlS rfl rfl rfl ?_
  refine wl_nil ?_
  refine qs_seq ?_
  refine wc_condD rfl (fun h1 => ?_) (fun h1 => ?_)
  · skip
    have hne : t = [] := h1
    refine wc_seq ?_
    refine wc_region ?_
    refine wl_move rfl rfl ?_
    refine wl_assign rfl rfl ?_
    refine wl_nil ?_
    refine qs_seq ?_
    refine wc_ret ?_
    refine qs_then_ret ?_
    refine fin1 (.inr rfl) rfl rfl ?_
    exact ⟨_, rfl, by rw [hne, putB_nil], hS⟩
  · skip
    have hne : t ≠ [] := h1
    refine wc_skip ?_
    refine qs_seq ?_
    refine wc_seq ?_
    refine wc_region ?_
    refine wl_move rfl rfl ?_
    refine wl_rowBytes hS rfl Tryd.underlying9 Tryd.underlying46 Tryd.underlying5 rfl ?_
    intro v2 w2 hS2
    refine wl_assign rfl rfl ?_
    refine wl_nil ?_
    refine qs_seq ?_
    refine wc_seq ?_
    refine wc_block ?_
    refine wc_loop (fun K0 E0 W0 => ∃ (j : Nat) (v : Value), K0 = (a + t.length) - (s.length + j) ∧ E0 = [(1, intV (a : Int)), (2, strV t), (7, v)] ∧ Sat W0 [rowT byC v (s ++ List.replicate j 0), F] ∧ (s.length + j ≤ (max s.length (a + t.length)))) (L0 := [(1, _), (2, _), (7, _)]) (((a + t.length) - s.length)) (.cons rfl (.cons rfl (.cons rfl .nil))) ⟨0, _, by omega, rfl, by simpa using hS2, by omega⟩ ?_
    rintro _ _ w3 ⟨j, v, rfl, rfl, hS3, hj⟩
    have hlj : (s ++ List.replicate j (0 : UInt8)).length = s.length + j := by simp
    refine wc_seq ?_
    refine wc_seq ?_
    refine wc_region ?_
    refine wl_move rfl rfl ?_
    first | refine wl_lenL Tryd.underlying46 rfl rfl ?_ | refine wl_lenO 0 hS3 Tryd.underlying46 rfl rfl rfl ?_
    refine wl_move rfl rfl ?_
    refine wl_move rfl rfl ?_
    refine wl_lenS Tryd.underlying9 rfl rfl ?_
    refine wl_add rfl rfl (by omega) (by omega) rfl ?_
    refine wl_lss rfl rfl rfl ?_
    refine wl_nil ?_
    refine qs_seq ?_
    refine wc_condD rfl (fun h4 => ?_) (fun h4 => ?_)
    · skip
      refine wc_skip ?_
      refine qs_seq ?_
      refine wc_block ?_
      refine wc_region ?_
      refine wl_move rfl rfl ?_
      refine wl_rowBuild byC [0] hS3 rfl Tryd.underlying46 ifz_5 rfl rfl rfl rfl (by first | rfl | simp [RowC.cells, fillL, splice]) rfl ?_
      intro b5 w5 hS5
      clear hS3
      refine wl_rowApp byC 1 hS5 rfl rfl rfl (hS5.rd 0 rfl (by simp)) Tryd.underlying46 Tryd.underlying46 (by intro k hk; cases hk) ifo_5 rfl (by simp only [List.length_cons, List.length_nil]; omega) rfl (by simp only [List.length_cons, List.length_nil]; omega) ?_
      intro v6 w6 hS6; dsimp only [List.set] at hS6
      clear hS5
      have h1v6 : v6.oneCell' = true := hS6.own_one 1 rfl
      refine wl_assign rfl rfl ?_
      refine wl_nil ?_
      refine qs_block_normal ?_
      exact qs_round (L1 := [(1, _), (2, _), (7, _)]) (.cons rfl (.cons rfl (.cons rfl .nil))) (k1 := (a + t.length) - (s.length + (j + 1))) (by omega) ⟨j + 1, _, by omega, rfl, by rw [← fill_more]; exact hS6.tail, by omega⟩
    · skip
      refine wc_exit ?_
      refine qs_then_exit ?_
      refine qs_then_exit ?_
      refine qs_block_exit ?_
      refine qs_seq ?_
      refine wc_seq ?_
      refine wc_seq ?_
      refine wc_region ?_
      refine wl_assign rfl rfl ?_
      refine wl_nil ?_
      refine qs_seq ?_
      refine wc_sub (L' := [(8, _), (1, _), (2, _), (7, _)]) (.cons rfl (.cons rfl (.cons rfl (.cons rfl .nil)))) ?_
      refine wc_block ?_
      refine wc_loop (fun K0 E0 W0 => ∃ (i : Nat), K0 = t.length - i ∧ E0 = [(1, intV (a : Int)), (2, strV t), (7, v), (8, intV (i : Int))] ∧ Sat W0 [rowT byC v ((fillB s (max s.length (a + t.length))).take a ++ t.take i ++ (fillB s (max s.length (a + t.length))).drop (a + i)), F] ∧ (i ≤ t.length)) (L0 := [(1, _), (2, _), (7, _), (8, _)]) (t.length) (.cons rfl (.cons rfl (.cons rfl (.cons rfl .nil)))) ⟨0, by omega, rfl, put_begin (by omega) hS3, by omega⟩ ?_
      rintro _ _ w7 ⟨i, rfl, rfl, hS7, hi⟩
      refine wc_seq ?_
      refine wc_seq ?_
      refine wc_region ?_
      refine wl_move rfl rfl ?_
      refine wl_move rfl rfl ?_
      refine wl_lenS Tryd.underlying9 rfl rfl ?_
      refine wl_lss rfl rfl rfl ?_
      refine wl_nil ?_
      refine qs_seq ?_
      refine wc_condD rfl (fun h8 => ?_) (fun h8 => ?_)
      · skip
        obtain ⟨c, hc⟩ : ∃ c, t[i]? = some c := ⟨_, List.getElem?_eq_getElem (by omega)⟩
        have hXl : ((fillB s (max s.length (a + t.length))).take a ++ t.take i ++ (fillB s (max s.length (a + t.length))).drop (a + i)).length = (max s.length (a + t.length)) := by have := fillB_len s (max s.length (a + t.length)) (by omega); simp; omega
        obtain ⟨y, hy⟩ : ∃ y, ((fillB s (max s.length (a + t.length))).take a ++ t.take i ++ (fillB s (max s.length (a + t.length))).drop (a + i))[a + i]? = some y := ⟨_, List.getElem?_eq_getElem (by omega)⟩
        refine wc_skip ?_
        refine qs_seq ?_
        refine wc_seq ?_
        refine wc_block ?_
        refine wc_region ?_
        refine wl_move rfl rfl ?_
        refine wl_move rfl rfl ?_
        refine wl_move rfl rfl ?_
        refine wl_add rfl rfl (by omega) (by omega) rfl ?_
        refine wl_move rfl rfl ?_
        refine wl_move rfl rfl ?_
        refine wl_indexS _ Tryd.underlying9 rfl rfl (by first | rfl | omega) (by first | assumption | rfl) rfl ?_
        refine wl_rowIdx byC 0 (a + i) hS7 rfl rfl rfl (by first | rfl | omega) hy es_46 rfl ?_
        intro bx9 capx9 hvx9
        refine wl_rowStore 0 (a + i) c hS7 rfl hvx9 rfl rfl sz_5 (by first | rfl | (simp; done)) (by first | omega | exact (List.getElem?_eq_some_iff.1 hy).1) ?_
        intro w10 hS11; dsimp only [List.set] at hS11
        clear hS7
        refine wl_nil ?_
        refine qs_block_normal ?_
        refine qs_seq ?_
        refine wc_sub (L' := [(1, _), (2, _), (7, _), (8, _)]) (.cons rfl (.cons rfl (.cons rfl (.cons rfl .nil)))) ?_
        refine wc_region ?_
        refine wl_move rfl rfl ?_
        refine wl_add rfl rfl (by omega) (by omega) rfl ?_
        refine wl_assign rfl rfl ?_
        refine wl_nil ?_
        exact qs_round (L1 := [(1, _), (2, _), (7, _), (8, intV ((i + 1 : Nat) : Int))]) (.cons rfl (.cons rfl (.cons rfl (.cons rfl .nil)))) (k1 := t.length - (i + 1)) (by omega) ⟨i + 1, by omega, rfl, by rw [← put_set (by rw [fillB_len _ _ (by omega)]; omega) hc]; exact hS11, by omega⟩
      · skip
        refine wc_exit ?_
        refine qs_then_exit ?_
        refine qs_then_exit ?_
        refine qs_block_exit ?_
        refine qs_seq ?_
        refine wc_seq ?_
        refine wc_region ?_
        refine wl_move rfl rfl ?_
        refine wl_rowStr 0 hS7 rfl rfl Tryd.underlying46 Tryd.underlying5 Tryd.underlying9 rfl ?_
        refine wl_assign rfl rfl ?_
        refine wl_nil ?_
        refine qs_seq ?_
        refine wc_sub (L' := [(6, _)]) (.cons rfl .nil) ?_
        refine wc_ret ?_
        refine fin1 (.inr rfl) rfl rfl ?_
        exact ⟨_, rfl, by rw [put_done hne (by omega)], hS7.tail⟩

set_option maxRecDepth 100000 in
theorem pendR_sp {w : World} {p : Nat} {kp : Value} {D : DS} {F : Th} (hS : Sat w [refT p kp D, F]) (f n : Int) :
    Calls Tryd.prog 51 #[ptrV p 0, intV f, intV n] w (Ret fun v w' => v = .bool (decide ((f, n) ∈ D.Q)) ∧ Sat w' [refT p kp D, F]) := by
  obtain ⟨⟨fv, qv, l⟩, hI, hS⟩ := refT_open hS; dsimp only at hI hS
  refine calls_enter Tryd.func51 rfl Tryd.ntmps51 rfl ?_
  refine wc_seq ?_
  refine wc_region ?_
  refine wl_assign rfl rfl ?_
  refine wl_nil ?_
  refine qs_seq ?_
  refine wc_seq ?_
  refine wc_seq ?_
  refine wc_region ?_
  refine wl_assign rfl rfl ?_
  refine wl_nil ?_
  refine qs_seq ?_
  refine wc_block ?_
  refine wc_loop (fun K0 E0 W0 => ∃ (i : Nat), K0 = D.Q.length - i ∧ E0 = [(0, ptrV p 0), (1, intV f), (2, intV n), (7, intV (i : Int))] ∧ Sat W0 [blkT p (cellsR ⟨fv, qv, l⟩ kp D), rowT rfC fv l, rowT scC qv D.Q, F] ∧ (i ≤ D.Q.length) ∧ (∀ j y, j < i → D.Q[j]? = some y → y ≠ (f, n))) (L0 := [(0, _), (1, _), (2, _), (7, _)]) (D.Q.length) (.cons rfl (.cons rfl (.cons rfl (.cons rfl .nil)))) ⟨0, by omega, rfl, hS, by omega, by omega⟩ ?_
  rintro _ _ w1 ⟨i, rfl, rfl, hS1, hi, hno⟩
  refine wc_seq ?_
  refine wc_seq ?_
  refine wc_region ?_
  refine wl_move rfl rfl ?_
  refine wl_move rfl rfl ?_
  refine wl_nilCheck rfl rfl ?_
  refine wl_fieldAddr rfl fo_65_1 rfl ?_
  refine wl_load rfl ag_63 (by first | assumption | exact hS1.cell 0 rfl rfl) rfl ?_
  first | refine wl_lenL Tryd.underlying63 rfl rfl ?_ | refine wl_lenO 1 hS1 Tryd.underlying63 rfl rfl rfl ?_ | refine wl_lenO 2 hS1 Tryd.underlying63 rfl rfl rfl ?_
  refine wl_lss rfl rfl rfl ?_
  refine wl_nil ?_
  refine qs_seq ?_
  refine wc_sub (L' := [(14, _), (0, _), (1, _), (2, _), (7, _)]) (.cons rfl (.cons rfl (.cons rfl (.cons rfl (.cons rfl .nil))))) ?_
  refine wc_condD rfl (fun h2 => ?_) (fun h2 => ?_)
  · skip
    have hcnt := sec_count hI.inv.secs hI.inv.nodup
    obtain ⟨x, hx⟩ : ∃ x, D.Q[i]? = some x := ⟨_, List.getElem?_eq_getElem (by omega)⟩
    refine wc_skip ?_
    refine qs_seq ?_
    refine wc_seq ?_
    refine wc_block ?_
    refine wc_seq ?_
    refine wc_region ?_
    refine wl_move rfl rfl ?_
    refine wl_nilCheck rfl rfl ?_
    refine wl_fieldAddr rfl fo_65_1 rfl ?_
    refine wl_load rfl ag_63 (by first | assumption | exact hS1.cell 0 rfl rfl) rfl ?_
    refine wl_move rfl rfl ?_
    refine wl_rowIdx scC 2 i hS1 rfl rfl rfl (by first | rfl | omega) hx es_63 rfl ?_
    intro bx3 capx3 hvx3
    refine wl_fieldAddr rfl fo_84_0 rfl ?_
    refine wl_rowLoad 2 i 0 hS1 rfl hvx3 rfl rfl hx ag_3 rfl rfl ?_
    refine wl_move rfl rfl ?_
    refine wl_eql rfl rfl rfl ?_
    refine wl_move rfl rfl ?_
    refine wl_splitD 27 rfl (fun h4 => ?_) (fun h4 => ?_)
    · skip
      have h1a : x.1 = f := h4
      refine wl_guard rfl rfl (decide_eq_true h4) ?_
      refine wl_move rfl rfl ?_
      refine wl_guard rfl rfl (decide_eq_true h4) ?_
      refine wl_nilCheck rfl rfl ?_
      refine wl_guard rfl rfl (decide_eq_true h4) ?_
      refine wl_fieldAddr rfl fo_65_1 rfl ?_
      refine wl_guard rfl rfl (decide_eq_true h4) ?_
      refine wl_load rfl ag_63 (by first | assumption | exact hS1.cell 0 rfl rfl) rfl ?_
      refine wl_guard rfl rfl (decide_eq_true h4) ?_
      refine wl_move rfl rfl ?_
      refine wl_guard rfl rfl (decide_eq_true h4) ?_
      refine wl_rowIdx scC 2 i hS1 rfl rfl rfl (by first | rfl | omega) hx es_63 rfl ?_
      intro bx5 capx5 hvx5
      refine wl_guard rfl rfl (decide_eq_true h4) ?_
      refine wl_fieldAddr rfl fo_84_1 rfl ?_
      refine wl_guard rfl rfl (decide_eq_true h4) ?_
      refine wl_rowLoad 2 i 1 hS1 rfl hvx5 rfl rfl hx ag_3 rfl rfl ?_
      refine wl_guard rfl rfl (decide_eq_true h4) ?_
      refine wl_move rfl rfl ?_
      refine wl_guard rfl rfl (decide_eq_true h4) ?_
      refine wl_eql rfl rfl rfl ?_
      refine wl_pickT rfl (decide_eq_true h4) rfl rfl ?_
      refine wl_nil ?_
      refine qs_seq ?_
      refine wc_sub (L' := [(38, _), (0, _), (1, _), (2, _), (7, _)]) (.cons rfl (.cons rfl (.cons rfl (.cons rfl (.cons rfl .nil))))) ?_
      refine wc_condD rfl (fun h6 => ?_) (fun h6 => ?_)
      · skip
        have h1b : x.2 = n := h6
        refine wc_seq ?_
        refine wc_region ?_
        refine wl_assign rfl rfl ?_
        refine wl_nil ?_
        refine qs_seq ?_
        refine wc_ret ?_
        refine qs_block_ret ?_
        refine qs_then_ret ?_
        refine qs_then_ret ?_
        refine qs_block_ret ?_
        refine qs_then_ret ?_
        refine fin1 (.inr rfl) rfl rfl ?_
        exact ⟨_, rfl, by rw [decide_eq_true (show (f, n) ∈ D.Q from List.mem_of_getElem? (i := i) (by rw [hx]; congr 1; exact Prod.ext h1a h1b))], refT_shut ⟨fv, qv, l⟩  hI hS1⟩
      · skip
        refine wc_skip ?_
        refine qs_block_normal ?_
        refine qs_seq ?_
        refine wc_region ?_
        refine wl_move rfl rfl ?_
        refine wl_add rfl rfl (by omega) (by omega) rfl ?_
        refine wl_assign rfl rfl ?_
        refine wl_nil ?_
        exact qs_round (L1 := [(0, _), (1, _), (2, _), (7, intV ((i + 1 : Nat) : Int))]) (.cons rfl (.cons rfl (.cons rfl (.cons rfl .nil)))) (k1 := D.Q.length - (i + 1)) (by omega) ⟨i + 1, by omega, rfl, hS1, by omega, fun j y hj hy => by by_cases e : j = i; (subst e; rw [hx] at hy; cases hy; intro e2; cases e2; simp_all); exact hno j y (by omega) hy⟩
    · skip
      refine wl_unwanted rfl rfl (decide_eq_false h4) rfl ?_
      refine wl_unwanted rfl rfl (decide_eq_false h4) rfl ?_
      refine wl_unwanted rfl rfl (decide_eq_false h4) rfl ?_
      refine wl_unwanted rfl rfl (decide_eq_false h4) rfl ?_
      refine wl_unwanted rfl rfl (decide_eq_false h4) rfl ?_
      refine wl_unwanted rfl rfl (decide_eq_false h4) rfl ?_
      refine wl_unwanted rfl rfl (decide_eq_false h4) rfl ?_
      refine wl_unwanted rfl rfl (decide_eq_false h4) rfl ?_
      refine wl_unwanted rfl rfl (decide_eq_false h4) rfl ?_
      refine wl_unwanted rfl rfl (decide_eq_false h4) rfl ?_
      refine wl_pickF rfl (decide_eq_false h4) rfl rfl ?_
      refine wl_nil ?_
      refine qs_seq ?_
      refine wc_sub (L' := [(38, _), (0, _), (1, _), (2, _), (7, _)]) (.cons rfl (.cons rfl (.cons rfl (.cons rfl (.cons rfl .nil))))) ?_
      refine wc_condF rfl ?_
      refine wc_skip ?_
      refine qs_block_normal ?_
      refine qs_seq ?_
      refine wc_region ?_
      refine wl_move rfl rfl ?_
      refine wl_add rfl rfl (by omega) (by omega) rfl ?_
      refine wl_assign rfl rfl ?_
      refine wl_nil ?_
      exact qs_round (L1 := [(0, _), (1, _), (2, _), (7, intV ((i + 1 : Nat) : Int))]) (.cons rfl (.cons rfl (.cons rfl (.cons rfl .nil)))) (k1 := D.Q.length - (i + 1)) (by omega) ⟨i + 1, by omega, rfl, hS1, by omega, fun j y hj hy => by by_cases e : j = i; (subst e; rw [hx] at hy; cases hy; intro e2; cases e2; simp_all); exact hno j y (by omega) hy⟩
  · skip
    refine wc_exit ?_
    refine qs_then_exit ?_
    refine qs_then_exit ?_
    refine qs_block_exit ?_
    refine qs_seq ?_
    refine wc_seq ?_
    refine wc_region ?_
    refine wl_assign rfl rfl ?_
    refine wl_nil ?_
    refine qs_seq ?_
    refine wc_ret ?_
    refine fin1 (.inr rfl) rfl rfl ?_
    exact ⟨_, rfl, by rw [decide_eq_false (fun hm => by obtain ⟨j, hj⟩ := List.mem_iff_getElem?.1 hm; exact hno j _ (by have := (List.getElem?_eq_some_iff.1 hj).1; omega) hj rfl)], refT_shut ⟨fv, qv, l⟩  hI hS1⟩

end Go.Proofs.YtleaahajkncnpaaDoor
