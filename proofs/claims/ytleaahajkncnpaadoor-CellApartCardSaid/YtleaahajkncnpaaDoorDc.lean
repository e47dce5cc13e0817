/- disk: deleting from slices and maps -/
import Derived.Test.YtleaahajkncnpaaDoorDb
namespace Go.Proofs.YtleaahajkncnpaaDoor
open Go.RowKit M
set_option linter.unusedVariables false
def cellIs (c : Nat) (f : Int) (w : World) : Prop := w.cell? ⟨c, 0, none⟩ = some (intV f)
theorem sec_at {Q : List (Int × Int)} {j : Nat} {p : Int × Int} (h : Q[j]? = some p) : ((secV Q).drop (j * 2)).take 2 = [intV p.1, intV p.2] := by
  induction Q generalizing j with
  | nil => simp at h
  | cons q Q ih =>
    cases j with
    | zero => simp at h; subst h; simp [secV]
    | succ j =>
      simp at h
      have := ih h
      rw [show (j + 1) * 2 = 2 + j * 2 by omega, ← List.drop_drop]
      simpa [secV] using this
theorem clo1_sp {w : World} {F : Th} (hS : Sat w [F]) {c : Nat} {f : Int} (hc : Ent F (cellIs c f)) (x y : Int) :
    Calls Tryd.prog 55 #[.agg #[intV x, intV y], ptrV c 0] w (Ret fun v w' => v = .bool (decide (x = f)) ∧ Sat w' [F]) := by
  refine calls_enter Tryd.func55 rfl Tryd.ntmps55 rfl ?_
  refine wc_seq ?_
  refine wc_region ?_
  refine wl_box hS rfl rfl rfl ?_
  intro b1 w1 hS1
  refine wl_assign rfl rfl ?_
  refine wl_nil ?_
  refine qs_seq ?_
  refine wc_seq ?_
  refine wc_region ?_
  refine wl_fieldAddr rfl fo_78_0 rfl ?_
  refine wl_load rfl ag_3 (by first | assumption | exact hS1.cell 0 rfl rfl | exact hc.sat hS1 1 rfl) rfl ?_
  refine wl_load rfl ag_3 (by first | assumption | exact hS1.cell 0 rfl rfl | exact hc.sat hS1 1 rfl) rfl ?_
  refine wl_eql rfl rfl rfl ?_
  refine wl_assign rfl rfl ?_
  refine wl_nil ?_
  refine qs_seq ?_
  refine wc_ret ?_
  refine fin1 (.inr rfl) rfl rfl ?_
  exact ⟨_, rfl, rfl, hS1.tail⟩

theorem clo2_sp {w : World} {F : Th} (hS : Sat w [F]) {c : Nat} {f : Int} (hc : Ent F (cellIs c f)) (x y : Int) (u : Value) :
    Calls Tryd.prog 57 #[.agg #[intV x, intV y], u, ptrV c 0] w (Ret fun v w' => v = .bool (decide (x = f)) ∧ Sat w' [F]) := by
  refine calls_enter Tryd.func57 rfl Tryd.ntmps57 rfl ?_
  refine wc_seq ?_
  refine wc_region ?_
  refine wl_box hS rfl rfl rfl ?_
  intro b1 w1 hS1
  refine wl_assign rfl rfl ?_
  refine wl_nil ?_
  refine qs_seq ?_
  refine wc_seq ?_
  refine wc_region ?_
  refine wl_fieldAddr rfl fo_78_0 rfl ?_
  refine wl_load rfl ag_3 (by first | assumption | exact hS1.cell 0 rfl rfl | exact hc.sat hS1 1 rfl) rfl ?_
  refine wl_load rfl ag_3 (by first | assumption | exact hS1.cell 0 rfl rfl | exact hc.sat hS1 1 rfl) rfl ?_
  refine wl_eql rfl rfl rfl ?_
  refine wl_assign rfl rfl ?_
  refine wl_nil ?_
  refine qs_seq ?_
  refine wc_ret ?_
  refine fin1 (.inr rfl) rfl rfl ?_
  exact ⟨_, rfl, rfl, hS1.tail⟩

theorem index_sp {w : World} {F : Th} {qv : Value} {Q : List (Int × Int)} (hS : Sat w [ownT qv Q.length 2 (secV Q), F]) {c : Nat} {f : Int} (hc : Ent F (cellIs c f)) (hl : Q.length ≤ 4194320) :
    Calls Tryd.prog 58 #[qv, .func (.func 55) #[] #[ptrV c 0]] w (Ret fun v w' => ∃ r : Int, v = intV r ∧ ((r = -1 ∧ ∀ p ∈ Q, p.1 ≠ f) ∨ ∃ (k : Nat) (p : Int × Int), r = k ∧ Q[k]? = some p ∧ p.1 = f ∧ ∀ j q, j < k → Q[j]? = some q → q.1 ≠ f) ∧ Sat w' [ownT qv Q.length 2 (secV Q), F]) := by
  refine calls_enter Tryd.func58 rfl Tryd.ntmps58 rfl ?_
  refine wc_seq ?_
  refine wc_region ?_
  refine wl_assign rfl rfl ?_
  refine wl_nil ?_
  refine qs_seq ?_
  refine wc_seq ?_
  refine wc_seq ?_
  refine wc_region ?_
  refine wl_move rfl rfl ?_
  first | refine wl_lenL Tryd.underlying59 rfl rfl ?_ | refine wl_lenO 0 hS Tryd.underlying59 rfl rfl rfl ?_
  refine wl_move rfl rfl ?_
  refine wl_nil ?_
  refine qs_seq ?_
  refine wc_block ?_
  refine wc_loop (fun K0 E0 W0 => ∃ (k : Nat), K0 = Q.length - k ∧ E0 = [(0, qv), (1, .func (.func 55) #[] #[ptrV c 0]), (7, intV (Q.length : Int)), (8, intV (k : Int))] ∧ Sat W0 [ownT qv Q.length 2 (secV Q), F] ∧ (k ≤ Q.length) ∧ (∀ j p, j < k → Q[j]? = some p → p.1 ≠ f)) (L0 := [(0, _), (1, _), (7, _), (8, _)]) (Q.length) (.cons rfl (.cons rfl (.cons rfl (.cons rfl .nil)))) ⟨0, by omega, rfl, hS, by omega, by omega⟩ ?_
  rintro _ _ w1 ⟨k, rfl, rfl, hS1, hk, hno⟩
  refine wc_seq ?_
  refine wc_region ?_
  refine wl_lss rfl rfl rfl ?_
  refine wl_nil ?_
  refine qs_seq ?_
  refine wc_seq ?_
  refine wc_condD rfl (fun h2 => ?_) (fun h2 => ?_)
  · skip
    obtain ⟨p, hp⟩ : ∃ p, Q[k]? = some p := ⟨_, List.getElem?_eq_getElem (by omega)⟩
    refine wc_skip ?_
    refine qs_seq ?_
    refine wc_seq ?_
    refine wc_block ?_
    refine wc_seq ?_
    refine wc_region ?_
    refine wl_move rfl rfl ?_
    refine wl_assign rfl rfl ?_
    refine wl_nil ?_
    refine qs_seq ?_
    refine wc_seq ?_
    refine wc_region ?_
    refine wl_move rfl rfl ?_
    refine wl_move rfl rfl ?_
    refine wl_move rfl rfl ?_
    refine wl_indexO 0 k hS1 rfl rfl rfl rfl (by omega) es_59 rfl ?_
    intro b cap hv
    refine wl_loadO 0 hS1 rfl hv rfl ag_78 sz_78 (sec_at hp) rfl rfl ?_
    have hC3 := hS1.split [] [false, false] rfl; dsimp only [selF, pickA, nthA, List.cons_append, List.nil_append] at hC3
    refine wl_callV rfl cal_55 rfl (clo1_sp hC3 (hc.starL 1 rfl) _ _) rfl ?_
    rintro e w3 ⟨_, rfl, rfl, hS3⟩; refine ⟨_, rfl, ?_⟩
    replace hS3 := hS3.join rfl; dsimp only [List.dropLast, List.cons_append, List.nil_append] at hS3; clear hC3
    clear hS1
    refine wl_nil ?_
    refine qs_seq ?_
    refine wc_sub (L' := [(16, _), (5, _), (0, _), (1, _), (7, _), (8, _)]) (.cons rfl (.cons rfl (.cons rfl (.cons rfl (.cons rfl (.cons rfl .nil)))))) ?_
    refine wc_cond rfl (fun h4 => ?_) (fun h4 => ?_)
    · skip
      have heq : p.1 = f := by simpa using h4
      refine wc_seq ?_
      refine wc_region ?_
      refine wl_move rfl rfl ?_
      refine wl_assign rfl rfl ?_
      refine wl_nil ?_
      refine qs_seq ?_
      refine wc_ret ?_
      refine qs_block_ret ?_
      refine qs_then_ret ?_
      refine qs_then_ret ?_
      refine qs_block_ret ?_
      refine qs_then_ret ?_
      refine fin1 (.inr rfl) rfl rfl ?_
      exact ⟨_, rfl, _, rfl, .inr ⟨k, p, rfl, hp, heq, hno⟩, hS3⟩
    · skip
      have hne : p.1 ≠ f := by simpa using h4
      refine wc_skip ?_
      refine qs_block_normal ?_
      refine qs_seq ?_
      refine wc_region ?_
      refine wl_add rfl rfl (by omega) (by omega) rfl ?_
      refine wl_move rfl rfl ?_
      refine wl_nil ?_
      exact qs_round (L1 := [(0, qv), (1, .func (.func 55) #[] #[ptrV c 0]), (7, intV (Q.length : Int)), (8, intV ((k + 1 : Nat) : Int))]) (.cons rfl (.cons rfl (.cons rfl (.cons rfl .nil)))) (k1 := Q.length - (k + 1)) (by omega) ⟨k + 1, by omega, rfl, hS3, by omega, fun j q hj hq => by by_cases e : j = k; (subst e; rw [hp] at hq; cases hq; exact hne); exact hno j q (by omega) hq⟩
  · skip
    refine wc_exit ?_
    refine qs_then_exit ?_
    refine qs_then_exit ?_
    refine qs_block_exit ?_
    refine qs_seq ?_
    refine wc_seq ?_
    refine wc_region ?_
    refine wl_assign rfl rfl ?_
    refine wl_nil ?_
    refine qs_seq ?_
    refine wc_ret ?_
    refine fin1 (.inr rfl) rfl rfl ?_
    exact ⟨_, rfl, _, rfl, .inl ⟨rfl, fun p hp => by obtain ⟨j, hj⟩ := List.mem_iff_getElem?.1 hp; exact hno j p (by have := (List.getElem?_eq_some_iff.1 hj).1; omega) hj⟩, hS1⟩

end Go.Proofs.YtleaahajkncnpaaDoor
