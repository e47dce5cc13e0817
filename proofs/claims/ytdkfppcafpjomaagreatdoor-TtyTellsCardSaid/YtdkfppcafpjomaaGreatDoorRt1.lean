/- reference 26: Right to next -/
import Derived.Test.YtdkfppcafpjomaaGreatDoorRl1
import Derived.Test.YtdkfppcafpjomaaGreatDoorRz1
import Derived.Test.YtdkfppcafpjomaaGreatDoorTd
namespace Go.Proofs.YtdkfppcafpjomaaGreatDoor
open Go.RowKit M
set_option linter.unusedVariables false
theorem last_nn {l : List ItemD} {i : Nat} (hi : i ≤ l.length) (hok : ∀ j x, j < i → l[j]? = some x → rightI (lastI l j 0) x = true) : 0 ≤ lastI l i 0 := by
  induction i with
  | zero => simp [lastI]
  | succ i ih =>
    have h1 := ih (by omega) fun j x hj => hok j x (by omega)
    have hx : l[i]? = some l[i] := List.getElem?_eq_getElem (by omega)
    have h2 := (rightI_iff.1 (hok i l[i] (by omega) hx)).1
    rw [last_succ hx]; omega
set_option maxRecDepth 100000 in
theorem qRight_sp {w : World} {F : Th} (hS : Sat w [F]) {lv : Value} {l : List ItemD} (hL : Ent F (RdL itC lv l)) :
    Calls Tryz.prog 53 #[lv] w (Ret fun v w' => v = .bool (rightB l) ∧ Sat w' [F]) := by
  obtain ⟨ao, cap, rfl, hmax⟩ := (hL.sat hS 0 rfl).shape
  refine calls_enter Tryz.func53 rfl Tryz.ntmps53 rfl ?_
  refine wc_seq ?_
  refine wc_region ?_
  refine wl_assign rfl rfl ?_
  refine wl_nil ?_
  refine qs_seq ?_
  refine wc_seq ?_
  refine wc_seq ?_
  refine wc_region ?_
  refine wl_assign rfl rfl ?_
  refine wl_nil ?_
  refine qs_seq ?_
  refine wc_block ?_
  refine wc_loop (fun K0 E0 W0 => ∃ (i : Nat), K0 = l.length - i ∧ E0 = [(0, .slice ao l.length cap), (3, intV (i : Int))] ∧ Sat W0 [F] ∧ (i ≤ l.length) ∧ (∀ j x, j < i → l[j]? = some x → rightI (lastI l j 0) x = true)) (L0 := [(0, _), (3, _)]) (l.length - 0) (.cons rfl (.cons rfl .nil)) ⟨0, rfl, rfl, hS, by omega, by omega⟩ ?_
  rintro _ _ w1 ⟨i, rfl, rfl, hS1, hi, hok⟩
  refine wc_seq ?_
  refine wc_seq ?_
  refine wc_region ?_
  refine wl_move rfl rfl ?_
  refine wl_move rfl rfl ?_
  refine wl_lenL Tryz.underlying34 rfl rfl ?_
  refine wl_lss rfl rfl rfl ?_
  refine wl_nil ?_
  refine qs_seq ?_
  refine wc_condD rfl (fun h2 => ?_) (fun h2 => ?_)
  · skip
    obtain ⟨x, hx⟩ : ∃ x, l[i]? = some x := ⟨_, List.getElem?_eq_getElem (by omega)⟩
    obtain ⟨b, off, rfl, hc⟩ := (hL.sat hS1 0 rfl).get hx
    obtain ⟨xp, hxp⟩ : ∃ xp, l[i - 1]? = some xp := ⟨_, List.getElem?_eq_getElem (by omega)⟩
    have hl0 := last_nn hi hok
    refine wc_skip ?_
    refine qs_seq ?_
    refine wc_seq ?_
    refine wc_block ?_
    refine wc_seq ?_
    refine wc_region ?_
    refine wl_move rfl rfl ?_
    refine wl_move rfl rfl ?_
    refine wl_indexAddr i rfl rfl (by first | rfl | omega) (by omega) es_34 rfl ?_
    refine wl_loadAt rfl ag_49 sz_49 (vs := itV x) hc rfl ?_
    refine wl_alloc hS1 zr_49 rfl rfl ?_
    intro bx wbx hSbx
    clear hS1
    first | (refine wl_storeA hSbx rfl rfl sz_49 rfl (by first | rfl | (simp [allOne, Value.oneCell']; done) | assumption | exact hone) (i := 0) rfl (by first | decide | exact Nat.le_of_ble_eq_true rfl | (simp; done) | omega) ?_)
    intro w3 hS4; dsimp only [List.set] at hS4
    clear hSbx
    refine wl_nil ?_
    refine qs_seq ?_
    refine wc_sub (L' := [(4, _), (0, _), (3, _)]) (.cons rfl (.cons rfl (.cons rfl .nil))) ?_
    refine wc_seq ?_
    refine wc_seq ?_
    refine wc_region ?_
    refine wl_fieldAddr rfl fo_49_0 rfl ?_
    refine wl_load rfl ag_3 (by first | assumption | exact hS4.cell 0 rfl rfl) rfl ?_
    refine wl_lss rfl rfl rfl ?_
    refine wl_move rfl rfl ?_
    refine wl_splitD 19 rfl (fun h5 => ?_) (fun h5 => ?_)
    · skip
      refine wl_unwanted rfl rfl (decide_eq_true h5) rfl ?_
      refine wl_unwanted rfl rfl (decide_eq_true h5) rfl ?_
      refine wl_unwanted rfl rfl (decide_eq_true h5) rfl ?_
      refine wl_pickT rfl (decide_eq_true h5) rfl rfl ?_
      refine wl_move rfl rfl ?_
      refine wl_unwanted rfl rfl rfl rfl ?_
      refine wl_unwanted rfl rfl rfl rfl ?_
      refine wl_unwanted rfl rfl rfl rfl ?_
      refine wl_pickT rfl rfl rfl rfl ?_
      refine wl_move rfl rfl ?_
      refine wl_unwanted rfl rfl rfl rfl ?_
      refine wl_unwanted rfl rfl rfl rfl ?_
      refine wl_unwanted rfl rfl rfl rfl ?_
      refine wl_pickT rfl rfl rfl rfl ?_
      refine wl_move rfl rfl ?_
      refine wl_unwanted rfl rfl rfl rfl ?_
      refine wl_unwanted rfl rfl rfl rfl ?_
      refine wl_unwanted rfl rfl rfl rfl ?_
      refine wl_unwanted rfl rfl rfl rfl ?_
      refine wl_pickT rfl rfl rfl rfl ?_
      refine wl_move rfl rfl ?_
      refine wl_unwanted rfl rfl rfl rfl ?_
      refine wl_unwanted rfl rfl rfl rfl ?_
      refine wl_unwanted rfl rfl rfl rfl ?_
      refine wl_unwanted rfl rfl rfl rfl ?_
      refine wl_unguarded rfl rfl rfl ?_
      refine wl_unguarded rfl rfl rfl ?_
      refine wl_unguarded rfl rfl rfl ?_
      refine wl_unwanted rfl rfl rfl rfl ?_
      refine wl_pickT rfl rfl rfl rfl ?_
      refine wl_nil ?_
      refine qs_seq ?_
      refine wc_sub (L' := [(49, _), (4, _), (0, _), (3, _)]) (.cons rfl (.cons rfl (.cons rfl (.cons rfl .nil)))) ?_
      refine wc_condT rfl ?_
      refine wc_seq ?_
      refine wc_region ?_
      refine wl_assign rfl rfl ?_
      refine wl_nil ?_
      refine qs_seq ?_
      refine wc_ret ?_
      refine qs_then_ret ?_
      refine qs_block_ret ?_
      refine qs_then_ret ?_
      refine qs_then_ret ?_
      refine qs_block_ret ?_
      refine qs_then_ret ?_
      refine fin1 (.inr rfl) rfl rfl ?_
      have hbad : rightB l = false := right_bad hx (fun q => by obtain ⟨q1, q2, q3, q4, q5, q6, q7⟩ := rightI_iff.1 q; first | omega | (rcases q5 with q5 | q5; omega; contradiction) | (unfold lastI at q1; rw [if_neg (by omega), ix_of hxp] at q1; omega))
      exact ⟨_, rfl, by rw [hbad], hS4.pick [1] rfl⟩
    · skip
      refine wl_guard rfl rfl (decide_eq_false h5) ?_
      refine wl_fieldAddr rfl fo_49_0 rfl ?_
      refine wl_guard rfl rfl (decide_eq_false h5) ?_
      refine wl_load rfl ag_3 (by first | assumption | exact hS4.cell 0 rfl rfl) rfl ?_
      refine wl_guard rfl rfl (decide_eq_false h5) ?_
      refine wl_gtr rfl rfl rfl ?_
      refine wl_pickF rfl (decide_eq_false h5) rfl rfl ?_
      refine wl_move rfl rfl ?_
      refine wl_splitD 24 rfl (fun h6 => ?_) (fun h6 => ?_)
      · skip
        refine wl_unwanted rfl rfl (decide_eq_true h6) rfl ?_
        refine wl_unwanted rfl rfl (decide_eq_true h6) rfl ?_
        refine wl_unwanted rfl rfl (decide_eq_true h6) rfl ?_
        refine wl_pickT rfl (decide_eq_true h6) rfl rfl ?_
        refine wl_move rfl rfl ?_
        refine wl_unwanted rfl rfl rfl rfl ?_
        refine wl_unwanted rfl rfl rfl rfl ?_
        refine wl_unwanted rfl rfl rfl rfl ?_
        refine wl_pickT rfl rfl rfl rfl ?_
        refine wl_move rfl rfl ?_
        refine wl_unwanted rfl rfl rfl rfl ?_
        refine wl_unwanted rfl rfl rfl rfl ?_
        refine wl_unwanted rfl rfl rfl rfl ?_
        refine wl_unwanted rfl rfl rfl rfl ?_
        refine wl_pickT rfl rfl rfl rfl ?_
        refine wl_move rfl rfl ?_
        refine wl_unwanted rfl rfl rfl rfl ?_
        refine wl_unwanted rfl rfl rfl rfl ?_
        refine wl_unwanted rfl rfl rfl rfl ?_
        refine wl_unwanted rfl rfl rfl rfl ?_
        refine wl_unguarded rfl rfl rfl ?_
        refine wl_unguarded rfl rfl rfl ?_
        refine wl_unguarded rfl rfl rfl ?_
        refine wl_unwanted rfl rfl rfl rfl ?_
        refine wl_pickT rfl rfl rfl rfl ?_
        refine wl_nil ?_
        refine qs_seq ?_
        refine wc_sub (L' := [(49, _), (4, _), (0, _), (3, _)]) (.cons rfl (.cons rfl (.cons rfl (.cons rfl .nil)))) ?_
        refine wc_condT rfl ?_
        refine wc_seq ?_
        refine wc_region ?_
        refine wl_assign rfl rfl ?_
        refine wl_nil ?_
        refine qs_seq ?_
        refine wc_ret ?_
        refine qs_then_ret ?_
        refine qs_block_ret ?_
        refine qs_then_ret ?_
        refine qs_then_ret ?_
        refine qs_block_ret ?_
        refine qs_then_ret ?_
        refine fin1 (.inr rfl) rfl rfl ?_
        have hbad : rightB l = false := right_bad hx (fun q => by obtain ⟨q1, q2, q3, q4, q5, q6, q7⟩ := rightI_iff.1 q; first | omega | (rcases q5 with q5 | q5; omega; contradiction) | (unfold lastI at q1; rw [if_neg (by omega), ix_of hxp] at q1; omega))
        exact ⟨_, rfl, by rw [hbad], hS4.pick [1] rfl⟩
      · skip
        refine wl_guard rfl rfl (decide_eq_false h6) ?_
        refine wl_fieldAddr rfl fo_49_1 rfl ?_
        refine wl_guard rfl rfl (decide_eq_false h6) ?_
        refine wl_load rfl ag_3 (by first | assumption | exact hS4.cell 0 rfl rfl) rfl ?_
        refine wl_guard rfl rfl (decide_eq_false h6) ?_
        refine wl_lss rfl rfl rfl ?_
        refine wl_pickF rfl (decide_eq_false h6) rfl rfl ?_
        refine wl_move rfl rfl ?_
        refine wl_splitD 29 rfl (fun h7 => ?_) (fun h7 => ?_)
        · skip
          refine wl_unwanted rfl rfl (decide_eq_true h7) rfl ?_
          refine wl_unwanted rfl rfl (decide_eq_true h7) rfl ?_
          refine wl_unwanted rfl rfl (decide_eq_true h7) rfl ?_
          refine wl_pickT rfl (decide_eq_true h7) rfl rfl ?_
          refine wl_move rfl rfl ?_
          refine wl_unwanted rfl rfl rfl rfl ?_
          refine wl_unwanted rfl rfl rfl rfl ?_
          refine wl_unwanted rfl rfl rfl rfl ?_
          refine wl_unwanted rfl rfl rfl rfl ?_
          refine wl_pickT rfl rfl rfl rfl ?_
          refine wl_move rfl rfl ?_
          refine wl_unwanted rfl rfl rfl rfl ?_
          refine wl_unwanted rfl rfl rfl rfl ?_
          refine wl_unwanted rfl rfl rfl rfl ?_
          refine wl_unwanted rfl rfl rfl rfl ?_
          refine wl_unguarded rfl rfl rfl ?_
          refine wl_unguarded rfl rfl rfl ?_
          refine wl_unguarded rfl rfl rfl ?_
          refine wl_unwanted rfl rfl rfl rfl ?_
          refine wl_pickT rfl rfl rfl rfl ?_
          refine wl_nil ?_
          refine qs_seq ?_
          refine wc_sub (L' := [(49, _), (4, _), (0, _), (3, _)]) (.cons rfl (.cons rfl (.cons rfl (.cons rfl .nil)))) ?_
          refine wc_condT rfl ?_
          refine wc_seq ?_
          refine wc_region ?_
          refine wl_assign rfl rfl ?_
          refine wl_nil ?_
          refine qs_seq ?_
          refine wc_ret ?_
          refine qs_then_ret ?_
          refine qs_block_ret ?_
          refine qs_then_ret ?_
          refine qs_then_ret ?_
          refine qs_block_ret ?_
          refine qs_then_ret ?_
          refine fin1 (.inr rfl) rfl rfl ?_
          have hbad : rightB l = false := right_bad hx (fun q => by obtain ⟨q1, q2, q3, q4, q5, q6, q7⟩ := rightI_iff.1 q; first | omega | (rcases q5 with q5 | q5; omega; contradiction) | (unfold lastI at q1; rw [if_neg (by omega), ix_of hxp] at q1; omega))
          exact ⟨_, rfl, by rw [hbad], hS4.pick [1] rfl⟩
        · skip
          refine wl_guard rfl rfl (decide_eq_false h7) ?_
          refine wl_fieldAddr rfl fo_49_1 rfl ?_
          refine wl_guard rfl rfl (decide_eq_false h7) ?_
          refine wl_load rfl ag_3 (by first | assumption | exact hS4.cell 0 rfl rfl) rfl ?_
          refine wl_guard rfl rfl (decide_eq_false h7) ?_
          refine wl_geq rfl rfl rfl ?_
          refine wl_pickF rfl (decide_eq_false h7) rfl rfl ?_
          refine wl_move rfl rfl ?_
          refine wl_splitD 34 rfl (fun h8 => ?_) (fun h8 => ?_)
          · skip
            refine wl_unwanted rfl rfl (decide_eq_true h8) rfl ?_
            refine wl_unwanted rfl rfl (decide_eq_true h8) rfl ?_
            refine wl_unwanted rfl rfl (decide_eq_true h8) rfl ?_
            refine wl_unwanted rfl rfl (decide_eq_true h8) rfl ?_
            refine wl_pickT rfl (decide_eq_true h8) rfl rfl ?_
            refine wl_move rfl rfl ?_
            refine wl_unwanted rfl rfl rfl rfl ?_
            refine wl_unwanted rfl rfl rfl rfl ?_
            refine wl_unwanted rfl rfl rfl rfl ?_
            refine wl_unwanted rfl rfl rfl rfl ?_
            refine wl_unguarded rfl rfl rfl ?_
            refine wl_unguarded rfl rfl rfl ?_
            refine wl_unguarded rfl rfl rfl ?_
            refine wl_unwanted rfl rfl rfl rfl ?_
            refine wl_pickT rfl rfl rfl rfl ?_
            refine wl_nil ?_
            refine qs_seq ?_
            refine wc_sub (L' := [(49, _), (4, _), (0, _), (3, _)]) (.cons rfl (.cons rfl (.cons rfl (.cons rfl .nil)))) ?_
            refine wc_condT rfl ?_
            refine wc_seq ?_
            refine wc_region ?_
            refine wl_assign rfl rfl ?_
            refine wl_nil ?_
            refine qs_seq ?_
            refine wc_ret ?_
            refine qs_then_ret ?_
            refine qs_block_ret ?_
            refine qs_then_ret ?_
            refine qs_then_ret ?_
            refine qs_block_ret ?_
            refine qs_then_ret ?_
            refine fin1 (.inr rfl) rfl rfl ?_
            have hbad : rightB l = false := right_bad hx (fun q => by obtain ⟨q1, q2, q3, q4, q5, q6, q7⟩ := rightI_iff.1 q; first | omega | (rcases q5 with q5 | q5; omega; contradiction) | (unfold lastI at q1; rw [if_neg (by omega), ix_of hxp] at q1; omega))
            exact ⟨_, rfl, by rw [hbad], hS4.pick [1] rfl⟩
          · skip
            refine wl_guard rfl rfl (decide_eq_false h8) ?_
            refine wl_fieldAddr rfl fo_49_2 rfl ?_
            refine wl_guard rfl rfl (decide_eq_false h8) ?_
            refine wl_load rfl ag_9 (by first | assumption | exact hS4.cell 0 rfl rfl) rfl ?_
            refine wl_guard rfl rfl (decide_eq_false h8) ?_
            refine wl_lenS Tryz.underlying9 rfl rfl ?_
            refine wl_guard rfl rfl (decide_eq_false h8) ?_
            refine wl_gtr rfl rfl rfl ?_
            refine wl_pickF rfl (decide_eq_false h8) rfl rfl ?_
            refine wl_move rfl rfl ?_
            refine wl_splitD 40 rfl (fun h9 => ?_) (fun h9 => ?_)
            · skip
              refine wl_unwanted rfl rfl (decide_eq_true h9) rfl ?_
              refine wl_unwanted rfl rfl (decide_eq_true h9) rfl ?_
              refine wl_unwanted rfl rfl (decide_eq_true h9) rfl ?_
              refine wl_unwanted rfl rfl (decide_eq_true h9) rfl ?_
              refine wl_unguarded rfl rfl rfl ?_
              refine wl_unguarded rfl rfl rfl ?_
              refine wl_unguarded rfl rfl rfl ?_
              refine wl_unwanted rfl rfl (decide_eq_true h9) rfl ?_
              refine wl_pickT rfl (decide_eq_true h9) rfl rfl ?_
              refine wl_nil ?_
              refine qs_seq ?_
              refine wc_sub (L' := [(49, _), (4, _), (0, _), (3, _)]) (.cons rfl (.cons rfl (.cons rfl (.cons rfl .nil)))) ?_
              refine wc_condT rfl ?_
              refine wc_seq ?_
              refine wc_region ?_
              refine wl_assign rfl rfl ?_
              refine wl_nil ?_
              refine qs_seq ?_
              refine wc_ret ?_
              refine qs_then_ret ?_
              refine qs_block_ret ?_
              refine qs_then_ret ?_
              refine qs_then_ret ?_
              refine qs_block_ret ?_
              refine qs_then_ret ?_
              refine fin1 (.inr rfl) rfl rfl ?_
              have hbad : rightB l = false := right_bad hx (fun q => by obtain ⟨q1, q2, q3, q4, q5, q6, q7⟩ := rightI_iff.1 q; first | omega | (rcases q5 with q5 | q5; omega; contradiction) | (unfold lastI at q1; rw [if_neg (by omega), ix_of hxp] at q1; omega))
              exact ⟨_, rfl, by rw [hbad], hS4.pick [1] rfl⟩
            · skip
              refine wl_guard rfl rfl (decide_eq_false h9) ?_
              refine wl_fieldAddr rfl fo_49_1 rfl ?_
              refine wl_guard rfl rfl (decide_eq_false h9) ?_
              refine wl_load rfl ag_3 (by first | assumption | exact hS4.cell 0 rfl rfl) rfl ?_
              refine wl_guard rfl rfl (decide_eq_false h9) ?_
              refine wl_neq rfl rfl rfl ?_
              refine wl_guard rfl rfl (decide_eq_false h9) ?_
              refine wl_move rfl rfl ?_
              refine wl_splitD 44 rfl (fun h10 => ?_) (fun h10 => ?_)
              · skip
                refine wl_guard rfl rfl (decide_eq_true h10) ?_
                refine wl_fieldAddr rfl fo_49_2 rfl ?_
                refine wl_guard rfl rfl (decide_eq_true h10) ?_
                refine wl_load rfl ag_9 (by first | assumption | exact hS4.cell 0 rfl rfl) rfl ?_
                refine wl_guard rfl rfl (decide_eq_true h10) ?_
                refine wl_neqS rfl rfl rfl ?_
                refine wl_guard rfl rfl (decide_eq_false h9) ?_
                refine wl_pickT rfl (decide_eq_true h10) rfl rfl ?_
                refine wl_pickF rfl (decide_eq_false h9) rfl rfl ?_
                refine wl_nil ?_
                refine qs_seq ?_
                refine wc_sub (L' := [(49, _), (4, _), (0, _), (3, _)]) (.cons rfl (.cons rfl (.cons rfl (.cons rfl .nil)))) ?_
                refine wc_condD rfl (fun h11 => ?_) (fun h11 => ?_)
                · skip
                  refine wc_seq ?_
                  refine wc_region ?_
                  refine wl_assign rfl rfl ?_
                  refine wl_nil ?_
                  refine qs_seq ?_
                  refine wc_ret ?_
                  refine qs_then_ret ?_
                  refine qs_block_ret ?_
                  refine qs_then_ret ?_
                  refine qs_then_ret ?_
                  refine qs_block_ret ?_
                  refine qs_then_ret ?_
                  refine fin1 (.inr rfl) rfl rfl ?_
                  have hbad : rightB l = false := right_bad hx (fun q => by obtain ⟨q1, q2, q3, q4, q5, q6, q7⟩ := rightI_iff.1 q; first | omega | (rcases q5 with q5 | q5; omega; contradiction) | (unfold lastI at q1; rw [if_neg (by omega), ix_of hxp] at q1; omega))
                  exact ⟨_, rfl, by rw [hbad], hS4.pick [1] rfl⟩
                · skip
                  refine wc_skip ?_
                  refine qs_seq ?_
                  refine wc_seq ?_
                  refine wc_seq ?_
                  have hS12 := hS4.drew
                  refine wc_draw [0, 1, 2, 3, 4, 5, 6, 7, 8, 9, 10, 11, 12] [] mix (by kernel_rfl) ?_
                  refine vc_p rfl rfl rfl (fun _ => (ev_move rfl)) ?_
                  refine vc_p rfl rfl rfl (fun _ => (ev_gtr rfl rfl)) ?_
                  refine vc_p rfl rfl rfl (fun _ => (ev_move rfl)) ?_
                  refine vc_splitD 52 rfl (fun h13 => ?_) (fun h13 => ?_)
                  · skip
                    refine vc_p rfl rfl (guard_yes rfl rfl (decide_eq_true h13)) (fun _ => (Ev.gd (ev_fieldAddr rfl fo_49_0))) ?_
                    refine vc_q rfl rfl (guard_yes rfl rfl (decide_eq_true h13)) (Ev.gd (ev_load rfl ag_3 (by first | assumption | exact hS12.cell 0 rfl rfl))) ?_
                    refine vc_p rfl rfl (guard_yes rfl rfl (decide_eq_true h13)) (fun _ => (Ev.gd (ev_move rfl))) ?_
                    refine vc_p rfl rfl (guard_yes rfl rfl (decide_eq_true h13)) (fun _ => (Ev.gd (ev_move rfl))) ?_
                    refine vc_p rfl rfl (guard_yes rfl rfl (decide_eq_true h13)) (fun _ => (Ev.gd (ev_sub' rfl rfl (by first | omega | (simp; omega)) (by first | omega | (simp; omega))))) ?_
                    refine vc_p rfl rfl (guard_yes rfl rfl (decide_eq_true h13)) (fun _ => (Ev.gd (ev_indexAddr (i - 1) rfl rfl (by first | rfl | omega) (by omega) es_34))) ?_
                    refine vc_p rfl rfl (guard_yes rfl rfl (decide_eq_true h13)) (fun _ => (Ev.gd (ev_fieldAddr rfl fo_49_0))) ?_
                    refine vc_q rfl rfl (guard_yes rfl rfl (decide_eq_true h13)) (Ev.gd (ev_load rfl ag_3 (rdl_at (C := itC) (j := 0) (hL.sat hS12 1 rfl) hxp rfl))) ?_
                    refine vc_p rfl rfl (guard_yes rfl rfl (decide_eq_true h13)) (fun _ => (Ev.gd (ev_lss rfl rfl))) ?_
                    refine vc_p rfl rfl rfl (fun _ => (ev_pickT rfl (decide_eq_true h13) rfl)) ?_
                    refine VC.nil ?_
                    refine qs_seq ?_
                    refine wc_sub (L' := [(62, _), (4, _), (0, _), (3, _)]) (.cons rfl (.cons rfl (.cons rfl (.cons rfl .nil)))) ?_
                    refine wc_condD rfl (fun h14 => ?_) (fun h14 => ?_)
                    · skip
                      refine wc_seq ?_
                      refine wc_region ?_
                      refine wl_assign rfl rfl ?_
                      refine wl_nil ?_
                      refine qs_seq ?_
                      refine wc_ret ?_
                      refine qs_then_ret ?_
                      refine qs_block_ret ?_
                      refine qs_then_ret ?_
                      refine qs_then_ret ?_
                      refine qs_block_ret ?_
                      refine qs_then_ret ?_
                      refine fin1 (.inr rfl) rfl rfl ?_
                      have hbad : rightB l = false := right_bad hx (fun q => by obtain ⟨q1, q2, q3, q4, q5, q6, q7⟩ := rightI_iff.1 q; first | omega | (rcases q5 with q5 | q5; omega; contradiction) | (unfold lastI at q1; rw [if_neg (by omega), ix_of hxp] at q1; omega))
                      exact ⟨_, rfl, by rw [hbad], hS12.pick [1] rfl⟩
                    · skip
                      refine wc_skip ?_
                      refine qs_seq ?_
                      refine wc_seq ?_
                      refine wc_region ?_
                      refine wl_assign rfl rfl ?_
                      refine wl_nil ?_
                      refine qs_seq ?_
                      refine wc_block ?_
                      refine wc_loop (fun K0 E0 W0 => ∃ (k : Nat), K0 = x.t.length - k ∧ E0 = [(0, .slice (some ⟨b, off, none⟩) l.length cap), (3, intV (i : Int)), (4, ptrV bx 0), (5, intV (k : Int))] ∧ Sat W0 [blkT bx (itV x), F] ∧ (k ≤ x.t.length) ∧ (∀ j, j < k → x.t[j]? ≠ some 10)) (L0 := [(0, _), (3, _), (4, _), (5, _)]) (x.t.length - 0) (.cons rfl (.cons rfl (.cons rfl (.cons rfl .nil)))) ⟨0, rfl, rfl, hS12, by omega, by omega⟩ ?_
                      rintro _ _ w15 ⟨k, rfl, rfl, hS15, hk, hlf⟩
                      refine wc_seq ?_
                      refine wc_seq ?_
                      refine wc_region ?_
                      refine wl_move rfl rfl ?_
                      refine wl_fieldAddr rfl fo_49_2 rfl ?_
                      refine wl_load rfl ag_9 (by first | assumption | exact hS15.cell 0 rfl rfl) rfl ?_
                      refine wl_lenS Tryz.underlying9 rfl rfl ?_
                      refine wl_lss rfl rfl rfl ?_
                      refine wl_nil ?_
                      refine qs_seq ?_
                      refine wc_condD rfl (fun h16 => ?_) (fun h16 => ?_)
                      · skip
                        obtain ⟨ck, hck⟩ : ∃ ck, x.t[k]? = some ck := ⟨_, List.getElem?_eq_getElem (by omega)⟩
                        refine wc_skip ?_
                        refine qs_seq ?_
                        refine wc_seq ?_
                        refine wc_block ?_
                        refine wc_seq ?_
                        refine wc_region ?_
                        refine wl_fieldAddr rfl fo_49_2 rfl ?_
                        refine wl_load rfl ag_9 (by first | assumption | exact hS15.cell 0 rfl rfl) rfl ?_
                        refine wl_move rfl rfl ?_
                        refine wl_indexS _ Tryz.underlying9 rfl rfl (by first | rfl | omega) (by first | assumption | rfl) rfl ?_
                        refine wl_eql rfl rfl rfl ?_
                        refine wl_nil ?_
                        refine qs_seq ?_
                        refine wc_sub (L' := [(74, _), (0, _), (3, _), (4, _), (5, _)]) (.cons rfl (.cons rfl (.cons rfl (.cons rfl (.cons rfl .nil))))) ?_
                        refine wc_condD rfl (fun h17 => ?_) (fun h17 => ?_)
                        · skip
                          refine wc_seq ?_
                          refine wc_region ?_
                          refine wl_assign rfl rfl ?_
                          refine wl_nil ?_
                          refine qs_seq ?_
                          refine wc_ret ?_
                          refine qs_block_ret ?_
                          refine qs_then_ret ?_
                          refine qs_then_ret ?_
                          refine qs_block_ret ?_
                          refine qs_block_ret ?_
                          refine qs_then_ret ?_
                          refine qs_then_ret ?_
                          refine qs_block_ret ?_
                          refine qs_then_ret ?_
                          refine fin1 (.inr rfl) rfl rfl ?_
                          have hbad : rightB l = false := right_bad hx (fun q => by obtain ⟨q1, q2, q3, q4, q5, q6, q7⟩ := rightI_iff.1 q; exact q7 (List.mem_of_getElem? (by rw [hck]; congr 1; exact UInt8.toNat_inj.1 (by have h10 : (10 : UInt8).toNat = 10 := rfl; omega))))
                          exact ⟨_, rfl, by rw [hbad], hS15.pick [1] rfl⟩
                        · skip
                          refine wc_skip ?_
                          refine qs_block_normal ?_
                          refine qs_seq ?_
                          refine wc_region ?_
                          refine wl_move rfl rfl ?_
                          refine wl_add rfl rfl (by first | omega | (simp; omega)) (by first | omega | (simp; omega)) rfl ?_
                          refine wl_assign rfl rfl ?_
                          refine wl_nil ?_
                          exact qs_round (L1 := [(0, _), (3, _), (4, _), (5, intV ((k + 1 : Nat) : Int))]) (.cons rfl (.cons rfl (.cons rfl (.cons rfl .nil)))) (k1 := x.t.length - (k + 1)) (by omega) ⟨k + 1, rfl, rfl, hS15.pick [0, 1] rfl, by omega, fun j hj => by by_cases e : j = k; (subst e; rw [hck]; intro z; cases z; exact absurd rfl (by assumption)); exact hlf j (by omega)⟩
                      · skip
                        refine wc_exit ?_
                        refine qs_then_exit ?_
                        refine qs_then_exit ?_
                        refine qs_block_exit ?_
                        refine qs_block_normal ?_
                        refine qs_seq ?_
                        refine wc_region ?_
                        refine wl_move rfl rfl ?_
                        refine wl_add rfl rfl (by first | omega | (simp; omega)) (by first | omega | (simp; omega)) rfl ?_
                        refine wl_assign rfl rfl ?_
                        refine wl_nil ?_
                        have hla : lastI l i 0 ≤ x.a := by unfold lastI; split; omega; (rw [ix_of hxp]; omega)
                        have hri : rightI (lastI l i 0) x = true := rightI_iff.2 ⟨hla, by omega, by omega, by omega, by first | (left; assumption) | (left; omega) | (right; assumption) | (right; exact Decidable.not_not.1 (by assumption)), by omega, fun hm => by obtain ⟨j, hj⟩ := List.mem_iff_getElem?.1 hm; exact hlf j (by have := (List.getElem?_eq_some_iff.1 hj).1; omega) hj⟩
                        exact qs_round (L1 := [(0, _), (3, intV ((i + 1 : Nat) : Int))]) (.cons rfl (.cons rfl .nil)) (k1 := l.length - (i + 1)) (by omega) ⟨i + 1, rfl, rfl, hS15.pick [1] rfl, by omega, fun j y hj hq => by by_cases e : j = i; (subst e; rw [hx] at hq; cases hq; exact hri); exact hok j y (by omega) hq⟩
                  · skip
                    refine vc_not rfl rfl (guard_no rfl rfl (decide_eq_false h13)) ?_
                    refine vc_not rfl rfl (guard_no rfl rfl (decide_eq_false h13)) ?_
                    refine vc_not rfl rfl (guard_no rfl rfl (decide_eq_false h13)) ?_
                    refine vc_not rfl rfl (guard_no rfl rfl (decide_eq_false h13)) ?_
                    refine vc_not rfl rfl (guard_no rfl rfl (decide_eq_false h13)) ?_
                    refine vc_not rfl rfl (guard_no rfl rfl (decide_eq_false h13)) ?_
                    refine vc_not rfl rfl (guard_no rfl rfl (decide_eq_false h13)) ?_
                    refine vc_not rfl rfl (guard_no rfl rfl (decide_eq_false h13)) ?_
                    refine vc_not rfl rfl (guard_no rfl rfl (decide_eq_false h13)) ?_
                    refine vc_p rfl rfl rfl (fun _ => (ev_pickF rfl (decide_eq_false h13) rfl)) ?_
                    refine VC.nil ?_
                    refine qs_seq ?_
                    refine wc_sub (L' := [(62, _), (4, _), (0, _), (3, _)]) (.cons rfl (.cons rfl (.cons rfl (.cons rfl .nil)))) ?_
                    refine wc_condF rfl ?_
                    refine wc_skip ?_
                    refine qs_seq ?_
                    refine wc_seq ?_
                    refine wc_region ?_
                    refine wl_assign rfl rfl ?_
                    refine wl_nil ?_
                    refine qs_seq ?_
                    refine wc_block ?_
                    refine wc_loop (fun K0 E0 W0 => ∃ (k : Nat), K0 = x.t.length - k ∧ E0 = [(0, .slice (some ⟨b, off, none⟩) l.length cap), (3, intV (i : Int)), (4, ptrV bx 0), (5, intV (k : Int))] ∧ Sat W0 [blkT bx (itV x), F] ∧ (k ≤ x.t.length) ∧ (∀ j, j < k → x.t[j]? ≠ some 10)) (L0 := [(0, _), (3, _), (4, _), (5, _)]) (x.t.length - 0) (.cons rfl (.cons rfl (.cons rfl (.cons rfl .nil)))) ⟨0, rfl, rfl, hS12, by omega, by omega⟩ ?_
                    rintro _ _ w18 ⟨k, rfl, rfl, hS18, hk, hlf⟩
                    refine wc_seq ?_
                    refine wc_seq ?_
                    refine wc_region ?_
                    refine wl_move rfl rfl ?_
                    refine wl_fieldAddr rfl fo_49_2 rfl ?_
                    refine wl_load rfl ag_9 (by first | assumption | exact hS18.cell 0 rfl rfl) rfl ?_
                    refine wl_lenS Tryz.underlying9 rfl rfl ?_
                    refine wl_lss rfl rfl rfl ?_
                    refine wl_nil ?_
                    refine qs_seq ?_
                    refine wc_condD rfl (fun h19 => ?_) (fun h19 => ?_)
                    · skip
                      obtain ⟨ck, hck⟩ : ∃ ck, x.t[k]? = some ck := ⟨_, List.getElem?_eq_getElem (by omega)⟩
                      refine wc_skip ?_
                      refine qs_seq ?_
                      refine wc_seq ?_
                      refine wc_block ?_
                      refine wc_seq ?_
                      refine wc_region ?_
                      refine wl_fieldAddr rfl fo_49_2 rfl ?_
                      refine wl_load rfl ag_9 (by first | assumption | exact hS18.cell 0 rfl rfl) rfl ?_
                      refine wl_move rfl rfl ?_
                      refine wl_indexS _ Tryz.underlying9 rfl rfl (by first | rfl | omega) (by first | assumption | rfl) rfl ?_
                      refine wl_eql rfl rfl rfl ?_
                      refine wl_nil ?_
                      refine qs_seq ?_
                      refine wc_sub (L' := [(74, _), (0, _), (3, _), (4, _), (5, _)]) (.cons rfl (.cons rfl (.cons rfl (.cons rfl (.cons rfl .nil))))) ?_
                      refine wc_condD rfl (fun h20 => ?_) (fun h20 => ?_)
                      · skip
                        refine wc_seq ?_
                        refine wc_region ?_
                        refine wl_assign rfl rfl ?_
                        refine wl_nil ?_
                        refine qs_seq ?_
                        refine wc_ret ?_
                        refine qs_block_ret ?_
                        refine qs_then_ret ?_
                        refine qs_then_ret ?_
                        refine qs_block_ret ?_
                        refine qs_block_ret ?_
                        refine qs_then_ret ?_
                        refine qs_then_ret ?_
                        refine qs_block_ret ?_
                        refine qs_then_ret ?_
                        refine fin1 (.inr rfl) rfl rfl ?_
                        have hbad : rightB l = false := right_bad hx (fun q => by obtain ⟨q1, q2, q3, q4, q5, q6, q7⟩ := rightI_iff.1 q; exact q7 (List.mem_of_getElem? (by rw [hck]; congr 1; exact UInt8.toNat_inj.1 (by have h10 : (10 : UInt8).toNat = 10 := rfl; omega))))
                        exact ⟨_, rfl, by rw [hbad], hS18.pick [1] rfl⟩
                      · skip
                        refine wc_skip ?_
                        refine qs_block_normal ?_
                        refine qs_seq ?_
                        refine wc_region ?_
                        refine wl_move rfl rfl ?_
                        refine wl_add rfl rfl (by first | omega | (simp; omega)) (by first | omega | (simp; omega)) rfl ?_
                        refine wl_assign rfl rfl ?_
                        refine wl_nil ?_
                        exact qs_round (L1 := [(0, _), (3, _), (4, _), (5, intV ((k + 1 : Nat) : Int))]) (.cons rfl (.cons rfl (.cons rfl (.cons rfl .nil)))) (k1 := x.t.length - (k + 1)) (by omega) ⟨k + 1, rfl, rfl, hS18.pick [0, 1] rfl, by omega, fun j hj => by by_cases e : j = k; (subst e; rw [hck]; intro z; cases z; exact absurd rfl (by assumption)); exact hlf j (by omega)⟩
                    · skip
                      refine wc_exit ?_
                      refine qs_then_exit ?_
                      refine qs_then_exit ?_
                      refine qs_block_exit ?_
                      refine qs_block_normal ?_
                      refine qs_seq ?_
                      refine wc_region ?_
                      refine wl_move rfl rfl ?_
                      refine wl_add rfl rfl (by first | omega | (simp; omega)) (by first | omega | (simp; omega)) rfl ?_
                      refine wl_assign rfl rfl ?_
                      refine wl_nil ?_
                      have hla : lastI l i 0 ≤ x.a := by unfold lastI; split; omega; (rw [ix_of hxp]; omega)
                      have hri : rightI (lastI l i 0) x = true := rightI_iff.2 ⟨hla, by omega, by omega, by omega, by first | (left; assumption) | (left; omega) | (right; assumption) | (right; exact Decidable.not_not.1 (by assumption)), by omega, fun hm => by obtain ⟨j, hj⟩ := List.mem_iff_getElem?.1 hm; exact hlf j (by have := (List.getElem?_eq_some_iff.1 hj).1; omega) hj⟩
                      exact qs_round (L1 := [(0, _), (3, intV ((i + 1 : Nat) : Int))]) (.cons rfl (.cons rfl .nil)) (k1 := l.length - (i + 1)) (by omega) ⟨i + 1, rfl, rfl, hS18.pick [1] rfl, by omega, fun j y hj hq => by by_cases e : j = i; (subst e; rw [hx] at hq; cases hq; exact hri); exact hok j y (by omega) hq⟩
              · skip
                refine wl_unwanted rfl rfl (decide_eq_false h10) rfl ?_
                refine wl_unwanted rfl rfl (decide_eq_false h10) rfl ?_
                refine wl_unwanted rfl rfl (decide_eq_false h10) rfl ?_
                refine wl_guard rfl rfl (decide_eq_false h9) ?_
                refine wl_pickF rfl (decide_eq_false h10) rfl rfl ?_
                refine wl_pickF rfl (decide_eq_false h9) rfl rfl ?_
                refine wl_nil ?_
                refine qs_seq ?_
                refine wc_sub (L' := [(49, _), (4, _), (0, _), (3, _)]) (.cons rfl (.cons rfl (.cons rfl (.cons rfl .nil)))) ?_
                refine wc_condF rfl ?_
                refine wc_skip ?_
                refine qs_seq ?_
                refine wc_seq ?_
                refine wc_seq ?_
                have hS21 := hS4.drew
                refine wc_draw [0, 1, 2, 3, 4, 5, 6, 7, 8, 9, 10, 11, 12] [] mix (by kernel_rfl) ?_
                refine vc_p rfl rfl rfl (fun _ => (ev_move rfl)) ?_
                refine vc_p rfl rfl rfl (fun _ => (ev_gtr rfl rfl)) ?_
                refine vc_p rfl rfl rfl (fun _ => (ev_move rfl)) ?_
                refine vc_splitD 52 rfl (fun h22 => ?_) (fun h22 => ?_)
                · skip
                  refine vc_p rfl rfl (guard_yes rfl rfl (decide_eq_true h22)) (fun _ => (Ev.gd (ev_fieldAddr rfl fo_49_0))) ?_
                  refine vc_q rfl rfl (guard_yes rfl rfl (decide_eq_true h22)) (Ev.gd (ev_load rfl ag_3 (by first | assumption | exact hS21.cell 0 rfl rfl))) ?_
                  refine vc_p rfl rfl (guard_yes rfl rfl (decide_eq_true h22)) (fun _ => (Ev.gd (ev_move rfl))) ?_
                  refine vc_p rfl rfl (guard_yes rfl rfl (decide_eq_true h22)) (fun _ => (Ev.gd (ev_move rfl))) ?_
                  refine vc_p rfl rfl (guard_yes rfl rfl (decide_eq_true h22)) (fun _ => (Ev.gd (ev_sub' rfl rfl (by first | omega | (simp; omega)) (by first | omega | (simp; omega))))) ?_
                  refine vc_p rfl rfl (guard_yes rfl rfl (decide_eq_true h22)) (fun _ => (Ev.gd (ev_indexAddr (i - 1) rfl rfl (by first | rfl | omega) (by omega) es_34))) ?_
                  refine vc_p rfl rfl (guard_yes rfl rfl (decide_eq_true h22)) (fun _ => (Ev.gd (ev_fieldAddr rfl fo_49_0))) ?_
                  refine vc_q rfl rfl (guard_yes rfl rfl (decide_eq_true h22)) (Ev.gd (ev_load rfl ag_3 (rdl_at (C := itC) (j := 0) (hL.sat hS21 1 rfl) hxp rfl))) ?_
                  refine vc_p rfl rfl (guard_yes rfl rfl (decide_eq_true h22)) (fun _ => (Ev.gd (ev_lss rfl rfl))) ?_
                  refine vc_p rfl rfl rfl (fun _ => (ev_pickT rfl (decide_eq_true h22) rfl)) ?_
                  refine VC.nil ?_
                  refine qs_seq ?_
                  refine wc_sub (L' := [(62, _), (4, _), (0, _), (3, _)]) (.cons rfl (.cons rfl (.cons rfl (.cons rfl .nil)))) ?_
                  refine wc_condD rfl (fun h23 => ?_) (fun h23 => ?_)
                  · skip
                    refine wc_seq ?_
                    refine wc_region ?_
                    refine wl_assign rfl rfl ?_
                    refine wl_nil ?_
                    refine qs_seq ?_
                    refine wc_ret ?_
                    refine qs_then_ret ?_
                    refine qs_block_ret ?_
                    refine qs_then_ret ?_
                    refine qs_then_ret ?_
                    refine qs_block_ret ?_
                    refine qs_then_ret ?_
                    refine fin1 (.inr rfl) rfl rfl ?_
                    have hbad : rightB l = false := right_bad hx (fun q => by obtain ⟨q1, q2, q3, q4, q5, q6, q7⟩ := rightI_iff.1 q; first | omega | (rcases q5 with q5 | q5; omega; contradiction) | (unfold lastI at q1; rw [if_neg (by omega), ix_of hxp] at q1; omega))
                    exact ⟨_, rfl, by rw [hbad], hS21.pick [1] rfl⟩
                  · skip
                    refine wc_skip ?_
                    refine qs_seq ?_
                    refine wc_seq ?_
                    refine wc_region ?_
                    refine wl_assign rfl rfl ?_
                    refine wl_nil ?_
                    refine qs_seq ?_
                    refine wc_block ?_
                    refine wc_loop (fun K0 E0 W0 => ∃ (k : Nat), K0 = x.t.length - k ∧ E0 = [(0, .slice (some ⟨b, off, none⟩) l.length cap), (3, intV (i : Int)), (4, ptrV bx 0), (5, intV (k : Int))] ∧ Sat W0 [blkT bx (itV x), F] ∧ (k ≤ x.t.length) ∧ (∀ j, j < k → x.t[j]? ≠ some 10)) (L0 := [(0, _), (3, _), (4, _), (5, _)]) (x.t.length - 0) (.cons rfl (.cons rfl (.cons rfl (.cons rfl .nil)))) ⟨0, rfl, rfl, hS21, by omega, by omega⟩ ?_
                    rintro _ _ w24 ⟨k, rfl, rfl, hS24, hk, hlf⟩
                    refine wc_seq ?_
                    refine wc_seq ?_
                    refine wc_region ?_
                    refine wl_move rfl rfl ?_
                    refine wl_fieldAddr rfl fo_49_2 rfl ?_
                    refine wl_load rfl ag_9 (by first | assumption | exact hS24.cell 0 rfl rfl) rfl ?_
                    refine wl_lenS Tryz.underlying9 rfl rfl ?_
                    refine wl_lss rfl rfl rfl ?_
                    refine wl_nil ?_
                    refine qs_seq ?_
                    refine wc_condD rfl (fun h25 => ?_) (fun h25 => ?_)
                    · skip
                      obtain ⟨ck, hck⟩ : ∃ ck, x.t[k]? = some ck := ⟨_, List.getElem?_eq_getElem (by omega)⟩
                      refine wc_skip ?_
                      refine qs_seq ?_
                      refine wc_seq ?_
                      refine wc_block ?_
                      refine wc_seq ?_
                      refine wc_region ?_
                      refine wl_fieldAddr rfl fo_49_2 rfl ?_
                      refine wl_load rfl ag_9 (by first | assumption | exact hS24.cell 0 rfl rfl) rfl ?_
                      refine wl_move rfl rfl ?_
                      refine wl_indexS _ Tryz.underlying9 rfl rfl (by first | rfl | omega) (by first | assumption | rfl) rfl ?_
                      refine wl_eql rfl rfl rfl ?_
                      refine wl_nil ?_
                      refine qs_seq ?_
                      refine wc_sub (L' := [(74, _), (0, _), (3, _), (4, _), (5, _)]) (.cons rfl (.cons rfl (.cons rfl (.cons rfl (.cons rfl .nil))))) ?_
                      refine wc_condD rfl (fun h26 => ?_) (fun h26 => ?_)
                      · skip
                        refine wc_seq ?_
                        refine wc_region ?_
                        refine wl_assign rfl rfl ?_
                        refine wl_nil ?_
                        refine qs_seq ?_
                        refine wc_ret ?_
                        refine qs_block_ret ?_
                        refine qs_then_ret ?_
                        refine qs_then_ret ?_
                        refine qs_block_ret ?_
                        refine qs_block_ret ?_
                        refine qs_then_ret ?_
                        refine qs_then_ret ?_
                        refine qs_block_ret ?_
                        refine qs_then_ret ?_
                        refine fin1 (.inr rfl) rfl rfl ?_
                        have hbad : rightB l = false := right_bad hx (fun q => by obtain ⟨q1, q2, q3, q4, q5, q6, q7⟩ := rightI_iff.1 q; exact q7 (List.mem_of_getElem? (by rw [hck]; congr 1; exact UInt8.toNat_inj.1 (by have h10 : (10 : UInt8).toNat = 10 := rfl; omega))))
                        exact ⟨_, rfl, by rw [hbad], hS24.pick [1] rfl⟩
                      · skip
                        refine wc_skip ?_
                        refine qs_block_normal ?_
                        refine qs_seq ?_
                        refine wc_region ?_
                        refine wl_move rfl rfl ?_
                        refine wl_add rfl rfl (by first | omega | (simp; omega)) (by first | omega | (simp; omega)) rfl ?_
                        refine wl_assign rfl rfl ?_
                        refine wl_nil ?_
                        exact qs_round (L1 := [(0, _), (3, _), (4, _), (5, intV ((k + 1 : Nat) : Int))]) (.cons rfl (.cons rfl (.cons rfl (.cons rfl .nil)))) (k1 := x.t.length - (k + 1)) (by omega) ⟨k + 1, rfl, rfl, hS24.pick [0, 1] rfl, by omega, fun j hj => by by_cases e : j = k; (subst e; rw [hck]; intro z; cases z; exact absurd rfl (by assumption)); exact hlf j (by omega)⟩
                    · skip
                      refine wc_exit ?_
                      refine qs_then_exit ?_
                      refine qs_then_exit ?_
                      refine qs_block_exit ?_
                      refine qs_block_normal ?_
                      refine qs_seq ?_
                      refine wc_region ?_
                      refine wl_move rfl rfl ?_
                      refine wl_add rfl rfl (by first | omega | (simp; omega)) (by first | omega | (simp; omega)) rfl ?_
                      refine wl_assign rfl rfl ?_
                      refine wl_nil ?_
                      have hla : lastI l i 0 ≤ x.a := by unfold lastI; split; omega; (rw [ix_of hxp]; omega)
                      have hri : rightI (lastI l i 0) x = true := rightI_iff.2 ⟨hla, by omega, by omega, by omega, by first | (left; assumption) | (left; omega) | (right; assumption) | (right; exact Decidable.not_not.1 (by assumption)), by omega, fun hm => by obtain ⟨j, hj⟩ := List.mem_iff_getElem?.1 hm; exact hlf j (by have := (List.getElem?_eq_some_iff.1 hj).1; omega) hj⟩
                      exact qs_round (L1 := [(0, _), (3, intV ((i + 1 : Nat) : Int))]) (.cons rfl (.cons rfl .nil)) (k1 := l.length - (i + 1)) (by omega) ⟨i + 1, rfl, rfl, hS24.pick [1] rfl, by omega, fun j y hj hq => by by_cases e : j = i; (subst e; rw [hx] at hq; cases hq; exact hri); exact hok j y (by omega) hq⟩
                · skip
                  refine vc_not rfl rfl (guard_no rfl rfl (decide_eq_false h22)) ?_
                  refine vc_not rfl rfl (guard_no rfl rfl (decide_eq_false h22)) ?_
                  refine vc_not rfl rfl (guard_no rfl rfl (decide_eq_false h22)) ?_
                  refine vc_not rfl rfl (guard_no rfl rfl (decide_eq_false h22)) ?_
                  refine vc_not rfl rfl (guard_no rfl rfl (decide_eq_false h22)) ?_
                  refine vc_not rfl rfl (guard_no rfl rfl (decide_eq_false h22)) ?_
                  refine vc_not rfl rfl (guard_no rfl rfl (decide_eq_false h22)) ?_
                  refine vc_not rfl rfl (guard_no rfl rfl (decide_eq_false h22)) ?_
                  refine vc_not rfl rfl (guard_no rfl rfl (decide_eq_false h22)) ?_
                  refine vc_p rfl rfl rfl (fun _ => (ev_pickF rfl (decide_eq_false h22) rfl)) ?_
                  refine VC.nil ?_
                  refine qs_seq ?_
                  refine wc_sub (L' := [(62, _), (4, _), (0, _), (3, _)]) (.cons rfl (.cons rfl (.cons rfl (.cons rfl .nil)))) ?_
                  refine wc_condF rfl ?_
                  refine wc_skip ?_
                  refine qs_seq ?_
                  refine wc_seq ?_
                  refine wc_region ?_
                  refine wl_assign rfl rfl ?_
                  refine wl_nil ?_
                  refine qs_seq ?_
                  refine wc_block ?_
                  refine wc_loop (fun K0 E0 W0 => ∃ (k : Nat), K0 = x.t.length - k ∧ E0 = [(0, .slice (some ⟨b, off, none⟩) l.length cap), (3, intV (i : Int)), (4, ptrV bx 0), (5, intV (k : Int))] ∧ Sat W0 [blkT bx (itV x), F] ∧ (k ≤ x.t.length) ∧ (∀ j, j < k → x.t[j]? ≠ some 10)) (L0 := [(0, _), (3, _), (4, _), (5, _)]) (x.t.length - 0) (.cons rfl (.cons rfl (.cons rfl (.cons rfl .nil)))) ⟨0, rfl, rfl, hS21, by omega, by omega⟩ ?_
                  rintro _ _ w27 ⟨k, rfl, rfl, hS27, hk, hlf⟩
                  refine wc_seq ?_
                  refine wc_seq ?_
                  refine wc_region ?_
                  refine wl_move rfl rfl ?_
                  refine wl_fieldAddr rfl fo_49_2 rfl ?_
                  refine wl_load rfl ag_9 (by first | assumption | exact hS27.cell 0 rfl rfl) rfl ?_
                  refine wl_lenS Tryz.underlying9 rfl rfl ?_
                  refine wl_lss rfl rfl rfl ?_
                  refine wl_nil ?_
                  refine qs_seq ?_
                  refine wc_condD rfl (fun h28 => ?_) (fun h28 => ?_)
                  · skip
                    obtain ⟨ck, hck⟩ : ∃ ck, x.t[k]? = some ck := ⟨_, List.getElem?_eq_getElem (by omega)⟩
                    refine wc_skip ?_
                    refine qs_seq ?_
                    refine wc_seq ?_
                    refine wc_block ?_
                    refine wc_seq ?_
                    refine wc_region ?_
                    refine wl_fieldAddr rfl fo_49_2 rfl ?_
                    refine wl_load rfl ag_9 (by first | assumption | exact hS27.cell 0 rfl rfl) rfl ?_
                    refine wl_move rfl rfl ?_
                    refine wl_indexS _ Tryz.underlying9 rfl rfl (by first | rfl | omega) (by first | assumption | rfl) rfl ?_
                    refine wl_eql rfl rfl rfl ?_
                    refine wl_nil ?_
                    refine qs_seq ?_
                    refine wc_sub (L' := [(74, _), (0, _), (3, _), (4, _), (5, _)]) (.cons rfl (.cons rfl (.cons rfl (.cons rfl (.cons rfl .nil))))) ?_
                    refine wc_condD rfl (fun h29 => ?_) (fun h29 => ?_)
                    · skip
                      refine wc_seq ?_
                      refine wc_region ?_
                      refine wl_assign rfl rfl ?_
                      refine wl_nil ?_
                      refine qs_seq ?_
                      refine wc_ret ?_
                      refine qs_block_ret ?_
                      refine qs_then_ret ?_
                      refine qs_then_ret ?_
                      refine qs_block_ret ?_
                      refine qs_block_ret ?_
                      refine qs_then_ret ?_
                      refine qs_then_ret ?_
                      refine qs_block_ret ?_
                      refine qs_then_ret ?_
                      refine fin1 (.inr rfl) rfl rfl ?_
                      have hbad : rightB l = false := right_bad hx (fun q => by obtain ⟨q1, q2, q3, q4, q5, q6, q7⟩ := rightI_iff.1 q; exact q7 (List.mem_of_getElem? (by rw [hck]; congr 1; exact UInt8.toNat_inj.1 (by have h10 : (10 : UInt8).toNat = 10 := rfl; omega))))
                      exact ⟨_, rfl, by rw [hbad], hS27.pick [1] rfl⟩
                    · skip
                      refine wc_skip ?_
                      refine qs_block_normal ?_
                      refine qs_seq ?_
                      refine wc_region ?_
                      refine wl_move rfl rfl ?_
                      refine wl_add rfl rfl (by first | omega | (simp; omega)) (by first | omega | (simp; omega)) rfl ?_
                      refine wl_assign rfl rfl ?_
                      refine wl_nil ?_
                      exact qs_round (L1 := [(0, _), (3, _), (4, _), (5, intV ((k + 1 : Nat) : Int))]) (.cons rfl (.cons rfl (.cons rfl (.cons rfl .nil)))) (k1 := x.t.length - (k + 1)) (by omega) ⟨k + 1, rfl, rfl, hS27.pick [0, 1] rfl, by omega, fun j hj => by by_cases e : j = k; (subst e; rw [hck]; intro z; cases z; exact absurd rfl (by assumption)); exact hlf j (by omega)⟩
                  · skip
                    refine wc_exit ?_
                    refine qs_then_exit ?_
                    refine qs_then_exit ?_
                    refine qs_block_exit ?_
                    refine qs_block_normal ?_
                    refine qs_seq ?_
                    refine wc_region ?_
                    refine wl_move rfl rfl ?_
                    refine wl_add rfl rfl (by first | omega | (simp; omega)) (by first | omega | (simp; omega)) rfl ?_
                    refine wl_assign rfl rfl ?_
                    refine wl_nil ?_
                    have hla : lastI l i 0 ≤ x.a := by unfold lastI; split; omega; (rw [ix_of hxp]; omega)
                    have hri : rightI (lastI l i 0) x = true := rightI_iff.2 ⟨hla, by omega, by omega, by omega, by first | (left; assumption) | (left; omega) | (right; assumption) | (right; exact Decidable.not_not.1 (by assumption)), by omega, fun hm => by obtain ⟨j, hj⟩ := List.mem_iff_getElem?.1 hm; exact hlf j (by have := (List.getElem?_eq_some_iff.1 hj).1; omega) hj⟩
                    exact qs_round (L1 := [(0, _), (3, intV ((i + 1 : Nat) : Int))]) (.cons rfl (.cons rfl .nil)) (k1 := l.length - (i + 1)) (by omega) ⟨i + 1, rfl, rfl, hS27.pick [1] rfl, by omega, fun j y hj hq => by by_cases e : j = i; (subst e; rw [hx] at hq; cases hq; exact hri); exact hok j y (by omega) hq⟩
  · skip
    refine wc_exit ?_
    refine qs_then_exit ?_
    refine qs_then_exit ?_
    refine qs_block_exit ?_
    refine qs_seq ?_
    refine wc_seq ?_
    refine wc_region ?_
    refine wl_move rfl rfl ?_
    refine wl_lenL Tryz.underlying34 rfl rfl ?_
    refine wl_leq rfl rfl rfl ?_
    refine wl_assign rfl rfl ?_
    refine wl_nil ?_
    refine qs_seq ?_
    refine wc_ret ?_
    refine fin1 (.inr rfl) rfl rfl ?_
    exact ⟨_, rfl, by rw [right_end hok (by omega)], hS1.pick [0] rfl⟩

theorem r1NumS_sp {w : World} {F : Th} (hS : Sat w [F]) (n : Int) (hn : inI n) (h0 : 0 ≤ n) :
    Calls Tryz.prog 75 #[intV n] w (Ret fun v w' => v = strV (encN n) ∧ Sat w' [F]) := by
  refine calls_enter Tryz.func75 rfl Tryz.ntmps75 rfl ?_
  refine wc_seq ?_
  refine wc_region ?_
  refine wl_assign rfl rfl ?_
  refine wl_nil ?_
  refine qs_seq ?_
  refine wc_seq ?_
  refine wc_seq ?_
  refine wc_region ?_
  refine wl_move rfl rfl ?_
  refine wl_lss rfl rfl rfl ?_
  refine wl_nil ?_
  refine qs_seq ?_
  refine wc_condD rfl (fun h1 => ?_) (fun h1 => ?_)
  · skip
    exact absurd h1 (by omega)
  · skip
    refine wc_skip ?_
    refine qs_seq ?_
    refine wc_seq ?_
    refine wc_region ?_
    refine wl_move rfl rfl ?_
    have hC2 := hS.split [] [false] rfl; dsimp only [selF, pickA, nthA, List.cons_append, List.nil_append] at hC2
    refine wl_call cal_62 rfl (r1Int_sp hC2 n hn) rfl ?_
    rintro e w2 ⟨_, rfl, rfl, hS2⟩; refine ⟨_, rfl, ?_⟩
    replace hS2 := hS2.join rfl; dsimp only [List.dropLast, List.cons_append, List.nil_append] at hS2; clear hC2
    refine wl_assign rfl rfl ?_
    refine wl_nil ?_
    refine qs_seq ?_
    refine wc_ret ?_
    refine fin1 (.inr rfl) rfl rfl ?_
    exact ⟨_, rfl, rfl, hS2⟩

theorem r1RNum_sp {w : World} {F : Th} {b : Nat} {s : Bs × Bool} (hS : Sat w [readT b s, F]) (hrl : s.1.length ≤ 9223372036854775806) :
    Calls Tryz.prog 49 #[ptrV b 0] w (Ret fun v w' => v = intV (numV 59 0 s) ∧ Sat w' [readT b (numR 59 0 s), F]) := by
  refine calls_enter Tryz.func49 rfl Tryz.ntmps49 rfl ?_
  refine wc_seq ?_
  refine wc_region ?_
  refine wl_assign rfl rfl ?_
  refine wl_nil ?_
  refine qs_seq ?_
  refine wc_seq ?_
  refine wc_region ?_
  refine wl_move rfl rfl ?_
  have hC1 := hS.split [0] [true, false] rfl; dsimp only [selF, pickA, nthA, List.cons_append, List.nil_append] at hC1
  refine wl_call cal_71 rfl (r1Num_sp hC1 59 (by decide) hrl) rfl ?_
  rintro e w1 ⟨_, rfl, rfl, hS1⟩; refine ⟨_, rfl, ?_⟩
  replace hS1 := hS1.join rfl; dsimp only [List.dropLast, List.cons_append, List.nil_append] at hS1; clear hC1
  refine wl_assign rfl rfl ?_
  refine wl_nil ?_
  refine qs_seq ?_
  refine wc_ret ?_
  refine fin1 (.inr rfl) rfl rfl ?_
  exact ⟨_, rfl, rfl, hS1⟩

theorem enc3 {l : List ItemD} {i : Nat} {x : ItemD} (hx : l[i]? = some x) (z : Bs) : z ++ (l.take (i + 1)).flatMap encX = z ++ (l.take i).flatMap encX ++ encN x.a ++ encN x.k ++ encT x.t := by
  rw [encs_succ hx]; simp [encX, List.append_assoc]
set_option maxRecDepth 100000 in
theorem qBytes_sp {w : World} {F : Th} (hS : Sat w [F]) {lv : Value} {l : List ItemD} (hL : Ent F (RdL itC lv l)) (hln : l.length ≤ 1000) (hok : ∀ x ∈ l, OkIt x) :
    Calls Tryz.prog 52 #[lv] w (Ret fun v w' => v = strV (encL l) ∧ Sat w' [F]) := by
  obtain ⟨ao, cap, rfl, hmax⟩ := (hL.sat hS 0 rfl).shape
  refine calls_enter Tryz.func52 rfl Tryz.ntmps52 rfl ?_
  have hnl := encN_len (n := (l.length : Int)) (by unfold inI; omega)
  refine wc_seq ?_
  refine wc_region ?_
  refine wl_assign rfl rfl ?_
  refine wl_nil ?_
  refine qs_seq ?_
  refine wc_seq ?_
  refine wc_region ?_
  refine wl_move rfl rfl ?_
  refine wl_lenL Tryz.underlying34 rfl rfl ?_
  have hC1 := hS.split [] [false] rfl; dsimp only [selF, pickA, nthA, List.cons_append, List.nil_append] at hC1
  refine wl_call cal_75 rfl (r1NumS_sp hC1 (l.length : Int) (by unfold inI; omega) (by omega)) rfl ?_
  rintro e w1 ⟨_, rfl, rfl, hS1⟩; refine ⟨_, rfl, ?_⟩
  replace hS1 := hS1.join rfl; dsimp only [List.dropLast, List.cons_append, List.nil_append] at hS1; clear hC1
  refine wl_assign rfl rfl ?_
  refine wl_nil ?_
  refine qs_seq ?_
  refine wc_seq ?_
  refine wc_seq ?_
  refine wc_region ?_
  refine wl_assign rfl rfl ?_
  refine wl_nil ?_
  refine qs_seq ?_
  refine wc_block ?_
  refine wc_loop (fun K0 E0 W0 => ∃ (i : Nat), K0 = l.length - i ∧ E0 = [(0, .slice ao l.length cap), (3, strV (encN (l.length : Int) ++ (l.take i).flatMap encX)), (4, intV (i : Int))] ∧ Sat W0 [F] ∧ (i ≤ l.length) ∧ (((l.take i).flatMap encX).length ≤ 1000200 * i)) (L0 := [(0, _), (3, _), (4, _)]) (l.length - 0) (.cons rfl (.cons rfl (.cons rfl .nil))) ⟨0, rfl, by rw [List.take_zero, List.flatMap_nil, List.append_nil]; rfl, hS1, by omega, by simp⟩ ?_
  rintro _ _ w2 ⟨i, rfl, rfl, hS2, hi, hbl⟩
  have hel : (encN (l.length : Int) ++ (l.take i).flatMap encX).length = (encN (l.length : Int)).length + ((l.take i).flatMap encX).length := List.length_append
  refine wc_seq ?_
  refine wc_seq ?_
  refine wc_region ?_
  refine wl_move rfl rfl ?_
  refine wl_move rfl rfl ?_
  refine wl_lenL Tryz.underlying34 rfl rfl ?_
  refine wl_lss rfl rfl rfl ?_
  refine wl_nil ?_
  refine qs_seq ?_
  refine wc_condD rfl (fun h3 => ?_) (fun h3 => ?_)
  · skip
    obtain ⟨x, hx⟩ : ∃ x, l[i]? = some x := ⟨_, List.getElem?_eq_getElem (by omega)⟩
    obtain ⟨b, off, rfl, hc⟩ := (hL.sat hS2 0 rfl).get hx
    obtain ⟨xp, hxp⟩ : ∃ xp, l[i - 1]? = some xp := ⟨_, List.getElem?_eq_getElem (by omega)⟩
    have hox := hok x (List.mem_of_getElem? hx)
    have hxl := encX_len hox
    have hx2 : (encX x).length = (encN x.a).length + (encN x.k).length + (encT x.t).length := by simp [encX, List.length_append]; omega
    have htl := encT_len1 hox.2.2
    have hox2 := hox.2.2
    refine wc_skip ?_
    refine qs_seq ?_
    refine wc_seq ?_
    refine wc_block ?_
    have hS4 := hS2.drew
    refine wc_draw [0, 1, 2, 3, 4, 5, 8, 9, 10, 11, 12, 15, 16, 17, 18, 19, 6, 7, 13, 14, 20, 21, 22] [6, 13, 20] mix (by kernel_rfl) ?_
    refine vc_p rfl rfl rfl (fun _ => (ev_move rfl)) ?_
    refine vc_p rfl rfl rfl (fun _ => (ev_move rfl)) ?_
    refine vc_p rfl rfl rfl (fun _ => (ev_move rfl)) ?_
    refine vc_p rfl rfl rfl (fun _ => (ev_indexAddr i rfl rfl (by first | rfl | omega) (by omega) es_34)) ?_
    refine vc_p rfl rfl rfl (fun _ => (ev_fieldAddr rfl fo_49_0)) ?_
    refine vc_q rfl rfl rfl (ev_load rfl ag_3 (rdl_at (C := itC) (j := 0) (hL.sat hS4 0 rfl) hx rfl)) ?_
    refine vc_p rfl rfl rfl (fun _ => (ev_move rfl)) ?_
    refine vc_p rfl rfl rfl (fun _ => (ev_move rfl)) ?_
    refine vc_p rfl rfl rfl (fun _ => (ev_indexAddr i rfl rfl (by first | rfl | omega) (by omega) es_34)) ?_
    refine vc_p rfl rfl rfl (fun _ => (ev_fieldAddr rfl fo_49_1)) ?_
    refine vc_q rfl rfl rfl (ev_load rfl ag_3 (rdl_at (C := itC) (j := 1) (hL.sat hS4 0 rfl) hx rfl)) ?_
    refine vc_p rfl rfl rfl (fun _ => (ev_move rfl)) ?_
    refine vc_p rfl rfl rfl (fun _ => (ev_move rfl)) ?_
    refine vc_p rfl rfl rfl (fun _ => (ev_indexAddr i rfl rfl (by first | rfl | omega) (by omega) es_34)) ?_
    refine vc_p rfl rfl rfl (fun _ => (ev_fieldAddr rfl fo_49_2)) ?_
    refine vc_q rfl rfl rfl (ev_load rfl ag_9 (rdl_at (C := itC) (j := 2) (hL.sat hS4 0 rfl) hx rfl)) ?_
    refine vc_s rfl rfl rfl rfl rfl rfl ?_
    have hC5 := hS4.split [] [false] rfl; dsimp only [selF, pickA, nthA, List.cons_append, List.nil_append] at hC5
    refine wl_call cal_62 rfl (r1Int_sp hC5 x.a hox.1) rfl ?_
    rintro e w5 ⟨_, rfl, rfl, hS5⟩; refine ⟨_, rfl, ?_⟩
    replace hS5 := hS5.join rfl; dsimp only [List.dropLast, List.cons_append, List.nil_append] at hS5; clear hC5
    clear hS4
    have hil1 := encN_len hox.1
    rw [show Lib.itoa x.a ++ [59] = encN x.a from rfl]
    refine vc_e (.cons (.inl ⟨rfl, (ev_load rfl ag_9 (rdl_at (C := itC) (j := 2) (hL.sat hS5 0 rfl) hx rfl))⟩) (.cons (.inl ⟨rfl, (ev_load rfl ag_3 (rdl_at (C := itC) (j := 1) (hL.sat hS5 0 rfl) hx rfl))⟩) (.skip (by kernel_rfl) .nil))) ?_
    refine vc_p rfl rfl rfl (fun _ => (ev_concat rfl rfl (by first | omega | (simp only [List.length_append]; omega)))) ?_
    refine vc_s rfl rfl rfl rfl rfl rfl ?_
    have hC6 := hS5.split [] [false] rfl; dsimp only [selF, pickA, nthA, List.cons_append, List.nil_append] at hC6
    refine wl_call cal_62 rfl (r1Int_sp hC6 x.k hox.2.1) rfl ?_
    rintro e w6 ⟨_, rfl, rfl, hS6⟩; refine ⟨_, rfl, ?_⟩
    replace hS6 := hS6.join rfl; dsimp only [List.dropLast, List.cons_append, List.nil_append] at hS6; clear hC6
    clear hS5
    have hil2 := encN_len hox.2.1
    rw [show Lib.itoa x.k ++ [59] = encN x.k from rfl]
    refine vc_e (.cons (.inl ⟨rfl, (ev_load rfl ag_9 (rdl_at (C := itC) (j := 2) (hL.sat hS6 0 rfl) hx rfl))⟩) (.skip (by kernel_rfl) (.skip (by kernel_rfl) .nil))) ?_
    refine vc_p rfl rfl rfl (fun _ => (ev_concat rfl rfl (by first | omega | (simp only [List.length_append]; omega)))) ?_
    refine vc_s rfl rfl rfl rfl rfl rfl ?_
    have hC7 := hS6.split [] [false] rfl; dsimp only [selF, pickA, nthA, List.cons_append, List.nil_append] at hC7
    refine wl_call cal_76 rfl (r1Text_sp hC7 x.t hox.2.2) rfl ?_
    rintro e w7 ⟨_, rfl, rfl, hS7⟩; refine ⟨_, rfl, ?_⟩
    replace hS7 := hS7.join rfl; dsimp only [List.dropLast, List.cons_append, List.nil_append] at hS7; clear hC7
    clear hS6
    refine vc_e (.skip (by kernel_rfl) (.skip (by kernel_rfl) (.skip (by kernel_rfl) .nil))) ?_
    refine vc_p rfl rfl rfl (fun _ => (ev_concat rfl rfl (by first | omega | (simp only [List.length_append]; omega)))) ?_
    refine vc_p rfl rfl rfl (fun _ => (ev_assign rfl)) ?_
    refine VC.nil ?_
    refine qs_block_normal ?_
    refine qs_seq ?_
    refine wc_sub (L' := [(3, _), (0, _), (4, _)]) (.cons rfl (.cons rfl (.cons rfl .nil))) ?_
    refine wc_region ?_
    refine wl_move rfl rfl ?_
    refine wl_add rfl rfl (by first | omega | (simp only [List.length_append]; omega)) (by first | omega | (simp only [List.length_append]; omega)) rfl ?_
    refine wl_assign rfl rfl ?_
    refine wl_nil ?_
    have e3 := enc3 hx (encN (l.length : Int))
    have e4 := congrArg List.length e3
    simp only [List.length_append] at e4
    exact qs_round (L1 := [(0, _), (3, _), (4, intV ((i + 1 : Nat) : Int))]) (.cons rfl (.cons rfl (.cons rfl .nil))) (k1 := l.length - (i + 1)) (by omega) ⟨i + 1, rfl, by rw [e3], hS7.pick [0] rfl, by omega, by omega⟩
  · skip
    refine wc_exit ?_
    refine qs_then_exit ?_
    refine qs_then_exit ?_
    refine qs_block_exit ?_
    refine qs_seq ?_
    refine wc_seq ?_
    refine wc_region ?_
    refine wl_move rfl rfl ?_
    refine wl_assign rfl rfl ?_
    refine wl_nil ?_
    refine qs_seq ?_
    refine wc_ret ?_
    refine fin1 (.inr rfl) rfl rfl ?_
    exact ⟨_, rfl, by rw [List.take_of_length_le (by omega)]; rfl, hS2.pick [0] rfl⟩

set_option maxRecDepth 100000 in
theorem qFill_sp {w : World} {F : Th} {q n : Nat} {W : WS} (hS : Sat w [refL q W n, F]) (hn : n ≤ 900) {lv : Value} {l : List ItemD} (hL : Ent F (RdL itC lv l)) (hln : l.length ≤ 1000) :
    Calls Tryz.prog 35 #[ptrV q 0, lv] w (Ret fun v w' => v = intV (fillE l) ∧ Sat w' [refL q (fillW W l) (n + 4), F]) := by
  obtain ⟨ao, cap, rfl, hmax⟩ := (hL.sat (hS.pull 1 rfl) 0 rfl).shape
  refine calls_enter Tryz.func35 rfl Tryz.ntmps35 rfl ?_
  refine wc_seq ?_
  refine wc_region ?_
  refine wl_assign rfl rfl ?_
  refine wl_nil ?_
  refine qs_seq ?_
  refine wc_seq ?_
  refine wc_seq ?_
  refine wc_region ?_
  refine wl_move rfl rfl ?_
  have hC1 := hS.split [] [false, false] rfl; dsimp only [selF, pickA, nthA, List.cons_append, List.nil_append] at hC1
  refine wl_call cal_53 rfl (qRight_sp hC1 (hL.starL 1 rfl)) rfl ?_
  rintro e w1 ⟨_, rfl, rfl, hS1⟩; refine ⟨_, rfl, ?_⟩
  replace hS1 := hS1.join rfl; dsimp only [List.dropLast, List.cons_append, List.nil_append] at hS1; clear hC1
  refine wl_not rfl rfl ?_
  refine wl_nil ?_
  refine qs_seq ?_
  refine wc_cond rfl (fun h2 => ?_) (fun h2 => ?_)
  · skip
    refine wc_seq ?_
    refine wc_region ?_
    refine wl_assign rfl rfl ?_
    refine wl_nil ?_
    refine qs_seq ?_
    refine wc_ret ?_
    refine qs_then_ret ?_
    refine fin1 (.inr rfl) rfl rfl ?_
    exact ⟨_, rfl, by unfold fillE; rw [if_neg (by simp_all)], by unfold fillW; rw [if_neg (by simp_all)]; exact refL_up (by omega) (hS1.pick [0, 1] rfl)⟩
  · skip
    have hrb : rightB l = true := by simpa using h2
    have hok := right_ok hrb
    refine wc_skip ?_
    refine qs_seq ?_
    refine wc_seq ?_
    refine wc_seq ?_
    refine wc_region ?_
    refine wl_move rfl rfl ?_
    refine wl_lenL Tryz.underlying34 rfl rfl ?_
    refine wl_eql rfl rfl rfl ?_
    refine wl_nil ?_
    refine qs_seq ?_
    refine wc_condD rfl (fun h3 => ?_) (fun h3 => ?_)
    · skip
      refine wc_region ?_
      refine wl_move rfl rfl ?_
      have hC4 := hS1.split [0] [true, false] rfl; dsimp only [selF, pickA, nthA, List.cons_append, List.nil_append] at hC4
      refine wl_call cal_38 rfl (lPut hC4 (by omega) kIn []) rfl ?_
      rintro e w4 ⟨_, rfl, rfl, hS4⟩; refine ⟨_, rfl, ?_⟩
      replace hS4 := hS4.join rfl; dsimp only [List.dropLast, List.cons_append, List.nil_append] at hS4; clear hC4
      clear hS1
      refine wl_nil ?_
      refine qs_seq ?_
      refine wc_sub (L' := [(4, _), (0, _)]) (.cons rfl (.cons rfl .nil)) ?_
      refine wc_seq ?_
      refine wc_region ?_
      refine wl_move rfl rfl ?_
      have hC5 := hS4.split [0] [true, false] rfl; dsimp only [selF, pickA, nthA, List.cons_append, List.nil_append] at hC5
      refine wl_call cal_38 rfl (lPut hC5 (by omega) kPos []) rfl ?_
      rintro e w5 ⟨_, rfl, rfl, hS5⟩; refine ⟨_, rfl, ?_⟩
      replace hS5 := hS5.join rfl; dsimp only [List.dropLast, List.cons_append, List.nil_append] at hS5; clear hC5
      clear hS4
      refine wl_nil ?_
      refine qs_seq ?_
      refine wc_seq ?_
      refine wc_region ?_
      refine wl_move rfl rfl ?_
      have hC6 := hS5.split [0] [true, false] rfl; dsimp only [selF, pickA, nthA, List.cons_append, List.nil_append] at hC6
      refine wl_call cal_38 rfl (lPut hC6 (by omega) kCtl []) rfl ?_
      rintro e w6 ⟨_, rfl, rfl, hS6⟩; refine ⟨_, rfl, ?_⟩
      replace hS6 := hS6.join rfl; dsimp only [List.dropLast, List.cons_append, List.nil_append] at hS6; clear hC6
      clear hS5
      refine wl_nil ?_
      refine qs_seq ?_
      refine wc_seq ?_
      refine wc_region ?_
      refine wl_move rfl rfl ?_
      have hC7 := hS6.split [0] [true, false] rfl; dsimp only [selF, pickA, nthA, List.cons_append, List.nil_append] at hC7
      refine wl_call cal_38 rfl (lPut hC7 (by omega) kPart []) rfl ?_
      rintro e w7 ⟨_, rfl, rfl, hS7⟩; refine ⟨_, rfl, ?_⟩
      replace hS7 := hS7.join rfl; dsimp only [List.dropLast, List.cons_append, List.nil_append] at hS7; clear hC7
      clear hS6
      refine wl_nil ?_
      refine qs_seq ?_
      refine wc_seq ?_
      refine wc_region ?_
      refine wl_assign rfl rfl ?_
      refine wl_nil ?_
      refine qs_seq ?_
      refine wc_ret ?_
      refine fin1 (.inr rfl) rfl rfl ?_
      have hfc : fillC l = [] := by unfold fillC; rw [if_pos (List.length_eq_zero_iff.1 (by omega))]
      exact ⟨_, rfl, by unfold fillE; rw [if_pos hrb], by unfold fillW; rw [if_pos hrb, hfc]; exact refL_up (by omega) (hS7.pick [0, 1] rfl)⟩
    · skip
      refine wc_region ?_
      refine wl_move rfl rfl ?_
      refine wl_move rfl rfl ?_
      have hC8 := hS1.split [] [false, false] rfl; dsimp only [selF, pickA, nthA, List.cons_append, List.nil_append] at hC8
      refine wl_call cal_52 rfl (qBytes_sp hC8 (hL.starL 1 rfl) hln hok) rfl ?_
      rintro e w8 ⟨_, rfl, rfl, hS8⟩; refine ⟨_, rfl, ?_⟩
      replace hS8 := hS8.join rfl; dsimp only [List.dropLast, List.cons_append, List.nil_append] at hS8; clear hC8
      clear hS1
      have hC9 := hS8.split [0] [true, false] rfl; dsimp only [selF, pickA, nthA, List.cons_append, List.nil_append] at hC9
      refine wl_call cal_38 rfl (lPut hC9 (by omega) kIn (encL l)) rfl ?_
      rintro e w9 ⟨_, rfl, rfl, hS9⟩; refine ⟨_, rfl, ?_⟩
      replace hS9 := hS9.join rfl; dsimp only [List.dropLast, List.cons_append, List.nil_append] at hS9; clear hC9
      clear hS8
      refine wl_nil ?_
      refine qs_seq ?_
      refine wc_sub (L' := [(4, _), (0, _)]) (.cons rfl (.cons rfl .nil)) ?_
      refine wc_seq ?_
      refine wc_region ?_
      refine wl_move rfl rfl ?_
      have hC10 := hS9.split [0] [true, false] rfl; dsimp only [selF, pickA, nthA, List.cons_append, List.nil_append] at hC10
      refine wl_call cal_38 rfl (lPut hC10 (by omega) kPos []) rfl ?_
      rintro e w10 ⟨_, rfl, rfl, hS10⟩; refine ⟨_, rfl, ?_⟩
      replace hS10 := hS10.join rfl; dsimp only [List.dropLast, List.cons_append, List.nil_append] at hS10; clear hC10
      clear hS9
      refine wl_nil ?_
      refine qs_seq ?_
      refine wc_seq ?_
      refine wc_region ?_
      refine wl_move rfl rfl ?_
      have hC11 := hS10.split [0] [true, false] rfl; dsimp only [selF, pickA, nthA, List.cons_append, List.nil_append] at hC11
      refine wl_call cal_38 rfl (lPut hC11 (by omega) kCtl []) rfl ?_
      rintro e w11 ⟨_, rfl, rfl, hS11⟩; refine ⟨_, rfl, ?_⟩
      replace hS11 := hS11.join rfl; dsimp only [List.dropLast, List.cons_append, List.nil_append] at hS11; clear hC11
      clear hS10
      refine wl_nil ?_
      refine qs_seq ?_
      refine wc_seq ?_
      refine wc_region ?_
      refine wl_move rfl rfl ?_
      have hC12 := hS11.split [0] [true, false] rfl; dsimp only [selF, pickA, nthA, List.cons_append, List.nil_append] at hC12
      refine wl_call cal_38 rfl (lPut hC12 (by omega) kPart []) rfl ?_
      rintro e w12 ⟨_, rfl, rfl, hS12⟩; refine ⟨_, rfl, ?_⟩
      replace hS12 := hS12.join rfl; dsimp only [List.dropLast, List.cons_append, List.nil_append] at hS12; clear hC12
      clear hS11
      refine wl_nil ?_
      refine qs_seq ?_
      refine wc_seq ?_
      refine wc_region ?_
      refine wl_assign rfl rfl ?_
      refine wl_nil ?_
      refine qs_seq ?_
      refine wc_ret ?_
      refine fin1 (.inr rfl) rfl rfl ?_
      have hfc : fillC l = encL l := by unfold fillC; rw [if_neg (fun e => by subst e; simp at *)]
      exact ⟨_, rfl, by unfold fillE; rw [if_pos hrb], by unfold fillW; rw [if_pos hrb, hfc]; exact refL_up (by omega) (hS12.pick [0, 1] rfl)⟩

theorem OkR.stR {s : Bs × Bool} (h : OkR s) : ∀ n, OkR (Go.Proofs.YtdkfppcafpjomaaGreatDoor.stR n s)
  | 0 => h
  | n + 1 => by
    show OkR (stpR (Go.Proofs.YtdkfppcafpjomaaGreatDoor.stR n s))
    unfold stpR
    exact (((OkR.stR h n).num 59 imin).num 59 imin).txt
set_option maxRecDepth 100000 in
theorem qItems_sp {w : World} {F : Th} {q n : Nat} {W : WS} (hS : Sat w [refL q W n, F]) (hn : n ≤ 900) (hz : (W.cells kIn).length ≤ 1000000) :
    Calls Tryz.prog 13 #[ptrV q 0] w (Ret fun v w' => Sat w' [rowT itC v (itemsW W), refL q W n, F]) := by
  refine calls_enter Tryz.func13 rfl Tryz.ntmps13 rfl ?_
  refine wc_seq ?_
  refine wc_region ?_
  refine wl_assign rfl rfl ?_
  refine wl_nil ?_
  refine qs_seq ?_
  refine wc_seq ?_
  refine wc_region ?_
  refine wl_move rfl rfl ?_
  have hC1 := hS.split [0] [true, false] rfl; dsimp only [selF, pickA, nthA, List.cons_append, List.nil_append] at hC1
  refine wl_call cal_16 rfl (lGet hC1 (by omega) kIn) rfl ?_
  rintro e w1 ⟨_, rfl, rfl, hS1⟩; refine ⟨_, rfl, ?_⟩
  replace hS1 := hS1.join rfl; dsimp only [List.dropLast, List.cons_append, List.nil_append] at hS1; clear hC1
  refine wl_assign rfl rfl ?_
  refine wl_nil ?_
  refine qs_seq ?_
  refine wc_seq ?_
  refine wc_region ?_
  refine wl_move rfl rfl ?_
  have hC2 := hS1.split [] [false, false] rfl; dsimp only [selF, pickA, nthA, List.cons_append, List.nil_append] at hC2
  refine wl_call cal_48 rfl (r1Open_sp hC2 (W.cells kIn)) rfl ?_
  rintro e w2 ⟨_, rfl, rb, rfl, hS2⟩; refine ⟨_, rfl, ?_⟩
  replace hS2 := hS2.join rfl; dsimp only [List.dropLast, List.cons_append, List.nil_append] at hS2; clear hC2
  clear hS1
  refine wl_assign rfl rfl ?_
  refine wl_nil ?_
  refine qs_seq ?_
  refine wc_seq ?_
  refine wc_region ?_
  refine wl_move rfl rfl ?_
  have hC3 := hS2.split [0] [true, false, false] rfl; dsimp only [selF, pickA, nthA, List.cons_append, List.nil_append] at hC3
  refine wl_call cal_49 rfl (r1RNum_sp hC3 (by dsimp only; omega)) rfl ?_
  rintro e w3 ⟨_, rfl, rfl, hS3⟩; refine ⟨_, rfl, ?_⟩
  replace hS3 := hS3.join rfl; dsimp only [List.dropLast, List.cons_append, List.nil_append] at hS3; clear hC3
  clear hS2
  refine wl_assign rfl rfl ?_
  refine wl_nil ?_
  refine qs_seq ?_
  refine wc_sub (L' := [(5, _), (4, _), (3, _), (2, _)]) (.cons rfl (.cons rfl (.cons rfl (.cons rfl .nil)))) ?_
  refine wc_seq ?_
  refine wc_region ?_
  refine wl_assign rfl rfl ?_
  refine wl_nil ?_
  refine qs_seq ?_
  refine wc_seq ?_
  refine wc_seq ?_
  refine wc_region ?_
  refine wl_assign rfl rfl ?_
  refine wl_nil ?_
  refine qs_seq ?_
  refine wc_block ?_
  have hnn := numV_nn 59 (W.cells kIn, false)
  refine wc_loop (fun K0 E0 W0 => ∃ (i : Nat) (ov : Value), K0 = 101 - i ∧ E0 = [(3, strV (W.cells kIn)), (4, ptrV rb 0), (5, intV (numV 59 0 (W.cells kIn, false))), (6, ov), (7, intV (i : Int))] ∧ Sat W0 [readT rb (stR i (numR 59 0 (W.cells kIn, false))), rowT itC ov (rdL i (numR 59 0 (W.cells kIn, false))), refL q W n, F] ∧ ((i : Int) ≤ (min (numV 59 0 (W.cells kIn, false)) 101))) (L0 := [(3, _), (4, _), (5, _), (6, _), (7, _)]) (101 - 0) (.cons rfl (.cons rfl (.cons rfl (.cons rfl (.cons rfl .nil))))) ⟨0, _, rfl, rfl, (hS3.row_nil itC).pick [1, 0, 2, 3] rfl, by omega⟩ ?_
  rintro _ _ w4 ⟨i, ov, rfl, rfl, hS4, hi⟩
  have hsl := stR_len i (numR 59 0 (W.cells kIn, false))
  have hrl := rdL_len i (numR 59 0 (W.cells kIn, false))
  have hs0 := numR_len 59 0 (W.cells kIn, false)
  dsimp only at hs0
  have h1ov : ov.oneCell' = true := hS4.own_one 1 rfl
  have hor := OkR.stR (OkR.num (s := (W.cells kIn, false)) (fun q => by cases q) 59 0) i
  refine wc_seq ?_
  refine wc_seq ?_
  refine wc_region ?_
  refine wl_move rfl rfl ?_
  refine wl_move rfl rfl ?_
  refine wl_lss rfl rfl rfl ?_
  refine wl_move rfl rfl ?_
  refine wl_splitD 18 rfl (fun h5 => ?_) (fun h5 => ?_)
  · skip
    refine wl_guard rfl rfl (decide_eq_true h5) ?_
    refine wl_move rfl rfl ?_
    refine wl_guard rfl rfl (decide_eq_true h5) ?_
    refine wl_leq rfl rfl rfl ?_
    refine wl_pickT rfl (decide_eq_true h5) rfl rfl ?_
    refine wl_nil ?_
    refine qs_seq ?_
    refine wc_sub (L' := [(21, _), (3, _), (4, _), (5, _), (6, _), (7, _)]) (.cons rfl (.cons rfl (.cons rfl (.cons rfl (.cons rfl (.cons rfl .nil)))))) ?_
    refine wc_condD rfl (fun h6 => ?_) (fun h6 => ?_)
    · skip
      refine wc_skip ?_
      refine qs_seq ?_
      refine wc_seq ?_
      refine wc_block ?_
      refine wc_seq ?_
      refine wc_region ?_
      refine wl_move rfl rfl ?_
      have hC7 := hS4.split [0] [true, false, false, false] rfl; dsimp only [selF, pickA, nthA, List.cons_append, List.nil_append] at hC7
      refine wl_call cal_50 rfl (r1RInt_sp hC7 (by omega)) rfl ?_
      rintro e w7 ⟨_, rfl, rfl, hS7⟩; refine ⟨_, rfl, ?_⟩
      replace hS7 := hS7.join rfl; dsimp only [List.dropLast, List.cons_append, List.nil_append] at hS7; clear hC7
      clear hS4
      refine wl_buildS rfl pl_49_0 asz_49 zr_49 rfl rfl ?_
      refine wl_alloc hS7 zr_49 rfl rfl ?_
      intro b8 w8 hS8
      clear hS7
      first | (refine wl_storeA hS8 rfl rfl sz_49 rfl (by first | rfl | (simp [allOne, Value.oneCell']; done) | assumption | exact hone) (i := 0) rfl (by first | decide | exact Nat.le_of_ble_eq_true rfl | (simp; done) | omega) ?_)
      intro w9 hS10; dsimp only [List.set] at hS10
      clear hS8
      refine wl_nil ?_
      refine qs_seq ?_
      refine wc_seq ?_
      have hq1 := numR_len 59 (-9223372036854775808) (stR i (numR 59 0 (W.cells kIn, false)))
      refine wc_region ?_
      refine wl_move rfl rfl ?_
      have hC11 := hS10.split [1] [false, true, false, false, false] rfl; dsimp only [selF, pickA, nthA, List.cons_append, List.nil_append] at hC11
      refine wl_call cal_50 rfl (r1RInt_sp hC11 (by omega)) rfl ?_
      rintro e w11 ⟨_, rfl, rfl, hS11⟩; refine ⟨_, rfl, ?_⟩
      replace hS11 := hS11.join rfl; dsimp only [List.dropLast, List.cons_append, List.nil_append] at hS11; clear hC11
      clear hS10
      refine wl_fieldAddr rfl fo_49_1 rfl ?_
      first | (refine wl_store hS11 rfl rfl sz_3 (by first | rfl | assumption | exact hS11.own_one 2 rfl) (i := 1) rfl (by first | decide | exact Nat.le_of_ble_eq_true rfl | (simp; done) | omega) ?_)
      intro w12 hS13; dsimp only [List.set] at hS13
      clear hS11
      refine wl_nil ?_
      refine qs_seq ?_
      refine wc_sub (L' := [(8, _), (3, _), (4, _), (5, _), (6, _), (7, _)]) (.cons rfl (.cons rfl (.cons rfl (.cons rfl (.cons rfl (.cons rfl .nil)))))) ?_
      refine wc_seq ?_
      have hq2 := numR_len 59 (-9223372036854775808) (numR 59 (-9223372036854775808) (stR i (numR 59 0 (W.cells kIn, false))))
      refine wc_region ?_
      refine wl_move rfl rfl ?_
      have hC14 := hS13.split [0] [true, false, false, false, false] rfl; dsimp only [selF, pickA, nthA, List.cons_append, List.nil_append] at hC14
      refine wl_call cal_51 rfl (r1RText_sp hC14 ((hor.num 59 (-9223372036854775808)).num 59 (-9223372036854775808)) (by omega)) rfl ?_
      rintro e w14 ⟨_, rfl, rfl, hS14⟩; refine ⟨_, rfl, ?_⟩
      replace hS14 := hS14.join rfl; dsimp only [List.dropLast, List.cons_append, List.nil_append] at hS14; clear hC14
      clear hS13
      refine wl_fieldAddr rfl fo_49_2 rfl ?_
      first | (refine wl_store hS14 rfl rfl sz_9 (by first | rfl | assumption | exact hS14.own_one 2 rfl) (i := 1) rfl (by first | decide | exact Nat.le_of_ble_eq_true rfl | (simp; done) | omega) ?_)
      intro w15 hS16; dsimp only [List.set] at hS16
      clear hS14
      refine wl_nil ?_
      refine qs_seq ?_
      refine wc_region ?_
      refine wl_move rfl rfl ?_
      refine wl_loadA rfl ag_49 sz_49 (by first | exact hS16.blk 1 rfl) (by first | decide | exact Nat.le_of_ble_eq_true rfl | (simp; done) | omega) rfl rfl ?_
      refine wl_rowBuild itC [itmR (stR i (numR 59 0 (W.cells kIn, false)))] hS16 rfl Tryz.underlying34 ifz_49 rfl rfl rfl rfl (by first | rfl | simp [RowC.cells, fillL, splice]) rfl ?_
      intro b17 w17 hS17
      clear hS16
      refine wl_rowApp itC 3 hS17 rfl rfl rfl (hS17.rd 0 rfl (by simp)) Tryz.underlying34 Tryz.underlying34 (by intro k hk; cases hk) ifo_49 rfl (by simp only [List.length_cons, List.length_nil]; omega) rfl (by simp only [List.length_cons, List.length_nil]; omega) ?_
      intro v18 w18 hS18; dsimp only [List.set] at hS18
      clear hS17
      have h1v18 : v18.oneCell' = true := hS18.own_one 3 rfl
      refine wl_assign rfl rfl ?_
      refine wl_nil ?_
      refine qs_block_normal ?_
      refine qs_seq ?_
      refine wc_sub (L' := [(6, _), (3, _), (4, _), (5, _), (7, _)]) (.cons rfl (.cons rfl (.cons rfl (.cons rfl (.cons rfl .nil))))) ?_
      refine wc_region ?_
      refine wl_move rfl rfl ?_
      refine wl_add rfl rfl (by first | omega | (simp; omega)) (by first | omega | (simp; omega)) rfl ?_
      refine wl_assign rfl rfl ?_
      refine wl_nil ?_
      exact qs_round (L1 := [(3, _), (4, _), (5, _), (6, _), (7, intV ((i + 1 : Nat) : Int))]) (.cons rfl (.cons rfl (.cons rfl (.cons rfl (.cons rfl .nil))))) (k1 := 101 - (i + 1)) (by omega) ⟨i + 1, _, rfl, rfl, (by rw [rdL_succ]; exact hS18.pick [1, 3, 4, 5] rfl), by omega⟩
    · skip
      refine wc_exit ?_
      refine qs_then_exit ?_
      refine qs_then_exit ?_
      refine qs_block_exit ?_
      refine qs_seq ?_
      refine wc_seq ?_
      refine wc_seq ?_
      refine wc_region ?_
      refine wl_move rfl rfl ?_
      refine wl_eqlS rfl rfl rfl ?_
      refine wl_move rfl rfl ?_
      refine wl_splitD 39 rfl (fun h19 => ?_) (fun h19 => ?_)
      · skip
        refine wl_unwanted rfl rfl (decide_eq_true h19) rfl ?_
        refine wl_unwanted rfl rfl (decide_eq_true h19) rfl ?_
        refine wl_unwanted rfl rfl (decide_eq_true h19) rfl ?_
        refine wl_unwanted rfl rfl (decide_eq_true h19) rfl ?_
        refine wl_pickT rfl (decide_eq_true h19) rfl rfl ?_
        refine wl_move rfl rfl ?_
        refine wl_unwanted rfl rfl rfl rfl ?_
        refine wl_unwanted rfl rfl rfl rfl ?_
        refine wl_unwanted rfl rfl rfl rfl ?_
        refine wl_pickT rfl rfl rfl rfl ?_
        refine wl_nil ?_
        refine qs_seq ?_
        refine wc_sub (L' := [(49, _), (6, _)]) (.cons rfl (.cons rfl .nil)) ?_
        refine wc_condT rfl ?_
        refine wc_seq ?_
        refine wc_region ?_
        refine wl_assign rfl rfl ?_
        refine wl_nil ?_
        refine qs_seq ?_
        refine wc_ret ?_
        refine qs_then_ret ?_
        refine fin1 (.inr rfl) rfl rfl ?_
        exact ⟨_, rfl, (by unfold itemsW itemsC; rw [if_pos (by assumption)]; exact (hS4.pick [2, 3] rfl).row_nil itC)⟩
      · skip
        refine wl_guard rfl rfl (decide_eq_false h19) ?_
        refine wl_move rfl rfl ?_
        refine wl_guard rfl rfl (decide_eq_false h19) ?_
        have hC20 := hS4.split [] [false, false, false, false] rfl; dsimp only [selF, pickA, nthA, List.cons_append, List.nil_append] at hC20
        refine wl_call cal_52 rfl (qBytes_sp hC20 (Ent.starL (ent_row (C := itC) (l := rdL i (numR 59 0 (W.cells kIn, false))) (by omega)) 1 rfl) (by omega) (rd_ok (by omega))) rfl ?_
        rintro e w20 ⟨_, rfl, rfl, hS20⟩; refine ⟨_, rfl, ?_⟩
        replace hS20 := hS20.join rfl; dsimp only [List.dropLast, List.cons_append, List.nil_append] at hS20; clear hC20
        clear hS4
        refine wl_guard rfl rfl (decide_eq_false h19) ?_
        refine wl_move rfl rfl ?_
        refine wl_guard rfl rfl (decide_eq_false h19) ?_
        refine wl_neqS rfl rfl rfl ?_
        refine wl_pickF rfl (decide_eq_false h19) rfl rfl ?_
        refine wl_move rfl rfl ?_
        refine wl_splitD 45 rfl (fun h21 => ?_) (fun h21 => ?_)
        · skip
          refine wl_unwanted rfl rfl (decide_eq_true h21) rfl ?_
          refine wl_unwanted rfl rfl (decide_eq_true h21) rfl ?_
          refine wl_unwanted rfl rfl (decide_eq_true h21) rfl ?_
          refine wl_pickT rfl (decide_eq_true h21) rfl rfl ?_
          refine wl_nil ?_
          refine qs_seq ?_
          refine wc_sub (L' := [(49, _), (6, _)]) (.cons rfl (.cons rfl .nil)) ?_
          refine wc_condT rfl ?_
          refine wc_seq ?_
          refine wc_region ?_
          refine wl_assign rfl rfl ?_
          refine wl_nil ?_
          refine qs_seq ?_
          refine wc_ret ?_
          refine qs_then_ret ?_
          refine fin1 (.inr rfl) rfl rfl ?_
          have hni : (i : Int) = (min (numV 59 0 (W.cells kIn, false)) 101) := by omega
          have hni2 : (min (numV 59 0 (W.cells kIn, false)) 101).toNat = i := by omega
          exact ⟨_, rfl, (by unfold itemsW itemsC; rw [if_neg (by assumption), hni2, if_neg (by rintro ⟨q1, q2⟩; first | contradiction | (simp_all; done))]; exact (hS20.pick [2, 3] rfl).row_nil itC)⟩
        · skip
          refine wl_guard rfl rfl (decide_eq_false h21) ?_
          refine wl_move rfl rfl ?_
          refine wl_guard rfl rfl (decide_eq_false h21) ?_
          have hC22 := hS20.split [] [false, false, false, false] rfl; dsimp only [selF, pickA, nthA, List.cons_append, List.nil_append] at hC22
          refine wl_call cal_53 rfl (qRight_sp hC22 (Ent.starL (ent_row (C := itC) (l := rdL i (numR 59 0 (W.cells kIn, false))) (by omega)) 1 rfl)) rfl ?_
          rintro e w22 ⟨_, rfl, rfl, hS22⟩; refine ⟨_, rfl, ?_⟩
          replace hS22 := hS22.join rfl; dsimp only [List.dropLast, List.cons_append, List.nil_append] at hS22; clear hC22
          clear hS20
          refine wl_guard rfl rfl (decide_eq_false h21) ?_
          refine wl_not rfl rfl ?_
          refine wl_pickF rfl (decide_eq_false h21) rfl rfl ?_
          refine wl_nil ?_
          refine qs_seq ?_
          refine wc_sub (L' := [(49, _), (6, _)]) (.cons rfl (.cons rfl .nil)) ?_
          refine wc_cond rfl (fun h23 => ?_) (fun h23 => ?_)
          · skip
            refine wc_seq ?_
            refine wc_region ?_
            refine wl_assign rfl rfl ?_
            refine wl_nil ?_
            refine qs_seq ?_
            refine wc_ret ?_
            refine qs_then_ret ?_
            refine fin1 (.inr rfl) rfl rfl ?_
            have hni : (i : Int) = (min (numV 59 0 (W.cells kIn, false)) 101) := by omega
            have hni2 : (min (numV 59 0 (W.cells kIn, false)) 101).toNat = i := by omega
            exact ⟨_, rfl, (by unfold itemsW itemsC; rw [if_neg (by assumption), hni2, if_neg (by rintro ⟨q1, q2⟩; first | contradiction | (simp_all; done))]; exact (hS22.pick [2, 3] rfl).row_nil itC)⟩
          · skip
            refine wc_skip ?_
            refine qs_seq ?_
            refine wc_seq ?_
            refine wc_region ?_
            refine wl_move rfl rfl ?_
            refine wl_assign rfl rfl ?_
            refine wl_nil ?_
            refine qs_seq ?_
            refine wc_ret ?_
            refine fin1 (.inr rfl) rfl rfl ?_
            have hni : (i : Int) = (min (numV 59 0 (W.cells kIn, false)) 101) := by omega
            have hni2 : (min (numV 59 0 (W.cells kIn, false)) 101).toNat = i := by omega
            exact ⟨_, rfl, (by unfold itemsW itemsC; rw [if_neg (by assumption), hni2, if_pos ⟨Decidable.not_not.1 (by assumption), by simp_all⟩]; exact hS22.pick [1, 2, 3] rfl)⟩
  · skip
    refine wl_unwanted rfl rfl (decide_eq_false h5) rfl ?_
    refine wl_unwanted rfl rfl (decide_eq_false h5) rfl ?_
    refine wl_pickF rfl (decide_eq_false h5) rfl rfl ?_
    refine wl_nil ?_
    refine qs_seq ?_
    refine wc_sub (L' := [(21, _), (3, _), (4, _), (5, _), (6, _), (7, _)]) (.cons rfl (.cons rfl (.cons rfl (.cons rfl (.cons rfl (.cons rfl .nil)))))) ?_
    refine wc_condF rfl ?_
    refine wc_exit ?_
    refine qs_then_exit ?_
    refine qs_then_exit ?_
    refine qs_block_exit ?_
    refine qs_seq ?_
    refine wc_seq ?_
    refine wc_seq ?_
    refine wc_region ?_
    refine wl_move rfl rfl ?_
    refine wl_eqlS rfl rfl rfl ?_
    refine wl_move rfl rfl ?_
    refine wl_splitD 39 rfl (fun h24 => ?_) (fun h24 => ?_)
    · skip
      refine wl_unwanted rfl rfl (decide_eq_true h24) rfl ?_
      refine wl_unwanted rfl rfl (decide_eq_true h24) rfl ?_
      refine wl_unwanted rfl rfl (decide_eq_true h24) rfl ?_
      refine wl_unwanted rfl rfl (decide_eq_true h24) rfl ?_
      refine wl_pickT rfl (decide_eq_true h24) rfl rfl ?_
      refine wl_move rfl rfl ?_
      refine wl_unwanted rfl rfl rfl rfl ?_
      refine wl_unwanted rfl rfl rfl rfl ?_
      refine wl_unwanted rfl rfl rfl rfl ?_
      refine wl_pickT rfl rfl rfl rfl ?_
      refine wl_nil ?_
      refine qs_seq ?_
      refine wc_sub (L' := [(49, _), (6, _)]) (.cons rfl (.cons rfl .nil)) ?_
      refine wc_condT rfl ?_
      refine wc_seq ?_
      refine wc_region ?_
      refine wl_assign rfl rfl ?_
      refine wl_nil ?_
      refine qs_seq ?_
      refine wc_ret ?_
      refine qs_then_ret ?_
      refine fin1 (.inr rfl) rfl rfl ?_
      exact ⟨_, rfl, (by unfold itemsW itemsC; rw [if_pos (by assumption)]; exact (hS4.pick [2, 3] rfl).row_nil itC)⟩
    · skip
      refine wl_guard rfl rfl (decide_eq_false h24) ?_
      refine wl_move rfl rfl ?_
      refine wl_guard rfl rfl (decide_eq_false h24) ?_
      have hC25 := hS4.split [] [false, false, false, false] rfl; dsimp only [selF, pickA, nthA, List.cons_append, List.nil_append] at hC25
      refine wl_call cal_52 rfl (qBytes_sp hC25 (Ent.starL (ent_row (C := itC) (l := rdL i (numR 59 0 (W.cells kIn, false))) (by omega)) 1 rfl) (by omega) (rd_ok (by omega))) rfl ?_
      rintro e w25 ⟨_, rfl, rfl, hS25⟩; refine ⟨_, rfl, ?_⟩
      replace hS25 := hS25.join rfl; dsimp only [List.dropLast, List.cons_append, List.nil_append] at hS25; clear hC25
      clear hS4
      refine wl_guard rfl rfl (decide_eq_false h24) ?_
      refine wl_move rfl rfl ?_
      refine wl_guard rfl rfl (decide_eq_false h24) ?_
      refine wl_neqS rfl rfl rfl ?_
      refine wl_pickF rfl (decide_eq_false h24) rfl rfl ?_
      refine wl_move rfl rfl ?_
      refine wl_splitD 45 rfl (fun h26 => ?_) (fun h26 => ?_)
      · skip
        refine wl_unwanted rfl rfl (decide_eq_true h26) rfl ?_
        refine wl_unwanted rfl rfl (decide_eq_true h26) rfl ?_
        refine wl_unwanted rfl rfl (decide_eq_true h26) rfl ?_
        refine wl_pickT rfl (decide_eq_true h26) rfl rfl ?_
        refine wl_nil ?_
        refine qs_seq ?_
        refine wc_sub (L' := [(49, _), (6, _)]) (.cons rfl (.cons rfl .nil)) ?_
        refine wc_condT rfl ?_
        refine wc_seq ?_
        refine wc_region ?_
        refine wl_assign rfl rfl ?_
        refine wl_nil ?_
        refine qs_seq ?_
        refine wc_ret ?_
        refine qs_then_ret ?_
        refine fin1 (.inr rfl) rfl rfl ?_
        have hni : (i : Int) = (min (numV 59 0 (W.cells kIn, false)) 101) := by omega
        have hni2 : (min (numV 59 0 (W.cells kIn, false)) 101).toNat = i := by omega
        exact ⟨_, rfl, (by unfold itemsW itemsC; rw [if_neg (by assumption), hni2, if_neg (by rintro ⟨q1, q2⟩; first | contradiction | (simp_all; done))]; exact (hS25.pick [2, 3] rfl).row_nil itC)⟩
      · skip
        refine wl_guard rfl rfl (decide_eq_false h26) ?_
        refine wl_move rfl rfl ?_
        refine wl_guard rfl rfl (decide_eq_false h26) ?_
        have hC27 := hS25.split [] [false, false, false, false] rfl; dsimp only [selF, pickA, nthA, List.cons_append, List.nil_append] at hC27
        refine wl_call cal_53 rfl (qRight_sp hC27 (Ent.starL (ent_row (C := itC) (l := rdL i (numR 59 0 (W.cells kIn, false))) (by omega)) 1 rfl)) rfl ?_
        rintro e w27 ⟨_, rfl, rfl, hS27⟩; refine ⟨_, rfl, ?_⟩
        replace hS27 := hS27.join rfl; dsimp only [List.dropLast, List.cons_append, List.nil_append] at hS27; clear hC27
        clear hS25
        refine wl_guard rfl rfl (decide_eq_false h26) ?_
        refine wl_not rfl rfl ?_
        refine wl_pickF rfl (decide_eq_false h26) rfl rfl ?_
        refine wl_nil ?_
        refine qs_seq ?_
        refine wc_sub (L' := [(49, _), (6, _)]) (.cons rfl (.cons rfl .nil)) ?_
        refine wc_cond rfl (fun h28 => ?_) (fun h28 => ?_)
        · skip
          refine wc_seq ?_
          refine wc_region ?_
          refine wl_assign rfl rfl ?_
          refine wl_nil ?_
          refine qs_seq ?_
          refine wc_ret ?_
          refine qs_then_ret ?_
          refine fin1 (.inr rfl) rfl rfl ?_
          have hni : (i : Int) = (min (numV 59 0 (W.cells kIn, false)) 101) := by omega
          have hni2 : (min (numV 59 0 (W.cells kIn, false)) 101).toNat = i := by omega
          exact ⟨_, rfl, (by unfold itemsW itemsC; rw [if_neg (by assumption), hni2, if_neg (by rintro ⟨q1, q2⟩; first | contradiction | (simp_all; done))]; exact (hS27.pick [2, 3] rfl).row_nil itC)⟩
        · skip
          refine wc_skip ?_
          refine qs_seq ?_
          refine wc_seq ?_
          refine wc_region ?_
          refine wl_move rfl rfl ?_
          refine wl_assign rfl rfl ?_
          refine wl_nil ?_
          refine qs_seq ?_
          refine wc_ret ?_
          refine fin1 (.inr rfl) rfl rfl ?_
          have hni : (i : Int) = (min (numV 59 0 (W.cells kIn, false)) 101) := by omega
          have hni2 : (min (numV 59 0 (W.cells kIn, false)) 101).toNat = i := by omega
          exact ⟨_, rfl, (by unfold itemsW itemsC; rw [if_neg (by assumption), hni2, if_pos ⟨Decidable.not_not.1 (by assumption), by simp_all⟩]; exact hS27.pick [1, 2, 3] rfl)⟩

def numL (c : Bs) (least : Int) : Int := if numC c < least then 0 else numC c
theorem numL_zero (c : Bs) : numL c 0 = max (numC c) 0 := by unfold numL; split <;> omega
theorem numL_min (c : Bs) : numL c (-9223372036854775808) = numC c := by
  have := numC_in c
  unfold inI at this
  unfold numL; rw [if_neg (by omega)]
theorem qNumber_sp {w : World} {F : Th} {q n : Nat} {W : WS} (hS : Sat w [refL q W n, F]) (hn : n ≤ 900) (key : Bs) (least : Int) (hz : (W.cells key).length ≤ 1000000) :
    Calls Tryz.prog 41 #[ptrV q 0, strV key, intV least] w (Ret fun v w' => v = intV (numL (W.cells key) least) ∧ Sat w' [refL q W n, F]) := by
  refine calls_enter Tryz.func41 rfl Tryz.ntmps41 rfl ?_
  refine wc_seq ?_
  refine wc_region ?_
  refine wl_assign rfl rfl ?_
  refine wl_nil ?_
  refine qs_seq ?_
  refine wc_seq ?_
  refine wc_region ?_
  refine wl_move rfl rfl ?_
  refine wl_move rfl rfl ?_
  have hC1 := hS.split [0] [true, false] rfl; dsimp only [selF, pickA, nthA, List.cons_append, List.nil_append] at hC1
  refine wl_call cal_16 rfl (lGet hC1 (by omega) key) rfl ?_
  rintro e w1 ⟨_, rfl, rfl, hS1⟩; refine ⟨_, rfl, ?_⟩
  replace hS1 := hS1.join rfl; dsimp only [List.dropLast, List.cons_append, List.nil_append] at hS1; clear hC1
  refine wl_assign rfl rfl ?_
  refine wl_nil ?_
  refine qs_seq ?_
  refine wc_seq ?_
  refine wc_region ?_
  refine wl_move rfl rfl ?_
  have hC2 := hS1.split [] [false, false] rfl; dsimp only [selF, pickA, nthA, List.cons_append, List.nil_append] at hC2
  refine wl_call cal_48 rfl (r1Open_sp hC2 (W.cells key)) rfl ?_
  rintro e w2 ⟨_, rfl, rb, rfl, hS2⟩; refine ⟨_, rfl, ?_⟩
  replace hS2 := hS2.join rfl; dsimp only [List.dropLast, List.cons_append, List.nil_append] at hS2; clear hC2
  clear hS1
  refine wl_assign rfl rfl ?_
  refine wl_nil ?_
  refine qs_seq ?_
  refine wc_sub (L' := [(8, _), (7, _), (6, _), (2, _)]) (.cons rfl (.cons rfl (.cons rfl (.cons rfl .nil)))) ?_
  refine wc_seq ?_
  refine wc_region ?_
  refine wl_move rfl rfl ?_
  have hC3 := hS2.split [0] [true, false, false] rfl; dsimp only [selF, pickA, nthA, List.cons_append, List.nil_append] at hC3
  refine wl_call cal_50 rfl (r1RInt_sp hC3 (by dsimp only; omega)) rfl ?_
  rintro e w3 ⟨_, rfl, rfl, hS3⟩; refine ⟨_, rfl, ?_⟩
  replace hS3 := hS3.join rfl; dsimp only [List.dropLast, List.cons_append, List.nil_append] at hS3; clear hC3
  clear hS2
  refine wl_assign rfl rfl ?_
  refine wl_nil ?_
  refine qs_seq ?_
  refine wc_seq ?_
  refine wc_seq ?_
  refine wc_region ?_
  refine wl_move rfl rfl ?_
  refine wl_eqlS rfl rfl rfl ?_
  refine wl_move rfl rfl ?_
  refine wl_splitD 19 rfl (fun h4 => ?_) (fun h4 => ?_)
  · skip
    refine wl_unwanted rfl rfl (decide_eq_true h4) rfl ?_
    refine wl_unwanted rfl rfl (decide_eq_true h4) rfl ?_
    refine wl_unwanted rfl rfl (decide_eq_true h4) rfl ?_
    refine wl_unwanted rfl rfl (decide_eq_true h4) rfl ?_
    refine wl_pickT rfl (decide_eq_true h4) rfl rfl ?_
    refine wl_move rfl rfl ?_
    refine wl_unwanted rfl rfl rfl rfl ?_
    refine wl_unwanted rfl rfl rfl rfl ?_
    refine wl_unwanted rfl rfl rfl rfl ?_
    refine wl_pickT rfl rfl rfl rfl ?_
    refine wl_nil ?_
    refine qs_seq ?_
    refine wc_sub (L' := [(29, _), (9, _), (6, _)]) (.cons rfl (.cons rfl (.cons rfl .nil))) ?_
    refine wc_condT rfl ?_
    refine wc_seq ?_
    refine wc_region ?_
    refine wl_assign rfl rfl ?_
    refine wl_nil ?_
    refine qs_seq ?_
    refine wc_ret ?_
    refine qs_then_ret ?_
    refine fin1 (.inr rfl) rfl rfl ?_
    have hnc : numC (W.cells key) = 0 := by unfold numC; rw [if_pos (by assumption)]
    exact ⟨_, rfl, by unfold numL; rw [hnc]; simp, hS3.pick [1, 2] rfl⟩
  · skip
    refine wl_guard rfl rfl (decide_eq_false h4) ?_
    refine wl_move rfl rfl ?_
    refine wl_guard rfl rfl (decide_eq_false h4) ?_
    have hC5 := hS3.split [] [false, false, false] rfl; dsimp only [selF, pickA, nthA, List.cons_append, List.nil_append] at hC5
    refine wl_call cal_62 rfl (r1Int_sp hC5 _ (numV_in _ _ _)) rfl ?_
    rintro e w5 ⟨_, rfl, rfl, hS5⟩; refine ⟨_, rfl, ?_⟩
    replace hS5 := hS5.join rfl; dsimp only [List.dropLast, List.cons_append, List.nil_append] at hS5; clear hC5
    clear hS3
    refine wl_guard rfl rfl (decide_eq_false h4) ?_
    refine wl_move rfl rfl ?_
    refine wl_guard rfl rfl (decide_eq_false h4) ?_
    refine wl_neqS rfl rfl rfl ?_
    refine wl_pickF rfl (decide_eq_false h4) rfl rfl ?_
    refine wl_move rfl rfl ?_
    refine wl_splitD 25 rfl (fun h6 => ?_) (fun h6 => ?_)
    · skip
      refine wl_unwanted rfl rfl (decide_eq_true h6) rfl ?_
      refine wl_unwanted rfl rfl (decide_eq_true h6) rfl ?_
      refine wl_unwanted rfl rfl (decide_eq_true h6) rfl ?_
      refine wl_pickT rfl (decide_eq_true h6) rfl rfl ?_
      refine wl_nil ?_
      refine qs_seq ?_
      refine wc_sub (L' := [(29, _), (9, _), (6, _)]) (.cons rfl (.cons rfl (.cons rfl .nil))) ?_
      refine wc_condT rfl ?_
      refine wc_seq ?_
      refine wc_region ?_
      refine wl_assign rfl rfl ?_
      refine wl_nil ?_
      refine qs_seq ?_
      refine wc_ret ?_
      refine qs_then_ret ?_
      refine fin1 (.inr rfl) rfl rfl ?_
      have hnc : numC (W.cells key) = 0 := by unfold numC; rw [if_neg (by assumption), if_neg (by assumption)]
      exact ⟨_, rfl, by unfold numL; rw [hnc]; simp, hS5.pick [1, 2] rfl⟩
    · skip
      refine wl_guard rfl rfl (decide_eq_false h6) ?_
      refine wl_move rfl rfl ?_
      refine wl_guard rfl rfl (decide_eq_false h6) ?_
      refine wl_move rfl rfl ?_
      refine wl_guard rfl rfl (decide_eq_false h6) ?_
      refine wl_lss rfl rfl rfl ?_
      refine wl_pickF rfl (decide_eq_false h6) rfl rfl ?_
      refine wl_nil ?_
      refine qs_seq ?_
      refine wc_sub (L' := [(29, _), (9, _), (6, _)]) (.cons rfl (.cons rfl (.cons rfl .nil))) ?_
      refine wc_condD rfl (fun h7 => ?_) (fun h7 => ?_)
      · skip
        refine wc_seq ?_
        refine wc_region ?_
        refine wl_assign rfl rfl ?_
        refine wl_nil ?_
        refine qs_seq ?_
        refine wc_ret ?_
        refine qs_then_ret ?_
        refine fin1 (.inr rfl) rfl rfl ?_
        have hnc : numC (W.cells key) = numV 59 imin (W.cells key, false) := by unfold numC; rw [if_neg (by assumption), if_pos (Decidable.not_not.1 (by assumption))]
        exact ⟨_, rfl, by unfold numL; rw [hnc, if_pos (by assumption)], hS5.pick [1, 2] rfl⟩
      · skip
        refine wc_skip ?_
        refine qs_seq ?_
        refine wc_seq ?_
        refine wc_region ?_
        refine wl_move rfl rfl ?_
        refine wl_assign rfl rfl ?_
        refine wl_nil ?_
        refine qs_seq ?_
        refine wc_ret ?_
        refine fin1 (.inr rfl) rfl rfl ?_
        have hnc : numC (W.cells key) = numV 59 imin (W.cells key, false) := by unfold numC; rw [if_neg (by assumption), if_pos (Decidable.not_not.1 (by assumption))]
        exact ⟨_, rfl, by unfold numL; rw [hnc, if_neg (by assumption)]; rfl, hS5.pick [1, 2] rfl⟩

def nxP (q : Option Nat) : Int := match q with | some i => (i : Int) | none => -1
theorem nxP_yes {q : Option Nat} (h : 0 ≤ nxP q) : ∃ i, q = some i := by
  cases q with
  | none => simp [nxP] at h
  | some i => exact ⟨i, rfl⟩
theorem nxP_no {q : Option Nat} (h : ¬ 0 ≤ nxP q) : q = none := by
  cases q with
  | none => rfl
  | some i => simp [nxP] at h
set_option maxRecDepth 100000 in
theorem qNext_sp {w : World} {F : Th} {q n : Nat} {W : WS} (hS : Sat w [refL q W n, F]) (hn : n ≤ 900) (hzi : (W.cells kIn).length ≤ 1000000) (key : Bs) (hz : (W.cells key).length ≤ 1000000) (ctl : Bool) :
    Calls Tryz.prog 61 #[ptrV q 0, strV key, .bool ctl] w (Ret fun v w' => v = intV (nxP (nextW W key ctl)) ∧ Sat w' [refL q W n, F]) := by
  refine calls_enter Tryz.func61 rfl Tryz.ntmps61 rfl ?_
  have hil := items_len W
  refine wc_seq ?_
  refine wc_region ?_
  refine wl_assign rfl rfl ?_
  refine wl_nil ?_
  refine qs_seq ?_
  refine wc_seq ?_
  refine wc_region ?_
  refine wl_move rfl rfl ?_
  have hC1 := hS.split [0] [true, false] rfl; dsimp only [selF, pickA, nthA, List.cons_append, List.nil_append] at hC1
  refine wl_call cal_13 rfl (qItems_sp hC1 (by omega) hzi) rfl ?_
  rintro e w1 ⟨_, rfl, hS1⟩; refine ⟨_, rfl, ?_⟩
  replace hS1 := hS1.join rfl; dsimp only [List.dropLast, List.cons_append, List.nil_append] at hS1; clear hC1
  refine wl_assign rfl rfl ?_
  refine wl_nil ?_
  refine qs_seq ?_
  refine wc_seq ?_
  refine wc_seq ?_
  refine wc_region ?_
  refine wl_move rfl rfl ?_
  refine wl_move rfl rfl ?_
  have hC2 := hS1.split [1] [false, true, false] rfl; dsimp only [selF, pickA, nthA, List.cons_append, List.nil_append] at hC2
  refine wl_call cal_41 rfl (qNumber_sp hC2 (by omega) key 0 hz) rfl ?_
  rintro e w2 ⟨_, rfl, rfl, hS2⟩; refine ⟨_, rfl, ?_⟩
  replace hS2 := hS2.join rfl; dsimp only [List.dropLast, List.cons_append, List.nil_append] at hS2; clear hC2
  clear hS1
  refine wl_assign rfl rfl ?_
  refine wl_nil ?_
  refine qs_seq ?_
  refine wc_sub (L' := [(8, _), (7, _), (6, _), (2, _)]) (.cons rfl (.cons rfl (.cons rfl (.cons rfl .nil)))) ?_
  refine wc_block ?_
  rw [numL_zero, show max (numC (W.cells key)) 0 = ((posW W key : Nat) : Int) by unfold posW; omega]
  refine wc_loop (fun K0 E0 W0 => ∃ (i : Nat) (lv : Value), K0 = 101 - i ∧ E0 = [(2, .bool ctl), (7, lv), (8, intV (i : Int))] ∧ Sat W0 [rowT itC lv (itemsW W), refL q W n, F] ∧ (posW W key ≤ i) ∧ (∀ k x, posW W key ≤ k → k < i → (itemsW W)[k]? = some x → ctlB x ≠ ctl)) (L0 := [(2, _), (7, _), (8, _)]) (101 - posW W key) (.cons rfl (.cons rfl (.cons rfl .nil))) ⟨posW W key, _, rfl, rfl, hS2.pick [1, 0, 2] rfl, by omega, fun k x h1 h2 => absurd h2 (by omega)⟩ ?_
  rintro _ _ w3 ⟨i, lv, rfl, rfl, hS3, hsi, hno⟩
  refine wc_seq ?_
  refine wc_seq ?_
  refine wc_region ?_
  refine wl_move rfl rfl ?_
  refine wl_move rfl rfl ?_
  first | refine wl_lenL Tryz.underlying34 rfl rfl ?_ | refine wl_lenO 0 hS3 Tryz.underlying34 rfl rfl rfl ?_
  refine wl_lss rfl rfl rfl ?_
  refine wl_nil ?_
  refine qs_seq ?_
  refine wc_condD rfl (fun h4 => ?_) (fun h4 => ?_)
  · skip
    obtain ⟨x, hx⟩ : ∃ x, (itemsW W)[i]? = some x := ⟨_, List.getElem?_eq_getElem (by omega)⟩
    refine wc_skip ?_
    refine qs_seq ?_
    refine wc_seq ?_
    refine wc_block ?_
    refine wc_seq ?_
    refine wc_region ?_
    refine wl_move rfl rfl ?_
    refine wl_move rfl rfl ?_
    refine wl_rowIdx itC 0 i hS3 rfl rfl rfl (by first | rfl | omega) hx es_34 rfl ?_
    intro bx5 capx5 hvx5
    refine wl_fieldAddr rfl fo_49_1 rfl ?_
    refine wl_rowLoad 0 i 1 hS3 rfl hvx5 rfl rfl hx ag_3 rfl rfl ?_
    refine wl_eql rfl rfl rfl ?_
    refine wl_move rfl rfl ?_
    refine wl_splitD 26 rfl (fun h6 => ?_) (fun h6 => ?_)
    · skip
      refine wl_unwanted rfl rfl (decide_eq_true h6) rfl ?_
      refine wl_unwanted rfl rfl (decide_eq_true h6) rfl ?_
      refine wl_unwanted rfl rfl (decide_eq_true h6) rfl ?_
      refine wl_unwanted rfl rfl (decide_eq_true h6) rfl ?_
      refine wl_unwanted rfl rfl (decide_eq_true h6) rfl ?_
      refine wl_unwanted rfl rfl (decide_eq_true h6) rfl ?_
      refine wl_pickT rfl (decide_eq_true h6) rfl rfl ?_
      refine wl_move rfl rfl ?_
      refine wl_eqlB Tryz.underlying4 rfl rfl rfl ?_
      refine wl_nil ?_
      refine qs_seq ?_
      refine wc_sub (L' := [(35, _), (2, _), (7, _), (8, _)]) (.cons rfl (.cons rfl (.cons rfl (.cons rfl .nil)))) ?_
      refine wc_cond rfl (fun h7 => ?_) (fun h7 => ?_)
      · skip
        refine wc_seq ?_
        refine wc_region ?_
        refine wl_move rfl rfl ?_
        refine wl_assign rfl rfl ?_
        refine wl_nil ?_
        refine qs_seq ?_
        refine wc_ret ?_
        refine qs_block_ret ?_
        refine qs_then_ret ?_
        refine qs_then_ret ?_
        refine qs_block_ret ?_
        refine qs_then_ret ?_
        refine fin1 (.inr rfl) rfl rfl ?_
        have hnx : nextW W key ctl = some i := next_hit hsi hno hx (by unfold ctlB; simp_all)
        exact ⟨_, rfl, by rw [hnx]; rfl, hS3.pick [1, 2] rfl⟩
      · skip
        refine wc_skip ?_
        refine qs_block_normal ?_
        refine qs_seq ?_
        refine wc_region ?_
        refine wl_move rfl rfl ?_
        refine wl_add rfl rfl (by omega) (by omega) rfl ?_
        refine wl_assign rfl rfl ?_
        refine wl_nil ?_
        exact qs_round (L1 := [(2, _), (7, _), (8, intV ((i + 1 : Nat) : Int))]) (.cons rfl (.cons rfl (.cons rfl .nil))) (k1 := 101 - (i + 1)) (by omega) ⟨i + 1, _, rfl, rfl, hS3.pick [0, 1, 2] rfl, by omega, fun k y h1 h2 hy => by by_cases e : k = i; (subst e; rw [hx] at hy; cases hy; intro z; unfold ctlB at z; simp_all); exact hno k y h1 (by omega) hy⟩
    · skip
      refine wl_guard rfl rfl (decide_eq_false h6) ?_
      refine wl_move rfl rfl ?_
      refine wl_guard rfl rfl (decide_eq_false h6) ?_
      refine wl_move rfl rfl ?_
      refine wl_guard rfl rfl (decide_eq_false h6) ?_
      refine wl_rowIdx itC 0 i hS3 rfl rfl rfl (by first | rfl | omega) hx es_34 rfl ?_
      intro bx8 capx8 hvx8
      refine wl_guard rfl rfl (decide_eq_false h6) ?_
      refine wl_fieldAddr rfl fo_49_1 rfl ?_
      refine wl_guard rfl rfl (decide_eq_false h6) ?_
      refine wl_rowLoad 0 i 1 hS3 rfl hvx8 rfl rfl hx ag_3 rfl rfl ?_
      refine wl_guard rfl rfl (decide_eq_false h6) ?_
      refine wl_eql rfl rfl rfl ?_
      refine wl_pickF rfl (decide_eq_false h6) rfl rfl ?_
      refine wl_move rfl rfl ?_
      refine wl_eqlB Tryz.underlying4 rfl rfl rfl ?_
      refine wl_nil ?_
      refine qs_seq ?_
      refine wc_sub (L' := [(35, _), (2, _), (7, _), (8, _)]) (.cons rfl (.cons rfl (.cons rfl (.cons rfl .nil)))) ?_
      refine wc_cond rfl (fun h9 => ?_) (fun h9 => ?_)
      · skip
        refine wc_seq ?_
        refine wc_region ?_
        refine wl_move rfl rfl ?_
        refine wl_assign rfl rfl ?_
        refine wl_nil ?_
        refine qs_seq ?_
        refine wc_ret ?_
        refine qs_block_ret ?_
        refine qs_then_ret ?_
        refine qs_then_ret ?_
        refine qs_block_ret ?_
        refine qs_then_ret ?_
        refine fin1 (.inr rfl) rfl rfl ?_
        have hnx : nextW W key ctl = some i := next_hit hsi hno hx (by unfold ctlB; simp_all)
        exact ⟨_, rfl, by rw [hnx]; rfl, hS3.pick [1, 2] rfl⟩
      · skip
        refine wc_skip ?_
        refine qs_block_normal ?_
        refine qs_seq ?_
        refine wc_region ?_
        refine wl_move rfl rfl ?_
        refine wl_add rfl rfl (by omega) (by omega) rfl ?_
        refine wl_assign rfl rfl ?_
        refine wl_nil ?_
        exact qs_round (L1 := [(2, _), (7, _), (8, intV ((i + 1 : Nat) : Int))]) (.cons rfl (.cons rfl (.cons rfl .nil))) (k1 := 101 - (i + 1)) (by omega) ⟨i + 1, _, rfl, rfl, hS3.pick [0, 1, 2] rfl, by omega, fun k y h1 h2 hy => by by_cases e : k = i; (subst e; rw [hx] at hy; cases hy; intro z; unfold ctlB at z; simp_all); exact hno k y h1 (by omega) hy⟩
  · skip
    refine wc_exit ?_
    refine qs_then_exit ?_
    refine qs_then_exit ?_
    refine qs_block_exit ?_
    refine qs_seq ?_
    refine wc_seq ?_
    refine wc_region ?_
    refine wl_assign rfl rfl ?_
    refine wl_nil ?_
    refine qs_seq ?_
    refine wc_ret ?_
    refine fin1 (.inr rfl) rfl rfl ?_
    have hnx : nextW W key ctl = none := next_miss hno (by omega)
    exact ⟨_, rfl, by rw [hnx]; rfl, hS3.pick [1, 2] rfl⟩

end Go.Proofs.YtdkfppcafpjomaaGreatDoor
