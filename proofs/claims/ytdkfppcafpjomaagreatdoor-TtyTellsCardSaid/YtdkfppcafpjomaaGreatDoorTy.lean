/- tty: right, bytes, Fill -/
import Derived.Test.YtdkfppcafpjomaaGreatDoorTw
import Derived.Test.YtdkfppcafpjomaaGreatDoorWbl
namespace Go.Proofs.YtdkfppcafpjomaaGreatDoor
open Go.RowKit M
set_option linter.unusedVariables false
theorem imeth_Get (p : Nat) : ∀ w : World, (method (Tryz.prog.types.size + Made.depth) 24 (ptrV p 0) "Get").run Tryz.prog w = .ok (14, ptrV p 0) w := by intro w; kernel_rfl
theorem imeth_Put (p : Nat) : ∀ w : World, (method (Tryz.prog.types.size + Made.depth) 24 (ptrV p 0) "Put").run Tryz.prog w = .ok (30, ptrV p 0) w := by intro w; kernel_rfl
theorem imeth_Log (p : Nat) : ∀ w : World, (method (Tryz.prog.types.size + Made.depth) 24 (ptrV p 0) "Log").run Tryz.prog w = .ok (156, ptrV p 0) w := by intro w; kernel_rfl
theorem mnil_Put (p : Nat) : ∀ w : World, (nilAhead (Tryz.prog.types.size + Made.depth) 24 (ptrV p 0) "Put").run Tryz.prog w = .ok (some false) w := by intro w; kernel_rfl
theorem right_bad {l : List ItemD} {i : Nat} {x : ItemD} (hx : l[i]? = some x) (h : ¬ rightI (lastI l i 0) x = true) : rightB l = false := by
  rw [Bool.eq_false_iff]
  intro q
  simp only [rightB, Bool.and_eq_true] at q
  exact h ((rightF_iff l 0).1 q.1 i x hx)
theorem right_end {l : List ItemD} {i : Nat} (h : ∀ j x, j < i → l[j]? = some x → rightI (lastI l j 0) x = true) (hi : i = l.length) : decide ((l.length : Int) ≤ 100) = rightB l := by
  unfold rightB
  rw [(rightF_iff l 0).2 (fun j x hx => h j x (by have := (List.getElem?_eq_some_iff.1 hx).1; omega) hx), Bool.true_and]
  exact decide_eq_decide.2 (by omega)
theorem last_succ {l : List ItemD} {i : Nat} {x : ItemD} (hx : l[i]? = some x) (z : Int) : lastI l (i + 1) z = x.a := by
  unfold lastI; rw [if_neg (by omega), Nat.add_sub_cancel, ix_of hx]
set_option maxRecDepth 100000 in
theorem right_sp {w : World} {F : Th} (hS : Sat w [F]) {lv : Value} {l : List ItemD} (hL : Ent F (RdL itC lv l)) (hln : l.length ≤ 1000) :
    Calls Tryz.prog 47 #[lv] w (Ret fun v w' => v = .bool (rightB l) ∧ Sat w' [F]) := by
  obtain ⟨ao, cap, rfl, hmax⟩ := (hL.sat hS 0 rfl).shape
  refine calls_enter Tryz.func47 rfl Tryz.ntmps47 rfl ?_
  refine wc_seq ?_
  refine wc_region ?_
  refine wl_assign rfl rfl ?_
  refine wl_nil ?_
  refine qs_seq ?_
  refine wc_seq ?_
  refine wc_region ?_
  refine wl_assign rfl rfl ?_
  refine wl_nil ?_
  refine qs_seq ?_
  refine wc_seq ?_
  refine wc_seq ?_
  refine wc_region ?_
  refine wl_move rfl rfl ?_
  refine wl_lenL Tryz.underlying34 rfl rfl ?_
  refine wl_move rfl rfl ?_
  refine wl_nil ?_
  refine qs_seq ?_
  refine wc_block ?_
  refine wc_loop (fun K0 E0 W0 => ∃ (i : Nat), K0 = l.length - i ∧ E0 = [(0, .slice ao l.length cap), (3, intV (lastI l i 0)), (7, .slice ao l.length cap), (8, intV (l.length : Int)), (9, intV (i : Int))] ∧ Sat W0 [F] ∧ (i ≤ l.length) ∧ (∀ j x, j < i → l[j]? = some x → rightI (lastI l j 0) x = true)) (L0 := [(0, _), (3, _), (7, _), (8, _), (9, _)]) (l.length - 0) (.cons rfl (.cons rfl (.cons rfl (.cons rfl (.cons rfl .nil))))) ⟨0, rfl, rfl, hS, by omega, by omega⟩ ?_
  rintro _ _ w1 ⟨i, rfl, rfl, hS1, hi, hok⟩
  refine wc_seq ?_
  refine wc_region ?_
  refine wl_lss rfl rfl rfl ?_
  refine wl_nil ?_
  refine qs_seq ?_
  refine wc_seq ?_
  refine wc_condD rfl (fun h2 => ?_) (fun h2 => ?_)
  · skip
    obtain ⟨x, hx⟩ : ∃ x, l[i]? = some x := ⟨_, List.getElem?_eq_getElem (by omega)⟩
    obtain ⟨b, off, rfl, hc⟩ := (hL.sat hS1 0 rfl).get hx
    refine wc_skip ?_
    refine qs_seq ?_
    refine wc_seq ?_
    refine wc_block ?_
    refine wc_seq ?_
    refine wc_region ?_
    refine wl_indexAddr i rfl rfl (by first | rfl | omega) (by omega) es_34 rfl ?_
    refine wl_loadAt rfl ag_49 sz_49 (vs := itV x) hc rfl ?_
    refine wl_alloc hS1 zr_49 rfl rfl ?_
    intro b3 w3 hS3
    clear hS1
    first | (refine wl_storeA hS3 rfl rfl sz_49 rfl (by first | rfl | (simp [allOne, Value.oneCell']; done) | assumption | exact hone) (i := 0) rfl (by first | decide | exact Nat.le_of_ble_eq_true rfl | (simp; done) | omega) ?_)
    intro w4 hS5; dsimp only [List.set] at hS5
    clear hS3
    refine wl_nil ?_
    refine qs_seq ?_
    refine wc_seq ?_
    refine wc_region ?_
    refine wl_fieldAddr rfl fo_49_1 rfl ?_
    refine wl_load rfl ag_3 (by first | assumption | exact hS5.cell 0 rfl rfl) rfl ?_
    refine wl_eql rfl rfl rfl ?_
    refine wl_move rfl rfl ?_
    refine wl_splitD 16 rfl (fun h6 => ?_) (fun h6 => ?_)
    · skip
      refine wl_unwanted rfl rfl (decide_eq_true h6) rfl ?_
      refine wl_unwanted rfl rfl (decide_eq_true h6) rfl ?_
      refine wl_unwanted rfl rfl (decide_eq_true h6) rfl ?_
      refine wl_pickT rfl (decide_eq_true h6) rfl rfl ?_
      refine wl_assign rfl rfl ?_
      refine wl_nil ?_
      refine qs_seq ?_
      refine wc_sub (L' := [(6, _), (5, _), (0, _), (3, _), (7, _), (8, _), (9, _)]) (.cons rfl (.cons rfl (.cons rfl (.cons rfl (.cons rfl (.cons rfl (.cons rfl .nil))))))) ?_
      refine wc_seq ?_
      refine wc_seq ?_
      refine wc_region ?_
      refine wl_fieldAddr rfl fo_49_0 rfl ?_
      refine wl_load rfl ag_3 (by first | assumption | exact hS5.cell 0 rfl rfl) rfl ?_
      refine wl_move rfl rfl ?_
      refine wl_lss rfl rfl rfl ?_
      refine wl_move rfl rfl ?_
      refine wl_splitD 25 rfl (fun h7 => ?_) (fun h7 => ?_)
      · skip
        refine wl_unwanted rfl rfl (decide_eq_true h7) rfl ?_
        refine wl_unwanted rfl rfl (decide_eq_true h7) rfl ?_
        refine wl_unwanted rfl rfl (decide_eq_true h7) rfl ?_
        refine wl_pickT rfl (decide_eq_true h7) rfl rfl ?_
        refine wl_move rfl rfl ?_
        refine wl_unwanted rfl rfl rfl rfl ?_
        refine wl_unwanted rfl rfl rfl rfl ?_
        refine wl_unwanted rfl rfl rfl rfl ?_
        refine wl_pickT rfl rfl rfl rfl ?_
        refine wl_move rfl rfl ?_
        refine wl_unwanted rfl rfl rfl rfl ?_
        refine wl_unwanted rfl rfl rfl rfl ?_
        refine wl_unwanted rfl rfl rfl rfl ?_
        refine wl_pickT rfl rfl rfl rfl ?_
        refine wl_move rfl rfl ?_
        refine wl_unwanted rfl rfl rfl rfl ?_
        refine wl_unwanted rfl rfl rfl rfl ?_
        refine wl_pickT rfl rfl rfl rfl ?_
        refine wl_move rfl rfl ?_
        refine wl_unwanted rfl rfl rfl rfl ?_
        refine wl_unwanted rfl rfl rfl rfl ?_
        refine wl_unwanted rfl rfl rfl rfl ?_
        refine wl_unwanted rfl rfl rfl rfl ?_
        refine wl_pickT rfl rfl rfl rfl ?_
        refine wl_move rfl rfl ?_
        refine wl_unwanted rfl rfl rfl rfl ?_
        refine wl_unwanted rfl rfl rfl rfl ?_
        refine wl_unwanted rfl rfl rfl rfl ?_
        refine wl_pickT rfl rfl rfl rfl ?_
        refine wl_nil ?_
        refine qs_seq ?_
        refine wc_sub (L' := [(54, _), (5, _), (0, _), (3, _), (7, _), (8, _), (9, _)]) (.cons rfl (.cons rfl (.cons rfl (.cons rfl (.cons rfl (.cons rfl (.cons rfl .nil))))))) ?_
        refine wc_condT rfl ?_
        refine wc_seq ?_
        refine wc_region ?_
        refine wl_assign rfl rfl ?_
        refine wl_nil ?_
        refine qs_seq ?_
        refine wc_ret ?_
        refine qs_then_ret ?_
        refine qs_block_ret ?_
        refine qs_then_ret ?_
        refine qs_then_ret ?_
        refine qs_block_ret ?_
        refine qs_then_ret ?_
        refine fin1 (.inr rfl) rfl rfl ?_
        have hbad : rightB l = false := right_bad hx (fun q => by obtain ⟨q1, q2, q3, q4, q5, q6, q7⟩ := rightI_iff.1 q; first | omega | (simp_all; done))
        exact ⟨_, rfl, by rw [hbad], hS5.pick [1] rfl⟩
      · skip
        refine wl_guard rfl rfl (decide_eq_false h7) ?_
        refine wl_fieldAddr rfl fo_49_0 rfl ?_
        refine wl_guard rfl rfl (decide_eq_false h7) ?_
        refine wl_load rfl ag_3 (by first | assumption | exact hS5.cell 0 rfl rfl) rfl ?_
        refine wl_guard rfl rfl (decide_eq_false h7) ?_
        refine wl_gtr rfl rfl rfl ?_
        refine wl_pickF rfl (decide_eq_false h7) rfl rfl ?_
        refine wl_move rfl rfl ?_
        refine wl_splitD 30 rfl (fun h8 => ?_) (fun h8 => ?_)
        · skip
          refine wl_unwanted rfl rfl (decide_eq_true h8) rfl ?_
          refine wl_unwanted rfl rfl (decide_eq_true h8) rfl ?_
          refine wl_unwanted rfl rfl (decide_eq_true h8) rfl ?_
          refine wl_pickT rfl (decide_eq_true h8) rfl rfl ?_
          refine wl_move rfl rfl ?_
          refine wl_unwanted rfl rfl rfl rfl ?_
          refine wl_unwanted rfl rfl rfl rfl ?_
          refine wl_unwanted rfl rfl rfl rfl ?_
          refine wl_pickT rfl rfl rfl rfl ?_
          refine wl_move rfl rfl ?_
          refine wl_unwanted rfl rfl rfl rfl ?_
          refine wl_unwanted rfl rfl rfl rfl ?_
          refine wl_pickT rfl rfl rfl rfl ?_
          refine wl_move rfl rfl ?_
          refine wl_unwanted rfl rfl rfl rfl ?_
          refine wl_unwanted rfl rfl rfl rfl ?_
          refine wl_unwanted rfl rfl rfl rfl ?_
          refine wl_unwanted rfl rfl rfl rfl ?_
          refine wl_pickT rfl rfl rfl rfl ?_
          refine wl_move rfl rfl ?_
          refine wl_unwanted rfl rfl rfl rfl ?_
          refine wl_unwanted rfl rfl rfl rfl ?_
          refine wl_unwanted rfl rfl rfl rfl ?_
          refine wl_pickT rfl rfl rfl rfl ?_
          refine wl_nil ?_
          refine qs_seq ?_
          refine wc_sub (L' := [(54, _), (5, _), (0, _), (3, _), (7, _), (8, _), (9, _)]) (.cons rfl (.cons rfl (.cons rfl (.cons rfl (.cons rfl (.cons rfl (.cons rfl .nil))))))) ?_
          refine wc_condT rfl ?_
          refine wc_seq ?_
          refine wc_region ?_
          refine wl_assign rfl rfl ?_
          refine wl_nil ?_
          refine qs_seq ?_
          refine wc_ret ?_
          refine qs_then_ret ?_
          refine qs_block_ret ?_
          refine qs_then_ret ?_
          refine qs_then_ret ?_
          refine qs_block_ret ?_
          refine qs_then_ret ?_
          refine fin1 (.inr rfl) rfl rfl ?_
          have hbad : rightB l = false := right_bad hx (fun q => by obtain ⟨q1, q2, q3, q4, q5, q6, q7⟩ := rightI_iff.1 q; first | omega | (simp_all; done))
          exact ⟨_, rfl, by rw [hbad], hS5.pick [1] rfl⟩
        · skip
          refine wl_guard rfl rfl (decide_eq_false h8) ?_
          refine wl_fieldAddr rfl fo_49_1 rfl ?_
          refine wl_guard rfl rfl (decide_eq_false h8) ?_
          refine wl_load rfl ag_3 (by first | assumption | exact hS5.cell 0 rfl rfl) rfl ?_
          refine wl_guard rfl rfl (decide_eq_false h8) ?_
          refine wl_lss rfl rfl rfl ?_
          refine wl_pickF rfl (decide_eq_false h8) rfl rfl ?_
          refine wl_move rfl rfl ?_
          refine wl_splitD 35 rfl (fun h9 => ?_) (fun h9 => ?_)
          · skip
            refine wl_unwanted rfl rfl (decide_eq_true h9) rfl ?_
            refine wl_unwanted rfl rfl (decide_eq_true h9) rfl ?_
            refine wl_unwanted rfl rfl (decide_eq_true h9) rfl ?_
            refine wl_pickT rfl (decide_eq_true h9) rfl rfl ?_
            refine wl_move rfl rfl ?_
            refine wl_unwanted rfl rfl rfl rfl ?_
            refine wl_unwanted rfl rfl rfl rfl ?_
            refine wl_pickT rfl rfl rfl rfl ?_
            refine wl_move rfl rfl ?_
            refine wl_unwanted rfl rfl rfl rfl ?_
            refine wl_unwanted rfl rfl rfl rfl ?_
            refine wl_unwanted rfl rfl rfl rfl ?_
            refine wl_unwanted rfl rfl rfl rfl ?_
            refine wl_pickT rfl rfl rfl rfl ?_
            refine wl_move rfl rfl ?_
            refine wl_unwanted rfl rfl rfl rfl ?_
            refine wl_unwanted rfl rfl rfl rfl ?_
            refine wl_unwanted rfl rfl rfl rfl ?_
            refine wl_pickT rfl rfl rfl rfl ?_
            refine wl_nil ?_
            refine qs_seq ?_
            refine wc_sub (L' := [(54, _), (5, _), (0, _), (3, _), (7, _), (8, _), (9, _)]) (.cons rfl (.cons rfl (.cons rfl (.cons rfl (.cons rfl (.cons rfl (.cons rfl .nil))))))) ?_
            refine wc_condT rfl ?_
            refine wc_seq ?_
            refine wc_region ?_
            refine wl_assign rfl rfl ?_
            refine wl_nil ?_
            refine qs_seq ?_
            refine wc_ret ?_
            refine qs_then_ret ?_
            refine qs_block_ret ?_
            refine qs_then_ret ?_
            refine qs_then_ret ?_
            refine qs_block_ret ?_
            refine qs_then_ret ?_
            refine fin1 (.inr rfl) rfl rfl ?_
            have hbad : rightB l = false := right_bad hx (fun q => by obtain ⟨q1, q2, q3, q4, q5, q6, q7⟩ := rightI_iff.1 q; first | omega | (simp_all; done))
            exact ⟨_, rfl, by rw [hbad], hS5.pick [1] rfl⟩
          · skip
            refine wl_guard rfl rfl (decide_eq_false h9) ?_
            refine wl_fieldAddr rfl fo_49_1 rfl ?_
            refine wl_guard rfl rfl (decide_eq_false h9) ?_
            refine wl_load rfl ag_3 (by first | assumption | exact hS5.cell 0 rfl rfl) rfl ?_
            refine wl_guard rfl rfl (decide_eq_false h9) ?_
            refine wl_geq rfl rfl rfl ?_
            refine wl_pickF rfl (decide_eq_false h9) rfl rfl ?_
            refine wl_move rfl rfl ?_
            refine wl_splitD 40 rfl (fun h10 => ?_) (fun h10 => ?_)
            · skip
              refine wl_unwanted rfl rfl (decide_eq_true h10) rfl ?_
              refine wl_unwanted rfl rfl (decide_eq_true h10) rfl ?_
              refine wl_pickT rfl (decide_eq_true h10) rfl rfl ?_
              refine wl_move rfl rfl ?_
              refine wl_unwanted rfl rfl rfl rfl ?_
              refine wl_unwanted rfl rfl rfl rfl ?_
              refine wl_unwanted rfl rfl rfl rfl ?_
              refine wl_unwanted rfl rfl rfl rfl ?_
              refine wl_pickT rfl rfl rfl rfl ?_
              refine wl_move rfl rfl ?_
              refine wl_unwanted rfl rfl rfl rfl ?_
              refine wl_unwanted rfl rfl rfl rfl ?_
              refine wl_unwanted rfl rfl rfl rfl ?_
              refine wl_pickT rfl rfl rfl rfl ?_
              refine wl_nil ?_
              refine qs_seq ?_
              refine wc_sub (L' := [(54, _), (5, _), (0, _), (3, _), (7, _), (8, _), (9, _)]) (.cons rfl (.cons rfl (.cons rfl (.cons rfl (.cons rfl (.cons rfl (.cons rfl .nil))))))) ?_
              refine wc_condT rfl ?_
              refine wc_seq ?_
              refine wc_region ?_
              refine wl_assign rfl rfl ?_
              refine wl_nil ?_
              refine qs_seq ?_
              refine wc_ret ?_
              refine qs_then_ret ?_
              refine qs_block_ret ?_
              refine qs_then_ret ?_
              refine qs_then_ret ?_
              refine qs_block_ret ?_
              refine qs_then_ret ?_
              refine fin1 (.inr rfl) rfl rfl ?_
              have hbad : rightB l = false := right_bad hx (fun q => by obtain ⟨q1, q2, q3, q4, q5, q6, q7⟩ := rightI_iff.1 q; first | omega | (simp_all; done))
              exact ⟨_, rfl, by rw [hbad], hS5.pick [1] rfl⟩
            · skip
              refine wl_guard rfl rfl (decide_eq_false h10) ?_
              refine wl_move rfl rfl ?_
              refine wl_guard rfl rfl (decide_eq_false h10) ?_
              refine wl_not rfl rfl ?_
              refine wl_pickF rfl (decide_eq_false h10) rfl rfl ?_
              refine wl_move rfl rfl ?_
              refine wl_guard rfl rfl rfl ?_
              refine wl_fieldAddr rfl fo_49_2 rfl ?_
              refine wl_guard rfl rfl rfl ?_
              refine wl_load rfl ag_9 (by first | assumption | exact hS5.cell 0 rfl rfl) rfl ?_
              refine wl_guard rfl rfl rfl ?_
              refine wl_lenS Tryz.underlying9 rfl rfl ?_
              refine wl_guard rfl rfl rfl ?_
              refine wl_gtr rfl rfl rfl ?_
              refine wl_pickF rfl rfl rfl rfl ?_
              refine wl_move rfl rfl ?_
              refine wl_splitD 50 rfl (fun h11 => ?_) (fun h11 => ?_)
              · skip
                refine wl_unwanted rfl rfl (decide_eq_true h11) rfl ?_
                refine wl_unwanted rfl rfl (decide_eq_true h11) rfl ?_
                refine wl_unwanted rfl rfl (decide_eq_true h11) rfl ?_
                refine wl_pickT rfl (decide_eq_true h11) rfl rfl ?_
                refine wl_nil ?_
                refine qs_seq ?_
                refine wc_sub (L' := [(54, _), (5, _), (0, _), (3, _), (7, _), (8, _), (9, _)]) (.cons rfl (.cons rfl (.cons rfl (.cons rfl (.cons rfl (.cons rfl (.cons rfl .nil))))))) ?_
                refine wc_condT rfl ?_
                refine wc_seq ?_
                refine wc_region ?_
                refine wl_assign rfl rfl ?_
                refine wl_nil ?_
                refine qs_seq ?_
                refine wc_ret ?_
                refine qs_then_ret ?_
                refine qs_block_ret ?_
                refine qs_then_ret ?_
                refine qs_then_ret ?_
                refine qs_block_ret ?_
                refine qs_then_ret ?_
                refine fin1 (.inr rfl) rfl rfl ?_
                have hbad : rightB l = false := right_bad hx (fun q => by obtain ⟨q1, q2, q3, q4, q5, q6, q7⟩ := rightI_iff.1 q; first | omega | (simp_all; done))
                exact ⟨_, rfl, by rw [hbad], hS5.pick [1] rfl⟩
              · skip
                refine wl_guard rfl rfl (decide_eq_false h11) ?_
                refine wl_fieldAddr rfl fo_49_2 rfl ?_
                refine wl_guard rfl rfl (decide_eq_false h11) ?_
                refine wl_load rfl ag_9 (by first | assumption | exact hS5.cell 0 rfl rfl) rfl ?_
                refine wl_guard rfl rfl (decide_eq_false h11) ?_
                have hC12 := hS5.split [] [false, false] rfl; dsimp only [selF, pickA, nthA, List.cons_append, List.nil_append] at hC12
                refine wl_call cal_70 rfl (contains_sp hC12 x.t 10) rfl ?_
                rintro e w12 ⟨_, rfl, rfl, hS12⟩; refine ⟨_, rfl, ?_⟩
                replace hS12 := hS12.join rfl; dsimp only [List.dropLast, List.cons_append, List.nil_append] at hS12; clear hC12
                clear hS5
                refine wl_pickF rfl (decide_eq_false h11) rfl rfl ?_
                refine wl_nil ?_
                refine qs_seq ?_
                refine wc_sub (L' := [(54, _), (5, _), (0, _), (3, _), (7, _), (8, _), (9, _)]) (.cons rfl (.cons rfl (.cons rfl (.cons rfl (.cons rfl (.cons rfl (.cons rfl .nil))))))) ?_
                refine wc_cond rfl (fun h13 => ?_) (fun h13 => ?_)
                · skip
                  refine wc_seq ?_
                  refine wc_region ?_
                  refine wl_assign rfl rfl ?_
                  refine wl_nil ?_
                  refine qs_seq ?_
                  refine wc_ret ?_
                  refine qs_then_ret ?_
                  refine qs_block_ret ?_
                  refine qs_then_ret ?_
                  refine qs_then_ret ?_
                  refine qs_block_ret ?_
                  refine qs_then_ret ?_
                  refine fin1 (.inr rfl) rfl rfl ?_
                  have hbad : rightB l = false := right_bad hx (fun q => by obtain ⟨q1, q2, q3, q4, q5, q6, q7⟩ := rightI_iff.1 q; first | omega | (simp_all; done))
                  exact ⟨_, rfl, by rw [hbad], hS12.pick [1] rfl⟩
                · skip
                  refine wc_skip ?_
                  refine qs_seq ?_
                  refine wc_region ?_
                  refine wl_fieldAddr rfl fo_49_0 rfl ?_
                  refine wl_load rfl ag_3 (by first | assumption | exact hS12.cell 0 rfl rfl) rfl ?_
                  refine wl_assign rfl rfl ?_
                  refine wl_nil ?_
                  refine qs_block_normal ?_
                  refine qs_seq ?_
                  refine wc_region ?_
                  refine wl_add rfl rfl (by omega) (by omega) rfl ?_
                  refine wl_move rfl rfl ?_
                  refine wl_nil ?_
                  have hri : rightI (lastI l i 0) x = true := rightI_iff.2 ⟨by omega, by omega, by omega, by omega, .inl (by assumption), by omega, by simp_all⟩
                  exact qs_round (L1 := [(0, _), (3, _), (7, _), (8, _), (9, intV ((i + 1 : Nat) : Int))]) (.cons rfl (.cons rfl (.cons rfl (.cons rfl (.cons rfl .nil))))) (k1 := l.length - (i + 1)) (by omega) ⟨i + 1, rfl, by rw [last_succ hx], hS12.pick [1] rfl, by omega, fun j y hj hq => by by_cases e : j = i; (subst e; rw [hx] at hq; cases hq; exact hri); exact hok j y (by omega) hq⟩
    · skip
      refine wl_guard rfl rfl (decide_eq_false h6) ?_
      refine wl_fieldAddr rfl fo_49_2 rfl ?_
      refine wl_guard rfl rfl (decide_eq_false h6) ?_
      refine wl_load rfl ag_9 (by first | assumption | exact hS5.cell 0 rfl rfl) rfl ?_
      refine wl_guard rfl rfl (decide_eq_false h6) ?_
      refine wl_eqlS rfl rfl rfl ?_
      refine wl_pickF rfl (decide_eq_false h6) rfl rfl ?_
      refine wl_assign rfl rfl ?_
      refine wl_nil ?_
      refine qs_seq ?_
      refine wc_sub (L' := [(6, _), (5, _), (0, _), (3, _), (7, _), (8, _), (9, _)]) (.cons rfl (.cons rfl (.cons rfl (.cons rfl (.cons rfl (.cons rfl (.cons rfl .nil))))))) ?_
      refine wc_seq ?_
      refine wc_seq ?_
      refine wc_region ?_
      refine wl_fieldAddr rfl fo_49_0 rfl ?_
      refine wl_load rfl ag_3 (by first | assumption | exact hS5.cell 0 rfl rfl) rfl ?_
      refine wl_move rfl rfl ?_
      refine wl_lss rfl rfl rfl ?_
      refine wl_move rfl rfl ?_
      refine wl_splitD 25 rfl (fun h14 => ?_) (fun h14 => ?_)
      · skip
        refine wl_unwanted rfl rfl (decide_eq_true h14) rfl ?_
        refine wl_unwanted rfl rfl (decide_eq_true h14) rfl ?_
        refine wl_unwanted rfl rfl (decide_eq_true h14) rfl ?_
        refine wl_pickT rfl (decide_eq_true h14) rfl rfl ?_
        refine wl_move rfl rfl ?_
        refine wl_unwanted rfl rfl rfl rfl ?_
        refine wl_unwanted rfl rfl rfl rfl ?_
        refine wl_unwanted rfl rfl rfl rfl ?_
        refine wl_pickT rfl rfl rfl rfl ?_
        refine wl_move rfl rfl ?_
        refine wl_unwanted rfl rfl rfl rfl ?_
        refine wl_unwanted rfl rfl rfl rfl ?_
        refine wl_unwanted rfl rfl rfl rfl ?_
        refine wl_pickT rfl rfl rfl rfl ?_
        refine wl_move rfl rfl ?_
        refine wl_unwanted rfl rfl rfl rfl ?_
        refine wl_unwanted rfl rfl rfl rfl ?_
        refine wl_pickT rfl rfl rfl rfl ?_
        refine wl_move rfl rfl ?_
        refine wl_unwanted rfl rfl rfl rfl ?_
        refine wl_unwanted rfl rfl rfl rfl ?_
        refine wl_unwanted rfl rfl rfl rfl ?_
        refine wl_unwanted rfl rfl rfl rfl ?_
        refine wl_pickT rfl rfl rfl rfl ?_
        refine wl_move rfl rfl ?_
        refine wl_unwanted rfl rfl rfl rfl ?_
        refine wl_unwanted rfl rfl rfl rfl ?_
        refine wl_unwanted rfl rfl rfl rfl ?_
        refine wl_pickT rfl rfl rfl rfl ?_
        refine wl_nil ?_
        refine qs_seq ?_
        refine wc_sub (L' := [(54, _), (5, _), (0, _), (3, _), (7, _), (8, _), (9, _)]) (.cons rfl (.cons rfl (.cons rfl (.cons rfl (.cons rfl (.cons rfl (.cons rfl .nil))))))) ?_
        refine wc_condT rfl ?_
        refine wc_seq ?_
        refine wc_region ?_
        refine wl_assign rfl rfl ?_
        refine wl_nil ?_
        refine qs_seq ?_
        refine wc_ret ?_
        refine qs_then_ret ?_
        refine qs_block_ret ?_
        refine qs_then_ret ?_
        refine qs_then_ret ?_
        refine qs_block_ret ?_
        refine qs_then_ret ?_
        refine fin1 (.inr rfl) rfl rfl ?_
        have hbad : rightB l = false := right_bad hx (fun q => by obtain ⟨q1, q2, q3, q4, q5, q6, q7⟩ := rightI_iff.1 q; first | omega | (simp_all; done))
        exact ⟨_, rfl, by rw [hbad], hS5.pick [1] rfl⟩
      · skip
        refine wl_guard rfl rfl (decide_eq_false h14) ?_
        refine wl_fieldAddr rfl fo_49_0 rfl ?_
        refine wl_guard rfl rfl (decide_eq_false h14) ?_
        refine wl_load rfl ag_3 (by first | assumption | exact hS5.cell 0 rfl rfl) rfl ?_
        refine wl_guard rfl rfl (decide_eq_false h14) ?_
        refine wl_gtr rfl rfl rfl ?_
        refine wl_pickF rfl (decide_eq_false h14) rfl rfl ?_
        refine wl_move rfl rfl ?_
        refine wl_splitD 30 rfl (fun h15 => ?_) (fun h15 => ?_)
        · skip
          refine wl_unwanted rfl rfl (decide_eq_true h15) rfl ?_
          refine wl_unwanted rfl rfl (decide_eq_true h15) rfl ?_
          refine wl_unwanted rfl rfl (decide_eq_true h15) rfl ?_
          refine wl_pickT rfl (decide_eq_true h15) rfl rfl ?_
          refine wl_move rfl rfl ?_
          refine wl_unwanted rfl rfl rfl rfl ?_
          refine wl_unwanted rfl rfl rfl rfl ?_
          refine wl_unwanted rfl rfl rfl rfl ?_
          refine wl_pickT rfl rfl rfl rfl ?_
          refine wl_move rfl rfl ?_
          refine wl_unwanted rfl rfl rfl rfl ?_
          refine wl_unwanted rfl rfl rfl rfl ?_
          refine wl_pickT rfl rfl rfl rfl ?_
          refine wl_move rfl rfl ?_
          refine wl_unwanted rfl rfl rfl rfl ?_
          refine wl_unwanted rfl rfl rfl rfl ?_
          refine wl_unwanted rfl rfl rfl rfl ?_
          refine wl_unwanted rfl rfl rfl rfl ?_
          refine wl_pickT rfl rfl rfl rfl ?_
          refine wl_move rfl rfl ?_
          refine wl_unwanted rfl rfl rfl rfl ?_
          refine wl_unwanted rfl rfl rfl rfl ?_
          refine wl_unwanted rfl rfl rfl rfl ?_
          refine wl_pickT rfl rfl rfl rfl ?_
          refine wl_nil ?_
          refine qs_seq ?_
          refine wc_sub (L' := [(54, _), (5, _), (0, _), (3, _), (7, _), (8, _), (9, _)]) (.cons rfl (.cons rfl (.cons rfl (.cons rfl (.cons rfl (.cons rfl (.cons rfl .nil))))))) ?_
          refine wc_condT rfl ?_
          refine wc_seq ?_
          refine wc_region ?_
          refine wl_assign rfl rfl ?_
          refine wl_nil ?_
          refine qs_seq ?_
          refine wc_ret ?_
          refine qs_then_ret ?_
          refine qs_block_ret ?_
          refine qs_then_ret ?_
          refine qs_then_ret ?_
          refine qs_block_ret ?_
          refine qs_then_ret ?_
          refine fin1 (.inr rfl) rfl rfl ?_
          have hbad : rightB l = false := right_bad hx (fun q => by obtain ⟨q1, q2, q3, q4, q5, q6, q7⟩ := rightI_iff.1 q; first | omega | (simp_all; done))
          exact ⟨_, rfl, by rw [hbad], hS5.pick [1] rfl⟩
        · skip
          refine wl_guard rfl rfl (decide_eq_false h15) ?_
          refine wl_fieldAddr rfl fo_49_1 rfl ?_
          refine wl_guard rfl rfl (decide_eq_false h15) ?_
          refine wl_load rfl ag_3 (by first | assumption | exact hS5.cell 0 rfl rfl) rfl ?_
          refine wl_guard rfl rfl (decide_eq_false h15) ?_
          refine wl_lss rfl rfl rfl ?_
          refine wl_pickF rfl (decide_eq_false h15) rfl rfl ?_
          refine wl_move rfl rfl ?_
          refine wl_splitD 35 rfl (fun h16 => ?_) (fun h16 => ?_)
          · skip
            refine wl_unwanted rfl rfl (decide_eq_true h16) rfl ?_
            refine wl_unwanted rfl rfl (decide_eq_true h16) rfl ?_
            refine wl_unwanted rfl rfl (decide_eq_true h16) rfl ?_
            refine wl_pickT rfl (decide_eq_true h16) rfl rfl ?_
            refine wl_move rfl rfl ?_
            refine wl_unwanted rfl rfl rfl rfl ?_
            refine wl_unwanted rfl rfl rfl rfl ?_
            refine wl_pickT rfl rfl rfl rfl ?_
            refine wl_move rfl rfl ?_
            refine wl_unwanted rfl rfl rfl rfl ?_
            refine wl_unwanted rfl rfl rfl rfl ?_
            refine wl_unwanted rfl rfl rfl rfl ?_
            refine wl_unwanted rfl rfl rfl rfl ?_
            refine wl_pickT rfl rfl rfl rfl ?_
            refine wl_move rfl rfl ?_
            refine wl_unwanted rfl rfl rfl rfl ?_
            refine wl_unwanted rfl rfl rfl rfl ?_
            refine wl_unwanted rfl rfl rfl rfl ?_
            refine wl_pickT rfl rfl rfl rfl ?_
            refine wl_nil ?_
            refine qs_seq ?_
            refine wc_sub (L' := [(54, _), (5, _), (0, _), (3, _), (7, _), (8, _), (9, _)]) (.cons rfl (.cons rfl (.cons rfl (.cons rfl (.cons rfl (.cons rfl (.cons rfl .nil))))))) ?_
            refine wc_condT rfl ?_
            refine wc_seq ?_
            refine wc_region ?_
            refine wl_assign rfl rfl ?_
            refine wl_nil ?_
            refine qs_seq ?_
            refine wc_ret ?_
            refine qs_then_ret ?_
            refine qs_block_ret ?_
            refine qs_then_ret ?_
            refine qs_then_ret ?_
            refine qs_block_ret ?_
            refine qs_then_ret ?_
            refine fin1 (.inr rfl) rfl rfl ?_
            have hbad : rightB l = false := right_bad hx (fun q => by obtain ⟨q1, q2, q3, q4, q5, q6, q7⟩ := rightI_iff.1 q; first | omega | (simp_all; done))
            exact ⟨_, rfl, by rw [hbad], hS5.pick [1] rfl⟩
          · skip
            refine wl_guard rfl rfl (decide_eq_false h16) ?_
            refine wl_fieldAddr rfl fo_49_1 rfl ?_
            refine wl_guard rfl rfl (decide_eq_false h16) ?_
            refine wl_load rfl ag_3 (by first | assumption | exact hS5.cell 0 rfl rfl) rfl ?_
            refine wl_guard rfl rfl (decide_eq_false h16) ?_
            refine wl_geq rfl rfl rfl ?_
            refine wl_pickF rfl (decide_eq_false h16) rfl rfl ?_
            refine wl_move rfl rfl ?_
            refine wl_splitD 40 rfl (fun h17 => ?_) (fun h17 => ?_)
            · skip
              refine wl_unwanted rfl rfl (decide_eq_true h17) rfl ?_
              refine wl_unwanted rfl rfl (decide_eq_true h17) rfl ?_
              refine wl_pickT rfl (decide_eq_true h17) rfl rfl ?_
              refine wl_move rfl rfl ?_
              refine wl_unwanted rfl rfl rfl rfl ?_
              refine wl_unwanted rfl rfl rfl rfl ?_
              refine wl_unwanted rfl rfl rfl rfl ?_
              refine wl_unwanted rfl rfl rfl rfl ?_
              refine wl_pickT rfl rfl rfl rfl ?_
              refine wl_move rfl rfl ?_
              refine wl_unwanted rfl rfl rfl rfl ?_
              refine wl_unwanted rfl rfl rfl rfl ?_
              refine wl_unwanted rfl rfl rfl rfl ?_
              refine wl_pickT rfl rfl rfl rfl ?_
              refine wl_nil ?_
              refine qs_seq ?_
              refine wc_sub (L' := [(54, _), (5, _), (0, _), (3, _), (7, _), (8, _), (9, _)]) (.cons rfl (.cons rfl (.cons rfl (.cons rfl (.cons rfl (.cons rfl (.cons rfl .nil))))))) ?_
              refine wc_condT rfl ?_
              refine wc_seq ?_
              refine wc_region ?_
              refine wl_assign rfl rfl ?_
              refine wl_nil ?_
              refine qs_seq ?_
              refine wc_ret ?_
              refine qs_then_ret ?_
              refine qs_block_ret ?_
              refine qs_then_ret ?_
              refine qs_then_ret ?_
              refine qs_block_ret ?_
              refine qs_then_ret ?_
              refine fin1 (.inr rfl) rfl rfl ?_
              have hbad : rightB l = false := right_bad hx (fun q => by obtain ⟨q1, q2, q3, q4, q5, q6, q7⟩ := rightI_iff.1 q; first | omega | (simp_all; done))
              exact ⟨_, rfl, by rw [hbad], hS5.pick [1] rfl⟩
            · skip
              refine wl_guard rfl rfl (decide_eq_false h17) ?_
              refine wl_move rfl rfl ?_
              refine wl_guard rfl rfl (decide_eq_false h17) ?_
              refine wl_not rfl rfl ?_
              refine wl_pickF rfl (decide_eq_false h17) rfl rfl ?_
              refine wl_move rfl rfl ?_
              refine wl_split 44 rfl (fun h18 => ?_) (fun h18 => ?_)
              · skip
                refine wl_unwanted rfl rfl h18 rfl ?_
                refine wl_unwanted rfl rfl h18 rfl ?_
                refine wl_unwanted rfl rfl h18 rfl ?_
                refine wl_unwanted rfl rfl h18 rfl ?_
                refine wl_pickT rfl h18 rfl rfl ?_
                refine wl_move rfl rfl ?_
                refine wl_unwanted rfl rfl rfl rfl ?_
                refine wl_unwanted rfl rfl rfl rfl ?_
                refine wl_unwanted rfl rfl rfl rfl ?_
                refine wl_pickT rfl rfl rfl rfl ?_
                refine wl_nil ?_
                refine qs_seq ?_
                refine wc_sub (L' := [(54, _), (5, _), (0, _), (3, _), (7, _), (8, _), (9, _)]) (.cons rfl (.cons rfl (.cons rfl (.cons rfl (.cons rfl (.cons rfl (.cons rfl .nil))))))) ?_
                refine wc_condT rfl ?_
                refine wc_seq ?_
                refine wc_region ?_
                refine wl_assign rfl rfl ?_
                refine wl_nil ?_
                refine qs_seq ?_
                refine wc_ret ?_
                refine qs_then_ret ?_
                refine qs_block_ret ?_
                refine qs_then_ret ?_
                refine qs_then_ret ?_
                refine qs_block_ret ?_
                refine qs_then_ret ?_
                refine fin1 (.inr rfl) rfl rfl ?_
                have hbad : rightB l = false := right_bad hx (fun q => by obtain ⟨q1, q2, q3, q4, q5, q6, q7⟩ := rightI_iff.1 q; first | omega | (simp_all; done))
                exact ⟨_, rfl, by rw [hbad], hS5.pick [1] rfl⟩
              · skip
                refine wl_guard rfl rfl h18 ?_
                refine wl_fieldAddr rfl fo_49_2 rfl ?_
                refine wl_guard rfl rfl h18 ?_
                refine wl_load rfl ag_9 (by first | assumption | exact hS5.cell 0 rfl rfl) rfl ?_
                refine wl_guard rfl rfl h18 ?_
                refine wl_lenS Tryz.underlying9 rfl rfl ?_
                refine wl_guard rfl rfl h18 ?_
                refine wl_gtr rfl rfl rfl ?_
                refine wl_pickF rfl h18 rfl rfl ?_
                refine wl_move rfl rfl ?_
                refine wl_splitD 50 rfl (fun h19 => ?_) (fun h19 => ?_)
                · skip
                  refine wl_unwanted rfl rfl (decide_eq_true h19) rfl ?_
                  refine wl_unwanted rfl rfl (decide_eq_true h19) rfl ?_
                  refine wl_unwanted rfl rfl (decide_eq_true h19) rfl ?_
                  refine wl_pickT rfl (decide_eq_true h19) rfl rfl ?_
                  refine wl_nil ?_
                  refine qs_seq ?_
                  refine wc_sub (L' := [(54, _), (5, _), (0, _), (3, _), (7, _), (8, _), (9, _)]) (.cons rfl (.cons rfl (.cons rfl (.cons rfl (.cons rfl (.cons rfl (.cons rfl .nil))))))) ?_
                  refine wc_condT rfl ?_
                  refine wc_seq ?_
                  refine wc_region ?_
                  refine wl_assign rfl rfl ?_
                  refine wl_nil ?_
                  refine qs_seq ?_
                  refine wc_ret ?_
                  refine qs_then_ret ?_
                  refine qs_block_ret ?_
                  refine qs_then_ret ?_
                  refine qs_then_ret ?_
                  refine qs_block_ret ?_
                  refine qs_then_ret ?_
                  refine fin1 (.inr rfl) rfl rfl ?_
                  have hbad : rightB l = false := right_bad hx (fun q => by obtain ⟨q1, q2, q3, q4, q5, q6, q7⟩ := rightI_iff.1 q; first | omega | (simp_all; done))
                  exact ⟨_, rfl, by rw [hbad], hS5.pick [1] rfl⟩
                · skip
                  refine wl_guard rfl rfl (decide_eq_false h19) ?_
                  refine wl_fieldAddr rfl fo_49_2 rfl ?_
                  refine wl_guard rfl rfl (decide_eq_false h19) ?_
                  refine wl_load rfl ag_9 (by first | assumption | exact hS5.cell 0 rfl rfl) rfl ?_
                  refine wl_guard rfl rfl (decide_eq_false h19) ?_
                  have hC20 := hS5.split [] [false, false] rfl; dsimp only [selF, pickA, nthA, List.cons_append, List.nil_append] at hC20
                  refine wl_call cal_70 rfl (contains_sp hC20 x.t 10) rfl ?_
                  rintro e w20 ⟨_, rfl, rfl, hS20⟩; refine ⟨_, rfl, ?_⟩
                  replace hS20 := hS20.join rfl; dsimp only [List.dropLast, List.cons_append, List.nil_append] at hS20; clear hC20
                  clear hS5
                  refine wl_pickF rfl (decide_eq_false h19) rfl rfl ?_
                  refine wl_nil ?_
                  refine qs_seq ?_
                  refine wc_sub (L' := [(54, _), (5, _), (0, _), (3, _), (7, _), (8, _), (9, _)]) (.cons rfl (.cons rfl (.cons rfl (.cons rfl (.cons rfl (.cons rfl (.cons rfl .nil))))))) ?_
                  refine wc_cond rfl (fun h21 => ?_) (fun h21 => ?_)
                  · skip
                    refine wc_seq ?_
                    refine wc_region ?_
                    refine wl_assign rfl rfl ?_
                    refine wl_nil ?_
                    refine qs_seq ?_
                    refine wc_ret ?_
                    refine qs_then_ret ?_
                    refine qs_block_ret ?_
                    refine qs_then_ret ?_
                    refine qs_then_ret ?_
                    refine qs_block_ret ?_
                    refine qs_then_ret ?_
                    refine fin1 (.inr rfl) rfl rfl ?_
                    have hbad : rightB l = false := right_bad hx (fun q => by obtain ⟨q1, q2, q3, q4, q5, q6, q7⟩ := rightI_iff.1 q; first | omega | (simp_all; done))
                    exact ⟨_, rfl, by rw [hbad], hS20.pick [1] rfl⟩
                  · skip
                    refine wc_skip ?_
                    refine qs_seq ?_
                    refine wc_region ?_
                    refine wl_fieldAddr rfl fo_49_0 rfl ?_
                    refine wl_load rfl ag_3 (by first | assumption | exact hS20.cell 0 rfl rfl) rfl ?_
                    refine wl_assign rfl rfl ?_
                    refine wl_nil ?_
                    refine qs_block_normal ?_
                    refine qs_seq ?_
                    refine wc_region ?_
                    refine wl_add rfl rfl (by omega) (by omega) rfl ?_
                    refine wl_move rfl rfl ?_
                    refine wl_nil ?_
                    have hri : rightI (lastI l i 0) x = true := rightI_iff.2 ⟨by omega, by omega, by omega, by omega, .inr (by first | assumption | (simp_all; done)), by omega, by simp_all⟩
                    exact qs_round (L1 := [(0, _), (3, _), (7, _), (8, _), (9, intV ((i + 1 : Nat) : Int))]) (.cons rfl (.cons rfl (.cons rfl (.cons rfl (.cons rfl .nil))))) (k1 := l.length - (i + 1)) (by omega) ⟨i + 1, rfl, by rw [last_succ hx], hS20.pick [1] rfl, by omega, fun j y hj hq => by by_cases e : j = i; (subst e; rw [hx] at hq; cases hq; exact hri); exact hok j y (by omega) hq⟩
  · skip
    refine wc_exit ?_
    refine qs_then_exit ?_
    refine qs_then_exit ?_
    refine qs_block_exit ?_
    refine qs_seq ?_
    refine wc_seq ?_
    refine wc_region ?_
    refine wl_move rfl rfl ?_
    refine wl_lenL Tryz.underlying34 rfl rfl ?_
    refine wl_leq rfl rfl rfl ?_
    refine wl_assign rfl rfl ?_
    refine wl_nil ?_
    refine qs_seq ?_
    refine wc_ret ?_
    refine fin1 (.inr rfl) rfl rfl ?_
    exact ⟨_, rfl, by rw [right_end hok (by omega)], hS1.pick [0] rfl⟩

def OkIt (x : ItemD) : Prop := inI x.a ∧ inI x.k ∧ x.t.length ≤ 1000000
theorem encN_len {n : Int} (h : inI n) : (encN n).length ≤ 30 := by
  have := (itoa_len h).1
  unfold encN; simp; omega
theorem encX_len {x : ItemD} (h : OkIt x) : (encX x).length ≤ 1000200 := by
  have h1 := encN_len h.1
  have h2 := encN_len h.2.1
  have h3 := (itoa_len (n := (x.t.length : Int)) (by have := h.2.2; unfold inI; omega)).1
  have h4 := h.2.2
  unfold encX encT
  simp only [List.length_append, List.length_cons, List.length_nil]; omega
theorem encs_succ {l : List ItemD} {i : Nat} {x : ItemD} (hx : l[i]? = some x) : (l.take (i + 1)).flatMap encX = (l.take i).flatMap encX ++ encX x := by
  rw [take_snoc hx]; simp
theorem encT_len1 {s : Bs} (h : s.length ≤ 1000000) : (encT s).length ≤ s.length + 40 := by
  have h1 := (itoa_len (n := (s.length : Int)) (by unfold inI; omega)).1
  unfold encT
  simp only [List.length_append, List.length_cons, List.length_nil]; omega
set_option maxRecDepth 100000 in
theorem bytes_sp {w : World} {F : Th} (hS : Sat w [F]) (hG : Ent F WireG) {lv : Value} {l : List ItemD} (hL : Ent F (RdL itC lv l)) (hln : l.length ≤ 1000) (hok : ∀ x ∈ l, OkIt x) :
    Calls Tryz.prog 46 #[lv] w (Ret fun v w' => v = strV (encL l) ∧ Sat w' [F]) := by
  obtain ⟨ao, cap, rfl, hmax⟩ := (hL.sat hS 0 rfl).shape
  refine calls_enter Tryz.func46 rfl Tryz.ntmps46 rfl ?_
  have hnl := encN_len (n := (l.length : Int)) (by unfold inI; omega)
  refine wc_seq ?_
  refine wc_region ?_
  refine wl_assign rfl rfl ?_
  refine wl_nil ?_
  refine qs_seq ?_
  refine wc_seq ?_
  refine wc_region ?_
  refine wl_allocT hS zr_96 (cs := [.pointer none, .slice none 0 0]) rfl rfl ?_
  intro bb wB hSB
  have hSC := bldT_shut (.inl rfl) ((bufT_nil hSB).perm (List.Perm.swap _ _ _))
  refine wl_nil ?_
  refine qs_seq ?_
  refine wc_seq ?_
  refine wc_region ?_
  refine wl_move rfl rfl ?_
  refine wl_lenL Tryz.underlying34 rfl rfl ?_
  have hC1 := hSC.split [] [false, false] rfl; dsimp only [selF, pickA, nthA, List.cons_append, List.nil_append] at hC1
  refine wl_call cal_67 rfl (wNum_sp hC1 (hG.starL 1 rfl) (l.length : Int) (by unfold inI; omega) (by omega)) rfl ?_
  rintro e w1 ⟨_, rfl, rfl, hS1⟩; refine ⟨_, rfl, ?_⟩
  replace hS1 := hS1.join rfl; dsimp only [List.dropLast, List.cons_append, List.nil_append] at hS1; clear hC1
  clear hSC
  have hC2 := hS1.split [0] [true, false] rfl; dsimp only [selF, pickA, nthA, List.cons_append, List.nil_append] at hC2
  refine wl_call cal_66 rfl (bl_writeString hC2 (encN (l.length : Int)) (by simp only [List.length_nil]; omega)) rfl ?_
  rintro e w2 ⟨_, rfl, rfl, hS2⟩; refine ⟨_, rfl, ?_⟩
  replace hS2 := hS2.join rfl; dsimp only [List.dropLast, List.cons_append, List.nil_append] at hS2; clear hC2
  clear hS1
  refine wl_nil ?_
  refine qs_seq ?_
  refine wc_seq ?_
  refine wc_seq ?_
  refine wc_region ?_
  refine wl_move rfl rfl ?_
  refine wl_lenL Tryz.underlying34 rfl rfl ?_
  refine wl_move rfl rfl ?_
  refine wl_nil ?_
  refine qs_seq ?_
  refine wc_block ?_
  refine wc_loop (fun K0 E0 W0 => ∃ (i : Nat), K0 = l.length - i ∧ E0 = [(3, ptrV bb 0), (10, .slice ao l.length cap), (11, intV (l.length : Int)), (12, intV (i : Int))] ∧ Sat W0 [bldT bb (encN (l.length : Int) ++ (l.take i).flatMap encX), F] ∧ (i ≤ l.length) ∧ (((l.take i).flatMap encX).length ≤ 1000200 * i)) (L0 := [(3, _), (10, _), (11, _), (12, _)]) (l.length - 0) (.cons rfl (.cons rfl (.cons rfl (.cons rfl .nil)))) ⟨0, rfl, rfl, (by rw [List.take_zero, List.flatMap_nil, List.append_nil]; exact hS2), by omega, by simp⟩ ?_
  rintro _ _ w3 ⟨i, rfl, rfl, hS3, hi, hbl⟩
  refine wc_seq ?_
  refine wc_region ?_
  refine wl_lss rfl rfl rfl ?_
  refine wl_nil ?_
  refine qs_seq ?_
  refine wc_seq ?_
  refine wc_condD rfl (fun h4 => ?_) (fun h4 => ?_)
  · skip
    obtain ⟨x, hx⟩ : ∃ x, l[i]? = some x := ⟨_, List.getElem?_eq_getElem (by omega)⟩
    obtain ⟨b, off, rfl, hc⟩ := (hL.sat hS3 1 rfl).get hx
    have hox := hok x (List.mem_of_getElem? hx)
    have hxl := encX_len hox
    refine wc_skip ?_
    refine qs_seq ?_
    refine wc_seq ?_
    refine wc_block ?_
    refine wc_seq ?_
    refine wc_region ?_
    refine wl_indexAddr i rfl rfl (by first | rfl | omega) (by omega) es_34 rfl ?_
    refine wl_loadAt rfl ag_49 sz_49 (vs := itV x) hc rfl ?_
    refine wl_alloc hS3 zr_49 rfl rfl ?_
    intro b5 w5 hS5
    clear hS3
    first | (refine wl_storeA hS5 rfl rfl sz_49 rfl (by first | rfl | (simp [allOne, Value.oneCell']; done) | assumption | exact hone) (i := 0) rfl (by first | decide | exact Nat.le_of_ble_eq_true rfl | (simp; done) | omega) ?_) | (refine wl_storeA hS5 rfl rfl sz_49 rfl (by first | rfl | (simp [allOne, Value.oneCell']; done) | assumption | exact hone) (i := 1) rfl (by first | decide | exact Nat.le_of_ble_eq_true rfl | (simp; done) | omega) ?_)
    intro w6 hS7; dsimp only [List.set] at hS7
    clear hS5
    refine wl_nil ?_
    refine qs_seq ?_
    have hS8 := hS7.drew
    refine wc_draw [0, 1, 3, 4, 7, 8, 2, 5, 6, 9, 10, 11] [2, 5, 9, 11] mix (by kernel_rfl) ?_
    refine vc_p rfl rfl rfl (fun _ => (ev_fieldAddr rfl fo_49_0)) ?_
    refine vc_q rfl rfl rfl (ev_load rfl ag_3 (by first | assumption | exact hS8.cell 0 rfl rfl | exact hS8.cell 1 rfl rfl)) ?_
    refine vc_p rfl rfl rfl (fun _ => (ev_fieldAddr rfl fo_49_1)) ?_
    refine vc_q rfl rfl rfl (ev_load rfl ag_3 (by first | assumption | exact hS8.cell 0 rfl rfl | exact hS8.cell 1 rfl rfl)) ?_
    refine vc_p rfl rfl rfl (fun _ => (ev_fieldAddr rfl fo_49_2)) ?_
    refine vc_q rfl rfl rfl (ev_load rfl ag_9 (by first | assumption | exact hS8.cell 0 rfl rfl | exact hS8.cell 1 rfl rfl)) ?_
    refine vc_s rfl rfl rfl rfl rfl rfl ?_
    have hC9 := hS8.split [] [false, false, false] rfl; dsimp only [selF, pickA, nthA, List.cons_append, List.nil_append] at hC9
    refine wl_call cal_60 rfl (wInt_sp hC9 (hG.starL 2 rfl) x.a hox.1) rfl ?_
    rintro e w9 ⟨_, rfl, rfl, hS9⟩; refine ⟨_, rfl, ?_⟩
    replace hS9 := hS9.join rfl; dsimp only [List.dropLast, List.cons_append, List.nil_append] at hS9; clear hC9
    clear hS8
    have hil1 := (itoa_len hox.1).1
    refine vc_e (.cons (.inl ⟨rfl, (ev_load rfl ag_9 (by first | assumption | exact hS9.cell 0 rfl rfl | exact hS9.cell 1 rfl rfl))⟩) (.cons (.inl ⟨rfl, (ev_load rfl ag_3 (by first | assumption | exact hS9.cell 0 rfl rfl | exact hS9.cell 1 rfl rfl))⟩) (.skip (by kernel_rfl) .nil))) ?_
    refine vc_s rfl rfl rfl rfl rfl rfl ?_
    have hC10 := hS9.split [] [false, false, false] rfl; dsimp only [selF, pickA, nthA, List.cons_append, List.nil_append] at hC10
    refine wl_call cal_60 rfl (wInt_sp hC10 (hG.starL 2 rfl) x.k hox.2.1) rfl ?_
    rintro e w10 ⟨_, rfl, rfl, hS10⟩; refine ⟨_, rfl, ?_⟩
    replace hS10 := hS10.join rfl; dsimp only [List.dropLast, List.cons_append, List.nil_append] at hS10; clear hC10
    clear hS9
    have hil2 := (itoa_len hox.2.1).1
    refine vc_e (.cons (.inl ⟨rfl, (ev_load rfl ag_9 (by first | assumption | exact hS10.cell 0 rfl rfl | exact hS10.cell 1 rfl rfl))⟩) (.skip (by kernel_rfl) (.skip (by kernel_rfl) .nil))) ?_
    refine vc_p rfl rfl rfl (fun _ => (ev_concat rfl rfl (by first | omega | (simp; omega) | (have := hox.2.2; simp; omega)))) ?_
    refine vc_s rfl rfl rfl rfl rfl rfl ?_
    have hC11 := hS10.split [] [false, false, false] rfl; dsimp only [selF, pickA, nthA, List.cons_append, List.nil_append] at hC11
    refine wl_call cal_68 rfl (wText_sp hC11 (hG.starL 2 rfl) x.t hox.2.2) rfl ?_
    rintro e w11 ⟨_, rfl, rfl, hS11⟩; refine ⟨_, rfl, ?_⟩
    replace hS11 := hS11.join rfl; dsimp only [List.dropLast, List.cons_append, List.nil_append] at hS11; clear hC11
    clear hS10
    have htl := encT_len1 hox.2.2
    refine vc_e (.skip (by kernel_rfl) (.skip (by kernel_rfl) (.skip (by kernel_rfl) .nil))) ?_
    refine vc_p rfl rfl rfl (fun _ => (ev_concat rfl rfl (by first | omega | (simp; omega) | (have := hox.2.2; simp; omega)))) ?_
    refine vc_s rfl rfl rfl rfl rfl rfl ?_
    have hC12 := hS11.split [1] [false, true, false] rfl; dsimp only [selF, pickA, nthA, List.cons_append, List.nil_append] at hC12
    refine wl_call cal_66 rfl (bl_writeString hC12 (encX x) (by rw [List.length_append]; omega)) rfl ?_
    rintro e w12 ⟨_, rfl, rfl, hS12⟩; refine ⟨_, rfl, ?_⟩
    replace hS12 := hS12.join rfl; dsimp only [List.dropLast, List.cons_append, List.nil_append] at hS12; clear hC12
    clear hS11
    refine vc_e (.skip (by kernel_rfl) (.skip (by kernel_rfl) (.skip (by kernel_rfl) .nil))) ?_
    refine VC.nil ?_
    refine qs_block_normal ?_
    refine qs_seq ?_
    refine wc_sub (L' := [(3, _), (10, _), (11, _), (12, _)]) (.cons rfl (.cons rfl (.cons rfl (.cons rfl .nil)))) ?_
    refine wc_region ?_
    refine wl_add rfl rfl (by first | omega | (simp; omega) | (have := hox.2.2; simp; omega)) (by first | omega | (simp; omega) | (have := hox.2.2; simp; omega)) rfl ?_
    refine wl_move rfl rfl ?_
    refine wl_nil ?_
    exact qs_round (L1 := [(3, _), (10, _), (11, _), (12, intV ((i + 1 : Nat) : Int))]) (.cons rfl (.cons rfl (.cons rfl (.cons rfl .nil)))) (k1 := l.length - (i + 1)) (by omega) ⟨i + 1, rfl, rfl, by rw [encs_succ hx, ← List.append_assoc]; exact hS12.pick [0, 2] rfl, by omega, by rw [encs_succ hx, List.length_append]; omega⟩
  · skip
    refine wc_exit ?_
    refine qs_then_exit ?_
    refine qs_then_exit ?_
    refine qs_block_exit ?_
    refine qs_seq ?_
    refine wc_seq ?_
    refine wc_region ?_
    have hC13 := hS3.split [0] [true, false] rfl; dsimp only [selF, pickA, nthA, List.cons_append, List.nil_append] at hC13
    refine wl_call cal_69 rfl (bl_string hC13 (by rw [List.length_append]; omega)) rfl ?_
    rintro e w13 ⟨_, rfl, rfl, hS13⟩; refine ⟨_, rfl, ?_⟩
    replace hS13 := hS13.join rfl; dsimp only [List.dropLast, List.cons_append, List.nil_append] at hS13; clear hC13
    clear hS3
    refine wl_assign rfl rfl ?_
    refine wl_nil ?_
    refine qs_seq ?_
    refine wc_ret ?_
    refine fin1 (.inr rfl) rfl rfl ?_
    exact ⟨_, rfl, by rw [List.take_of_length_le (by omega)]; rfl, hS13.pick [0] rfl⟩

theorem right_ok {l : List ItemD} (h : rightB l = true) : ∀ x ∈ l, OkIt x := fun x hx => by
  have := right_mem h x hx
  exact ⟨by unfold inI; omega, by unfold inI; omega, by omega⟩
def fillK : List Bs := [kPos, kCtl, kPart]
def fillN (W : WS) (c : Bs) : Nat → WS
  | 0 => putS W kIn c
  | n + 1 => putS (fillN W c n) (fillK.getD n []) []
theorem fill_fin {W : WS} {l : List ItemD} (h : rightB l = true) : fillN W (fillC l) 3 = fillW W l := by
  unfold fillW; rw [if_pos h]; rfl
theorem encL_len {l : List ItemD} (h1 : l.length ≤ 1000) (h : ∀ x ∈ l, OkIt x) : (encL l).length ≤ 2000000000 := by
  have h2 := encN_len (n := (l.length : Int)) (by unfold inI; omega)
  have key : ∀ l : List ItemD, (∀ x ∈ l, OkIt x) → (l.flatMap encX).length ≤ 1000200 * l.length := by
    intro l
    induction l with
    | nil => simp
    | cons x l ih =>
      intro h
      have h3 := encX_len (h x List.mem_cons_self)
      have h4 := ih fun y hy => h y (List.mem_cons_of_mem _ hy)
      simp only [List.flatMap_cons, List.length_append, List.length_cons]; omega
  have h5 := key l h
  unfold encL
  rw [List.length_append]; omega
set_option maxRecDepth 100000 in
theorem fill_sp {w : World} {p : Nat} {W : WS} {F : Th} (hS : Sat w [worldT p W, F]) (hG : Ent F WireG) {lv : Value} {l : List ItemD} (hL : Ent F (RdL itC lv l)) (hln : l.length ≤ 1000) :
    Calls Tryz.prog 21 #[.iface 24 (ptrV p 0), lv] w (Ret fun v w' => v = intV (fillE l) ∧ Sat w' [worldT p (fillW W l), F]) := by
  obtain ⟨ao, cap, rfl, hmax⟩ := (hL.sat (hS.pull 1 rfl) 0 rfl).shape
  refine calls_enter Tryz.func21 rfl Tryz.ntmps21 rfl ?_
  refine wc_seq ?_
  refine wc_region ?_
  refine wl_assign rfl rfl ?_
  refine wl_nil ?_
  refine qs_seq ?_
  refine wc_seq ?_
  refine wc_seq ?_
  refine wc_region ?_
  refine wl_move rfl rfl ?_
  have hC1 := hS.split [] [false, false] rfl; dsimp only [selF, pickA, nthA, List.cons_append, List.nil_append] at hC1
  refine wl_call cal_47 rfl (right_sp hC1 (hL.starL 1 rfl) hln) rfl ?_
  rintro e w1 ⟨_, rfl, rfl, hS1⟩; refine ⟨_, rfl, ?_⟩
  replace hS1 := hS1.join rfl; dsimp only [List.dropLast, List.cons_append, List.nil_append] at hS1; clear hC1
  refine wl_not rfl rfl ?_
  refine wl_nil ?_
  refine qs_seq ?_
  refine wc_cond rfl (fun h2 => ?_) (fun h2 => ?_)
  · skip
    refine wc_seq ?_
    refine wc_region ?_
    refine wl_assign rfl rfl ?_
    refine wl_nil ?_
    refine qs_seq ?_
    refine wc_ret ?_
    refine qs_then_ret ?_
    refine fin1 (.inr rfl) rfl rfl ?_
    exact ⟨_, rfl, by unfold fillE; rw [if_neg (by simp_all)], by unfold fillW; rw [if_neg (by simp_all)]; exact hS1.pick [0, 1] rfl⟩
  · skip
    have hrb : rightB l = true := by simpa using h2
    have hok := right_ok hrb
    refine wc_skip ?_
    refine qs_seq ?_
    refine wc_seq ?_
    refine wc_region ?_
    refine wl_assign rfl rfl ?_
    refine wl_nil ?_
    refine qs_seq ?_
    refine wc_seq ?_
    refine wc_seq ?_
    refine wc_region ?_
    refine wl_move rfl rfl ?_
    refine wl_lenL Tryz.underlying34 rfl rfl ?_
    refine wl_gtr rfl rfl rfl ?_
    refine wl_nil ?_
    refine qs_seq ?_
    refine wc_condD rfl (fun h3 => ?_) (fun h3 => ?_)
    · skip
      refine wc_region ?_
      refine wl_move rfl rfl ?_
      have hC4 := hS1.split [] [false, false] rfl; dsimp only [selF, pickA, nthA, List.cons_append, List.nil_append] at hC4
      refine wl_call cal_46 rfl (bytes_sp hC4 (hG.starL 1 rfl) (hL.starL 1 rfl) hln hok) rfl ?_
      rintro e w4 ⟨_, rfl, rfl, hS4⟩; refine ⟨_, rfl, ?_⟩
      replace hS4 := hS4.join rfl; dsimp only [List.dropLast, List.cons_append, List.nil_append] at hS4; clear hC4
      clear hS1
      refine wl_assign rfl rfl ?_
      refine wl_nil ?_
      refine qs_seq ?_
      refine wc_sub (L' := [(5, _), (4, _), (0, _)]) (.cons rfl (.cons rfl (.cons rfl .nil))) ?_
      refine wc_seq ?_
      refine wc_region ?_
      refine wl_move rfl rfl ?_
      refine wl_move rfl rfl ?_
      have hC5 := hS4.split [0] [true, false] rfl; dsimp only [selF, pickA, nthA, List.cons_append, List.nil_append] at hC5
      refine wl_invoke (vs := [strV kIn, strV (encL l)]) rfl (imeth_Put p) cal_30 rfl (put_sp hC5 kIn (encL l) (by decide) (by have := encL_len hln hok; omega)) rfl ?_
      rintro e w5 ⟨_, rfl, rfl, hS5⟩; refine ⟨_, rfl, ?_⟩
      replace hS5 := hS5.join rfl; dsimp only [List.dropLast, List.cons_append, List.nil_append] at hS5; clear hC5
      clear hS4
      have hfc : fillC l = encL l := by unfold fillC; rw [if_neg (fun e => by subst e; simp at *)]
      refine wl_nil ?_
      refine qs_seq ?_
      refine wc_seq ?_
      refine wc_seq ?_
      refine wc_region ?_
      refine wl_rowBuild stC fillK hS5 rfl Tryz.underlying27 ifz_9 rfl rfl rfl rfl (by first | rfl | simp [RowC.cells, fillL, splice]) rfl ?_
      intro b6 w6 hS6
      clear hS5
      refine wl_lenO 0 hS6 Tryz.underlying27 rfl rfl rfl ?_
      refine wl_move rfl rfl ?_
      refine wl_nil ?_
      refine qs_seq ?_
      refine wc_block ?_
      refine wc_loop (fun K0 E0 W0 => ∃ (i : Nat) (kv : Value), K0 = 3 - i ∧ E0 = [(0, .iface 24 (ptrV p 0)), (19, kv), (20, intV 3), (21, intV (i : Int))] ∧ Sat W0 [rowT stC kv fillK, worldT p (fillN W (fillC l) i), F] ∧ (i ≤ 3)) (L0 := [(0, _), (19, _), (20, _), (21, _)]) (3 - 0) (.cons rfl (.cons rfl (.cons rfl (.cons rfl .nil)))) ⟨0, _, rfl, rfl, (by rw [hfc]; exact hS6.pick [0, 1, 2] rfl), by omega⟩ ?_
      rintro _ _ w7 ⟨i, kv, rfl, rfl, hS7, hi⟩
      refine wc_seq ?_
      refine wc_region ?_
      refine wl_lss rfl rfl rfl ?_
      refine wl_nil ?_
      refine qs_seq ?_
      refine wc_seq ?_
      refine wc_condD rfl (fun h8 => ?_) (fun h8 => ?_)
      · skip
        obtain ⟨s, hsi⟩ : ∃ s, fillK[i]? = some s := ⟨_, List.getElem?_eq_getElem (by show i < 3; omega)⟩
        have hsl : s.length ≤ 100 := by have hm := List.mem_of_getElem? hsi; simp only [fillK, List.mem_cons, List.not_mem_nil, or_false] at hm; rcases hm with rfl | rfl | rfl <;> decide
        have hgd : fillK.getD i [] = s := by rw [List.getD_eq_getElem?_getD, hsi]; rfl
        refine wc_skip ?_
        refine qs_seq ?_
        refine wc_seq ?_
        refine wc_block ?_
        refine wc_seq ?_
        refine wc_region ?_
        refine wl_rowIdx stC 0 i hS7 rfl rfl rfl (by first | rfl | omega) hsi es_27 rfl ?_
        intro bx9 capx9 hvx9
        refine wl_rowLoad 0 i 0 hS7 rfl hvx9 rfl rfl hsi ag_9 rfl rfl ?_
        refine wl_assign rfl rfl ?_
        refine wl_nil ?_
        refine qs_seq ?_
        refine wc_region ?_
        refine wl_move rfl rfl ?_
        refine wl_move rfl rfl ?_
        have hC10 := hS7.split [1] [false, true, false] rfl; dsimp only [selF, pickA, nthA, List.cons_append, List.nil_append] at hC10
        refine wl_invoke (vs := [strV s, strV []]) rfl (imeth_Put p) cal_30 rfl (put_sp hC10 s [] (by omega) (by simp)) rfl ?_
        rintro e w10 ⟨_, rfl, rfl, hS10⟩; refine ⟨_, rfl, ?_⟩
        replace hS10 := hS10.join rfl; dsimp only [List.dropLast, List.cons_append, List.nil_append] at hS10; clear hC10
        clear hS7
        rw [← hgd] at hS10
        refine wl_nil ?_
        refine qs_block_normal ?_
        refine qs_seq ?_
        refine wc_sub (L' := [(0, _), (19, _), (20, _), (21, _)]) (.cons rfl (.cons rfl (.cons rfl (.cons rfl .nil)))) ?_
        refine wc_region ?_
        refine wl_add rfl rfl (by omega) (by omega) rfl ?_
        refine wl_move rfl rfl ?_
        refine wl_nil ?_
        exact qs_round (L1 := [(0, _), (19, _), (20, _), (21, intV ((i + 1 : Nat) : Int))]) (.cons rfl (.cons rfl (.cons rfl (.cons rfl .nil)))) (k1 := 3 - (i + 1)) (by omega) ⟨i + 1, _, rfl, rfl, hS10.pick [1, 0, 2] rfl, by omega⟩
      · skip
        refine wc_exit ?_
        refine qs_then_exit ?_
        refine qs_then_exit ?_
        refine qs_block_exit ?_
        refine qs_seq ?_
        refine wc_seq ?_
        refine wc_region ?_
        refine wl_assign rfl rfl ?_
        refine wl_nil ?_
        refine qs_seq ?_
        refine wc_ret ?_
        refine fin1 (.inr rfl) rfl rfl ?_
        obtain rfl : i = 3 := by omega
        exact ⟨_, rfl, by unfold fillE; rw [if_pos hrb], by rw [← fill_fin hrb]; exact hS7.pick [1, 2] rfl⟩
    · skip
      refine wc_skip ?_
      refine qs_seq ?_
      refine wc_seq ?_
      refine wc_region ?_
      refine wl_move rfl rfl ?_
      refine wl_move rfl rfl ?_
      have hC11 := hS1.split [0] [true, false] rfl; dsimp only [selF, pickA, nthA, List.cons_append, List.nil_append] at hC11
      refine wl_invoke (vs := [strV kIn, strV []]) rfl (imeth_Put p) cal_30 rfl (put_sp hC11 kIn [] (by decide) (by simp)) rfl ?_
      rintro e w11 ⟨_, rfl, rfl, hS11⟩; refine ⟨_, rfl, ?_⟩
      replace hS11 := hS11.join rfl; dsimp only [List.dropLast, List.cons_append, List.nil_append] at hS11; clear hC11
      clear hS1
      have hfc : fillC l = [] := by unfold fillC; rw [if_pos (List.length_eq_zero_iff.1 (by omega))]
      refine wl_nil ?_
      refine qs_seq ?_
      refine wc_sub (L' := [(4, _), (0, _)]) (.cons rfl (.cons rfl .nil)) ?_
      refine wc_seq ?_
      refine wc_seq ?_
      refine wc_region ?_
      refine wl_rowBuild stC fillK hS11 rfl Tryz.underlying27 ifz_9 rfl rfl rfl rfl (by first | rfl | simp [RowC.cells, fillL, splice]) rfl ?_
      intro b12 w12 hS12
      clear hS11
      refine wl_lenO 0 hS12 Tryz.underlying27 rfl rfl rfl ?_
      refine wl_move rfl rfl ?_
      refine wl_nil ?_
      refine qs_seq ?_
      refine wc_block ?_
      refine wc_loop (fun K0 E0 W0 => ∃ (i : Nat) (kv : Value), K0 = 3 - i ∧ E0 = [(0, .iface 24 (ptrV p 0)), (19, kv), (20, intV 3), (21, intV (i : Int))] ∧ Sat W0 [rowT stC kv fillK, worldT p (fillN W (fillC l) i), F] ∧ (i ≤ 3)) (L0 := [(0, _), (19, _), (20, _), (21, _)]) (3 - 0) (.cons rfl (.cons rfl (.cons rfl (.cons rfl .nil)))) ⟨0, _, rfl, rfl, (by rw [hfc]; exact hS12.pick [0, 1, 2] rfl), by omega⟩ ?_
      rintro _ _ w13 ⟨i, kv, rfl, rfl, hS13, hi⟩
      refine wc_seq ?_
      refine wc_region ?_
      refine wl_lss rfl rfl rfl ?_
      refine wl_nil ?_
      refine qs_seq ?_
      refine wc_seq ?_
      refine wc_condD rfl (fun h14 => ?_) (fun h14 => ?_)
      · skip
        obtain ⟨s, hsi⟩ : ∃ s, fillK[i]? = some s := ⟨_, List.getElem?_eq_getElem (by show i < 3; omega)⟩
        have hsl : s.length ≤ 100 := by have hm := List.mem_of_getElem? hsi; simp only [fillK, List.mem_cons, List.not_mem_nil, or_false] at hm; rcases hm with rfl | rfl | rfl <;> decide
        have hgd : fillK.getD i [] = s := by rw [List.getD_eq_getElem?_getD, hsi]; rfl
        refine wc_skip ?_
        refine qs_seq ?_
        refine wc_seq ?_
        refine wc_block ?_
        refine wc_seq ?_
        refine wc_region ?_
        refine wl_rowIdx stC 0 i hS13 rfl rfl rfl (by first | rfl | omega) hsi es_27 rfl ?_
        intro bx15 capx15 hvx15
        refine wl_rowLoad 0 i 0 hS13 rfl hvx15 rfl rfl hsi ag_9 rfl rfl ?_
        refine wl_assign rfl rfl ?_
        refine wl_nil ?_
        refine qs_seq ?_
        refine wc_region ?_
        refine wl_move rfl rfl ?_
        refine wl_move rfl rfl ?_
        have hC16 := hS13.split [1] [false, true, false] rfl; dsimp only [selF, pickA, nthA, List.cons_append, List.nil_append] at hC16
        refine wl_invoke (vs := [strV s, strV []]) rfl (imeth_Put p) cal_30 rfl (put_sp hC16 s [] (by omega) (by simp)) rfl ?_
        rintro e w16 ⟨_, rfl, rfl, hS16⟩; refine ⟨_, rfl, ?_⟩
        replace hS16 := hS16.join rfl; dsimp only [List.dropLast, List.cons_append, List.nil_append] at hS16; clear hC16
        clear hS13
        rw [← hgd] at hS16
        refine wl_nil ?_
        refine qs_block_normal ?_
        refine qs_seq ?_
        refine wc_sub (L' := [(0, _), (19, _), (20, _), (21, _)]) (.cons rfl (.cons rfl (.cons rfl (.cons rfl .nil)))) ?_
        refine wc_region ?_
        refine wl_add rfl rfl (by omega) (by omega) rfl ?_
        refine wl_move rfl rfl ?_
        refine wl_nil ?_
        exact qs_round (L1 := [(0, _), (19, _), (20, _), (21, intV ((i + 1 : Nat) : Int))]) (.cons rfl (.cons rfl (.cons rfl (.cons rfl .nil)))) (k1 := 3 - (i + 1)) (by omega) ⟨i + 1, _, rfl, rfl, hS16.pick [1, 0, 2] rfl, by omega⟩
      · skip
        refine wc_exit ?_
        refine qs_then_exit ?_
        refine qs_then_exit ?_
        refine qs_block_exit ?_
        refine qs_seq ?_
        refine wc_seq ?_
        refine wc_region ?_
        refine wl_assign rfl rfl ?_
        refine wl_nil ?_
        refine qs_seq ?_
        refine wc_ret ?_
        refine fin1 (.inr rfl) rfl rfl ?_
        obtain rfl : i = 3 := by omega
        exact ⟨_, rfl, by unfold fillE; rw [if_pos hrb], by rw [← fill_fin hrb]; exact hS13.pick [1, 2] rfl⟩

end Go.Proofs.YtdkfppcafpjomaaGreatDoor
