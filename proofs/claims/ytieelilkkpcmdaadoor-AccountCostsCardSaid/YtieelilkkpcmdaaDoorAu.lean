/- laws of account: AccountCosts -/
import Derived.Test.YtieelilkkpcmdaaDoorAt
namespace Go.Proofs.YtieelilkkpcmdaaDoor
open Go.RowKit M
set_option linter.unusedVariables false
set_option maxRecDepth 100000 in
set_option maxHeartbeats 1000000 in
theorem costs_law {w : World} {F : Th} (hS : Sat w [F]) (hG : Ent F WireG) {lv : Value} {l : List ArD} (hL : Ent F (RdL arC lv l)) (p n c : Int) :
    Calls Tryd.prog 7 #[lv, intV p, intV n, intV c] w (Ret fun v w' => v = .bool true ∧ Sat w' [F]) := by
  obtain ⟨ao, cap, rfl, hmax⟩ := (hL.sat hS 0 rfl).shape
  refine calls_enter Tryd.func7 rfl Tryd.ntmps7 rfl ?_
  refine wc_seq ?_
  refine wc_region ?_
  refine wl_assign rfl rfl ?_
  refine wl_nil ?_
  refine qs_seq ?_
  refine wc_seq ?_
  refine wc_region ?_
  have hC1 := hS.split [] [false] rfl; dsimp only [selF, pickA, nthA, List.cons_append, List.nil_append] at hC1
  refine wl_call cal_25 rfl (asmall_sp hC1 (hG.starL 0 rfl)) rfl ?_
  rintro e w1 ⟨_, rfl, rfl, hS1⟩; refine ⟨_, rfl, ?_⟩
  replace hS1 := hS1.join rfl; dsimp only [List.dropLast, List.cons_append, List.nil_append] at hS1; clear hC1
  refine wl_assign rfl rfl ?_
  refine wl_nil ?_
  refine qs_seq ?_
  refine wc_seq ?_
  refine wc_region ?_
  have hC2 := hS1.split [] [false] rfl; dsimp only [selF, pickA, nthA, List.cons_append, List.nil_append] at hC2
  refine wl_call cal_26 rfl (new_sp hC2) rfl ?_
  rintro e w2 ⟨_, rfl, wp, rfl, hS2⟩; refine ⟨_, rfl, ?_⟩
  replace hS2 := hS2.join rfl; dsimp only [List.dropLast, List.cons_append, List.nil_append] at hS2; clear hC2
  clear hS1
  refine wl_assign rfl rfl ?_
  refine wl_nil ?_
  refine qs_seq ?_
  refine wc_seq ?_
  refine wc_seq ?_
  refine wc_region ?_
  refine wl_move rfl rfl ?_
  refine wl_lenL Tryd.underlying52 rfl rfl ?_
  refine wl_gtr rfl rfl rfl ?_
  refine wl_move rfl rfl ?_
  refine wl_splitD 26 rfl (fun h3 => ?_) (fun h3 => ?_)
  · skip
    refine wl_unwanted rfl rfl (decide_eq_true h3) rfl ?_
    refine wl_unwanted rfl rfl (decide_eq_true h3) rfl ?_
    refine wl_pickT rfl (decide_eq_true h3) rfl rfl ?_
    refine wl_nil ?_
    refine qs_seq ?_
    refine wc_sub (L' := [(29, _), (10, _), (9, _), (8, _), (0, _), (1, _), (2, _), (3, _)]) (.cons rfl (.cons rfl (.cons rfl (.cons rfl (.cons rfl (.cons rfl (.cons rfl (.cons rfl .nil)))))))) ?_
    refine wc_condT rfl ?_
    refine wc_seq ?_
    refine wc_region ?_
    refine wl_move rfl rfl ?_
    refine wl_move rfl rfl ?_
    refine wl_guard rfl rfl rfl ?_
    refine wl_move rfl rfl ?_
    refine wl_guard rfl rfl rfl ?_
    refine wl_neqNil Tryd.underlying26 rfl rfl rfl ?_
    refine wl_pickT rfl rfl rfl rfl ?_
    refine wl_assign rfl rfl ?_
    refine wl_nil ?_
    refine qs_seq ?_
    refine wc_sub (L' := [(8, _), (10, _), (9, _), (0, _), (1, _), (2, _), (3, _)]) (.cons rfl (.cons rfl (.cons rfl (.cons rfl (.cons rfl (.cons rfl (.cons rfl .nil))))))) ?_
    refine wc_ret ?_
    refine qs_then_ret ?_
    refine fin1 (.inr rfl) rfl rfl ?_
    exact ⟨_, rfl, by first | rfl | simp, hS2.pick [1] rfl⟩
  · skip
    have hlen : l.length ≤ 40 := by omega
    refine wl_guard rfl rfl (decide_eq_false h3) ?_
    refine wl_move rfl rfl ?_
    refine wl_guard rfl rfl (decide_eq_false h3) ?_
    refine wl_eqlNil Tryd.underlying26 rfl rfl rfl ?_
    refine wl_pickF rfl (decide_eq_false h3) rfl rfl ?_
    refine wl_nil ?_
    refine qs_seq ?_
    refine wc_sub (L' := [(29, _), (10, _), (9, _), (8, _), (0, _), (1, _), (2, _), (3, _)]) (.cons rfl (.cons rfl (.cons rfl (.cons rfl (.cons rfl (.cons rfl (.cons rfl (.cons rfl .nil)))))))) ?_
    refine wc_condF rfl ?_
    refine wc_skip ?_
    refine qs_seq ?_
    refine wc_seq ?_
    refine wc_seq ?_
    refine wc_region ?_
    refine wl_move rfl rfl ?_
    have hC4 := hS2.split [] [false, false] rfl; dsimp only [selF, pickA, nthA, List.cons_append, List.nil_append] at hC4
    refine wl_call cal_31 rfl (aValid_sp hC4 (hL.starL 1 rfl)) rfl ?_
    rintro e w4 ⟨_, rfl, rfl, hS4⟩; refine ⟨_, rfl, ?_⟩
    replace hS4 := hS4.join rfl; dsimp only [List.dropLast, List.cons_append, List.nil_append] at hS4; clear hC4
    clear hS2
    refine wl_not rfl rfl ?_
    refine wl_nil ?_
    refine qs_seq ?_
    refine wc_sub (L' := [(37, _), (10, _), (9, _), (8, _), (0, _), (1, _), (2, _), (3, _)]) (.cons rfl (.cons rfl (.cons rfl (.cons rfl (.cons rfl (.cons rfl (.cons rfl (.cons rfl .nil)))))))) ?_
    refine wc_cond rfl (fun h5 => ?_) (fun h5 => ?_)
    · skip
      refine wc_seq ?_
      refine wc_region ?_
      refine wl_move rfl rfl ?_
      refine wl_assign rfl rfl ?_
      refine wl_nil ?_
      refine qs_seq ?_
      refine wc_ret ?_
      refine qs_then_ret ?_
      refine fin1 (.inr rfl) rfl rfl ?_
      exact ⟨_, rfl, by first | rfl | simp, hS4.pick [1] rfl⟩
    · skip
      have hv : validL l = true := by simpa using h5
      have hvl : vL 0 l = true := by simp only [validL, Bool.and_eq_true] at hv; exact hv.1
      have hall : ∀ a ∈ l, OkA a := fun a ha => (vL_ok l 0 hvl a ha).1
      have hall5 : ∀ a ∈ l, OkA a ∧ a.first ≤ 500 := fun a ha => ⟨hall a ha, vL_first l 0 hvl a ha⟩
      have hnb : NB l := ok_nb hall (by omega)
      have hsum := sum_cost l 0 hvl
      have hsb0 := sum_bound (l := l) 256
      refine wc_skip ?_
      refine qs_seq ?_
      refine wc_seq ?_
      refine wc_region ?_
      refine wl_assign rfl rfl ?_
      refine wl_nil ?_
      refine qs_seq ?_
      refine wc_seq ?_
      refine wc_seq ?_
      refine wc_region ?_
      refine wl_assign rfl rfl ?_
      refine wl_nil ?_
      refine qs_seq ?_
      refine wc_block ?_
      refine wc_loop (fun K0 E0 W0 => ∃ (q : Nat), K0 = 256 - q ∧ E0 = [(0, .slice ao l.length cap), (1, intV p), (2, intV n), (3, intV c), (9, .bool true), (10, ptrV wp 0), (11, intV (sumP (priv l) q)), (12, intV (q : Int))] ∧ Sat W0 [worldT wp emptyW, F] ∧ (q ≤ 256)) (L0 := [(0, _), (1, _), (2, _), (3, _), (9, _), (10, _), (11, _), (12, _)]) (256 - 0) (.cons rfl (.cons rfl (.cons rfl (.cons rfl (.cons rfl (.cons rfl (.cons rfl (.cons rfl .nil)))))))) ⟨0, rfl, rfl, hS4, by omega⟩ ?_
      rintro _ _ w6 ⟨q, rfl, rfl, hS6, hq⟩
      have hsb := sum_bound (l := l) q
      refine wc_seq ?_
      refine wc_seq ?_
      refine wc_region ?_
      refine wl_move rfl rfl ?_
      refine wl_lss rfl rfl rfl ?_
      refine wl_nil ?_
      refine qs_seq ?_
      refine wc_condD rfl (fun h7 => ?_) (fun h7 => ?_)
      · skip
        refine wc_skip ?_
        refine qs_seq ?_
        refine wc_seq ?_
        refine wc_block ?_
        refine wc_seq ?_
        refine wc_region ?_
        refine wl_move rfl rfl ?_
        refine wl_move rfl rfl ?_
        have hC8 := hS6.split [] [false, false] rfl; dsimp only [selF, pickA, nthA, List.cons_append, List.nil_append] at hC8
        refine wl_call cal_32 rfl (aFind_sp hC8 (hL.starL 1 rfl) hall (q : Int)) rfl ?_
        rintro e w8 ⟨_, rfl, rfl, hS8⟩; refine ⟨_, rfl, ?_⟩
        replace hS8 := hS8.join rfl; dsimp only [List.dropLast, List.cons_append, List.nil_append] at hS8; clear hC8
        clear hS6
        refine wl_move rfl rfl ?_
        refine wl_extract rfl rfl rfl ?_
        refine wl_extract rfl rfl rfl ?_
        refine wl_alloc hS8 zr_55 rfl rfl ?_
        intro b9 w9 hS9
        clear hS8
        first | (refine wl_storeA hS9 rfl rfl sz_55 rfl (by first | rfl | (simp [allOne, Value.oneCell']; done) | assumption | exact hone) (i := 0) rfl (by first | decide | exact Nat.le_of_ble_eq_true rfl | (simp; done) | omega) ?_)
        intro w10 hS11; dsimp only [List.set] at hS11
        clear hS9
        refine wl_assign rfl rfl ?_
        refine wl_nil ?_
        refine qs_seq ?_
        refine wc_sub (L' := [(14, _), (13, _), (0, _), (1, _), (2, _), (3, _), (9, _), (10, _), (11, _), (12, _)]) (.cons rfl (.cons rfl (.cons rfl (.cons rfl (.cons rfl (.cons rfl (.cons rfl (.cons rfl (.cons rfl (.cons rfl .nil)))))))))) ?_
        refine wc_seq ?_
        refine wc_region ?_
        refine wl_move rfl rfl ?_
        refine wl_move rfl rfl ?_
        refine wl_split 50 rfl (fun h12 => ?_) (fun h12 => ?_)
        · skip
          refine wl_guard rfl rfl h12 ?_
          refine wl_fieldAddr rfl fo_55_4 rfl ?_
          refine wl_guard rfl rfl h12 ?_
          refine wl_load rfl ag_4 (by first | assumption | exact hS11.cell 0 rfl rfl) rfl ?_
          refine wl_guard rfl rfl h12 ?_
          refine wl_not rfl rfl ?_
          refine wl_pickT rfl h12 rfl rfl ?_
          refine wl_nil ?_
          refine qs_seq ?_
          refine wc_sub (L' := [(54, _), (0, _), (1, _), (2, _), (3, _), (9, _), (10, _), (11, _), (12, _)]) (.cons rfl (.cons rfl (.cons rfl (.cons rfl (.cons rfl (.cons rfl (.cons rfl (.cons rfl (.cons rfl .nil))))))))) ?_
          refine wc_cond rfl (fun h13 => ?_) (fun h13 => ?_)
          · skip
            refine wc_region ?_
            refine wl_move rfl rfl ?_
            refine wl_add rfl rfl (by omega) (by omega) rfl ?_
            refine wl_assign rfl rfl ?_
            refine wl_nil ?_
            refine qs_block_normal ?_
            refine qs_seq ?_
            refine wc_sub (L' := [(11, _), (0, _), (1, _), (2, _), (3, _), (9, _), (10, _), (12, _)]) (.cons rfl (.cons rfl (.cons rfl (.cons rfl (.cons rfl (.cons rfl (.cons rfl (.cons rfl .nil)))))))) ?_
            refine wc_region ?_
            refine wl_move rfl rfl ?_
            refine wl_add rfl rfl (by omega) (by omega) rfl ?_
            refine wl_assign rfl rfl ?_
            refine wl_nil ?_
            have hw : sumP (priv l) (q + 1) = sumP (priv l) q + 1 := by simp only [sumP]; rw [priv_eq]; simp_all
            exact qs_round (L1 := [(0, _), (1, _), (2, _), (3, _), (9, _), (10, _), (11, _), (12, intV ((q + 1 : Nat) : Int))]) (.cons rfl (.cons rfl (.cons rfl (.cons rfl (.cons rfl (.cons rfl (.cons rfl (.cons rfl .nil)))))))) (k1 := 256 - (q + 1)) (by omega) ⟨q + 1, rfl, by rw [hw], hS11.pick [1, 2] rfl, by omega⟩
          · skip
            refine wc_skip ?_
            refine qs_block_normal ?_
            refine qs_seq ?_
            refine wc_region ?_
            refine wl_move rfl rfl ?_
            refine wl_add rfl rfl (by omega) (by omega) rfl ?_
            refine wl_assign rfl rfl ?_
            refine wl_nil ?_
            have hw : sumP (priv l) (q + 1) = sumP (priv l) q := by simp only [sumP]; rw [priv_eq]; simp_all
            exact qs_round (L1 := [(0, _), (1, _), (2, _), (3, _), (9, _), (10, _), (11, _), (12, intV ((q + 1 : Nat) : Int))]) (.cons rfl (.cons rfl (.cons rfl (.cons rfl (.cons rfl (.cons rfl (.cons rfl (.cons rfl .nil)))))))) (k1 := 256 - (q + 1)) (by omega) ⟨q + 1, rfl, by rw [hw], hS11.pick [1, 2] rfl, by omega⟩
        · skip
          refine wl_unwanted rfl rfl h12 rfl ?_
          refine wl_unwanted rfl rfl h12 rfl ?_
          refine wl_unwanted rfl rfl h12 rfl ?_
          refine wl_pickF rfl h12 rfl rfl ?_
          refine wl_nil ?_
          refine qs_seq ?_
          refine wc_sub (L' := [(54, _), (0, _), (1, _), (2, _), (3, _), (9, _), (10, _), (11, _), (12, _)]) (.cons rfl (.cons rfl (.cons rfl (.cons rfl (.cons rfl (.cons rfl (.cons rfl (.cons rfl (.cons rfl .nil))))))))) ?_
          refine wc_condF rfl ?_
          refine wc_skip ?_
          refine qs_block_normal ?_
          refine qs_seq ?_
          refine wc_region ?_
          refine wl_move rfl rfl ?_
          refine wl_add rfl rfl (by omega) (by omega) rfl ?_
          refine wl_assign rfl rfl ?_
          refine wl_nil ?_
          have hw : sumP (priv l) (q + 1) = sumP (priv l) q := by simp only [sumP]; rw [priv_eq]; simp_all
          exact qs_round (L1 := [(0, _), (1, _), (2, _), (3, _), (9, _), (10, _), (11, _), (12, intV ((q + 1 : Nat) : Int))]) (.cons rfl (.cons rfl (.cons rfl (.cons rfl (.cons rfl (.cons rfl (.cons rfl (.cons rfl .nil)))))))) (k1 := 256 - (q + 1)) (by omega) ⟨q + 1, rfl, by rw [hw], hS11.pick [1, 2] rfl, by omega⟩
      · skip
        obtain rfl : q = 256 := by omega
        refine wc_exit ?_
        refine qs_then_exit ?_
        refine qs_then_exit ?_
        refine qs_block_exit ?_
        refine qs_seq ?_
        refine wc_seq ?_
        refine wc_seq ?_
        refine wc_region ?_
        refine wl_move rfl rfl ?_
        have hC14 := hS6.split [] [false, false] rfl; dsimp only [selF, pickA, nthA, List.cons_append, List.nil_append] at hC14
        refine wl_call cal_33 rfl (aCost_sp hC14 (hL.starL 1 rfl) hnb) rfl ?_
        rintro e w14 ⟨_, rfl, rfl, hS14⟩; refine ⟨_, rfl, ?_⟩
        replace hS14 := hS14.join rfl; dsimp only [List.dropLast, List.cons_append, List.nil_append] at hS14; clear hC14
        clear hS6
        refine wl_move rfl rfl ?_
        refine wl_neq rfl rfl rfl ?_
        refine wl_move rfl rfl ?_
        refine wl_splitD 61 rfl (fun h15 => ?_) (fun h15 => ?_)
        · skip
          exact absurd h15 (by omega)
        · skip
          refine wl_guard rfl rfl (decide_eq_false h15) ?_
          refine wl_move rfl rfl ?_
          refine wl_guard rfl rfl (decide_eq_false h15) ?_
          refine wl_makeIface nif_26 rfl rfl ?_
          refine wl_guard rfl rfl (decide_eq_false h15) ?_
          refine wl_move rfl rfl ?_
          refine wl_guard rfl rfl (decide_eq_false h15) ?_
          have hC16 := hS14.split [0] [true, false] rfl; dsimp only [selF, pickA, nthA, List.cons_append, List.nil_append] at hC16
          refine wl_call cal_28 rfl (chargeOk hC16 (hG.starL 0 rfl) AccI.empty (sumP (priv l) 256) (by omega)) rfl ?_
          rintro e w16 ⟨_, rfl, rfl, W1, hA1, hS16⟩; refine ⟨_, rfl, ?_⟩
          replace hS16 := hS16.join rfl; dsimp only [List.dropLast, List.cons_append, List.nil_append] at hS16; clear hC16
          clear hS14
          refine wl_guard rfl rfl (decide_eq_false h15) ?_
          refine wl_neq rfl rfl rfl ?_
          refine wl_pickF rfl (decide_eq_false h15) rfl rfl ?_
          refine wl_nil ?_
          refine qs_seq ?_
          refine wc_sub (L' := [(67, _), (0, _), (1, _), (2, _), (3, _), (9, _), (10, _)]) (.cons rfl (.cons rfl (.cons rfl (.cons rfl (.cons rfl (.cons rfl (.cons rfl .nil))))))) ?_
          refine wc_condD rfl (fun h17 => ?_) (fun h17 => ?_)
          · skip
            exact absurd rfl h17
          · skip
            refine wc_skip ?_
            refine qs_seq ?_
            refine wc_seq ?_
            refine wc_region ?_
            refine wl_move rfl rfl ?_
            refine wl_move rfl rfl ?_
            refine wl_move rfl rfl ?_
            have hC18 := hS16.split [] [false, false] rfl; dsimp only [selF, pickA, nthA, List.cons_append, List.nil_append] at hC18
            refine wl_call cal_34 rfl (aUnmap_sp hC18 (hL.starL 1 rfl) hall (by omega) p n) rfl ?_
            rintro e w18 ⟨_, rfl, (⟨e1, he1, rfl, hS18⟩ | ⟨rv1, rfl, hu1, hS18⟩)⟩
            · skip
              refine ⟨_, rfl, ?_⟩
              replace hS18 := hS18.join rfl; dsimp only [List.dropLast, List.cons_append, List.nil_append] at hS18; clear hC18
              clear hS16
              refine wl_move rfl rfl ?_
              refine wl_extract rfl rfl rfl ?_
              refine wl_extract rfl rfl rfl ?_
              refine wl_assign rfl rfl ?_
              refine wl_assign rfl rfl ?_
              refine wl_nil ?_
              refine qs_seq ?_
              refine wc_sub (L' := [(16, _), (15, _), (0, _), (1, _), (2, _), (3, _), (9, _), (10, _)]) (.cons rfl (.cons rfl (.cons rfl (.cons rfl (.cons rfl (.cons rfl (.cons rfl (.cons rfl .nil)))))))) ?_
              refine wc_seq ?_
              refine wc_seq ?_
              refine wc_region ?_
              refine wl_move rfl rfl ?_
              refine wl_neq rfl rfl rfl ?_
              refine wl_move rfl rfl ?_
              refine wl_splitD 77 rfl (fun h19 => ?_) (fun h19 => ?_)
              · skip
                refine wl_unwanted rfl rfl (decide_eq_true h19) rfl ?_
                refine wl_unwanted rfl rfl (decide_eq_true h19) rfl ?_
                refine wl_pickT rfl (decide_eq_true h19) rfl rfl ?_
                refine wl_move rfl rfl ?_
                refine wl_unwanted rfl rfl rfl rfl ?_
                refine wl_unwanted rfl rfl rfl rfl ?_
                refine wl_unwanted rfl rfl rfl rfl ?_
                refine wl_pickT rfl rfl rfl rfl ?_
                refine wl_move rfl rfl ?_
                refine wl_unwanted rfl rfl rfl rfl ?_
                refine wl_unwanted rfl rfl rfl rfl ?_
                refine wl_pickT rfl rfl rfl rfl ?_
                refine wl_move rfl rfl ?_
                refine wl_unwanted rfl rfl rfl rfl ?_
                refine wl_unwanted rfl rfl rfl rfl ?_
                refine wl_unwanted rfl rfl rfl rfl ?_
                refine wl_unwanted rfl rfl rfl rfl ?_
                refine wl_pickT rfl rfl rfl rfl ?_
                refine wl_nil ?_
                refine qs_seq ?_
                refine wc_sub (L' := [(95, _), (15, _), (0, _), (1, _), (2, _), (3, _), (9, _), (10, _)]) (.cons rfl (.cons rfl (.cons rfl (.cons rfl (.cons rfl (.cons rfl (.cons rfl (.cons rfl .nil)))))))) ?_
                refine wc_condT rfl ?_
                refine wc_seq ?_
                refine wc_region ?_
                refine wl_move rfl rfl ?_
                refine wl_assign rfl rfl ?_
                refine wl_nil ?_
                refine qs_seq ?_
                refine wc_ret ?_
                refine qs_then_ret ?_
                refine fin1 (.inr rfl) rfl rfl ?_
                exact ⟨_, rfl, by first | rfl | simp, hS18.pick [1] rfl⟩
              · skip
                exact absurd h19 (by omega)
            · skip
              refine ⟨_, rfl, ?_⟩
              replace hS18 := hS18.join rfl; dsimp only [List.dropLast, List.cons_append, List.nil_append] at hS18; clear hC18
              clear hS16
              have hnb1 : NB (unmL p n l) := unmL_nb hall (by omega) (by omega)
              have hcu := costU (l := l) (p := p) (n := n) hall (by omega) (by omega)
              refine wl_move rfl rfl ?_
              refine wl_extract rfl rfl rfl ?_
              refine wl_extract rfl rfl rfl ?_
              refine wl_assign rfl rfl ?_
              refine wl_assign rfl rfl ?_
              refine wl_nil ?_
              refine qs_seq ?_
              refine wc_sub (L' := [(16, _), (15, _), (0, _), (1, _), (2, _), (3, _), (9, _), (10, _)]) (.cons rfl (.cons rfl (.cons rfl (.cons rfl (.cons rfl (.cons rfl (.cons rfl (.cons rfl .nil)))))))) ?_
              refine wc_seq ?_
              refine wc_seq ?_
              refine wc_region ?_
              refine wl_move rfl rfl ?_
              refine wl_neq rfl rfl rfl ?_
              refine wl_move rfl rfl ?_
              refine wl_splitD 77 rfl (fun h20 => ?_) (fun h20 => ?_)
              · skip
                exact absurd rfl h20
              · skip
                refine wl_guard rfl rfl (decide_eq_false h20) ?_
                refine wl_move rfl rfl ?_
                refine wl_guard rfl rfl (decide_eq_false h20) ?_
                refine wl_lss rfl rfl rfl ?_
                refine wl_pickF rfl (decide_eq_false h20) rfl rfl ?_
                refine wl_move rfl rfl ?_
                refine wl_splitD 81 rfl (fun h21 => ?_) (fun h21 => ?_)
                · skip
                  refine wl_unwanted rfl rfl (decide_eq_true h21) rfl ?_
                  refine wl_unwanted rfl rfl (decide_eq_true h21) rfl ?_
                  refine wl_unwanted rfl rfl (decide_eq_true h21) rfl ?_
                  refine wl_pickT rfl (decide_eq_true h21) rfl rfl ?_
                  refine wl_move rfl rfl ?_
                  refine wl_unwanted rfl rfl rfl rfl ?_
                  refine wl_unwanted rfl rfl rfl rfl ?_
                  refine wl_pickT rfl rfl rfl rfl ?_
                  refine wl_move rfl rfl ?_
                  refine wl_unwanted rfl rfl rfl rfl ?_
                  refine wl_unwanted rfl rfl rfl rfl ?_
                  refine wl_unwanted rfl rfl rfl rfl ?_
                  refine wl_unwanted rfl rfl rfl rfl ?_
                  refine wl_pickT rfl rfl rfl rfl ?_
                  refine wl_nil ?_
                  refine qs_seq ?_
                  refine wc_sub (L' := [(95, _), (15, _), (0, _), (1, _), (2, _), (3, _), (9, _), (10, _)]) (.cons rfl (.cons rfl (.cons rfl (.cons rfl (.cons rfl (.cons rfl (.cons rfl (.cons rfl .nil)))))))) ?_
                  refine wc_condT rfl ?_
                  refine wc_seq ?_
                  refine wc_region ?_
                  refine wl_move rfl rfl ?_
                  refine wl_assign rfl rfl ?_
                  refine wl_nil ?_
                  refine qs_seq ?_
                  refine wc_ret ?_
                  refine qs_then_ret ?_
                  refine fin1 (.inr rfl) rfl rfl ?_
                  exact ⟨_, rfl, by first | rfl | simp, hS18.pick [2] rfl⟩
                · skip
                  refine wl_guard rfl rfl (decide_eq_false h21) ?_
                  refine wl_move rfl rfl ?_
                  refine wl_guard rfl rfl (decide_eq_false h21) ?_
                  refine wl_move rfl rfl ?_
                  refine wl_guard rfl rfl (decide_eq_false h21) ?_
                  refine wl_gtr rfl rfl rfl ?_
                  refine wl_pickF rfl (decide_eq_false h21) rfl rfl ?_
                  refine wl_move rfl rfl ?_
                  refine wl_splitD 86 rfl (fun h22 => ?_) (fun h22 => ?_)
                  · skip
                    refine wl_unwanted rfl rfl (decide_eq_true h22) rfl ?_
                    refine wl_unwanted rfl rfl (decide_eq_true h22) rfl ?_
                    refine wl_pickT rfl (decide_eq_true h22) rfl rfl ?_
                    refine wl_move rfl rfl ?_
                    refine wl_unwanted rfl rfl rfl rfl ?_
                    refine wl_unwanted rfl rfl rfl rfl ?_
                    refine wl_unwanted rfl rfl rfl rfl ?_
                    refine wl_unwanted rfl rfl rfl rfl ?_
                    refine wl_pickT rfl rfl rfl rfl ?_
                    refine wl_nil ?_
                    refine qs_seq ?_
                    refine wc_sub (L' := [(95, _), (15, _), (0, _), (1, _), (2, _), (3, _), (9, _), (10, _)]) (.cons rfl (.cons rfl (.cons rfl (.cons rfl (.cons rfl (.cons rfl (.cons rfl (.cons rfl .nil)))))))) ?_
                    refine wc_condT rfl ?_
                    refine wc_seq ?_
                    refine wc_region ?_
                    refine wl_move rfl rfl ?_
                    refine wl_assign rfl rfl ?_
                    refine wl_nil ?_
                    refine qs_seq ?_
                    refine wc_ret ?_
                    refine qs_then_ret ?_
                    refine fin1 (.inr rfl) rfl rfl ?_
                    exact ⟨_, rfl, by first | rfl | simp, hS18.pick [2] rfl⟩
                  · skip
                    refine wl_guard rfl rfl (decide_eq_false h22) ?_
                    refine wl_move rfl rfl ?_
                    refine wl_guard rfl rfl (decide_eq_false h22) ?_
                    refine wl_lss rfl rfl rfl ?_
                    refine wl_pickF rfl (decide_eq_false h22) rfl rfl ?_
                    refine wl_move rfl rfl ?_
                    refine wl_splitD 90 rfl (fun h23 => ?_) (fun h23 => ?_)
                    · skip
                      refine wl_unwanted rfl rfl (decide_eq_true h23) rfl ?_
                      refine wl_unwanted rfl rfl (decide_eq_true h23) rfl ?_
                      refine wl_unwanted rfl rfl (decide_eq_true h23) rfl ?_
                      refine wl_unwanted rfl rfl (decide_eq_true h23) rfl ?_
                      refine wl_pickT rfl (decide_eq_true h23) rfl rfl ?_
                      refine wl_nil ?_
                      refine qs_seq ?_
                      refine wc_sub (L' := [(95, _), (15, _), (0, _), (1, _), (2, _), (3, _), (9, _), (10, _)]) (.cons rfl (.cons rfl (.cons rfl (.cons rfl (.cons rfl (.cons rfl (.cons rfl (.cons rfl .nil)))))))) ?_
                      refine wc_condT rfl ?_
                      refine wc_seq ?_
                      refine wc_region ?_
                      refine wl_move rfl rfl ?_
                      refine wl_assign rfl rfl ?_
                      refine wl_nil ?_
                      refine qs_seq ?_
                      refine wc_ret ?_
                      refine qs_then_ret ?_
                      refine fin1 (.inr rfl) rfl rfl ?_
                      exact ⟨_, rfl, by first | rfl | simp, hS18.pick [2] rfl⟩
                    · skip
                      refine wl_guard rfl rfl (decide_eq_false h23) ?_
                      refine wl_move rfl rfl ?_
                      refine wl_guard rfl rfl (decide_eq_false h23) ?_
                      refine wl_move rfl rfl ?_
                      refine wl_guard rfl rfl (decide_eq_false h23) ?_
                      refine wl_add rfl rfl (by omega) (by omega) rfl ?_
                      refine wl_guard rfl rfl (decide_eq_false h23) ?_
                      refine wl_gtr rfl rfl rfl ?_
                      refine wl_pickF rfl (decide_eq_false h23) rfl rfl ?_
                      refine wl_nil ?_
                      refine qs_seq ?_
                      refine wc_sub (L' := [(95, _), (15, _), (0, _), (1, _), (2, _), (3, _), (9, _), (10, _)]) (.cons rfl (.cons rfl (.cons rfl (.cons rfl (.cons rfl (.cons rfl (.cons rfl (.cons rfl .nil)))))))) ?_
                      refine wc_condD rfl (fun h24 => ?_) (fun h24 => ?_)
                      · skip
                        refine wc_seq ?_
                        refine wc_region ?_
                        refine wl_move rfl rfl ?_
                        refine wl_assign rfl rfl ?_
                        refine wl_nil ?_
                        refine qs_seq ?_
                        refine wc_ret ?_
                        refine qs_then_ret ?_
                        refine fin1 (.inr rfl) rfl rfl ?_
                        exact ⟨_, rfl, by first | rfl | simp, hS18.pick [2] rfl⟩
                      · skip
                        refine wc_skip ?_
                        refine qs_seq ?_
                        refine wc_seq ?_
                        refine wc_region ?_
                        refine wl_move rfl rfl ?_
                        refine wl_makeIface nif_26 rfl rfl ?_
                        refine wl_move rfl rfl ?_
                        have hC25 := hS18.split [] [false, false, false] rfl; dsimp only [selF, pickA, nthA, List.cons_append, List.nil_append] at hC25
                        refine wl_call cal_33 rfl (aCost_sp hC25 (hL.starL 2 rfl) hnb) rfl ?_
                        rintro e w25 ⟨_, rfl, rfl, hS25⟩; refine ⟨_, rfl, ?_⟩
                        replace hS25 := hS25.join rfl; dsimp only [List.dropLast, List.cons_append, List.nil_append] at hS25; clear hC25
                        clear hS18
                        refine wl_move rfl rfl ?_
                        have hC26 := hS25.split [] [false, false, false] rfl; dsimp only [selF, pickA, nthA, List.cons_append, List.nil_append] at hC26
                        refine wl_call cal_33 rfl (aCost_sp hC26 (Ent.starL (ent_row (C := arC) (l := (unmL p n l)) (by have := hnb1.len; omega)) 0 rfl) hnb1) rfl ?_
                        rintro e w26 ⟨_, rfl, rfl, hS26⟩; refine ⟨_, rfl, ?_⟩
                        replace hS26 := hS26.join rfl; dsimp only [List.dropLast, List.cons_append, List.nil_append] at hS26; clear hC26
                        clear hS25
                        refine wl_sub' rfl rfl (by omega) (by omega) rfl ?_
                        have hC27 := hS26.split [1] [false, true, false] rfl; dsimp only [selF, pickA, nthA, List.cons_append, List.nil_append] at hC27
                        refine wl_call cal_29 rfl (release3 hC27 (hG.starL 1 rfl) hA1 (costL l - costL (unmL p n l))) rfl ?_
                        rintro e w27 ⟨_, rfl, rfl, W2, hA2, hS27⟩; refine ⟨_, rfl, ?_⟩
                        replace hS27 := hS27.join rfl; dsimp only [List.dropLast, List.cons_append, List.nil_append] at hS27; clear hC27
                        clear hS26
                        refine wl_nil ?_
                        refine qs_seq ?_
                        refine wc_sub (L' := [(15, _), (0, _), (1, _), (2, _), (3, _), (9, _), (10, _)]) (.cons rfl (.cons rfl (.cons rfl (.cons rfl (.cons rfl (.cons rfl (.cons rfl .nil))))))) ?_
                        refine wc_seq ?_
                        refine wc_region ?_
                        refine wl_move rfl rfl ?_
                        refine wl_move rfl rfl ?_
                        refine wl_move rfl rfl ?_
                        have hC28 := hS27.split [] [false, false, false] rfl; dsimp only [selF, pickA, nthA, List.cons_append, List.nil_append] at hC28
                        refine wl_call cal_34 rfl (aUnmap_sp hC28 (hL.starL 2 rfl) hall (by omega) p c) rfl ?_
                        rintro e w28 ⟨_, rfl, (⟨e2, he2, rfl, hS28⟩ | ⟨rv2, rfl, hu2, hS28⟩)⟩
                        · skip
                          refine ⟨_, rfl, ?_⟩
                          replace hS28 := hS28.join rfl; dsimp only [List.dropLast, List.cons_append, List.nil_append] at hS28; clear hC28
                          clear hS27
                          refine wl_move rfl rfl ?_
                          refine wl_extract rfl rfl rfl ?_
                          refine wl_extract rfl rfl rfl ?_
                          refine wl_assign rfl rfl ?_
                          refine wl_assign rfl rfl ?_
                          refine wl_nil ?_
                          refine qs_seq ?_
                          refine wc_sub (L' := [(18, _), (17, _), (15, _), (1, _), (2, _), (3, _), (9, _), (10, _)]) (.cons rfl (.cons rfl (.cons rfl (.cons rfl (.cons rfl (.cons rfl (.cons rfl (.cons rfl .nil)))))))) ?_
                          refine wc_seq ?_
                          refine wc_region ?_
                          refine wl_move rfl rfl ?_
                          refine wl_move rfl rfl ?_
                          refine wl_move rfl rfl ?_
                          refine wl_add rfl rfl (by omega) (by omega) rfl ?_
                          refine wl_move rfl rfl ?_
                          refine wl_move rfl rfl ?_
                          refine wl_sub' rfl rfl (by omega) (by omega) rfl ?_
                          have hC29 := hS28.split [] [false, false, false] rfl; dsimp only [selF, pickA, nthA, List.cons_append, List.nil_append] at hC29
                          refine wl_call cal_34 rfl (aUnmap_sp hC29 (hL.starL 2 rfl) hall (by omega) (p + c) (n - c)) rfl ?_
                          rintro e w29 ⟨_, rfl, (⟨e3, he3, rfl, hS29⟩ | ⟨rv3, rfl, hu3, hS29⟩)⟩
                          · skip
                            refine ⟨_, rfl, ?_⟩
                            replace hS29 := hS29.join rfl; dsimp only [List.dropLast, List.cons_append, List.nil_append] at hS29; clear hC29
                            clear hS28
                            refine wl_move rfl rfl ?_
                            refine wl_extract rfl rfl rfl ?_
                            refine wl_extract rfl rfl rfl ?_
                            refine wl_assign rfl rfl ?_
                            refine wl_assign rfl rfl ?_
                            refine wl_nil ?_
                            refine qs_seq ?_
                            refine wc_sub (L' := [(20, _), (19, _), (18, _), (15, _), (2, _), (3, _), (9, _), (10, _)]) (.cons rfl (.cons rfl (.cons rfl (.cons rfl (.cons rfl (.cons rfl (.cons rfl (.cons rfl .nil)))))))) ?_
                            refine wc_seq ?_
                            refine wc_seq ?_
                            refine wc_region ?_
                            refine wl_move rfl rfl ?_
                            refine wl_gtr rfl rfl rfl ?_
                            refine wl_move rfl rfl ?_
                            refine wl_splitD 125 rfl (fun h30 => ?_) (fun h30 => ?_)
                            · skip
                              refine wl_guard rfl rfl (decide_eq_true h30) ?_
                              refine wl_move rfl rfl ?_
                              refine wl_guard rfl rfl (decide_eq_true h30) ?_
                              refine wl_move rfl rfl ?_
                              refine wl_guard rfl rfl (decide_eq_true h30) ?_
                              refine wl_lss rfl rfl rfl ?_
                              refine wl_pickT rfl (decide_eq_true h30) rfl rfl ?_
                              refine wl_move rfl rfl ?_
                              refine wl_splitD 130 rfl (fun h31 => ?_) (fun h31 => ?_)
                              · skip
                                refine wl_guard rfl rfl (decide_eq_true h31) ?_
                                refine wl_move rfl rfl ?_
                                refine wl_guard rfl rfl (decide_eq_true h31) ?_
                                refine wl_eql rfl rfl rfl ?_
                                refine wl_pickT rfl (decide_eq_true h31) rfl rfl ?_
                                refine wl_move rfl rfl ?_
                                refine wl_splitD 134 rfl (fun h32 => ?_) (fun h32 => ?_)
                                · skip
                                  exact absurd h32 (by omega)
                                · skip
                                  refine wl_unwanted rfl rfl (decide_eq_false h32) rfl ?_
                                  refine wl_unwanted rfl rfl (decide_eq_false h32) rfl ?_
                                  refine wl_pickF rfl (decide_eq_false h32) rfl rfl ?_
                                  refine wl_move rfl rfl ?_
                                  refine wl_unwanted rfl rfl rfl rfl ?_
                                  refine wl_unwanted rfl rfl rfl rfl ?_
                                  refine wl_unwanted rfl rfl rfl rfl ?_
                                  refine wl_unwanted rfl rfl rfl rfl ?_
                                  refine wl_unwanted rfl rfl rfl rfl ?_
                                  refine wl_pickF rfl rfl rfl rfl ?_
                                  refine wl_nil ?_
                                  refine qs_seq ?_
                                  refine wc_sub (L' := [(144, _), (15, _), (9, _), (10, _)]) (.cons rfl (.cons rfl (.cons rfl (.cons rfl .nil)))) ?_
                                  refine wc_condF rfl ?_
                                  refine wc_skip ?_
                                  refine qs_seq ?_
                                  refine wc_seq ?_
                                  refine wc_region ?_
                                  refine wl_move rfl rfl ?_
                                  refine wl_move rfl rfl ?_
                                  refine wl_guard rfl rfl rfl ?_
                                  refine wl_move rfl rfl ?_
                                  refine wl_guard rfl rfl rfl ?_
                                  refine wl_makeIface nif_26 rfl rfl ?_
                                  refine wl_guard rfl rfl rfl ?_
                                  have hC33 := hS29.split [0] [true, false, false] rfl; dsimp only [selF, pickA, nthA, List.cons_append, List.nil_append] at hC33
                                  refine wl_call cal_30 rfl (used3 hC33 (hG.starL 1 rfl) hA2) rfl ?_
                                  rintro e w33 ⟨_, rfl, rfl, hS33⟩; refine ⟨_, rfl, ?_⟩
                                  replace hS33 := hS33.join rfl; dsimp only [List.dropLast, List.cons_append, List.nil_append] at hS33; clear hC33
                                  clear hS29
                                  refine wl_guard rfl rfl rfl ?_
                                  refine wl_move rfl rfl ?_
                                  refine wl_guard rfl rfl rfl ?_
                                  have hC34 := hS33.split [] [false, false, false] rfl; dsimp only [selF, pickA, nthA, List.cons_append, List.nil_append] at hC34
                                  refine wl_call cal_33 rfl (aCost_sp hC34 (Ent.starL (ent_row (C := arC) (l := (unmL p n l)) (by have := hnb1.len; omega)) 1 rfl) hnb1) rfl ?_
                                  rintro e w34 ⟨_, rfl, rfl, hS34⟩; refine ⟨_, rfl, ?_⟩
                                  replace hS34 := hS34.join rfl; dsimp only [List.dropLast, List.cons_append, List.nil_append] at hS34; clear hC34
                                  clear hS33
                                  refine wl_guard rfl rfl rfl ?_
                                  refine wl_eql rfl rfl rfl ?_
                                  refine wl_pickT rfl rfl rfl rfl ?_
                                  refine wl_move rfl rfl ?_
                                  refine wl_splitD 154 rfl (fun h35 => ?_) (fun h35 => ?_)
                                  · skip
                                    refine wl_guard rfl rfl (decide_eq_true h35) ?_
                                    refine wl_move rfl rfl ?_
                                    refine wl_guard rfl rfl (decide_eq_true h35) ?_
                                    have hC36 := hS34.split [] [false, false, false] rfl; dsimp only [selF, pickA, nthA, List.cons_append, List.nil_append] at hC36
                                    refine wl_call cal_33 rfl (aCost_sp hC36 (Ent.starL (ent_row (C := arC) (l := (unmL p n l)) (by have := hnb1.len; omega)) 1 rfl) hnb1) rfl ?_
                                    rintro e w36 ⟨_, rfl, rfl, hS36⟩; refine ⟨_, rfl, ?_⟩
                                    replace hS36 := hS36.join rfl; dsimp only [List.dropLast, List.cons_append, List.nil_append] at hS36; clear hC36
                                    clear hS34
                                    refine wl_guard rfl rfl (decide_eq_true h35) ?_
                                    refine wl_move rfl rfl ?_
                                    refine wl_guard rfl rfl (decide_eq_true h35) ?_
                                    have hC37 := hS36.split [] [false, false, false] rfl; dsimp only [selF, pickA, nthA, List.cons_append, List.nil_append] at hC37
                                    refine wl_call cal_35 rfl (fCost_sp hC37 (Ent.starL (ent_row (C := arC) (l := (unmL p n l)) (by have := hnb1.len; omega)) 1 rfl) hnb1) rfl ?_
                                    rintro e w37 ⟨_, rfl, rfl, hS37⟩; refine ⟨_, rfl, ?_⟩
                                    replace hS37 := hS37.join rfl; dsimp only [List.dropLast, List.cons_append, List.nil_append] at hS37; clear hC37
                                    clear hS36
                                    refine wl_guard rfl rfl (decide_eq_true h35) ?_
                                    refine wl_eql rfl rfl rfl ?_
                                    refine wl_pickT rfl (decide_eq_true h35) rfl rfl ?_
                                    refine wl_assign rfl rfl ?_
                                    refine wl_nil ?_
                                    refine qs_seq ?_
                                    refine wc_sub (L' := [(8, _)]) (.cons rfl .nil) ?_
                                    refine wc_ret ?_
                                    refine fin1 (.inr rfl) rfl rfl ?_
                                    exact ⟨_, rfl, by first | rfl | simp, hS37.pick [2] rfl⟩
                                  · skip
                                    exact absurd h35 (by omega)
                              · skip
                                refine wl_unwanted rfl rfl (decide_eq_false h31) rfl ?_
                                refine wl_unwanted rfl rfl (decide_eq_false h31) rfl ?_
                                refine wl_pickF rfl (decide_eq_false h31) rfl rfl ?_
                                refine wl_move rfl rfl ?_
                                refine wl_unwanted rfl rfl rfl rfl ?_
                                refine wl_unwanted rfl rfl rfl rfl ?_
                                refine wl_pickF rfl rfl rfl rfl ?_
                                refine wl_move rfl rfl ?_
                                refine wl_unwanted rfl rfl rfl rfl ?_
                                refine wl_unwanted rfl rfl rfl rfl ?_
                                refine wl_unwanted rfl rfl rfl rfl ?_
                                refine wl_unwanted rfl rfl rfl rfl ?_
                                refine wl_unwanted rfl rfl rfl rfl ?_
                                refine wl_pickF rfl rfl rfl rfl ?_
                                refine wl_nil ?_
                                refine qs_seq ?_
                                refine wc_sub (L' := [(144, _), (15, _), (9, _), (10, _)]) (.cons rfl (.cons rfl (.cons rfl (.cons rfl .nil)))) ?_
                                refine wc_condF rfl ?_
                                refine wc_skip ?_
                                refine qs_seq ?_
                                refine wc_seq ?_
                                refine wc_region ?_
                                refine wl_move rfl rfl ?_
                                refine wl_move rfl rfl ?_
                                refine wl_guard rfl rfl rfl ?_
                                refine wl_move rfl rfl ?_
                                refine wl_guard rfl rfl rfl ?_
                                refine wl_makeIface nif_26 rfl rfl ?_
                                refine wl_guard rfl rfl rfl ?_
                                have hC38 := hS29.split [0] [true, false, false] rfl; dsimp only [selF, pickA, nthA, List.cons_append, List.nil_append] at hC38
                                refine wl_call cal_30 rfl (used3 hC38 (hG.starL 1 rfl) hA2) rfl ?_
                                rintro e w38 ⟨_, rfl, rfl, hS38⟩; refine ⟨_, rfl, ?_⟩
                                replace hS38 := hS38.join rfl; dsimp only [List.dropLast, List.cons_append, List.nil_append] at hS38; clear hC38
                                clear hS29
                                refine wl_guard rfl rfl rfl ?_
                                refine wl_move rfl rfl ?_
                                refine wl_guard rfl rfl rfl ?_
                                have hC39 := hS38.split [] [false, false, false] rfl; dsimp only [selF, pickA, nthA, List.cons_append, List.nil_append] at hC39
                                refine wl_call cal_33 rfl (aCost_sp hC39 (Ent.starL (ent_row (C := arC) (l := (unmL p n l)) (by have := hnb1.len; omega)) 1 rfl) hnb1) rfl ?_
                                rintro e w39 ⟨_, rfl, rfl, hS39⟩; refine ⟨_, rfl, ?_⟩
                                replace hS39 := hS39.join rfl; dsimp only [List.dropLast, List.cons_append, List.nil_append] at hS39; clear hC39
                                clear hS38
                                refine wl_guard rfl rfl rfl ?_
                                refine wl_eql rfl rfl rfl ?_
                                refine wl_pickT rfl rfl rfl rfl ?_
                                refine wl_move rfl rfl ?_
                                refine wl_splitD 154 rfl (fun h40 => ?_) (fun h40 => ?_)
                                · skip
                                  refine wl_guard rfl rfl (decide_eq_true h40) ?_
                                  refine wl_move rfl rfl ?_
                                  refine wl_guard rfl rfl (decide_eq_true h40) ?_
                                  have hC41 := hS39.split [] [false, false, false] rfl; dsimp only [selF, pickA, nthA, List.cons_append, List.nil_append] at hC41
                                  refine wl_call cal_33 rfl (aCost_sp hC41 (Ent.starL (ent_row (C := arC) (l := (unmL p n l)) (by have := hnb1.len; omega)) 1 rfl) hnb1) rfl ?_
                                  rintro e w41 ⟨_, rfl, rfl, hS41⟩; refine ⟨_, rfl, ?_⟩
                                  replace hS41 := hS41.join rfl; dsimp only [List.dropLast, List.cons_append, List.nil_append] at hS41; clear hC41
                                  clear hS39
                                  refine wl_guard rfl rfl (decide_eq_true h40) ?_
                                  refine wl_move rfl rfl ?_
                                  refine wl_guard rfl rfl (decide_eq_true h40) ?_
                                  have hC42 := hS41.split [] [false, false, false] rfl; dsimp only [selF, pickA, nthA, List.cons_append, List.nil_append] at hC42
                                  refine wl_call cal_35 rfl (fCost_sp hC42 (Ent.starL (ent_row (C := arC) (l := (unmL p n l)) (by have := hnb1.len; omega)) 1 rfl) hnb1) rfl ?_
                                  rintro e w42 ⟨_, rfl, rfl, hS42⟩; refine ⟨_, rfl, ?_⟩
                                  replace hS42 := hS42.join rfl; dsimp only [List.dropLast, List.cons_append, List.nil_append] at hS42; clear hC42
                                  clear hS41
                                  refine wl_guard rfl rfl (decide_eq_true h40) ?_
                                  refine wl_eql rfl rfl rfl ?_
                                  refine wl_pickT rfl (decide_eq_true h40) rfl rfl ?_
                                  refine wl_assign rfl rfl ?_
                                  refine wl_nil ?_
                                  refine qs_seq ?_
                                  refine wc_sub (L' := [(8, _)]) (.cons rfl .nil) ?_
                                  refine wc_ret ?_
                                  refine fin1 (.inr rfl) rfl rfl ?_
                                  exact ⟨_, rfl, by first | rfl | simp, hS42.pick [2] rfl⟩
                                · skip
                                  exact absurd h40 (by omega)
                            · skip
                              refine wl_unwanted rfl rfl (decide_eq_false h30) rfl ?_
                              refine wl_unwanted rfl rfl (decide_eq_false h30) rfl ?_
                              refine wl_unwanted rfl rfl (decide_eq_false h30) rfl ?_
                              refine wl_pickF rfl (decide_eq_false h30) rfl rfl ?_
                              refine wl_move rfl rfl ?_
                              refine wl_unwanted rfl rfl rfl rfl ?_
                              refine wl_unwanted rfl rfl rfl rfl ?_
                              refine wl_pickF rfl rfl rfl rfl ?_
                              refine wl_move rfl rfl ?_
                              refine wl_unwanted rfl rfl rfl rfl ?_
                              refine wl_unwanted rfl rfl rfl rfl ?_
                              refine wl_pickF rfl rfl rfl rfl ?_
                              refine wl_move rfl rfl ?_
                              refine wl_unwanted rfl rfl rfl rfl ?_
                              refine wl_unwanted rfl rfl rfl rfl ?_
                              refine wl_unwanted rfl rfl rfl rfl ?_
                              refine wl_unwanted rfl rfl rfl rfl ?_
                              refine wl_unwanted rfl rfl rfl rfl ?_
                              refine wl_pickF rfl rfl rfl rfl ?_
                              refine wl_nil ?_
                              refine qs_seq ?_
                              refine wc_sub (L' := [(144, _), (15, _), (9, _), (10, _)]) (.cons rfl (.cons rfl (.cons rfl (.cons rfl .nil)))) ?_
                              refine wc_condF rfl ?_
                              refine wc_skip ?_
                              refine qs_seq ?_
                              refine wc_seq ?_
                              refine wc_region ?_
                              refine wl_move rfl rfl ?_
                              refine wl_move rfl rfl ?_
                              refine wl_guard rfl rfl rfl ?_
                              refine wl_move rfl rfl ?_
                              refine wl_guard rfl rfl rfl ?_
                              refine wl_makeIface nif_26 rfl rfl ?_
                              refine wl_guard rfl rfl rfl ?_
                              have hC43 := hS29.split [0] [true, false, false] rfl; dsimp only [selF, pickA, nthA, List.cons_append, List.nil_append] at hC43
                              refine wl_call cal_30 rfl (used3 hC43 (hG.starL 1 rfl) hA2) rfl ?_
                              rintro e w43 ⟨_, rfl, rfl, hS43⟩; refine ⟨_, rfl, ?_⟩
                              replace hS43 := hS43.join rfl; dsimp only [List.dropLast, List.cons_append, List.nil_append] at hS43; clear hC43
                              clear hS29
                              refine wl_guard rfl rfl rfl ?_
                              refine wl_move rfl rfl ?_
                              refine wl_guard rfl rfl rfl ?_
                              have hC44 := hS43.split [] [false, false, false] rfl; dsimp only [selF, pickA, nthA, List.cons_append, List.nil_append] at hC44
                              refine wl_call cal_33 rfl (aCost_sp hC44 (Ent.starL (ent_row (C := arC) (l := (unmL p n l)) (by have := hnb1.len; omega)) 1 rfl) hnb1) rfl ?_
                              rintro e w44 ⟨_, rfl, rfl, hS44⟩; refine ⟨_, rfl, ?_⟩
                              replace hS44 := hS44.join rfl; dsimp only [List.dropLast, List.cons_append, List.nil_append] at hS44; clear hC44
                              clear hS43
                              refine wl_guard rfl rfl rfl ?_
                              refine wl_eql rfl rfl rfl ?_
                              refine wl_pickT rfl rfl rfl rfl ?_
                              refine wl_move rfl rfl ?_
                              refine wl_splitD 154 rfl (fun h45 => ?_) (fun h45 => ?_)
                              · skip
                                refine wl_guard rfl rfl (decide_eq_true h45) ?_
                                refine wl_move rfl rfl ?_
                                refine wl_guard rfl rfl (decide_eq_true h45) ?_
                                have hC46 := hS44.split [] [false, false, false] rfl; dsimp only [selF, pickA, nthA, List.cons_append, List.nil_append] at hC46
                                refine wl_call cal_33 rfl (aCost_sp hC46 (Ent.starL (ent_row (C := arC) (l := (unmL p n l)) (by have := hnb1.len; omega)) 1 rfl) hnb1) rfl ?_
                                rintro e w46 ⟨_, rfl, rfl, hS46⟩; refine ⟨_, rfl, ?_⟩
                                replace hS46 := hS46.join rfl; dsimp only [List.dropLast, List.cons_append, List.nil_append] at hS46; clear hC46
                                clear hS44
                                refine wl_guard rfl rfl (decide_eq_true h45) ?_
                                refine wl_move rfl rfl ?_
                                refine wl_guard rfl rfl (decide_eq_true h45) ?_
                                have hC47 := hS46.split [] [false, false, false] rfl; dsimp only [selF, pickA, nthA, List.cons_append, List.nil_append] at hC47
                                refine wl_call cal_35 rfl (fCost_sp hC47 (Ent.starL (ent_row (C := arC) (l := (unmL p n l)) (by have := hnb1.len; omega)) 1 rfl) hnb1) rfl ?_
                                rintro e w47 ⟨_, rfl, rfl, hS47⟩; refine ⟨_, rfl, ?_⟩
                                replace hS47 := hS47.join rfl; dsimp only [List.dropLast, List.cons_append, List.nil_append] at hS47; clear hC47
                                clear hS46
                                refine wl_guard rfl rfl (decide_eq_true h45) ?_
                                refine wl_eql rfl rfl rfl ?_
                                refine wl_pickT rfl (decide_eq_true h45) rfl rfl ?_
                                refine wl_assign rfl rfl ?_
                                refine wl_nil ?_
                                refine qs_seq ?_
                                refine wc_sub (L' := [(8, _)]) (.cons rfl .nil) ?_
                                refine wc_ret ?_
                                refine fin1 (.inr rfl) rfl rfl ?_
                                exact ⟨_, rfl, by first | rfl | simp, hS47.pick [2] rfl⟩
                              · skip
                                exact absurd h45 (by omega)
                          · skip
                            refine ⟨_, rfl, ?_⟩
                            replace hS29 := hS29.join rfl; dsimp only [List.dropLast, List.cons_append, List.nil_append] at hS29; clear hC29
                            clear hS28
                            refine wl_move rfl rfl ?_
                            refine wl_extract rfl rfl rfl ?_
                            refine wl_extract rfl rfl rfl ?_
                            refine wl_assign rfl rfl ?_
                            refine wl_assign rfl rfl ?_
                            refine wl_nil ?_
                            refine qs_seq ?_
                            refine wc_sub (L' := [(20, _), (19, _), (18, _), (15, _), (2, _), (3, _), (9, _), (10, _)]) (.cons rfl (.cons rfl (.cons rfl (.cons rfl (.cons rfl (.cons rfl (.cons rfl (.cons rfl .nil)))))))) ?_
                            refine wc_seq ?_
                            refine wc_seq ?_
                            refine wc_region ?_
                            refine wl_move rfl rfl ?_
                            refine wl_gtr rfl rfl rfl ?_
                            refine wl_move rfl rfl ?_
                            refine wl_splitD 125 rfl (fun h48 => ?_) (fun h48 => ?_)
                            · skip
                              refine wl_guard rfl rfl (decide_eq_true h48) ?_
                              refine wl_move rfl rfl ?_
                              refine wl_guard rfl rfl (decide_eq_true h48) ?_
                              refine wl_move rfl rfl ?_
                              refine wl_guard rfl rfl (decide_eq_true h48) ?_
                              refine wl_lss rfl rfl rfl ?_
                              refine wl_pickT rfl (decide_eq_true h48) rfl rfl ?_
                              refine wl_move rfl rfl ?_
                              refine wl_splitD 130 rfl (fun h49 => ?_) (fun h49 => ?_)
                              · skip
                                refine wl_guard rfl rfl (decide_eq_true h49) ?_
                                refine wl_move rfl rfl ?_
                                refine wl_guard rfl rfl (decide_eq_true h49) ?_
                                refine wl_eql rfl rfl rfl ?_
                                refine wl_pickT rfl (decide_eq_true h49) rfl rfl ?_
                                refine wl_move rfl rfl ?_
                                refine wl_splitD 134 rfl (fun h50 => ?_) (fun h50 => ?_)
                                · skip
                                  exact absurd h50 (by omega)
                                · skip
                                  refine wl_unwanted rfl rfl (decide_eq_false h50) rfl ?_
                                  refine wl_unwanted rfl rfl (decide_eq_false h50) rfl ?_
                                  refine wl_pickF rfl (decide_eq_false h50) rfl rfl ?_
                                  refine wl_move rfl rfl ?_
                                  refine wl_unwanted rfl rfl rfl rfl ?_
                                  refine wl_unwanted rfl rfl rfl rfl ?_
                                  refine wl_unwanted rfl rfl rfl rfl ?_
                                  refine wl_unwanted rfl rfl rfl rfl ?_
                                  refine wl_unwanted rfl rfl rfl rfl ?_
                                  refine wl_pickF rfl rfl rfl rfl ?_
                                  refine wl_nil ?_
                                  refine qs_seq ?_
                                  refine wc_sub (L' := [(144, _), (15, _), (9, _), (10, _)]) (.cons rfl (.cons rfl (.cons rfl (.cons rfl .nil)))) ?_
                                  refine wc_condF rfl ?_
                                  refine wc_skip ?_
                                  refine qs_seq ?_
                                  refine wc_seq ?_
                                  refine wc_region ?_
                                  refine wl_move rfl rfl ?_
                                  refine wl_move rfl rfl ?_
                                  refine wl_guard rfl rfl rfl ?_
                                  refine wl_move rfl rfl ?_
                                  refine wl_guard rfl rfl rfl ?_
                                  refine wl_makeIface nif_26 rfl rfl ?_
                                  refine wl_guard rfl rfl rfl ?_
                                  have hC51 := hS29.split [1] [false, true, false, false] rfl; dsimp only [selF, pickA, nthA, List.cons_append, List.nil_append] at hC51
                                  refine wl_call cal_30 rfl (used3 hC51 (hG.starL 2 rfl) hA2) rfl ?_
                                  rintro e w51 ⟨_, rfl, rfl, hS51⟩; refine ⟨_, rfl, ?_⟩
                                  replace hS51 := hS51.join rfl; dsimp only [List.dropLast, List.cons_append, List.nil_append] at hS51; clear hC51
                                  clear hS29
                                  refine wl_guard rfl rfl rfl ?_
                                  refine wl_move rfl rfl ?_
                                  refine wl_guard rfl rfl rfl ?_
                                  have hC52 := hS51.split [] [false, false, false, false] rfl; dsimp only [selF, pickA, nthA, List.cons_append, List.nil_append] at hC52
                                  refine wl_call cal_33 rfl (aCost_sp hC52 (Ent.starL (ent_row (C := arC) (l := (unmL p n l)) (by have := hnb1.len; omega)) 2 rfl) hnb1) rfl ?_
                                  rintro e w52 ⟨_, rfl, rfl, hS52⟩; refine ⟨_, rfl, ?_⟩
                                  replace hS52 := hS52.join rfl; dsimp only [List.dropLast, List.cons_append, List.nil_append] at hS52; clear hC52
                                  clear hS51
                                  refine wl_guard rfl rfl rfl ?_
                                  refine wl_eql rfl rfl rfl ?_
                                  refine wl_pickT rfl rfl rfl rfl ?_
                                  refine wl_move rfl rfl ?_
                                  refine wl_splitD 154 rfl (fun h53 => ?_) (fun h53 => ?_)
                                  · skip
                                    refine wl_guard rfl rfl (decide_eq_true h53) ?_
                                    refine wl_move rfl rfl ?_
                                    refine wl_guard rfl rfl (decide_eq_true h53) ?_
                                    have hC54 := hS52.split [] [false, false, false, false] rfl; dsimp only [selF, pickA, nthA, List.cons_append, List.nil_append] at hC54
                                    refine wl_call cal_33 rfl (aCost_sp hC54 (Ent.starL (ent_row (C := arC) (l := (unmL p n l)) (by have := hnb1.len; omega)) 2 rfl) hnb1) rfl ?_
                                    rintro e w54 ⟨_, rfl, rfl, hS54⟩; refine ⟨_, rfl, ?_⟩
                                    replace hS54 := hS54.join rfl; dsimp only [List.dropLast, List.cons_append, List.nil_append] at hS54; clear hC54
                                    clear hS52
                                    refine wl_guard rfl rfl (decide_eq_true h53) ?_
                                    refine wl_move rfl rfl ?_
                                    refine wl_guard rfl rfl (decide_eq_true h53) ?_
                                    have hC55 := hS54.split [] [false, false, false, false] rfl; dsimp only [selF, pickA, nthA, List.cons_append, List.nil_append] at hC55
                                    refine wl_call cal_35 rfl (fCost_sp hC55 (Ent.starL (ent_row (C := arC) (l := (unmL p n l)) (by have := hnb1.len; omega)) 2 rfl) hnb1) rfl ?_
                                    rintro e w55 ⟨_, rfl, rfl, hS55⟩; refine ⟨_, rfl, ?_⟩
                                    replace hS55 := hS55.join rfl; dsimp only [List.dropLast, List.cons_append, List.nil_append] at hS55; clear hC55
                                    clear hS54
                                    refine wl_guard rfl rfl (decide_eq_true h53) ?_
                                    refine wl_eql rfl rfl rfl ?_
                                    refine wl_pickT rfl (decide_eq_true h53) rfl rfl ?_
                                    refine wl_assign rfl rfl ?_
                                    refine wl_nil ?_
                                    refine qs_seq ?_
                                    refine wc_sub (L' := [(8, _)]) (.cons rfl .nil) ?_
                                    refine wc_ret ?_
                                    refine fin1 (.inr rfl) rfl rfl ?_
                                    exact ⟨_, rfl, by first | rfl | simp, hS55.pick [3] rfl⟩
                                  · skip
                                    exact absurd h53 (by omega)
                              · skip
                                refine wl_unwanted rfl rfl (decide_eq_false h49) rfl ?_
                                refine wl_unwanted rfl rfl (decide_eq_false h49) rfl ?_
                                refine wl_pickF rfl (decide_eq_false h49) rfl rfl ?_
                                refine wl_move rfl rfl ?_
                                refine wl_unwanted rfl rfl rfl rfl ?_
                                refine wl_unwanted rfl rfl rfl rfl ?_
                                refine wl_pickF rfl rfl rfl rfl ?_
                                refine wl_move rfl rfl ?_
                                refine wl_unwanted rfl rfl rfl rfl ?_
                                refine wl_unwanted rfl rfl rfl rfl ?_
                                refine wl_unwanted rfl rfl rfl rfl ?_
                                refine wl_unwanted rfl rfl rfl rfl ?_
                                refine wl_unwanted rfl rfl rfl rfl ?_
                                refine wl_pickF rfl rfl rfl rfl ?_
                                refine wl_nil ?_
                                refine qs_seq ?_
                                refine wc_sub (L' := [(144, _), (15, _), (9, _), (10, _)]) (.cons rfl (.cons rfl (.cons rfl (.cons rfl .nil)))) ?_
                                refine wc_condF rfl ?_
                                refine wc_skip ?_
                                refine qs_seq ?_
                                refine wc_seq ?_
                                refine wc_region ?_
                                refine wl_move rfl rfl ?_
                                refine wl_move rfl rfl ?_
                                refine wl_guard rfl rfl rfl ?_
                                refine wl_move rfl rfl ?_
                                refine wl_guard rfl rfl rfl ?_
                                refine wl_makeIface nif_26 rfl rfl ?_
                                refine wl_guard rfl rfl rfl ?_
                                have hC56 := hS29.split [1] [false, true, false, false] rfl; dsimp only [selF, pickA, nthA, List.cons_append, List.nil_append] at hC56
                                refine wl_call cal_30 rfl (used3 hC56 (hG.starL 2 rfl) hA2) rfl ?_
                                rintro e w56 ⟨_, rfl, rfl, hS56⟩; refine ⟨_, rfl, ?_⟩
                                replace hS56 := hS56.join rfl; dsimp only [List.dropLast, List.cons_append, List.nil_append] at hS56; clear hC56
                                clear hS29
                                refine wl_guard rfl rfl rfl ?_
                                refine wl_move rfl rfl ?_
                                refine wl_guard rfl rfl rfl ?_
                                have hC57 := hS56.split [] [false, false, false, false] rfl; dsimp only [selF, pickA, nthA, List.cons_append, List.nil_append] at hC57
                                refine wl_call cal_33 rfl (aCost_sp hC57 (Ent.starL (ent_row (C := arC) (l := (unmL p n l)) (by have := hnb1.len; omega)) 2 rfl) hnb1) rfl ?_
                                rintro e w57 ⟨_, rfl, rfl, hS57⟩; refine ⟨_, rfl, ?_⟩
                                replace hS57 := hS57.join rfl; dsimp only [List.dropLast, List.cons_append, List.nil_append] at hS57; clear hC57
                                clear hS56
                                refine wl_guard rfl rfl rfl ?_
                                refine wl_eql rfl rfl rfl ?_
                                refine wl_pickT rfl rfl rfl rfl ?_
                                refine wl_move rfl rfl ?_
                                refine wl_splitD 154 rfl (fun h58 => ?_) (fun h58 => ?_)
                                · skip
                                  refine wl_guard rfl rfl (decide_eq_true h58) ?_
                                  refine wl_move rfl rfl ?_
                                  refine wl_guard rfl rfl (decide_eq_true h58) ?_
                                  have hC59 := hS57.split [] [false, false, false, false] rfl; dsimp only [selF, pickA, nthA, List.cons_append, List.nil_append] at hC59
                                  refine wl_call cal_33 rfl (aCost_sp hC59 (Ent.starL (ent_row (C := arC) (l := (unmL p n l)) (by have := hnb1.len; omega)) 2 rfl) hnb1) rfl ?_
                                  rintro e w59 ⟨_, rfl, rfl, hS59⟩; refine ⟨_, rfl, ?_⟩
                                  replace hS59 := hS59.join rfl; dsimp only [List.dropLast, List.cons_append, List.nil_append] at hS59; clear hC59
                                  clear hS57
                                  refine wl_guard rfl rfl (decide_eq_true h58) ?_
                                  refine wl_move rfl rfl ?_
                                  refine wl_guard rfl rfl (decide_eq_true h58) ?_
                                  have hC60 := hS59.split [] [false, false, false, false] rfl; dsimp only [selF, pickA, nthA, List.cons_append, List.nil_append] at hC60
                                  refine wl_call cal_35 rfl (fCost_sp hC60 (Ent.starL (ent_row (C := arC) (l := (unmL p n l)) (by have := hnb1.len; omega)) 2 rfl) hnb1) rfl ?_
                                  rintro e w60 ⟨_, rfl, rfl, hS60⟩; refine ⟨_, rfl, ?_⟩
                                  replace hS60 := hS60.join rfl; dsimp only [List.dropLast, List.cons_append, List.nil_append] at hS60; clear hC60
                                  clear hS59
                                  refine wl_guard rfl rfl (decide_eq_true h58) ?_
                                  refine wl_eql rfl rfl rfl ?_
                                  refine wl_pickT rfl (decide_eq_true h58) rfl rfl ?_
                                  refine wl_assign rfl rfl ?_
                                  refine wl_nil ?_
                                  refine qs_seq ?_
                                  refine wc_sub (L' := [(8, _)]) (.cons rfl .nil) ?_
                                  refine wc_ret ?_
                                  refine fin1 (.inr rfl) rfl rfl ?_
                                  exact ⟨_, rfl, by first | rfl | simp, hS60.pick [3] rfl⟩
                                · skip
                                  exact absurd h58 (by omega)
                            · skip
                              refine wl_unwanted rfl rfl (decide_eq_false h48) rfl ?_
                              refine wl_unwanted rfl rfl (decide_eq_false h48) rfl ?_
                              refine wl_unwanted rfl rfl (decide_eq_false h48) rfl ?_
                              refine wl_pickF rfl (decide_eq_false h48) rfl rfl ?_
                              refine wl_move rfl rfl ?_
                              refine wl_unwanted rfl rfl rfl rfl ?_
                              refine wl_unwanted rfl rfl rfl rfl ?_
                              refine wl_pickF rfl rfl rfl rfl ?_
                              refine wl_move rfl rfl ?_
                              refine wl_unwanted rfl rfl rfl rfl ?_
                              refine wl_unwanted rfl rfl rfl rfl ?_
                              refine wl_pickF rfl rfl rfl rfl ?_
                              refine wl_move rfl rfl ?_
                              refine wl_unwanted rfl rfl rfl rfl ?_
                              refine wl_unwanted rfl rfl rfl rfl ?_
                              refine wl_unwanted rfl rfl rfl rfl ?_
                              refine wl_unwanted rfl rfl rfl rfl ?_
                              refine wl_unwanted rfl rfl rfl rfl ?_
                              refine wl_pickF rfl rfl rfl rfl ?_
                              refine wl_nil ?_
                              refine qs_seq ?_
                              refine wc_sub (L' := [(144, _), (15, _), (9, _), (10, _)]) (.cons rfl (.cons rfl (.cons rfl (.cons rfl .nil)))) ?_
                              refine wc_condF rfl ?_
                              refine wc_skip ?_
                              refine qs_seq ?_
                              refine wc_seq ?_
                              refine wc_region ?_
                              refine wl_move rfl rfl ?_
                              refine wl_move rfl rfl ?_
                              refine wl_guard rfl rfl rfl ?_
                              refine wl_move rfl rfl ?_
                              refine wl_guard rfl rfl rfl ?_
                              refine wl_makeIface nif_26 rfl rfl ?_
                              refine wl_guard rfl rfl rfl ?_
                              have hC61 := hS29.split [1] [false, true, false, false] rfl; dsimp only [selF, pickA, nthA, List.cons_append, List.nil_append] at hC61
                              refine wl_call cal_30 rfl (used3 hC61 (hG.starL 2 rfl) hA2) rfl ?_
                              rintro e w61 ⟨_, rfl, rfl, hS61⟩; refine ⟨_, rfl, ?_⟩
                              replace hS61 := hS61.join rfl; dsimp only [List.dropLast, List.cons_append, List.nil_append] at hS61; clear hC61
                              clear hS29
                              refine wl_guard rfl rfl rfl ?_
                              refine wl_move rfl rfl ?_
                              refine wl_guard rfl rfl rfl ?_
                              have hC62 := hS61.split [] [false, false, false, false] rfl; dsimp only [selF, pickA, nthA, List.cons_append, List.nil_append] at hC62
                              refine wl_call cal_33 rfl (aCost_sp hC62 (Ent.starL (ent_row (C := arC) (l := (unmL p n l)) (by have := hnb1.len; omega)) 2 rfl) hnb1) rfl ?_
                              rintro e w62 ⟨_, rfl, rfl, hS62⟩; refine ⟨_, rfl, ?_⟩
                              replace hS62 := hS62.join rfl; dsimp only [List.dropLast, List.cons_append, List.nil_append] at hS62; clear hC62
                              clear hS61
                              refine wl_guard rfl rfl rfl ?_
                              refine wl_eql rfl rfl rfl ?_
                              refine wl_pickT rfl rfl rfl rfl ?_
                              refine wl_move rfl rfl ?_
                              refine wl_splitD 154 rfl (fun h63 => ?_) (fun h63 => ?_)
                              · skip
                                refine wl_guard rfl rfl (decide_eq_true h63) ?_
                                refine wl_move rfl rfl ?_
                                refine wl_guard rfl rfl (decide_eq_true h63) ?_
                                have hC64 := hS62.split [] [false, false, false, false] rfl; dsimp only [selF, pickA, nthA, List.cons_append, List.nil_append] at hC64
                                refine wl_call cal_33 rfl (aCost_sp hC64 (Ent.starL (ent_row (C := arC) (l := (unmL p n l)) (by have := hnb1.len; omega)) 2 rfl) hnb1) rfl ?_
                                rintro e w64 ⟨_, rfl, rfl, hS64⟩; refine ⟨_, rfl, ?_⟩
                                replace hS64 := hS64.join rfl; dsimp only [List.dropLast, List.cons_append, List.nil_append] at hS64; clear hC64
                                clear hS62
                                refine wl_guard rfl rfl (decide_eq_true h63) ?_
                                refine wl_move rfl rfl ?_
                                refine wl_guard rfl rfl (decide_eq_true h63) ?_
                                have hC65 := hS64.split [] [false, false, false, false] rfl; dsimp only [selF, pickA, nthA, List.cons_append, List.nil_append] at hC65
                                refine wl_call cal_35 rfl (fCost_sp hC65 (Ent.starL (ent_row (C := arC) (l := (unmL p n l)) (by have := hnb1.len; omega)) 2 rfl) hnb1) rfl ?_
                                rintro e w65 ⟨_, rfl, rfl, hS65⟩; refine ⟨_, rfl, ?_⟩
                                replace hS65 := hS65.join rfl; dsimp only [List.dropLast, List.cons_append, List.nil_append] at hS65; clear hC65
                                clear hS64
                                refine wl_guard rfl rfl (decide_eq_true h63) ?_
                                refine wl_eql rfl rfl rfl ?_
                                refine wl_pickT rfl (decide_eq_true h63) rfl rfl ?_
                                refine wl_assign rfl rfl ?_
                                refine wl_nil ?_
                                refine qs_seq ?_
                                refine wc_sub (L' := [(8, _)]) (.cons rfl .nil) ?_
                                refine wc_ret ?_
                                refine fin1 (.inr rfl) rfl rfl ?_
                                exact ⟨_, rfl, by first | rfl | simp, hS65.pick [3] rfl⟩
                              · skip
                                exact absurd h63 (by omega)
                        · skip
                          refine ⟨_, rfl, ?_⟩
                          replace hS28 := hS28.join rfl; dsimp only [List.dropLast, List.cons_append, List.nil_append] at hS28; clear hC28
                          clear hS27
                          have hnb2 : NB (unmL p c l) := unmL_nb hall (by omega) (by omega)
                          have hok2 : ∀ x ∈ unmL p c l, OkA x := unmL_ok hall5 (by omega)
                          have hnb2l := unmL_len p c l
                          refine wl_move rfl rfl ?_
                          refine wl_extract rfl rfl rfl ?_
                          refine wl_extract rfl rfl rfl ?_
                          refine wl_assign rfl rfl ?_
                          refine wl_assign rfl rfl ?_
                          refine wl_nil ?_
                          refine qs_seq ?_
                          refine wc_sub (L' := [(18, _), (17, _), (15, _), (1, _), (2, _), (3, _), (9, _), (10, _)]) (.cons rfl (.cons rfl (.cons rfl (.cons rfl (.cons rfl (.cons rfl (.cons rfl (.cons rfl .nil)))))))) ?_
                          refine wc_seq ?_
                          refine wc_region ?_
                          refine wl_move rfl rfl ?_
                          refine wl_move rfl rfl ?_
                          refine wl_move rfl rfl ?_
                          refine wl_add rfl rfl (by omega) (by omega) rfl ?_
                          refine wl_move rfl rfl ?_
                          refine wl_move rfl rfl ?_
                          refine wl_sub' rfl rfl (by omega) (by omega) rfl ?_
                          have hC66 := hS28.split [] [false, false, false, false] rfl; dsimp only [selF, pickA, nthA, List.cons_append, List.nil_append] at hC66
                          refine wl_call cal_34 rfl (aUnmap_sp hC66 (Ent.starL (ent_row (C := arC) (l := (unmL p c l)) (by have := hnb2.len; omega)) 0 rfl) hok2 (by have := hnb2l; omega) (p + c) (n - c)) rfl ?_
                          rintro e w66 ⟨_, rfl, (⟨e3, he3, rfl, hS66⟩ | ⟨rv3, rfl, hu3, hS66⟩)⟩
                          · skip
                            refine ⟨_, rfl, ?_⟩
                            replace hS66 := hS66.join rfl; dsimp only [List.dropLast, List.cons_append, List.nil_append] at hS66; clear hC66
                            clear hS28
                            refine wl_move rfl rfl ?_
                            refine wl_extract rfl rfl rfl ?_
                            refine wl_extract rfl rfl rfl ?_
                            refine wl_assign rfl rfl ?_
                            refine wl_assign rfl rfl ?_
                            refine wl_nil ?_
                            refine qs_seq ?_
                            refine wc_sub (L' := [(20, _), (19, _), (18, _), (15, _), (2, _), (3, _), (9, _), (10, _)]) (.cons rfl (.cons rfl (.cons rfl (.cons rfl (.cons rfl (.cons rfl (.cons rfl (.cons rfl .nil)))))))) ?_
                            refine wc_seq ?_
                            refine wc_seq ?_
                            refine wc_region ?_
                            refine wl_move rfl rfl ?_
                            refine wl_gtr rfl rfl rfl ?_
                            refine wl_move rfl rfl ?_
                            refine wl_splitD 125 rfl (fun h67 => ?_) (fun h67 => ?_)
                            · skip
                              refine wl_guard rfl rfl (decide_eq_true h67) ?_
                              refine wl_move rfl rfl ?_
                              refine wl_guard rfl rfl (decide_eq_true h67) ?_
                              refine wl_move rfl rfl ?_
                              refine wl_guard rfl rfl (decide_eq_true h67) ?_
                              refine wl_lss rfl rfl rfl ?_
                              refine wl_pickT rfl (decide_eq_true h67) rfl rfl ?_
                              refine wl_move rfl rfl ?_
                              refine wl_splitD 130 rfl (fun h68 => ?_) (fun h68 => ?_)
                              · skip
                                refine wl_guard rfl rfl (decide_eq_true h68) ?_
                                refine wl_move rfl rfl ?_
                                refine wl_guard rfl rfl (decide_eq_true h68) ?_
                                refine wl_eql rfl rfl rfl ?_
                                refine wl_pickT rfl (decide_eq_true h68) rfl rfl ?_
                                refine wl_move rfl rfl ?_
                                refine wl_splitD 134 rfl (fun h69 => ?_) (fun h69 => ?_)
                                · skip
                                  refine wl_guard rfl rfl (decide_eq_true h69) ?_
                                  refine wl_move rfl rfl ?_
                                  refine wl_guard rfl rfl (decide_eq_true h69) ?_
                                  refine wl_eql rfl rfl rfl ?_
                                  refine wl_pickT rfl (decide_eq_true h69) rfl rfl ?_
                                  refine wl_move rfl rfl ?_
                                  refine wl_splitD 138 rfl (fun h70 => ?_) (fun h70 => ?_)
                                  · skip
                                    exact absurd h70 (by omega)
                                  · skip
                                    refine wl_unwanted rfl rfl (decide_eq_false h70) rfl ?_
                                    refine wl_unwanted rfl rfl (decide_eq_false h70) rfl ?_
                                    refine wl_unwanted rfl rfl (decide_eq_false h70) rfl ?_
                                    refine wl_unwanted rfl rfl (decide_eq_false h70) rfl ?_
                                    refine wl_unwanted rfl rfl (decide_eq_false h70) rfl ?_
                                    refine wl_pickF rfl (decide_eq_false h70) rfl rfl ?_
                                    refine wl_nil ?_
                                    refine qs_seq ?_
                                    refine wc_sub (L' := [(144, _), (15, _), (9, _), (10, _)]) (.cons rfl (.cons rfl (.cons rfl (.cons rfl .nil)))) ?_
                                    refine wc_condF rfl ?_
                                    refine wc_skip ?_
                                    refine qs_seq ?_
                                    refine wc_seq ?_
                                    refine wc_region ?_
                                    refine wl_move rfl rfl ?_
                                    refine wl_move rfl rfl ?_
                                    refine wl_guard rfl rfl rfl ?_
                                    refine wl_move rfl rfl ?_
                                    refine wl_guard rfl rfl rfl ?_
                                    refine wl_makeIface nif_26 rfl rfl ?_
                                    refine wl_guard rfl rfl rfl ?_
                                    have hC71 := hS66.split [1] [false, true, false, false] rfl; dsimp only [selF, pickA, nthA, List.cons_append, List.nil_append] at hC71
                                    refine wl_call cal_30 rfl (used3 hC71 (hG.starL 2 rfl) hA2) rfl ?_
                                    rintro e w71 ⟨_, rfl, rfl, hS71⟩; refine ⟨_, rfl, ?_⟩
                                    replace hS71 := hS71.join rfl; dsimp only [List.dropLast, List.cons_append, List.nil_append] at hS71; clear hC71
                                    clear hS66
                                    refine wl_guard rfl rfl rfl ?_
                                    refine wl_move rfl rfl ?_
                                    refine wl_guard rfl rfl rfl ?_
                                    have hC72 := hS71.split [] [false, false, false, false] rfl; dsimp only [selF, pickA, nthA, List.cons_append, List.nil_append] at hC72
                                    refine wl_call cal_33 rfl (aCost_sp hC72 (Ent.starL (ent_row (C := arC) (l := (unmL p n l)) (by have := hnb1.len; omega)) 2 rfl) hnb1) rfl ?_
                                    rintro e w72 ⟨_, rfl, rfl, hS72⟩; refine ⟨_, rfl, ?_⟩
                                    replace hS72 := hS72.join rfl; dsimp only [List.dropLast, List.cons_append, List.nil_append] at hS72; clear hC72
                                    clear hS71
                                    refine wl_guard rfl rfl rfl ?_
                                    refine wl_eql rfl rfl rfl ?_
                                    refine wl_pickT rfl rfl rfl rfl ?_
                                    refine wl_move rfl rfl ?_
                                    refine wl_splitD 154 rfl (fun h73 => ?_) (fun h73 => ?_)
                                    · skip
                                      refine wl_guard rfl rfl (decide_eq_true h73) ?_
                                      refine wl_move rfl rfl ?_
                                      refine wl_guard rfl rfl (decide_eq_true h73) ?_
                                      have hC74 := hS72.split [] [false, false, false, false] rfl; dsimp only [selF, pickA, nthA, List.cons_append, List.nil_append] at hC74
                                      refine wl_call cal_33 rfl (aCost_sp hC74 (Ent.starL (ent_row (C := arC) (l := (unmL p n l)) (by have := hnb1.len; omega)) 2 rfl) hnb1) rfl ?_
                                      rintro e w74 ⟨_, rfl, rfl, hS74⟩; refine ⟨_, rfl, ?_⟩
                                      replace hS74 := hS74.join rfl; dsimp only [List.dropLast, List.cons_append, List.nil_append] at hS74; clear hC74
                                      clear hS72
                                      refine wl_guard rfl rfl (decide_eq_true h73) ?_
                                      refine wl_move rfl rfl ?_
                                      refine wl_guard rfl rfl (decide_eq_true h73) ?_
                                      have hC75 := hS74.split [] [false, false, false, false] rfl; dsimp only [selF, pickA, nthA, List.cons_append, List.nil_append] at hC75
                                      refine wl_call cal_35 rfl (fCost_sp hC75 (Ent.starL (ent_row (C := arC) (l := (unmL p n l)) (by have := hnb1.len; omega)) 2 rfl) hnb1) rfl ?_
                                      rintro e w75 ⟨_, rfl, rfl, hS75⟩; refine ⟨_, rfl, ?_⟩
                                      replace hS75 := hS75.join rfl; dsimp only [List.dropLast, List.cons_append, List.nil_append] at hS75; clear hC75
                                      clear hS74
                                      refine wl_guard rfl rfl (decide_eq_true h73) ?_
                                      refine wl_eql rfl rfl rfl ?_
                                      refine wl_pickT rfl (decide_eq_true h73) rfl rfl ?_
                                      refine wl_assign rfl rfl ?_
                                      refine wl_nil ?_
                                      refine qs_seq ?_
                                      refine wc_sub (L' := [(8, _)]) (.cons rfl .nil) ?_
                                      refine wc_ret ?_
                                      refine fin1 (.inr rfl) rfl rfl ?_
                                      exact ⟨_, rfl, by first | rfl | simp, hS75.pick [3] rfl⟩
                                    · skip
                                      exact absurd h73 (by omega)
                                · skip
                                  refine wl_unwanted rfl rfl (decide_eq_false h69) rfl ?_
                                  refine wl_unwanted rfl rfl (decide_eq_false h69) rfl ?_
                                  refine wl_pickF rfl (decide_eq_false h69) rfl rfl ?_
                                  refine wl_move rfl rfl ?_
                                  refine wl_unwanted rfl rfl rfl rfl ?_
                                  refine wl_unwanted rfl rfl rfl rfl ?_
                                  refine wl_unwanted rfl rfl rfl rfl ?_
                                  refine wl_unwanted rfl rfl rfl rfl ?_
                                  refine wl_unwanted rfl rfl rfl rfl ?_
                                  refine wl_pickF rfl rfl rfl rfl ?_
                                  refine wl_nil ?_
                                  refine qs_seq ?_
                                  refine wc_sub (L' := [(144, _), (15, _), (9, _), (10, _)]) (.cons rfl (.cons rfl (.cons rfl (.cons rfl .nil)))) ?_
                                  refine wc_condF rfl ?_
                                  refine wc_skip ?_
                                  refine qs_seq ?_
                                  refine wc_seq ?_
                                  refine wc_region ?_
                                  refine wl_move rfl rfl ?_
                                  refine wl_move rfl rfl ?_
                                  refine wl_guard rfl rfl rfl ?_
                                  refine wl_move rfl rfl ?_
                                  refine wl_guard rfl rfl rfl ?_
                                  refine wl_makeIface nif_26 rfl rfl ?_
                                  refine wl_guard rfl rfl rfl ?_
                                  have hC76 := hS66.split [1] [false, true, false, false] rfl; dsimp only [selF, pickA, nthA, List.cons_append, List.nil_append] at hC76
                                  refine wl_call cal_30 rfl (used3 hC76 (hG.starL 2 rfl) hA2) rfl ?_
                                  rintro e w76 ⟨_, rfl, rfl, hS76⟩; refine ⟨_, rfl, ?_⟩
                                  replace hS76 := hS76.join rfl; dsimp only [List.dropLast, List.cons_append, List.nil_append] at hS76; clear hC76
                                  clear hS66
                                  refine wl_guard rfl rfl rfl ?_
                                  refine wl_move rfl rfl ?_
                                  refine wl_guard rfl rfl rfl ?_
                                  have hC77 := hS76.split [] [false, false, false, false] rfl; dsimp only [selF, pickA, nthA, List.cons_append, List.nil_append] at hC77
                                  refine wl_call cal_33 rfl (aCost_sp hC77 (Ent.starL (ent_row (C := arC) (l := (unmL p n l)) (by have := hnb1.len; omega)) 2 rfl) hnb1) rfl ?_
                                  rintro e w77 ⟨_, rfl, rfl, hS77⟩; refine ⟨_, rfl, ?_⟩
                                  replace hS77 := hS77.join rfl; dsimp only [List.dropLast, List.cons_append, List.nil_append] at hS77; clear hC77
                                  clear hS76
                                  refine wl_guard rfl rfl rfl ?_
                                  refine wl_eql rfl rfl rfl ?_
                                  refine wl_pickT rfl rfl rfl rfl ?_
                                  refine wl_move rfl rfl ?_
                                  refine wl_splitD 154 rfl (fun h78 => ?_) (fun h78 => ?_)
                                  · skip
                                    refine wl_guard rfl rfl (decide_eq_true h78) ?_
                                    refine wl_move rfl rfl ?_
                                    refine wl_guard rfl rfl (decide_eq_true h78) ?_
                                    have hC79 := hS77.split [] [false, false, false, false] rfl; dsimp only [selF, pickA, nthA, List.cons_append, List.nil_append] at hC79
                                    refine wl_call cal_33 rfl (aCost_sp hC79 (Ent.starL (ent_row (C := arC) (l := (unmL p n l)) (by have := hnb1.len; omega)) 2 rfl) hnb1) rfl ?_
                                    rintro e w79 ⟨_, rfl, rfl, hS79⟩; refine ⟨_, rfl, ?_⟩
                                    replace hS79 := hS79.join rfl; dsimp only [List.dropLast, List.cons_append, List.nil_append] at hS79; clear hC79
                                    clear hS77
                                    refine wl_guard rfl rfl (decide_eq_true h78) ?_
                                    refine wl_move rfl rfl ?_
                                    refine wl_guard rfl rfl (decide_eq_true h78) ?_
                                    have hC80 := hS79.split [] [false, false, false, false] rfl; dsimp only [selF, pickA, nthA, List.cons_append, List.nil_append] at hC80
                                    refine wl_call cal_35 rfl (fCost_sp hC80 (Ent.starL (ent_row (C := arC) (l := (unmL p n l)) (by have := hnb1.len; omega)) 2 rfl) hnb1) rfl ?_
                                    rintro e w80 ⟨_, rfl, rfl, hS80⟩; refine ⟨_, rfl, ?_⟩
                                    replace hS80 := hS80.join rfl; dsimp only [List.dropLast, List.cons_append, List.nil_append] at hS80; clear hC80
                                    clear hS79
                                    refine wl_guard rfl rfl (decide_eq_true h78) ?_
                                    refine wl_eql rfl rfl rfl ?_
                                    refine wl_pickT rfl (decide_eq_true h78) rfl rfl ?_
                                    refine wl_assign rfl rfl ?_
                                    refine wl_nil ?_
                                    refine qs_seq ?_
                                    refine wc_sub (L' := [(8, _)]) (.cons rfl .nil) ?_
                                    refine wc_ret ?_
                                    refine fin1 (.inr rfl) rfl rfl ?_
                                    exact ⟨_, rfl, by first | rfl | simp, hS80.pick [3] rfl⟩
                                  · skip
                                    exact absurd h78 (by omega)
                              · skip
                                refine wl_unwanted rfl rfl (decide_eq_false h68) rfl ?_
                                refine wl_unwanted rfl rfl (decide_eq_false h68) rfl ?_
                                refine wl_pickF rfl (decide_eq_false h68) rfl rfl ?_
                                refine wl_move rfl rfl ?_
                                refine wl_unwanted rfl rfl rfl rfl ?_
                                refine wl_unwanted rfl rfl rfl rfl ?_
                                refine wl_pickF rfl rfl rfl rfl ?_
                                refine wl_move rfl rfl ?_
                                refine wl_unwanted rfl rfl rfl rfl ?_
                                refine wl_unwanted rfl rfl rfl rfl ?_
                                refine wl_unwanted rfl rfl rfl rfl ?_
                                refine wl_unwanted rfl rfl rfl rfl ?_
                                refine wl_unwanted rfl rfl rfl rfl ?_
                                refine wl_pickF rfl rfl rfl rfl ?_
                                refine wl_nil ?_
                                refine qs_seq ?_
                                refine wc_sub (L' := [(144, _), (15, _), (9, _), (10, _)]) (.cons rfl (.cons rfl (.cons rfl (.cons rfl .nil)))) ?_
                                refine wc_condF rfl ?_
                                refine wc_skip ?_
                                refine qs_seq ?_
                                refine wc_seq ?_
                                refine wc_region ?_
                                refine wl_move rfl rfl ?_
                                refine wl_move rfl rfl ?_
                                refine wl_guard rfl rfl rfl ?_
                                refine wl_move rfl rfl ?_
                                refine wl_guard rfl rfl rfl ?_
                                refine wl_makeIface nif_26 rfl rfl ?_
                                refine wl_guard rfl rfl rfl ?_
                                have hC81 := hS66.split [1] [false, true, false, false] rfl; dsimp only [selF, pickA, nthA, List.cons_append, List.nil_append] at hC81
                                refine wl_call cal_30 rfl (used3 hC81 (hG.starL 2 rfl) hA2) rfl ?_
                                rintro e w81 ⟨_, rfl, rfl, hS81⟩; refine ⟨_, rfl, ?_⟩
                                replace hS81 := hS81.join rfl; dsimp only [List.dropLast, List.cons_append, List.nil_append] at hS81; clear hC81
                                clear hS66
                                refine wl_guard rfl rfl rfl ?_
                                refine wl_move rfl rfl ?_
                                refine wl_guard rfl rfl rfl ?_
                                have hC82 := hS81.split [] [false, false, false, false] rfl; dsimp only [selF, pickA, nthA, List.cons_append, List.nil_append] at hC82
                                refine wl_call cal_33 rfl (aCost_sp hC82 (Ent.starL (ent_row (C := arC) (l := (unmL p n l)) (by have := hnb1.len; omega)) 2 rfl) hnb1) rfl ?_
                                rintro e w82 ⟨_, rfl, rfl, hS82⟩; refine ⟨_, rfl, ?_⟩
                                replace hS82 := hS82.join rfl; dsimp only [List.dropLast, List.cons_append, List.nil_append] at hS82; clear hC82
                                clear hS81
                                refine wl_guard rfl rfl rfl ?_
                                refine wl_eql rfl rfl rfl ?_
                                refine wl_pickT rfl rfl rfl rfl ?_
                                refine wl_move rfl rfl ?_
                                refine wl_splitD 154 rfl (fun h83 => ?_) (fun h83 => ?_)
                                · skip
                                  refine wl_guard rfl rfl (decide_eq_true h83) ?_
                                  refine wl_move rfl rfl ?_
                                  refine wl_guard rfl rfl (decide_eq_true h83) ?_
                                  have hC84 := hS82.split [] [false, false, false, false] rfl; dsimp only [selF, pickA, nthA, List.cons_append, List.nil_append] at hC84
                                  refine wl_call cal_33 rfl (aCost_sp hC84 (Ent.starL (ent_row (C := arC) (l := (unmL p n l)) (by have := hnb1.len; omega)) 2 rfl) hnb1) rfl ?_
                                  rintro e w84 ⟨_, rfl, rfl, hS84⟩; refine ⟨_, rfl, ?_⟩
                                  replace hS84 := hS84.join rfl; dsimp only [List.dropLast, List.cons_append, List.nil_append] at hS84; clear hC84
                                  clear hS82
                                  refine wl_guard rfl rfl (decide_eq_true h83) ?_
                                  refine wl_move rfl rfl ?_
                                  refine wl_guard rfl rfl (decide_eq_true h83) ?_
                                  have hC85 := hS84.split [] [false, false, false, false] rfl; dsimp only [selF, pickA, nthA, List.cons_append, List.nil_append] at hC85
                                  refine wl_call cal_35 rfl (fCost_sp hC85 (Ent.starL (ent_row (C := arC) (l := (unmL p n l)) (by have := hnb1.len; omega)) 2 rfl) hnb1) rfl ?_
                                  rintro e w85 ⟨_, rfl, rfl, hS85⟩; refine ⟨_, rfl, ?_⟩
                                  replace hS85 := hS85.join rfl; dsimp only [List.dropLast, List.cons_append, List.nil_append] at hS85; clear hC85
                                  clear hS84
                                  refine wl_guard rfl rfl (decide_eq_true h83) ?_
                                  refine wl_eql rfl rfl rfl ?_
                                  refine wl_pickT rfl (decide_eq_true h83) rfl rfl ?_
                                  refine wl_assign rfl rfl ?_
                                  refine wl_nil ?_
                                  refine qs_seq ?_
                                  refine wc_sub (L' := [(8, _)]) (.cons rfl .nil) ?_
                                  refine wc_ret ?_
                                  refine fin1 (.inr rfl) rfl rfl ?_
                                  exact ⟨_, rfl, by first | rfl | simp, hS85.pick [3] rfl⟩
                                · skip
                                  exact absurd h83 (by omega)
                            · skip
                              refine wl_unwanted rfl rfl (decide_eq_false h67) rfl ?_
                              refine wl_unwanted rfl rfl (decide_eq_false h67) rfl ?_
                              refine wl_unwanted rfl rfl (decide_eq_false h67) rfl ?_
                              refine wl_pickF rfl (decide_eq_false h67) rfl rfl ?_
                              refine wl_move rfl rfl ?_
                              refine wl_unwanted rfl rfl rfl rfl ?_
                              refine wl_unwanted rfl rfl rfl rfl ?_
                              refine wl_pickF rfl rfl rfl rfl ?_
                              refine wl_move rfl rfl ?_
                              refine wl_unwanted rfl rfl rfl rfl ?_
                              refine wl_unwanted rfl rfl rfl rfl ?_
                              refine wl_pickF rfl rfl rfl rfl ?_
                              refine wl_move rfl rfl ?_
                              refine wl_unwanted rfl rfl rfl rfl ?_
                              refine wl_unwanted rfl rfl rfl rfl ?_
                              refine wl_unwanted rfl rfl rfl rfl ?_
                              refine wl_unwanted rfl rfl rfl rfl ?_
                              refine wl_unwanted rfl rfl rfl rfl ?_
                              refine wl_pickF rfl rfl rfl rfl ?_
                              refine wl_nil ?_
                              refine qs_seq ?_
                              refine wc_sub (L' := [(144, _), (15, _), (9, _), (10, _)]) (.cons rfl (.cons rfl (.cons rfl (.cons rfl .nil)))) ?_
                              refine wc_condF rfl ?_
                              refine wc_skip ?_
                              refine qs_seq ?_
                              refine wc_seq ?_
                              refine wc_region ?_
                              refine wl_move rfl rfl ?_
                              refine wl_move rfl rfl ?_
                              refine wl_guard rfl rfl rfl ?_
                              refine wl_move rfl rfl ?_
                              refine wl_guard rfl rfl rfl ?_
                              refine wl_makeIface nif_26 rfl rfl ?_
                              refine wl_guard rfl rfl rfl ?_
                              have hC86 := hS66.split [1] [false, true, false, false] rfl; dsimp only [selF, pickA, nthA, List.cons_append, List.nil_append] at hC86
                              refine wl_call cal_30 rfl (used3 hC86 (hG.starL 2 rfl) hA2) rfl ?_
                              rintro e w86 ⟨_, rfl, rfl, hS86⟩; refine ⟨_, rfl, ?_⟩
                              replace hS86 := hS86.join rfl; dsimp only [List.dropLast, List.cons_append, List.nil_append] at hS86; clear hC86
                              clear hS66
                              refine wl_guard rfl rfl rfl ?_
                              refine wl_move rfl rfl ?_
                              refine wl_guard rfl rfl rfl ?_
                              have hC87 := hS86.split [] [false, false, false, false] rfl; dsimp only [selF, pickA, nthA, List.cons_append, List.nil_append] at hC87
                              refine wl_call cal_33 rfl (aCost_sp hC87 (Ent.starL (ent_row (C := arC) (l := (unmL p n l)) (by have := hnb1.len; omega)) 2 rfl) hnb1) rfl ?_
                              rintro e w87 ⟨_, rfl, rfl, hS87⟩; refine ⟨_, rfl, ?_⟩
                              replace hS87 := hS87.join rfl; dsimp only [List.dropLast, List.cons_append, List.nil_append] at hS87; clear hC87
                              clear hS86
                              refine wl_guard rfl rfl rfl ?_
                              refine wl_eql rfl rfl rfl ?_
                              refine wl_pickT rfl rfl rfl rfl ?_
                              refine wl_move rfl rfl ?_
                              refine wl_splitD 154 rfl (fun h88 => ?_) (fun h88 => ?_)
                              · skip
                                refine wl_guard rfl rfl (decide_eq_true h88) ?_
                                refine wl_move rfl rfl ?_
                                refine wl_guard rfl rfl (decide_eq_true h88) ?_
                                have hC89 := hS87.split [] [false, false, false, false] rfl; dsimp only [selF, pickA, nthA, List.cons_append, List.nil_append] at hC89
                                refine wl_call cal_33 rfl (aCost_sp hC89 (Ent.starL (ent_row (C := arC) (l := (unmL p n l)) (by have := hnb1.len; omega)) 2 rfl) hnb1) rfl ?_
                                rintro e w89 ⟨_, rfl, rfl, hS89⟩; refine ⟨_, rfl, ?_⟩
                                replace hS89 := hS89.join rfl; dsimp only [List.dropLast, List.cons_append, List.nil_append] at hS89; clear hC89
                                clear hS87
                                refine wl_guard rfl rfl (decide_eq_true h88) ?_
                                refine wl_move rfl rfl ?_
                                refine wl_guard rfl rfl (decide_eq_true h88) ?_
                                have hC90 := hS89.split [] [false, false, false, false] rfl; dsimp only [selF, pickA, nthA, List.cons_append, List.nil_append] at hC90
                                refine wl_call cal_35 rfl (fCost_sp hC90 (Ent.starL (ent_row (C := arC) (l := (unmL p n l)) (by have := hnb1.len; omega)) 2 rfl) hnb1) rfl ?_
                                rintro e w90 ⟨_, rfl, rfl, hS90⟩; refine ⟨_, rfl, ?_⟩
                                replace hS90 := hS90.join rfl; dsimp only [List.dropLast, List.cons_append, List.nil_append] at hS90; clear hC90
                                clear hS89
                                refine wl_guard rfl rfl (decide_eq_true h88) ?_
                                refine wl_eql rfl rfl rfl ?_
                                refine wl_pickT rfl (decide_eq_true h88) rfl rfl ?_
                                refine wl_assign rfl rfl ?_
                                refine wl_nil ?_
                                refine qs_seq ?_
                                refine wc_sub (L' := [(8, _)]) (.cons rfl .nil) ?_
                                refine wc_ret ?_
                                refine fin1 (.inr rfl) rfl rfl ?_
                                exact ⟨_, rfl, by first | rfl | simp, hS90.pick [3] rfl⟩
                              · skip
                                exact absurd h88 (by omega)
                          · skip
                            refine ⟨_, rfl, ?_⟩
                            replace hS66 := hS66.join rfl; dsimp only [List.dropLast, List.cons_append, List.nil_append] at hS66; clear hC66
                            clear hS28
                            have hnb3 : NB (unmL (p + c) (n - c) (unmL p c l)) := unmL_nb hok2 (by omega) (by omega)
                            refine wl_move rfl rfl ?_
                            refine wl_extract rfl rfl rfl ?_
                            refine wl_extract rfl rfl rfl ?_
                            refine wl_assign rfl rfl ?_
                            refine wl_assign rfl rfl ?_
                            refine wl_nil ?_
                            refine qs_seq ?_
                            refine wc_sub (L' := [(20, _), (19, _), (18, _), (15, _), (2, _), (3, _), (9, _), (10, _)]) (.cons rfl (.cons rfl (.cons rfl (.cons rfl (.cons rfl (.cons rfl (.cons rfl (.cons rfl .nil)))))))) ?_
                            refine wc_seq ?_
                            refine wc_seq ?_
                            refine wc_region ?_
                            refine wl_move rfl rfl ?_
                            refine wl_gtr rfl rfl rfl ?_
                            refine wl_move rfl rfl ?_
                            refine wl_splitD 125 rfl (fun h91 => ?_) (fun h91 => ?_)
                            · skip
                              refine wl_guard rfl rfl (decide_eq_true h91) ?_
                              refine wl_move rfl rfl ?_
                              refine wl_guard rfl rfl (decide_eq_true h91) ?_
                              refine wl_move rfl rfl ?_
                              refine wl_guard rfl rfl (decide_eq_true h91) ?_
                              refine wl_lss rfl rfl rfl ?_
                              refine wl_pickT rfl (decide_eq_true h91) rfl rfl ?_
                              refine wl_move rfl rfl ?_
                              refine wl_splitD 130 rfl (fun h92 => ?_) (fun h92 => ?_)
                              · skip
                                refine wl_guard rfl rfl (decide_eq_true h92) ?_
                                refine wl_move rfl rfl ?_
                                refine wl_guard rfl rfl (decide_eq_true h92) ?_
                                refine wl_eql rfl rfl rfl ?_
                                refine wl_pickT rfl (decide_eq_true h92) rfl rfl ?_
                                refine wl_move rfl rfl ?_
                                refine wl_splitD 134 rfl (fun h93 => ?_) (fun h93 => ?_)
                                · skip
                                  refine wl_guard rfl rfl (decide_eq_true h93) ?_
                                  refine wl_move rfl rfl ?_
                                  refine wl_guard rfl rfl (decide_eq_true h93) ?_
                                  refine wl_eql rfl rfl rfl ?_
                                  refine wl_pickT rfl (decide_eq_true h93) rfl rfl ?_
                                  refine wl_move rfl rfl ?_
                                  refine wl_splitD 138 rfl (fun h94 => ?_) (fun h94 => ?_)
                                  · skip
                                    refine wl_guard rfl rfl (decide_eq_true h94) ?_
                                    refine wl_move rfl rfl ?_
                                    refine wl_guard rfl rfl (decide_eq_true h94) ?_
                                    have hC95 := hS66.split [] [false, false, false, false, false] rfl; dsimp only [selF, pickA, nthA, List.cons_append, List.nil_append] at hC95
                                    refine wl_call cal_33 rfl (aCost_sp hC95 (Ent.starL (ent_row (C := arC) (l := (unmL (p + c) (n - c) (unmL p c l))) (by have := hnb3.len; omega)) 0 rfl) hnb3) rfl ?_
                                    rintro e w95 ⟨_, rfl, rfl, hS95⟩; refine ⟨_, rfl, ?_⟩
                                    replace hS95 := hS95.join rfl; dsimp only [List.dropLast, List.cons_append, List.nil_append] at hS95; clear hC95
                                    clear hS66
                                    refine wl_guard rfl rfl (decide_eq_true h94) ?_
                                    refine wl_move rfl rfl ?_
                                    refine wl_guard rfl rfl (decide_eq_true h94) ?_
                                    have hC96 := hS95.split [] [false, false, false, false, false] rfl; dsimp only [selF, pickA, nthA, List.cons_append, List.nil_append] at hC96
                                    refine wl_call cal_33 rfl (aCost_sp hC96 (Ent.starL (ent_row (C := arC) (l := (unmL p n l)) (by have := hnb1.len; omega)) 3 rfl) hnb1) rfl ?_
                                    rintro e w96 ⟨_, rfl, rfl, hS96⟩; refine ⟨_, rfl, ?_⟩
                                    replace hS96 := hS96.join rfl; dsimp only [List.dropLast, List.cons_append, List.nil_append] at hS96; clear hC96
                                    clear hS95
                                    refine wl_guard rfl rfl (decide_eq_true h94) ?_
                                    refine wl_neq rfl rfl rfl ?_
                                    refine wl_pickT rfl (decide_eq_true h94) rfl rfl ?_
                                    refine wl_nil ?_
                                    refine qs_seq ?_
                                    refine wc_sub (L' := [(144, _), (15, _), (9, _), (10, _)]) (.cons rfl (.cons rfl (.cons rfl (.cons rfl .nil)))) ?_
                                    refine wc_condD rfl (fun h97 => ?_) (fun h97 => ?_)
                                    · skip
                                      exact absurd (two_step hall (by omega) (by omega) (by omega) (by omega)) h97
                                    · skip
                                      refine wc_skip ?_
                                      refine qs_seq ?_
                                      refine wc_seq ?_
                                      refine wc_region ?_
                                      refine wl_move rfl rfl ?_
                                      refine wl_move rfl rfl ?_
                                      refine wl_guard rfl rfl rfl ?_
                                      refine wl_move rfl rfl ?_
                                      refine wl_guard rfl rfl rfl ?_
                                      refine wl_makeIface nif_26 rfl rfl ?_
                                      refine wl_guard rfl rfl rfl ?_
                                      have hC98 := hS96.split [2] [false, false, true, false, false] rfl; dsimp only [selF, pickA, nthA, List.cons_append, List.nil_append] at hC98
                                      refine wl_call cal_30 rfl (used3 hC98 (hG.starL 3 rfl) hA2) rfl ?_
                                      rintro e w98 ⟨_, rfl, rfl, hS98⟩; refine ⟨_, rfl, ?_⟩
                                      replace hS98 := hS98.join rfl; dsimp only [List.dropLast, List.cons_append, List.nil_append] at hS98; clear hC98
                                      clear hS96
                                      refine wl_guard rfl rfl rfl ?_
                                      refine wl_move rfl rfl ?_
                                      refine wl_guard rfl rfl rfl ?_
                                      have hC99 := hS98.split [] [false, false, false, false, false] rfl; dsimp only [selF, pickA, nthA, List.cons_append, List.nil_append] at hC99
                                      refine wl_call cal_33 rfl (aCost_sp hC99 (Ent.starL (ent_row (C := arC) (l := (unmL p n l)) (by have := hnb1.len; omega)) 3 rfl) hnb1) rfl ?_
                                      rintro e w99 ⟨_, rfl, rfl, hS99⟩; refine ⟨_, rfl, ?_⟩
                                      replace hS99 := hS99.join rfl; dsimp only [List.dropLast, List.cons_append, List.nil_append] at hS99; clear hC99
                                      clear hS98
                                      refine wl_guard rfl rfl rfl ?_
                                      refine wl_eql rfl rfl rfl ?_
                                      refine wl_pickT rfl rfl rfl rfl ?_
                                      refine wl_move rfl rfl ?_
                                      refine wl_splitD 154 rfl (fun h100 => ?_) (fun h100 => ?_)
                                      · skip
                                        refine wl_guard rfl rfl (decide_eq_true h100) ?_
                                        refine wl_move rfl rfl ?_
                                        refine wl_guard rfl rfl (decide_eq_true h100) ?_
                                        have hC101 := hS99.split [] [false, false, false, false, false] rfl; dsimp only [selF, pickA, nthA, List.cons_append, List.nil_append] at hC101
                                        refine wl_call cal_33 rfl (aCost_sp hC101 (Ent.starL (ent_row (C := arC) (l := (unmL p n l)) (by have := hnb1.len; omega)) 3 rfl) hnb1) rfl ?_
                                        rintro e w101 ⟨_, rfl, rfl, hS101⟩; refine ⟨_, rfl, ?_⟩
                                        replace hS101 := hS101.join rfl; dsimp only [List.dropLast, List.cons_append, List.nil_append] at hS101; clear hC101
                                        clear hS99
                                        refine wl_guard rfl rfl (decide_eq_true h100) ?_
                                        refine wl_move rfl rfl ?_
                                        refine wl_guard rfl rfl (decide_eq_true h100) ?_
                                        have hC102 := hS101.split [] [false, false, false, false, false] rfl; dsimp only [selF, pickA, nthA, List.cons_append, List.nil_append] at hC102
                                        refine wl_call cal_35 rfl (fCost_sp hC102 (Ent.starL (ent_row (C := arC) (l := (unmL p n l)) (by have := hnb1.len; omega)) 3 rfl) hnb1) rfl ?_
                                        rintro e w102 ⟨_, rfl, rfl, hS102⟩; refine ⟨_, rfl, ?_⟩
                                        replace hS102 := hS102.join rfl; dsimp only [List.dropLast, List.cons_append, List.nil_append] at hS102; clear hC102
                                        clear hS101
                                        refine wl_guard rfl rfl (decide_eq_true h100) ?_
                                        refine wl_eql rfl rfl rfl ?_
                                        refine wl_pickT rfl (decide_eq_true h100) rfl rfl ?_
                                        refine wl_assign rfl rfl ?_
                                        refine wl_nil ?_
                                        refine qs_seq ?_
                                        refine wc_sub (L' := [(8, _)]) (.cons rfl .nil) ?_
                                        refine wc_ret ?_
                                        refine fin1 (.inr rfl) rfl rfl ?_
                                        exact ⟨_, rfl, by first | rfl | simp, hS102.pick [4] rfl⟩
                                      · skip
                                        exact absurd h100 (by omega)
                                  · skip
                                    refine wl_unwanted rfl rfl (decide_eq_false h94) rfl ?_
                                    refine wl_unwanted rfl rfl (decide_eq_false h94) rfl ?_
                                    refine wl_unwanted rfl rfl (decide_eq_false h94) rfl ?_
                                    refine wl_unwanted rfl rfl (decide_eq_false h94) rfl ?_
                                    refine wl_unwanted rfl rfl (decide_eq_false h94) rfl ?_
                                    refine wl_pickF rfl (decide_eq_false h94) rfl rfl ?_
                                    refine wl_nil ?_
                                    refine qs_seq ?_
                                    refine wc_sub (L' := [(144, _), (15, _), (9, _), (10, _)]) (.cons rfl (.cons rfl (.cons rfl (.cons rfl .nil)))) ?_
                                    refine wc_condF rfl ?_
                                    refine wc_skip ?_
                                    refine qs_seq ?_
                                    refine wc_seq ?_
                                    refine wc_region ?_
                                    refine wl_move rfl rfl ?_
                                    refine wl_move rfl rfl ?_
                                    refine wl_guard rfl rfl rfl ?_
                                    refine wl_move rfl rfl ?_
                                    refine wl_guard rfl rfl rfl ?_
                                    refine wl_makeIface nif_26 rfl rfl ?_
                                    refine wl_guard rfl rfl rfl ?_
                                    have hC103 := hS66.split [2] [false, false, true, false, false] rfl; dsimp only [selF, pickA, nthA, List.cons_append, List.nil_append] at hC103
                                    refine wl_call cal_30 rfl (used3 hC103 (hG.starL 3 rfl) hA2) rfl ?_
                                    rintro e w103 ⟨_, rfl, rfl, hS103⟩; refine ⟨_, rfl, ?_⟩
                                    replace hS103 := hS103.join rfl; dsimp only [List.dropLast, List.cons_append, List.nil_append] at hS103; clear hC103
                                    clear hS66
                                    refine wl_guard rfl rfl rfl ?_
                                    refine wl_move rfl rfl ?_
                                    refine wl_guard rfl rfl rfl ?_
                                    have hC104 := hS103.split [] [false, false, false, false, false] rfl; dsimp only [selF, pickA, nthA, List.cons_append, List.nil_append] at hC104
                                    refine wl_call cal_33 rfl (aCost_sp hC104 (Ent.starL (ent_row (C := arC) (l := (unmL p n l)) (by have := hnb1.len; omega)) 3 rfl) hnb1) rfl ?_
                                    rintro e w104 ⟨_, rfl, rfl, hS104⟩; refine ⟨_, rfl, ?_⟩
                                    replace hS104 := hS104.join rfl; dsimp only [List.dropLast, List.cons_append, List.nil_append] at hS104; clear hC104
                                    clear hS103
                                    refine wl_guard rfl rfl rfl ?_
                                    refine wl_eql rfl rfl rfl ?_
                                    refine wl_pickT rfl rfl rfl rfl ?_
                                    refine wl_move rfl rfl ?_
                                    refine wl_splitD 154 rfl (fun h105 => ?_) (fun h105 => ?_)
                                    · skip
                                      refine wl_guard rfl rfl (decide_eq_true h105) ?_
                                      refine wl_move rfl rfl ?_
                                      refine wl_guard rfl rfl (decide_eq_true h105) ?_
                                      have hC106 := hS104.split [] [false, false, false, false, false] rfl; dsimp only [selF, pickA, nthA, List.cons_append, List.nil_append] at hC106
                                      refine wl_call cal_33 rfl (aCost_sp hC106 (Ent.starL (ent_row (C := arC) (l := (unmL p n l)) (by have := hnb1.len; omega)) 3 rfl) hnb1) rfl ?_
                                      rintro e w106 ⟨_, rfl, rfl, hS106⟩; refine ⟨_, rfl, ?_⟩
                                      replace hS106 := hS106.join rfl; dsimp only [List.dropLast, List.cons_append, List.nil_append] at hS106; clear hC106
                                      clear hS104
                                      refine wl_guard rfl rfl (decide_eq_true h105) ?_
                                      refine wl_move rfl rfl ?_
                                      refine wl_guard rfl rfl (decide_eq_true h105) ?_
                                      have hC107 := hS106.split [] [false, false, false, false, false] rfl; dsimp only [selF, pickA, nthA, List.cons_append, List.nil_append] at hC107
                                      refine wl_call cal_35 rfl (fCost_sp hC107 (Ent.starL (ent_row (C := arC) (l := (unmL p n l)) (by have := hnb1.len; omega)) 3 rfl) hnb1) rfl ?_
                                      rintro e w107 ⟨_, rfl, rfl, hS107⟩; refine ⟨_, rfl, ?_⟩
                                      replace hS107 := hS107.join rfl; dsimp only [List.dropLast, List.cons_append, List.nil_append] at hS107; clear hC107
                                      clear hS106
                                      refine wl_guard rfl rfl (decide_eq_true h105) ?_
                                      refine wl_eql rfl rfl rfl ?_
                                      refine wl_pickT rfl (decide_eq_true h105) rfl rfl ?_
                                      refine wl_assign rfl rfl ?_
                                      refine wl_nil ?_
                                      refine qs_seq ?_
                                      refine wc_sub (L' := [(8, _)]) (.cons rfl .nil) ?_
                                      refine wc_ret ?_
                                      refine fin1 (.inr rfl) rfl rfl ?_
                                      exact ⟨_, rfl, by first | rfl | simp, hS107.pick [4] rfl⟩
                                    · skip
                                      exact absurd h105 (by omega)
                                · skip
                                  refine wl_unwanted rfl rfl (decide_eq_false h93) rfl ?_
                                  refine wl_unwanted rfl rfl (decide_eq_false h93) rfl ?_
                                  refine wl_pickF rfl (decide_eq_false h93) rfl rfl ?_
                                  refine wl_move rfl rfl ?_
                                  refine wl_unwanted rfl rfl rfl rfl ?_
                                  refine wl_unwanted rfl rfl rfl rfl ?_
                                  refine wl_unwanted rfl rfl rfl rfl ?_
                                  refine wl_unwanted rfl rfl rfl rfl ?_
                                  refine wl_unwanted rfl rfl rfl rfl ?_
                                  refine wl_pickF rfl rfl rfl rfl ?_
                                  refine wl_nil ?_
                                  refine qs_seq ?_
                                  refine wc_sub (L' := [(144, _), (15, _), (9, _), (10, _)]) (.cons rfl (.cons rfl (.cons rfl (.cons rfl .nil)))) ?_
                                  refine wc_condF rfl ?_
                                  refine wc_skip ?_
                                  refine qs_seq ?_
                                  refine wc_seq ?_
                                  refine wc_region ?_
                                  refine wl_move rfl rfl ?_
                                  refine wl_move rfl rfl ?_
                                  refine wl_guard rfl rfl rfl ?_
                                  refine wl_move rfl rfl ?_
                                  refine wl_guard rfl rfl rfl ?_
                                  refine wl_makeIface nif_26 rfl rfl ?_
                                  refine wl_guard rfl rfl rfl ?_
                                  have hC108 := hS66.split [2] [false, false, true, false, false] rfl; dsimp only [selF, pickA, nthA, List.cons_append, List.nil_append] at hC108
                                  refine wl_call cal_30 rfl (used3 hC108 (hG.starL 3 rfl) hA2) rfl ?_
                                  rintro e w108 ⟨_, rfl, rfl, hS108⟩; refine ⟨_, rfl, ?_⟩
                                  replace hS108 := hS108.join rfl; dsimp only [List.dropLast, List.cons_append, List.nil_append] at hS108; clear hC108
                                  clear hS66
                                  refine wl_guard rfl rfl rfl ?_
                                  refine wl_move rfl rfl ?_
                                  refine wl_guard rfl rfl rfl ?_
                                  have hC109 := hS108.split [] [false, false, false, false, false] rfl; dsimp only [selF, pickA, nthA, List.cons_append, List.nil_append] at hC109
                                  refine wl_call cal_33 rfl (aCost_sp hC109 (Ent.starL (ent_row (C := arC) (l := (unmL p n l)) (by have := hnb1.len; omega)) 3 rfl) hnb1) rfl ?_
                                  rintro e w109 ⟨_, rfl, rfl, hS109⟩; refine ⟨_, rfl, ?_⟩
                                  replace hS109 := hS109.join rfl; dsimp only [List.dropLast, List.cons_append, List.nil_append] at hS109; clear hC109
                                  clear hS108
                                  refine wl_guard rfl rfl rfl ?_
                                  refine wl_eql rfl rfl rfl ?_
                                  refine wl_pickT rfl rfl rfl rfl ?_
                                  refine wl_move rfl rfl ?_
                                  refine wl_splitD 154 rfl (fun h110 => ?_) (fun h110 => ?_)
                                  · skip
                                    refine wl_guard rfl rfl (decide_eq_true h110) ?_
                                    refine wl_move rfl rfl ?_
                                    refine wl_guard rfl rfl (decide_eq_true h110) ?_
                                    have hC111 := hS109.split [] [false, false, false, false, false] rfl; dsimp only [selF, pickA, nthA, List.cons_append, List.nil_append] at hC111
                                    refine wl_call cal_33 rfl (aCost_sp hC111 (Ent.starL (ent_row (C := arC) (l := (unmL p n l)) (by have := hnb1.len; omega)) 3 rfl) hnb1) rfl ?_
                                    rintro e w111 ⟨_, rfl, rfl, hS111⟩; refine ⟨_, rfl, ?_⟩
                                    replace hS111 := hS111.join rfl; dsimp only [List.dropLast, List.cons_append, List.nil_append] at hS111; clear hC111
                                    clear hS109
                                    refine wl_guard rfl rfl (decide_eq_true h110) ?_
                                    refine wl_move rfl rfl ?_
                                    refine wl_guard rfl rfl (decide_eq_true h110) ?_
                                    have hC112 := hS111.split [] [false, false, false, false, false] rfl; dsimp only [selF, pickA, nthA, List.cons_append, List.nil_append] at hC112
                                    refine wl_call cal_35 rfl (fCost_sp hC112 (Ent.starL (ent_row (C := arC) (l := (unmL p n l)) (by have := hnb1.len; omega)) 3 rfl) hnb1) rfl ?_
                                    rintro e w112 ⟨_, rfl, rfl, hS112⟩; refine ⟨_, rfl, ?_⟩
                                    replace hS112 := hS112.join rfl; dsimp only [List.dropLast, List.cons_append, List.nil_append] at hS112; clear hC112
                                    clear hS111
                                    refine wl_guard rfl rfl (decide_eq_true h110) ?_
                                    refine wl_eql rfl rfl rfl ?_
                                    refine wl_pickT rfl (decide_eq_true h110) rfl rfl ?_
                                    refine wl_assign rfl rfl ?_
                                    refine wl_nil ?_
                                    refine qs_seq ?_
                                    refine wc_sub (L' := [(8, _)]) (.cons rfl .nil) ?_
                                    refine wc_ret ?_
                                    refine fin1 (.inr rfl) rfl rfl ?_
                                    exact ⟨_, rfl, by first | rfl | simp, hS112.pick [4] rfl⟩
                                  · skip
                                    exact absurd h110 (by omega)
                              · skip
                                refine wl_unwanted rfl rfl (decide_eq_false h92) rfl ?_
                                refine wl_unwanted rfl rfl (decide_eq_false h92) rfl ?_
                                refine wl_pickF rfl (decide_eq_false h92) rfl rfl ?_
                                refine wl_move rfl rfl ?_
                                refine wl_unwanted rfl rfl rfl rfl ?_
                                refine wl_unwanted rfl rfl rfl rfl ?_
                                refine wl_pickF rfl rfl rfl rfl ?_
                                refine wl_move rfl rfl ?_
                                refine wl_unwanted rfl rfl rfl rfl ?_
                                refine wl_unwanted rfl rfl rfl rfl ?_
                                refine wl_unwanted rfl rfl rfl rfl ?_
                                refine wl_unwanted rfl rfl rfl rfl ?_
                                refine wl_unwanted rfl rfl rfl rfl ?_
                                refine wl_pickF rfl rfl rfl rfl ?_
                                refine wl_nil ?_
                                refine qs_seq ?_
                                refine wc_sub (L' := [(144, _), (15, _), (9, _), (10, _)]) (.cons rfl (.cons rfl (.cons rfl (.cons rfl .nil)))) ?_
                                refine wc_condF rfl ?_
                                refine wc_skip ?_
                                refine qs_seq ?_
                                refine wc_seq ?_
                                refine wc_region ?_
                                refine wl_move rfl rfl ?_
                                refine wl_move rfl rfl ?_
                                refine wl_guard rfl rfl rfl ?_
                                refine wl_move rfl rfl ?_
                                refine wl_guard rfl rfl rfl ?_
                                refine wl_makeIface nif_26 rfl rfl ?_
                                refine wl_guard rfl rfl rfl ?_
                                have hC113 := hS66.split [2] [false, false, true, false, false] rfl; dsimp only [selF, pickA, nthA, List.cons_append, List.nil_append] at hC113
                                refine wl_call cal_30 rfl (used3 hC113 (hG.starL 3 rfl) hA2) rfl ?_
                                rintro e w113 ⟨_, rfl, rfl, hS113⟩; refine ⟨_, rfl, ?_⟩
                                replace hS113 := hS113.join rfl; dsimp only [List.dropLast, List.cons_append, List.nil_append] at hS113; clear hC113
                                clear hS66
                                refine wl_guard rfl rfl rfl ?_
                                refine wl_move rfl rfl ?_
                                refine wl_guard rfl rfl rfl ?_
                                have hC114 := hS113.split [] [false, false, false, false, false] rfl; dsimp only [selF, pickA, nthA, List.cons_append, List.nil_append] at hC114
                                refine wl_call cal_33 rfl (aCost_sp hC114 (Ent.starL (ent_row (C := arC) (l := (unmL p n l)) (by have := hnb1.len; omega)) 3 rfl) hnb1) rfl ?_
                                rintro e w114 ⟨_, rfl, rfl, hS114⟩; refine ⟨_, rfl, ?_⟩
                                replace hS114 := hS114.join rfl; dsimp only [List.dropLast, List.cons_append, List.nil_append] at hS114; clear hC114
                                clear hS113
                                refine wl_guard rfl rfl rfl ?_
                                refine wl_eql rfl rfl rfl ?_
                                refine wl_pickT rfl rfl rfl rfl ?_
                                refine wl_move rfl rfl ?_
                                refine wl_splitD 154 rfl (fun h115 => ?_) (fun h115 => ?_)
                                · skip
                                  refine wl_guard rfl rfl (decide_eq_true h115) ?_
                                  refine wl_move rfl rfl ?_
                                  refine wl_guard rfl rfl (decide_eq_true h115) ?_
                                  have hC116 := hS114.split [] [false, false, false, false, false] rfl; dsimp only [selF, pickA, nthA, List.cons_append, List.nil_append] at hC116
                                  refine wl_call cal_33 rfl (aCost_sp hC116 (Ent.starL (ent_row (C := arC) (l := (unmL p n l)) (by have := hnb1.len; omega)) 3 rfl) hnb1) rfl ?_
                                  rintro e w116 ⟨_, rfl, rfl, hS116⟩; refine ⟨_, rfl, ?_⟩
                                  replace hS116 := hS116.join rfl; dsimp only [List.dropLast, List.cons_append, List.nil_append] at hS116; clear hC116
                                  clear hS114
                                  refine wl_guard rfl rfl (decide_eq_true h115) ?_
                                  refine wl_move rfl rfl ?_
                                  refine wl_guard rfl rfl (decide_eq_true h115) ?_
                                  have hC117 := hS116.split [] [false, false, false, false, false] rfl; dsimp only [selF, pickA, nthA, List.cons_append, List.nil_append] at hC117
                                  refine wl_call cal_35 rfl (fCost_sp hC117 (Ent.starL (ent_row (C := arC) (l := (unmL p n l)) (by have := hnb1.len; omega)) 3 rfl) hnb1) rfl ?_
                                  rintro e w117 ⟨_, rfl, rfl, hS117⟩; refine ⟨_, rfl, ?_⟩
                                  replace hS117 := hS117.join rfl; dsimp only [List.dropLast, List.cons_append, List.nil_append] at hS117; clear hC117
                                  clear hS116
                                  refine wl_guard rfl rfl (decide_eq_true h115) ?_
                                  refine wl_eql rfl rfl rfl ?_
                                  refine wl_pickT rfl (decide_eq_true h115) rfl rfl ?_
                                  refine wl_assign rfl rfl ?_
                                  refine wl_nil ?_
                                  refine qs_seq ?_
                                  refine wc_sub (L' := [(8, _)]) (.cons rfl .nil) ?_
                                  refine wc_ret ?_
                                  refine fin1 (.inr rfl) rfl rfl ?_
                                  exact ⟨_, rfl, by first | rfl | simp, hS117.pick [4] rfl⟩
                                · skip
                                  exact absurd h115 (by omega)
                            · skip
                              refine wl_unwanted rfl rfl (decide_eq_false h91) rfl ?_
                              refine wl_unwanted rfl rfl (decide_eq_false h91) rfl ?_
                              refine wl_unwanted rfl rfl (decide_eq_false h91) rfl ?_
                              refine wl_pickF rfl (decide_eq_false h91) rfl rfl ?_
                              refine wl_move rfl rfl ?_
                              refine wl_unwanted rfl rfl rfl rfl ?_
                              refine wl_unwanted rfl rfl rfl rfl ?_
                              refine wl_pickF rfl rfl rfl rfl ?_
                              refine wl_move rfl rfl ?_
                              refine wl_unwanted rfl rfl rfl rfl ?_
                              refine wl_unwanted rfl rfl rfl rfl ?_
                              refine wl_pickF rfl rfl rfl rfl ?_
                              refine wl_move rfl rfl ?_
                              refine wl_unwanted rfl rfl rfl rfl ?_
                              refine wl_unwanted rfl rfl rfl rfl ?_
                              refine wl_unwanted rfl rfl rfl rfl ?_
                              refine wl_unwanted rfl rfl rfl rfl ?_
                              refine wl_unwanted rfl rfl rfl rfl ?_
                              refine wl_pickF rfl rfl rfl rfl ?_
                              refine wl_nil ?_
                              refine qs_seq ?_
                              refine wc_sub (L' := [(144, _), (15, _), (9, _), (10, _)]) (.cons rfl (.cons rfl (.cons rfl (.cons rfl .nil)))) ?_
                              refine wc_condF rfl ?_
                              refine wc_skip ?_
                              refine qs_seq ?_
                              refine wc_seq ?_
                              refine wc_region ?_
                              refine wl_move rfl rfl ?_
                              refine wl_move rfl rfl ?_
                              refine wl_guard rfl rfl rfl ?_
                              refine wl_move rfl rfl ?_
                              refine wl_guard rfl rfl rfl ?_
                              refine wl_makeIface nif_26 rfl rfl ?_
                              refine wl_guard rfl rfl rfl ?_
                              have hC118 := hS66.split [2] [false, false, true, false, false] rfl; dsimp only [selF, pickA, nthA, List.cons_append, List.nil_append] at hC118
                              refine wl_call cal_30 rfl (used3 hC118 (hG.starL 3 rfl) hA2) rfl ?_
                              rintro e w118 ⟨_, rfl, rfl, hS118⟩; refine ⟨_, rfl, ?_⟩
                              replace hS118 := hS118.join rfl; dsimp only [List.dropLast, List.cons_append, List.nil_append] at hS118; clear hC118
                              clear hS66
                              refine wl_guard rfl rfl rfl ?_
                              refine wl_move rfl rfl ?_
                              refine wl_guard rfl rfl rfl ?_
                              have hC119 := hS118.split [] [false, false, false, false, false] rfl; dsimp only [selF, pickA, nthA, List.cons_append, List.nil_append] at hC119
                              refine wl_call cal_33 rfl (aCost_sp hC119 (Ent.starL (ent_row (C := arC) (l := (unmL p n l)) (by have := hnb1.len; omega)) 3 rfl) hnb1) rfl ?_
                              rintro e w119 ⟨_, rfl, rfl, hS119⟩; refine ⟨_, rfl, ?_⟩
                              replace hS119 := hS119.join rfl; dsimp only [List.dropLast, List.cons_append, List.nil_append] at hS119; clear hC119
                              clear hS118
                              refine wl_guard rfl rfl rfl ?_
                              refine wl_eql rfl rfl rfl ?_
                              refine wl_pickT rfl rfl rfl rfl ?_
                              refine wl_move rfl rfl ?_
                              refine wl_splitD 154 rfl (fun h120 => ?_) (fun h120 => ?_)
                              · skip
                                refine wl_guard rfl rfl (decide_eq_true h120) ?_
                                refine wl_move rfl rfl ?_
                                refine wl_guard rfl rfl (decide_eq_true h120) ?_
                                have hC121 := hS119.split [] [false, false, false, false, false] rfl; dsimp only [selF, pickA, nthA, List.cons_append, List.nil_append] at hC121
                                refine wl_call cal_33 rfl (aCost_sp hC121 (Ent.starL (ent_row (C := arC) (l := (unmL p n l)) (by have := hnb1.len; omega)) 3 rfl) hnb1) rfl ?_
                                rintro e w121 ⟨_, rfl, rfl, hS121⟩; refine ⟨_, rfl, ?_⟩
                                replace hS121 := hS121.join rfl; dsimp only [List.dropLast, List.cons_append, List.nil_append] at hS121; clear hC121
                                clear hS119
                                refine wl_guard rfl rfl (decide_eq_true h120) ?_
                                refine wl_move rfl rfl ?_
                                refine wl_guard rfl rfl (decide_eq_true h120) ?_
                                have hC122 := hS121.split [] [false, false, false, false, false] rfl; dsimp only [selF, pickA, nthA, List.cons_append, List.nil_append] at hC122
                                refine wl_call cal_35 rfl (fCost_sp hC122 (Ent.starL (ent_row (C := arC) (l := (unmL p n l)) (by have := hnb1.len; omega)) 3 rfl) hnb1) rfl ?_
                                rintro e w122 ⟨_, rfl, rfl, hS122⟩; refine ⟨_, rfl, ?_⟩
                                replace hS122 := hS122.join rfl; dsimp only [List.dropLast, List.cons_append, List.nil_append] at hS122; clear hC122
                                clear hS121
                                refine wl_guard rfl rfl (decide_eq_true h120) ?_
                                refine wl_eql rfl rfl rfl ?_
                                refine wl_pickT rfl (decide_eq_true h120) rfl rfl ?_
                                refine wl_assign rfl rfl ?_
                                refine wl_nil ?_
                                refine qs_seq ?_
                                refine wc_sub (L' := [(8, _)]) (.cons rfl .nil) ?_
                                refine wc_ret ?_
                                refine fin1 (.inr rfl) rfl rfl ?_
                                exact ⟨_, rfl, by first | rfl | simp, hS122.pick [4] rfl⟩
                              · skip
                                exact absurd h120 (by omega)

end Go.Proofs.YtieelilkkpcmdaaDoor
