/- laws of pipes: PipesEnds -/
import Derived.Test.YtgnhfhhmipcgcaaDoorPr
namespace Go.Proofs.YtgnhfhhmipcgcaaDoor
open Go.RowKit M
set_option linter.unusedVariables false
theorem dN_in (W : WS) (o : OpP) : -1 ≤ dN W o ∧ dN W o ≤ 1 := by
  unfold dN; split
  · simp
  · split <;> simp
set_option maxRecDepth 100000 in
set_option maxHeartbeats 4000000 in
theorem ends_law {w : World} {F : Th} (hS : Sat w [F]) (hG : Ent F WireG) {lv : Value} {l : List OpP} (hL : Ent F (RdL oC lv l)) :
    Calls Tryd.prog 4 #[lv] w (Ret fun v w' => v = .bool true ∧ Sat w' [F]) := by
  obtain ⟨ao, cap, rfl, hmax⟩ := (hL.sat hS 0 rfl).shape
  refine calls_enter Tryd.func4 rfl Tryd.ntmps4 rfl ?_
  refine wc_seq ?_
  refine wc_region ?_
  refine wl_assign rfl rfl ?_
  refine wl_nil ?_
  refine qs_seq ?_
  refine wc_seq ?_
  refine wc_region ?_
  have hC1 := hS.split [] [false] rfl; dsimp only [selF, pickA, nthA, List.cons_append, List.nil_append] at hC1
  refine wl_call cal_5 rfl (psmall_sp hC1 (hG.starL 0 rfl)) rfl ?_
  rintro e w1 ⟨_, rfl, rfl, hS1⟩; refine ⟨_, rfl, ?_⟩
  replace hS1 := hS1.join rfl; dsimp only [List.dropLast, List.cons_append, List.nil_append] at hS1; clear hC1
  refine wl_assign rfl rfl ?_
  refine wl_nil ?_
  refine qs_seq ?_
  refine wc_seq ?_
  refine wc_seq ?_
  refine wc_region ?_
  refine wl_move rfl rfl ?_
  have hC2 := hS1.split [] [false] rfl; dsimp only [selF, pickA, nthA, List.cons_append, List.nil_append] at hC2
  refine wl_call cal_6 rfl (pfew_sp hC2 (hL.starL 0 rfl) 60) rfl ?_
  rintro e w2 ⟨_, rfl, rfl, hS2⟩; refine ⟨_, rfl, ?_⟩
  replace hS2 := hS2.join rfl; dsimp only [List.dropLast, List.cons_append, List.nil_append] at hS2; clear hC2
  clear hS1
  refine wl_not rfl rfl ?_
  refine wl_nil ?_
  refine qs_seq ?_
  refine wc_cond rfl (fun h3 => ?_) (fun h3 => ?_)
  · skip
    refine wc_seq ?_
    refine wc_region ?_
    refine wl_move rfl rfl ?_
    refine wl_assign rfl rfl ?_
    refine wl_nil ?_
    refine qs_seq ?_
    refine wc_ret ?_
    refine qs_then_ret ?_
    refine fin1 (.inr rfl) rfl rfl ?_
    exact ⟨_, rfl, by first | rfl | simp, hS2.pick [0] rfl⟩
  · skip
    have hfew : fewO 60 l = true := by simpa using h3
    have hll := fewO_len hfew
    refine wc_skip ?_
    refine qs_seq ?_
    refine wc_seq ?_
    refine wc_region ?_
    have hC4 := hS2.split [] [false] rfl; dsimp only [selF, pickA, nthA, List.cons_append, List.nil_append] at hC4
    refine wl_call cal_7 rfl (new_sp hC4) rfl ?_
    rintro e w4 ⟨_, rfl, p, rfl, hS4⟩; refine ⟨_, rfl, ?_⟩
    replace hS4 := hS4.join rfl; dsimp only [List.dropLast, List.cons_append, List.nil_append] at hS4; clear hC4
    clear hS2
    refine wl_assign rfl rfl ?_
    refine wl_nil ?_
    refine qs_seq ?_
    refine wc_seq ?_
    refine wc_seq ?_
    refine wc_region ?_
    refine wl_move rfl rfl ?_
    refine wl_eqlNil Tryd.underlying25 rfl rfl rfl ?_
    refine wl_nil ?_
    refine qs_seq ?_
    refine wc_sub (L' := [(24, _), (4, _), (3, _), (2, _), (0, _)]) (.cons rfl (.cons rfl (.cons rfl (.cons rfl (.cons rfl .nil))))) ?_
    refine wc_condF rfl ?_
    refine wc_skip ?_
    refine qs_seq ?_
    refine wc_seq ?_
    refine wc_region ?_
    refine wl_move rfl rfl ?_
    refine wl_makeIface nif_25 rfl rfl ?_
    have hC5 := hS4.split [0] [true, false] rfl; dsimp only [selF, pickA, nthA, List.cons_append, List.nil_append] at hC5
    refine wl_call cal_8 rfl (pMake_sp hC5 (hG.starL 0 rfl) PI.empty (by omega) [120] (by simp)) rfl ?_
    rintro e w5 ⟨_, rfl, rfl, hS5⟩; refine ⟨_, rfl, ?_⟩
    replace hS5 := hS5.join rfl; dsimp only [List.dropLast, List.cons_append, List.nil_append] at hS5; clear hC5
    clear hS4
    have m1 := mkG (id := [120]) (by simp) (gP_empty _) (by rw [keyN_empty]; decide)
    have hP1 := PI.empty.make (id := [120]) (by simp) (keyN emptyW)
    have g1 := m1.2
    generalize mkP emptyW [120] (keyN emptyW) = W1 at hP1 g1 hS5
    refine wl_nil ?_
    refine qs_seq ?_
    refine wc_seq ?_
    refine wc_region ?_
    refine wl_assign rfl rfl ?_
    refine wl_nil ?_
    refine qs_seq ?_
    refine wc_seq ?_
    refine wc_region ?_
    refine wl_assign rfl rfl ?_
    refine wl_nil ?_
    refine qs_seq ?_
    refine wc_seq ?_
    refine wc_region ?_
    refine wl_assign rfl rfl ?_
    refine wl_nil ?_
    refine qs_seq ?_
    refine wc_sub (L' := [(7, _), (6, _), (5, _), (4, _), (3, _), (2, _), (0, _)]) (.cons rfl (.cons rfl (.cons rfl (.cons rfl (.cons rfl (.cons rfl (.cons rfl .nil))))))) ?_
    refine wc_seq ?_
    refine wc_seq ?_
    refine wc_region ?_
    refine wl_assign rfl rfl ?_
    refine wl_nil ?_
    refine qs_seq ?_
    refine wc_block ?_
    refine wc_loop (fun K0 E0 W0 => ∃ (i : Nat) (rd : Int) (wr : Int) (th : Bool) (W : WS), K0 = l.length - i ∧ E0 = [(0, .slice ao l.length cap), (3, .bool true), (4, ptrV p 0), (5, intV rd), (6, intV wr), (7, .bool th), (8, intV (i : Int))] ∧ Sat W0 [worldT p W, F] ∧ (i ≤ l.length) ∧ (PI W (i + 1)) ∧ (EndsI W [120] th rd wr i)) (L0 := [(0, _), (3, _), (4, _), (5, _), (6, _), (7, _), (8, _)]) (l.length - 0) (.cons rfl (.cons rfl (.cons rfl (.cons rfl (.cons rfl (.cons rfl (.cons rfl .nil))))))) ⟨0, 0, 0, true, _, rfl, rfl, hS5, by omega, hP1, ⟨fun _ => ⟨_, g1, rfl, rfl⟩, fun q => (by cases q), by simp, by simp⟩⟩ ?_
    rintro _ _ w6 ⟨i, rd, wr, th, W, rfl, rfl, hS6, hi, hP, hE⟩
    refine wc_seq ?_
    refine wc_seq ?_
    refine wc_region ?_
    refine wl_move rfl rfl ?_
    refine wl_move rfl rfl ?_
    refine wl_lenL Tryd.underlying22 rfl rfl ?_
    refine wl_lss rfl rfl rfl ?_
    refine wl_nil ?_
    refine qs_seq ?_
    refine wc_sub (L' := [(31, _), (0, _), (3, _), (4, _), (5, _), (6, _), (7, _), (8, _)]) (.cons rfl (.cons rfl (.cons rfl (.cons rfl (.cons rfl (.cons rfl (.cons rfl (.cons rfl .nil)))))))) ?_
    refine wc_condD rfl (fun h7 => ?_) (fun h7 => ?_)
    · skip
      obtain ⟨o, ho⟩ : ∃ o, l[i]? = some o := ⟨_, List.getElem?_eq_getElem (by omega)⟩
      obtain ⟨b, off, rfl, hc⟩ := (hL.sat hS6 1 rfl).get ho
      have hos := fewO_get hfew ho
      refine wc_skip ?_
      refine qs_seq ?_
      refine wc_seq ?_
      refine wc_block ?_
      refine wc_seq ?_
      refine wc_region ?_
      refine wl_move rfl rfl ?_
      refine wl_move rfl rfl ?_
      refine wl_indexAddr i rfl rfl (by first | rfl | omega) (by omega) es_22 rfl ?_
      refine wl_loadAt rfl ag_31 sz_31 (vs := oV o) hc rfl ?_
      refine wl_alloc hS6 zr_31 rfl rfl ?_
      intro bo wbo hSbo
      clear hS6
      first | (refine wl_storeA hSbo rfl rfl sz_31 rfl (by first | rfl | (simp [allOne, Value.oneCell']; done) | assumption | exact hone) (i := 0) rfl (by first | decide | exact Nat.le_of_ble_eq_true rfl | (simp; done) | omega) ?_)
      intro w8 hS9; dsimp only [List.set] at hS9
      clear hSbo
      refine wl_nil ?_
      refine qs_seq ?_
      refine wc_sub (L' := [(9, _), (0, _), (3, _), (4, _), (5, _), (6, _), (7, _), (8, _)]) (.cons rfl (.cons rfl (.cons rfl (.cons rfl (.cons rfl (.cons rfl (.cons rfl (.cons rfl .nil)))))))) ?_
      refine wc_seq ?_
      refine wc_region ?_
      refine wl_fieldAddr rfl fo_31_1 rfl ?_
      first | (refine wl_store hS9 rfl rfl sz_9 (by first | rfl | assumption) (i := 0) rfl (by first | decide | exact Nat.le_of_ble_eq_true rfl | (simp; done) | omega) ?_)
      intro w10 hS11; dsimp only [List.set] at hS11
      clear hS9
      refine wl_nil ?_
      refine qs_seq ?_
      refine wc_seq ?_
      refine wc_region ?_
      refine wl_move rfl rfl ?_
      refine wl_loadA rfl ag_31 sz_31 (by first | exact hS11.blk 0 rfl) (by first | decide | exact Nat.le_of_ble_eq_true rfl | (simp; done) | omega) rfl rfl ?_
      have hC12 := hS11.split [1] [false, true, false] rfl; dsimp only [selF, pickA, nthA, List.cons_append, List.nil_append] at hC12
      refine wl_call cal_15 rfl (pdo_sp hC12 (hG.starL 1 rfl) hP (by omega) { o with id := [120] } ⟨by simp, hos.2⟩) rfl ?_
      rintro e w12 ⟨_, rfl, rfl, hS12⟩; refine ⟨_, rfl, ?_⟩
      replace hS12 := hS12.join rfl; dsimp only [List.dropLast, List.cons_append, List.nil_append] at hS12; clear hC12
      clear hS11
      refine wl_move rfl rfl ?_
      refine wl_extract rfl rfl rfl ?_
      refine wl_extract rfl rfl rfl ?_
      refine wl_extract rfl rfl rfl ?_
      refine wl_assign rfl rfl ?_
      refine wl_assign rfl rfl ?_
      refine wl_assign rfl rfl ?_
      refine wl_nil ?_
      refine qs_seq ?_
      refine wc_sub (L' := [(12, _), (11, _), (9, _), (0, _), (3, _), (4, _), (5, _), (6, _), (7, _), (8, _)]) (.cons rfl (.cons rfl (.cons rfl (.cons rfl (.cons rfl (.cons rfl (.cons rfl (.cons rfl (.cons rfl (.cons rfl .nil)))))))))) ?_
      refine wc_seq ?_
      refine wc_region ?_
      refine wl_fieldAddr rfl fo_31_0 rfl ?_
      refine wl_load rfl ag_3 (by first | assumption | exact hS12.cell 1 rfl rfl) rfl ?_
      have hC13 := hS12.split [] [false, false, false] rfl; dsimp only [selF, pickA, nthA, List.cons_append, List.nil_append] at hC13
      refine wl_call cal_10 rfl (pick_sp hC13 o.k 6 (by omega)) rfl ?_
      rintro e w13 ⟨_, rfl, rfl, hS13⟩; refine ⟨_, rfl, ?_⟩
      replace hS13 := hS13.join rfl; dsimp only [List.dropLast, List.cons_append, List.nil_append] at hS13; clear hC13
      clear hS12
      refine wl_assign rfl rfl ?_
      refine wl_nil ?_
      refine qs_seq ?_
      refine wc_sub (L' := [(13, _), (12, _), (11, _), (9, _), (0, _), (3, _), (4, _), (5, _), (6, _), (7, _), (8, _)]) (.cons rfl (.cons rfl (.cons rfl (.cons rfl (.cons rfl (.cons rfl (.cons rfl (.cons rfl (.cons rfl (.cons rfl (.cons rfl .nil))))))))))) ?_
      refine wc_seq ?_
      refine wc_region ?_
      refine wl_assign rfl rfl ?_
      refine wl_nil ?_
      refine qs_seq ?_
      refine wc_mid (fun E0 W0 => E0 = [(0, .slice (some ⟨b, off, none⟩) l.length cap), (3, .bool true), (4, ptrV p 0), (5, intV rd), (6, intV wr), (7, .bool th), (8, intV (i : Int)), (9, ptrV bo 0), (11, intV (doV W { o with id := [120] }).2.1), (12, intV (doV W { o with id := [120] }).2.2), (13, intV (o.k % 6)), (14, intV (if (doV W { o with id := [120] }).2.2 = 0 ∧ (o.k % 6) = 1 then (1 : Int) else 0))] ∧ Sat W0 [blkT bo [intV o.k, strV [120], .bool o.wr, intV o.n, strV o.s], worldT p (doP W { o with id := [120] }), F]) ?_ ?_
      · skip
        refine wc_seq ?_
        refine wc_region ?_
        refine wl_move rfl rfl ?_
        refine wl_eql rfl rfl rfl ?_
        refine wl_move rfl rfl ?_
        refine wl_splitD 51 rfl (fun h15 => ?_) (fun h15 => ?_)
        · skip
          refine wl_guard rfl rfl (decide_eq_true h15) ?_
          refine wl_move rfl rfl ?_
          refine wl_guard rfl rfl (decide_eq_true h15) ?_
          refine wl_eql rfl rfl rfl ?_
          refine wl_pickT rfl (decide_eq_true h15) rfl rfl ?_
          refine wl_nil ?_
          refine qs_seq ?_
          refine wc_sub (L' := [(54, _), (14, _), (13, _), (12, _), (11, _), (9, _), (0, _), (3, _), (4, _), (5, _), (6, _), (7, _), (8, _)]) (.cons rfl (.cons rfl (.cons rfl (.cons rfl (.cons rfl (.cons rfl (.cons rfl (.cons rfl (.cons rfl (.cons rfl (.cons rfl (.cons rfl (.cons rfl .nil))))))))))))) ?_
          refine wc_condD rfl (fun h16 => ?_) (fun h16 => ?_)
          · skip
            refine wc_region ?_
            refine wl_assign rfl rfl ?_
            refine wl_nil ?_
            exact qs_mid (L' := [(0, _), (3, _), (4, _), (5, _), (6, _), (7, _), (8, _), (9, _), (11, _), (12, _), (13, _), (14, _)]) (.cons rfl (.cons rfl (.cons rfl (.cons rfl (.cons rfl (.cons rfl (.cons rfl (.cons rfl (.cons rfl (.cons rfl (.cons rfl (.cons rfl .nil)))))))))))) ⟨by first | rfl | (have e0 : (if (doV W { o with id := [120] }).2.2 = 0 ∧ (o.k % 6) = 1 then (1 : Int) else 0) = 1 := if_pos ⟨by assumption, by assumption⟩; rw [e0]), hS13.pick [1, 0, 2] rfl⟩
          · skip
            refine wc_skip ?_
            exact qs_mid (L' := [(0, _), (3, _), (4, _), (5, _), (6, _), (7, _), (8, _), (9, _), (11, _), (12, _), (13, _), (14, _)]) (.cons rfl (.cons rfl (.cons rfl (.cons rfl (.cons rfl (.cons rfl (.cons rfl (.cons rfl (.cons rfl (.cons rfl (.cons rfl (.cons rfl .nil)))))))))))) ⟨by first | rfl | (have e0 : (if (doV W { o with id := [120] }).2.2 = 0 ∧ (o.k % 6) = 1 then (1 : Int) else 0) = 0 := if_neg (by rintro ⟨q1, q2⟩; first | contradiction | omega); rw [e0]), hS13.pick [1, 0, 2] rfl⟩
        · skip
          refine wl_unwanted rfl rfl (decide_eq_false h15) rfl ?_
          refine wl_unwanted rfl rfl (decide_eq_false h15) rfl ?_
          refine wl_pickF rfl (decide_eq_false h15) rfl rfl ?_
          refine wl_nil ?_
          refine qs_seq ?_
          refine wc_sub (L' := [(54, _), (14, _), (13, _), (12, _), (11, _), (9, _), (0, _), (3, _), (4, _), (5, _), (6, _), (7, _), (8, _)]) (.cons rfl (.cons rfl (.cons rfl (.cons rfl (.cons rfl (.cons rfl (.cons rfl (.cons rfl (.cons rfl (.cons rfl (.cons rfl (.cons rfl (.cons rfl .nil))))))))))))) ?_
          refine wc_condF rfl ?_
          refine wc_skip ?_
          exact qs_mid (L' := [(0, _), (3, _), (4, _), (5, _), (6, _), (7, _), (8, _), (9, _), (11, _), (12, _), (13, _), (14, _)]) (.cons rfl (.cons rfl (.cons rfl (.cons rfl (.cons rfl (.cons rfl (.cons rfl (.cons rfl (.cons rfl (.cons rfl (.cons rfl (.cons rfl .nil)))))))))))) ⟨by first | rfl | (have e0 : (if (doV W { o with id := [120] }).2.2 = 0 ∧ (o.k % 6) = 1 then (1 : Int) else 0) = 0 := if_neg (by rintro ⟨q1, q2⟩; first | contradiction | omega); rw [e0]), hS13.pick [1, 0, 2] rfl⟩
      rintro _ w14 ⟨rfl, hS14⟩
      refine wc_mid (fun E0 W0 => E0 = [(0, .slice (some ⟨b, off, none⟩) l.length cap), (3, .bool true), (4, ptrV p 0), (5, intV rd), (6, intV wr), (7, .bool th), (8, intV (i : Int)), (9, ptrV bo 0), (11, intV (doV W { o with id := [120] }).2.1), (12, intV (doV W { o with id := [120] }).2.2), (13, intV (o.k % 6)), (14, intV (dN W { o with id := [120] }))] ∧ Sat W0 [blkT bo [intV o.k, strV [120], .bool o.wr, intV o.n, strV o.s], worldT p (doP W { o with id := [120] }), F]) ?_ ?_
      · skip
        refine wc_seq ?_
        refine wc_region ?_
        refine wl_move rfl rfl ?_
        refine wl_eql rfl rfl rfl ?_
        refine wl_move rfl rfl ?_
        refine wl_splitD 57 rfl (fun h18 => ?_) (fun h18 => ?_)
        · skip
          refine wl_guard rfl rfl (decide_eq_true h18) ?_
          refine wl_move rfl rfl ?_
          refine wl_guard rfl rfl (decide_eq_true h18) ?_
          refine wl_eql rfl rfl rfl ?_
          refine wl_pickT rfl (decide_eq_true h18) rfl rfl ?_
          refine wl_nil ?_
          refine qs_seq ?_
          refine wc_sub (L' := [(60, _), (0, _), (3, _), (4, _), (5, _), (6, _), (7, _), (8, _), (9, _), (11, _), (12, _), (13, _), (14, _)]) (.cons rfl (.cons rfl (.cons rfl (.cons rfl (.cons rfl (.cons rfl (.cons rfl (.cons rfl (.cons rfl (.cons rfl (.cons rfl (.cons rfl (.cons rfl .nil))))))))))))) ?_
          refine wc_condD rfl (fun h19 => ?_) (fun h19 => ?_)
          · skip
            refine wc_region ?_
            refine wl_assign rfl rfl ?_
            refine wl_nil ?_
            exact qs_mid (L' := [(0, _), (3, _), (4, _), (5, _), (6, _), (7, _), (8, _), (9, _), (11, _), (12, _), (13, _), (14, _)]) (.cons rfl (.cons rfl (.cons rfl (.cons rfl (.cons rfl (.cons rfl (.cons rfl (.cons rfl (.cons rfl (.cons rfl (.cons rfl (.cons rfl .nil)))))))))))) ⟨by first | rfl | (have e0 : (dN W { o with id := [120] }) = -1 := if_pos ⟨by assumption, by assumption⟩; rw [e0]), hS14⟩
          · skip
            refine wc_skip ?_
            exact qs_mid (L' := [(0, _), (3, _), (4, _), (5, _), (6, _), (7, _), (8, _), (9, _), (11, _), (12, _), (13, _), (14, _)]) (.cons rfl (.cons rfl (.cons rfl (.cons rfl (.cons rfl (.cons rfl (.cons rfl (.cons rfl (.cons rfl (.cons rfl (.cons rfl (.cons rfl .nil)))))))))))) ⟨by first | rfl | (have e0 : (dN W { o with id := [120] }) = (if (doV W { o with id := [120] }).2.2 = 0 ∧ (o.k % 6) = 1 then (1 : Int) else 0) := if_neg (by rintro ⟨q1, q2⟩; first | contradiction | omega); rw [e0]), hS14⟩
        · skip
          refine wl_unwanted rfl rfl (decide_eq_false h18) rfl ?_
          refine wl_unwanted rfl rfl (decide_eq_false h18) rfl ?_
          refine wl_pickF rfl (decide_eq_false h18) rfl rfl ?_
          refine wl_nil ?_
          refine qs_seq ?_
          refine wc_sub (L' := [(60, _), (0, _), (3, _), (4, _), (5, _), (6, _), (7, _), (8, _), (9, _), (11, _), (12, _), (13, _), (14, _)]) (.cons rfl (.cons rfl (.cons rfl (.cons rfl (.cons rfl (.cons rfl (.cons rfl (.cons rfl (.cons rfl (.cons rfl (.cons rfl (.cons rfl (.cons rfl .nil))))))))))))) ?_
          refine wc_condF rfl ?_
          refine wc_skip ?_
          exact qs_mid (L' := [(0, _), (3, _), (4, _), (5, _), (6, _), (7, _), (8, _), (9, _), (11, _), (12, _), (13, _), (14, _)]) (.cons rfl (.cons rfl (.cons rfl (.cons rfl (.cons rfl (.cons rfl (.cons rfl (.cons rfl (.cons rfl (.cons rfl (.cons rfl (.cons rfl .nil)))))))))))) ⟨by first | rfl | (have e0 : (dN W { o with id := [120] }) = (if (doV W { o with id := [120] }).2.2 = 0 ∧ (o.k % 6) = 1 then (1 : Int) else 0) := if_neg (by rintro ⟨q1, q2⟩; first | contradiction | omega); rw [e0]), hS14⟩
      rintro _ w17 ⟨rfl, hS17⟩
      have hdn := dN_in W { o with id := [120] }
      have hr1 := hE.r
      have hw1 := hE.w
      refine wc_mid (fun E0 W0 => E0 = [(0, .slice (some ⟨b, off, none⟩) l.length cap), (3, .bool true), (4, ptrV p 0), (5, intV (rdN W { o with id := [120] } rd)), (6, intV (wrN W { o with id := [120] } wr)), (7, .bool th), (8, intV (i : Int)), (9, ptrV bo 0), (11, intV (doV W { o with id := [120] }).2.1), (12, intV (doV W { o with id := [120] }).2.2), (13, intV (o.k % 6))] ∧ Sat W0 [blkT bo [intV o.k, strV [120], .bool o.wr, intV o.n, strV o.s], worldT p (doP W { o with id := [120] }), F]) ?_ ?_
      · skip
        refine wc_seq ?_
        refine wc_region ?_
        refine wl_fieldAddr rfl fo_31_2 rfl ?_
        refine wl_load rfl ag_4 (by first | assumption | exact hS17.cell 0 rfl rfl) rfl ?_
        refine wl_nil ?_
        refine qs_seq ?_
        refine wc_cond rfl (fun h21 => ?_) (fun h21 => ?_)
        · skip
          refine wc_region ?_
          refine wl_move rfl rfl ?_
          refine wl_move rfl rfl ?_
          refine wl_add rfl rfl (by first | omega | (simp; omega)) (by first | omega | (simp; omega)) rfl ?_
          refine wl_assign rfl rfl ?_
          refine wl_nil ?_
          exact qs_mid (L' := [(0, _), (3, _), (4, _), (5, _), (6, _), (7, _), (8, _), (9, _), (11, _), (12, _), (13, _)]) (.cons rfl (.cons rfl (.cons rfl (.cons rfl (.cons rfl (.cons rfl (.cons rfl (.cons rfl (.cons rfl (.cons rfl (.cons rfl .nil))))))))))) ⟨by first | rfl | (have e0 : (rdN W { o with id := [120] } rd) = rd := if_pos (by assumption); have e1 : (wrN W { o with id := [120] } wr) = wr + (dN W { o with id := [120] }) := if_pos (by assumption); rw [e0, e1]), hS17⟩
        · skip
          refine wc_region ?_
          refine wl_move rfl rfl ?_
          refine wl_move rfl rfl ?_
          refine wl_add rfl rfl (by first | omega | (simp; omega)) (by first | omega | (simp; omega)) rfl ?_
          refine wl_assign rfl rfl ?_
          refine wl_nil ?_
          exact qs_mid (L' := [(0, _), (3, _), (4, _), (5, _), (6, _), (7, _), (8, _), (9, _), (11, _), (12, _), (13, _)]) (.cons rfl (.cons rfl (.cons rfl (.cons rfl (.cons rfl (.cons rfl (.cons rfl (.cons rfl (.cons rfl (.cons rfl (.cons rfl .nil))))))))))) ⟨by first | rfl | (have e0 : (rdN W { o with id := [120] } rd) = rd + (dN W { o with id := [120] }) := if_neg (by simp_all); have e1 : (wrN W { o with id := [120] } wr) = wr := if_neg (by simp_all); rw [e0, e1]), hS17⟩
      rintro _ w20 ⟨rfl, hS20⟩
      refine wc_mid (fun E0 W0 => E0 = [(0, .slice (some ⟨b, off, none⟩) l.length cap), (3, .bool true), (4, ptrV p 0), (5, intV (rdN W { o with id := [120] } rd)), (6, intV (wrN W { o with id := [120] } wr)), (7, .bool (thN W { o with id := [120] } th rd wr)), (8, intV (i : Int)), (9, ptrV bo 0), (11, intV (doV W { o with id := [120] }).2.1), (12, intV (doV W { o with id := [120] }).2.2), (13, intV (o.k % 6))] ∧ Sat W0 [blkT bo [intV o.k, strV [120], .bool o.wr, intV o.n, strV o.s], worldT p (doP W { o with id := [120] }), F]) ?_ ?_
      · skip
        refine wc_region ?_
        refine wl_move rfl rfl ?_
        refine wl_move rfl rfl ?_
        refine wl_split 70 rfl (fun h23 => ?_) (fun h23 => ?_)
        · skip
          refine wl_unwanted rfl rfl h23 rfl ?_
          refine wl_unwanted rfl rfl h23 rfl ?_
          refine wl_unwanted rfl rfl h23 rfl ?_
          refine wl_unguarded rfl rfl rfl ?_
          refine wl_unguarded rfl rfl rfl ?_
          refine wl_unwanted rfl rfl h23 rfl ?_
          refine wl_pickT rfl h23 rfl rfl ?_
          refine wl_move rfl rfl ?_
          refine wl_guard rfl rfl rfl ?_
          refine wl_move rfl rfl ?_
          refine wl_guard rfl rfl rfl ?_
          refine wl_eql rfl rfl rfl ?_
          refine wl_guard rfl rfl rfl ?_
          refine wl_move rfl rfl ?_
          refine wl_splitD 81 rfl (fun h24 => ?_) (fun h24 => ?_)
          · skip
            refine wl_guard rfl rfl (decide_eq_true h24) ?_
            refine wl_move rfl rfl ?_
            refine wl_guard rfl rfl (decide_eq_true h24) ?_
            refine wl_eql rfl rfl rfl ?_
            refine wl_guard rfl rfl rfl ?_
            refine wl_pickT rfl (decide_eq_true h24) rfl rfl ?_
            refine wl_guard rfl rfl rfl ?_
            refine wl_move rfl rfl ?_
            refine wl_splitD 85 rfl (fun h25 => ?_) (fun h25 => ?_)
            · skip
              refine wl_guard rfl rfl (decide_eq_true h25) ?_
              refine wl_move rfl rfl ?_
              refine wl_guard rfl rfl (decide_eq_true h25) ?_
              refine wl_eql rfl rfl rfl ?_
              refine wl_guard rfl rfl rfl ?_
              refine wl_pickT rfl (decide_eq_true h25) rfl rfl ?_
              refine wl_guard rfl rfl rfl ?_
              refine wl_move rfl rfl ?_
              refine wl_splitD 89 rfl (fun h26 => ?_) (fun h26 => ?_)
              · skip
                refine wl_guard rfl rfl (decide_eq_true h26) ?_
                refine wl_move rfl rfl ?_
                refine wl_guard rfl rfl (decide_eq_true h26) ?_
                refine wl_eql rfl rfl rfl ?_
                refine wl_guard rfl rfl rfl ?_
                refine wl_pickT rfl (decide_eq_true h26) rfl rfl ?_
                refine wl_guard rfl rfl rfl ?_
                refine wl_not rfl rfl ?_
                refine wl_pickT rfl rfl rfl rfl ?_
                refine wl_assign rfl rfl ?_
                refine wl_nil ?_
                exact qs_mid (L' := [(0, _), (3, _), (4, _), (5, _), (6, _), (7, _), (8, _), (9, _), (11, _), (12, _), (13, _)]) (.cons rfl (.cons rfl (.cons rfl (.cons rfl (.cons rfl (.cons rfl (.cons rfl (.cons rfl (.cons rfl (.cons rfl (.cons rfl .nil))))))))))) ⟨by first | rfl | (unfold thN; congr 5; simp_all), hS20⟩
              · skip
                refine wl_unwanted rfl rfl (decide_eq_false h26) rfl ?_
                refine wl_unwanted rfl rfl (decide_eq_false h26) rfl ?_
                refine wl_guard rfl rfl rfl ?_
                refine wl_pickF rfl (decide_eq_false h26) rfl rfl ?_
                refine wl_guard rfl rfl rfl ?_
                refine wl_not rfl rfl ?_
                refine wl_pickT rfl rfl rfl rfl ?_
                refine wl_assign rfl rfl ?_
                refine wl_nil ?_
                exact qs_mid (L' := [(0, _), (3, _), (4, _), (5, _), (6, _), (7, _), (8, _), (9, _), (11, _), (12, _), (13, _)]) (.cons rfl (.cons rfl (.cons rfl (.cons rfl (.cons rfl (.cons rfl (.cons rfl (.cons rfl (.cons rfl (.cons rfl (.cons rfl .nil))))))))))) ⟨by first | rfl | (unfold thN; congr 5; simp_all), hS20⟩
            · skip
              refine wl_unwanted rfl rfl (decide_eq_false h25) rfl ?_
              refine wl_unwanted rfl rfl (decide_eq_false h25) rfl ?_
              refine wl_guard rfl rfl rfl ?_
              refine wl_pickF rfl (decide_eq_false h25) rfl rfl ?_
              refine wl_guard rfl rfl rfl ?_
              refine wl_move rfl rfl ?_
              refine wl_unwanted rfl rfl rfl rfl ?_
              refine wl_unwanted rfl rfl rfl rfl ?_
              refine wl_guard rfl rfl rfl ?_
              refine wl_pickF rfl rfl rfl rfl ?_
              refine wl_guard rfl rfl rfl ?_
              refine wl_not rfl rfl ?_
              refine wl_pickT rfl rfl rfl rfl ?_
              refine wl_assign rfl rfl ?_
              refine wl_nil ?_
              exact qs_mid (L' := [(0, _), (3, _), (4, _), (5, _), (6, _), (7, _), (8, _), (9, _), (11, _), (12, _), (13, _)]) (.cons rfl (.cons rfl (.cons rfl (.cons rfl (.cons rfl (.cons rfl (.cons rfl (.cons rfl (.cons rfl (.cons rfl (.cons rfl .nil))))))))))) ⟨by first | rfl | (unfold thN; congr 5; simp_all), hS20⟩
          · skip
            refine wl_unwanted rfl rfl (decide_eq_false h24) rfl ?_
            refine wl_unwanted rfl rfl (decide_eq_false h24) rfl ?_
            refine wl_guard rfl rfl rfl ?_
            refine wl_pickF rfl (decide_eq_false h24) rfl rfl ?_
            refine wl_guard rfl rfl rfl ?_
            refine wl_move rfl rfl ?_
            refine wl_unwanted rfl rfl rfl rfl ?_
            refine wl_unwanted rfl rfl rfl rfl ?_
            refine wl_guard rfl rfl rfl ?_
            refine wl_pickF rfl rfl rfl rfl ?_
            refine wl_guard rfl rfl rfl ?_
            refine wl_move rfl rfl ?_
            refine wl_unwanted rfl rfl rfl rfl ?_
            refine wl_unwanted rfl rfl rfl rfl ?_
            refine wl_guard rfl rfl rfl ?_
            refine wl_pickF rfl rfl rfl rfl ?_
            refine wl_guard rfl rfl rfl ?_
            refine wl_not rfl rfl ?_
            refine wl_pickT rfl rfl rfl rfl ?_
            refine wl_assign rfl rfl ?_
            refine wl_nil ?_
            exact qs_mid (L' := [(0, _), (3, _), (4, _), (5, _), (6, _), (7, _), (8, _), (9, _), (11, _), (12, _), (13, _)]) (.cons rfl (.cons rfl (.cons rfl (.cons rfl (.cons rfl (.cons rfl (.cons rfl (.cons rfl (.cons rfl (.cons rfl (.cons rfl .nil))))))))))) ⟨by first | rfl | (unfold thN; congr 5; simp_all), hS20⟩
        · skip
          refine wl_guard rfl rfl h23 ?_
          refine wl_move rfl rfl ?_
          refine wl_guard rfl rfl h23 ?_
          refine wl_eql rfl rfl rfl ?_
          refine wl_guard rfl rfl h23 ?_
          refine wl_move rfl rfl ?_
          refine wl_splitD 73 rfl (fun h27 => ?_) (fun h27 => ?_)
          · skip
            refine wl_guard rfl rfl (decide_eq_true h27) ?_
            refine wl_move rfl rfl ?_
            refine wl_guard rfl rfl (decide_eq_true h27) ?_
            refine wl_eql rfl rfl rfl ?_
            refine wl_guard rfl rfl h23 ?_
            refine wl_pickT rfl (decide_eq_true h27) rfl rfl ?_
            refine wl_pickF rfl h23 rfl rfl ?_
            refine wl_move rfl rfl ?_
            refine wl_splitD 78 rfl (fun h28 => ?_) (fun h28 => ?_)
            · skip
              refine wl_guard rfl rfl (decide_eq_true h28) ?_
              refine wl_move rfl rfl ?_
              refine wl_guard rfl rfl (decide_eq_true h28) ?_
              refine wl_eql rfl rfl rfl ?_
              refine wl_guard rfl rfl (decide_eq_true h28) ?_
              refine wl_move rfl rfl ?_
              refine wl_splitD 81 rfl (fun h29 => ?_) (fun h29 => ?_)
              · skip
                refine wl_guard rfl rfl (decide_eq_true h29) ?_
                refine wl_move rfl rfl ?_
                refine wl_guard rfl rfl (decide_eq_true h29) ?_
                refine wl_eql rfl rfl rfl ?_
                refine wl_guard rfl rfl (decide_eq_true h28) ?_
                refine wl_pickT rfl (decide_eq_true h29) rfl rfl ?_
                refine wl_guard rfl rfl (decide_eq_true h28) ?_
                refine wl_move rfl rfl ?_
                refine wl_splitD 85 rfl (fun h30 => ?_) (fun h30 => ?_)
                · skip
                  refine wl_guard rfl rfl (decide_eq_true h30) ?_
                  refine wl_move rfl rfl ?_
                  refine wl_guard rfl rfl (decide_eq_true h30) ?_
                  refine wl_eql rfl rfl rfl ?_
                  refine wl_guard rfl rfl (decide_eq_true h28) ?_
                  refine wl_pickT rfl (decide_eq_true h30) rfl rfl ?_
                  refine wl_guard rfl rfl (decide_eq_true h28) ?_
                  refine wl_move rfl rfl ?_
                  refine wl_splitD 89 rfl (fun h31 => ?_) (fun h31 => ?_)
                  · skip
                    refine wl_guard rfl rfl (decide_eq_true h31) ?_
                    refine wl_move rfl rfl ?_
                    refine wl_guard rfl rfl (decide_eq_true h31) ?_
                    refine wl_eql rfl rfl rfl ?_
                    refine wl_guard rfl rfl (decide_eq_true h28) ?_
                    refine wl_pickT rfl (decide_eq_true h31) rfl rfl ?_
                    refine wl_guard rfl rfl (decide_eq_true h28) ?_
                    refine wl_not rfl rfl ?_
                    refine wl_pickT rfl (decide_eq_true h28) rfl rfl ?_
                    refine wl_assign rfl rfl ?_
                    refine wl_nil ?_
                    exact qs_mid (L' := [(0, _), (3, _), (4, _), (5, _), (6, _), (7, _), (8, _), (9, _), (11, _), (12, _), (13, _)]) (.cons rfl (.cons rfl (.cons rfl (.cons rfl (.cons rfl (.cons rfl (.cons rfl (.cons rfl (.cons rfl (.cons rfl (.cons rfl .nil))))))))))) ⟨by first | rfl | (unfold thN; congr 5; simp_all), hS20⟩
                  · skip
                    refine wl_unwanted rfl rfl (decide_eq_false h31) rfl ?_
                    refine wl_unwanted rfl rfl (decide_eq_false h31) rfl ?_
                    refine wl_guard rfl rfl (decide_eq_true h28) ?_
                    refine wl_pickF rfl (decide_eq_false h31) rfl rfl ?_
                    refine wl_guard rfl rfl (decide_eq_true h28) ?_
                    refine wl_not rfl rfl ?_
                    refine wl_pickT rfl (decide_eq_true h28) rfl rfl ?_
                    refine wl_assign rfl rfl ?_
                    refine wl_nil ?_
                    exact qs_mid (L' := [(0, _), (3, _), (4, _), (5, _), (6, _), (7, _), (8, _), (9, _), (11, _), (12, _), (13, _)]) (.cons rfl (.cons rfl (.cons rfl (.cons rfl (.cons rfl (.cons rfl (.cons rfl (.cons rfl (.cons rfl (.cons rfl (.cons rfl .nil))))))))))) ⟨by first | rfl | (unfold thN; congr 5; simp_all), hS20⟩
                · skip
                  refine wl_unwanted rfl rfl (decide_eq_false h30) rfl ?_
                  refine wl_unwanted rfl rfl (decide_eq_false h30) rfl ?_
                  refine wl_guard rfl rfl (decide_eq_true h28) ?_
                  refine wl_pickF rfl (decide_eq_false h30) rfl rfl ?_
                  refine wl_guard rfl rfl (decide_eq_true h28) ?_
                  refine wl_move rfl rfl ?_
                  refine wl_unwanted rfl rfl rfl rfl ?_
                  refine wl_unwanted rfl rfl rfl rfl ?_
                  refine wl_guard rfl rfl (decide_eq_true h28) ?_
                  refine wl_pickF rfl rfl rfl rfl ?_
                  refine wl_guard rfl rfl (decide_eq_true h28) ?_
                  refine wl_not rfl rfl ?_
                  refine wl_pickT rfl (decide_eq_true h28) rfl rfl ?_
                  refine wl_assign rfl rfl ?_
                  refine wl_nil ?_
                  exact qs_mid (L' := [(0, _), (3, _), (4, _), (5, _), (6, _), (7, _), (8, _), (9, _), (11, _), (12, _), (13, _)]) (.cons rfl (.cons rfl (.cons rfl (.cons rfl (.cons rfl (.cons rfl (.cons rfl (.cons rfl (.cons rfl (.cons rfl (.cons rfl .nil))))))))))) ⟨by first | rfl | (unfold thN; congr 5; simp_all), hS20⟩
              · skip
                refine wl_unwanted rfl rfl (decide_eq_false h29) rfl ?_
                refine wl_unwanted rfl rfl (decide_eq_false h29) rfl ?_
                refine wl_guard rfl rfl (decide_eq_true h28) ?_
                refine wl_pickF rfl (decide_eq_false h29) rfl rfl ?_
                refine wl_guard rfl rfl (decide_eq_true h28) ?_
                refine wl_move rfl rfl ?_
                refine wl_unwanted rfl rfl rfl rfl ?_
                refine wl_unwanted rfl rfl rfl rfl ?_
                refine wl_guard rfl rfl (decide_eq_true h28) ?_
                refine wl_pickF rfl rfl rfl rfl ?_
                refine wl_guard rfl rfl (decide_eq_true h28) ?_
                refine wl_move rfl rfl ?_
                refine wl_unwanted rfl rfl rfl rfl ?_
                refine wl_unwanted rfl rfl rfl rfl ?_
                refine wl_guard rfl rfl (decide_eq_true h28) ?_
                refine wl_pickF rfl rfl rfl rfl ?_
                refine wl_guard rfl rfl (decide_eq_true h28) ?_
                refine wl_not rfl rfl ?_
                refine wl_pickT rfl (decide_eq_true h28) rfl rfl ?_
                refine wl_assign rfl rfl ?_
                refine wl_nil ?_
                exact qs_mid (L' := [(0, _), (3, _), (4, _), (5, _), (6, _), (7, _), (8, _), (9, _), (11, _), (12, _), (13, _)]) (.cons rfl (.cons rfl (.cons rfl (.cons rfl (.cons rfl (.cons rfl (.cons rfl (.cons rfl (.cons rfl (.cons rfl (.cons rfl .nil))))))))))) ⟨by first | rfl | (unfold thN; congr 5; simp_all), hS20⟩
            · skip
              refine wl_unwanted rfl rfl (decide_eq_false h28) rfl ?_
              refine wl_unwanted rfl rfl (decide_eq_false h28) rfl ?_
              refine wl_unwanted rfl rfl (decide_eq_false h28) rfl ?_
              refine wl_unguarded rfl rfl rfl ?_
              refine wl_unguarded rfl rfl rfl ?_
              refine wl_unwanted rfl rfl (decide_eq_false h28) rfl ?_
              refine wl_unwanted rfl rfl (decide_eq_false h28) rfl ?_
              refine wl_unguarded rfl rfl rfl ?_
              refine wl_unguarded rfl rfl rfl ?_
              refine wl_unwanted rfl rfl (decide_eq_false h28) rfl ?_
              refine wl_unwanted rfl rfl (decide_eq_false h28) rfl ?_
              refine wl_unguarded rfl rfl rfl ?_
              refine wl_unguarded rfl rfl rfl ?_
              refine wl_unwanted rfl rfl (decide_eq_false h28) rfl ?_
              refine wl_unwanted rfl rfl (decide_eq_false h28) rfl ?_
              refine wl_pickF rfl (decide_eq_false h28) rfl rfl ?_
              refine wl_assign rfl rfl ?_
              refine wl_nil ?_
              exact qs_mid (L' := [(0, _), (3, _), (4, _), (5, _), (6, _), (7, _), (8, _), (9, _), (11, _), (12, _), (13, _)]) (.cons rfl (.cons rfl (.cons rfl (.cons rfl (.cons rfl (.cons rfl (.cons rfl (.cons rfl (.cons rfl (.cons rfl (.cons rfl .nil))))))))))) ⟨by first | rfl | (unfold thN; congr 5; simp_all), hS20⟩
          · skip
            refine wl_unwanted rfl rfl (decide_eq_false h27) rfl ?_
            refine wl_unwanted rfl rfl (decide_eq_false h27) rfl ?_
            refine wl_guard rfl rfl h23 ?_
            refine wl_pickF rfl (decide_eq_false h27) rfl rfl ?_
            refine wl_pickF rfl h23 rfl rfl ?_
            refine wl_move rfl rfl ?_
            refine wl_unwanted rfl rfl rfl rfl ?_
            refine wl_unwanted rfl rfl rfl rfl ?_
            refine wl_unwanted rfl rfl rfl rfl ?_
            refine wl_unguarded rfl rfl rfl ?_
            refine wl_unguarded rfl rfl rfl ?_
            refine wl_unwanted rfl rfl rfl rfl ?_
            refine wl_unwanted rfl rfl rfl rfl ?_
            refine wl_unguarded rfl rfl rfl ?_
            refine wl_unguarded rfl rfl rfl ?_
            refine wl_unwanted rfl rfl rfl rfl ?_
            refine wl_unwanted rfl rfl rfl rfl ?_
            refine wl_unguarded rfl rfl rfl ?_
            refine wl_unguarded rfl rfl rfl ?_
            refine wl_unwanted rfl rfl rfl rfl ?_
            refine wl_unwanted rfl rfl rfl rfl ?_
            refine wl_pickF rfl rfl rfl rfl ?_
            refine wl_assign rfl rfl ?_
            refine wl_nil ?_
            exact qs_mid (L' := [(0, _), (3, _), (4, _), (5, _), (6, _), (7, _), (8, _), (9, _), (11, _), (12, _), (13, _)]) (.cons rfl (.cons rfl (.cons rfl (.cons rfl (.cons rfl (.cons rfl (.cons rfl (.cons rfl (.cons rfl (.cons rfl (.cons rfl .nil))))))))))) ⟨by first | rfl | (unfold thN; congr 5; simp_all), hS20⟩
      rintro _ w22 ⟨rfl, hS22⟩
      refine wc_seq ?_
      refine wc_region ?_
      refine wl_move rfl rfl ?_
      refine wl_makeIface nif_25 rfl rfl ?_
      have hE2 := ends_step (o := { o with id := [120] }) hE (by simp) (by omega)
      have hg2 := hE2.get
      have hC32 := hS22.split [1] [false, true, false] rfl; dsimp only [selF, pickA, nthA, List.cons_append, List.nil_append] at hC32
      refine wl_call cal_14 rfl (pGet_sp hC32 (hG.starL 1 rfl) [120] (by simp) ((hP.doP (o := { o with id := [120] }) (by simp)).len _)) rfl ?_
      rintro e w32 ⟨_, rfl, rfl, hS32⟩; refine ⟨_, rfl, ?_⟩
      replace hS32 := hS32.join rfl; dsimp only [List.dropLast, List.cons_append, List.nil_append] at hS32; clear hC32
      clear hS22
      have hr2 := hE2.r
      have hw2 := hE2.w
      have hkw := ends_write (o := { o with id := [120] }) hE
      have hkr := ends_read (o := { o with id := [120] }) hE
      refine wl_move rfl rfl ?_
      refine wl_extract rfl rfl rfl ?_
      refine wl_extract rfl rfl rfl ?_
      refine wl_alloc hS32 zr_39 rfl rfl ?_
      intro b33 w33 hS33
      clear hS32
      first | (refine wl_storeA hS33 rfl rfl sz_39 rfl (by first | rfl | (simp [allOne, Value.oneCell']; done) | assumption | exact hone) (i := 0) rfl (by first | decide | exact Nat.le_of_ble_eq_true rfl | (simp; done) | omega) ?_) | (refine wl_storeA hS33 rfl rfl sz_39 rfl (by first | rfl | (simp [allOne, Value.oneCell']; done) | assumption | exact hone) (i := 2) rfl (by first | decide | exact Nat.le_of_ble_eq_true rfl | (simp; done) | omega) ?_)
      intro w34 hS35; dsimp only [List.set] at hS35
      clear hS33
      refine wl_assign rfl rfl ?_
      refine wl_nil ?_
      refine qs_seq ?_
      refine wc_sub (L' := [(16, _), (15, _), (0, _), (3, _), (4, _), (5, _), (6, _), (7, _), (8, _), (9, _), (11, _), (12, _), (13, _)]) (.cons rfl (.cons rfl (.cons rfl (.cons rfl (.cons rfl (.cons rfl (.cons rfl (.cons rfl (.cons rfl (.cons rfl (.cons rfl (.cons rfl (.cons rfl .nil))))))))))))) ?_
      refine wc_seq ?_
      refine wc_seq ?_
      refine wc_region ?_
      refine wl_move rfl rfl ?_
      refine wl_move rfl rfl ?_
      refine wl_neqB Tryd.underlying4 rfl rfl rfl ?_
      refine wl_move rfl rfl ?_
      refine wl_split 104 rfl (fun h36 => ?_) (fun h36 => ?_)
      · skip
        rw [hg2.1] at h36; simp at h36
      · skip
        refine wl_guard rfl rfl h36 ?_
        refine wl_fieldAddr rfl fo_39_1 rfl ?_
        refine wl_guard rfl rfl h36 ?_
        refine wl_load rfl ag_3 (by first | assumption | exact hS35.cell 0 rfl rfl | exact hS35.cell 2 rfl rfl) rfl ?_
        refine wl_guard rfl rfl h36 ?_
        refine wl_move rfl rfl ?_
        refine wl_guard rfl rfl h36 ?_
        refine wl_neq rfl rfl rfl ?_
        refine wl_pickF rfl h36 rfl rfl ?_
        refine wl_move rfl rfl ?_
        refine wl_splitD 110 rfl (fun h37 => ?_) (fun h37 => ?_)
        · skip
          exact absurd hg2.2.1 h37
        · skip
          refine wl_guard rfl rfl (decide_eq_false h37) ?_
          refine wl_fieldAddr rfl fo_39_2 rfl ?_
          refine wl_guard rfl rfl (decide_eq_false h37) ?_
          refine wl_load rfl ag_3 (by first | assumption | exact hS35.cell 0 rfl rfl | exact hS35.cell 2 rfl rfl) rfl ?_
          refine wl_guard rfl rfl (decide_eq_false h37) ?_
          refine wl_move rfl rfl ?_
          refine wl_guard rfl rfl (decide_eq_false h37) ?_
          refine wl_neq rfl rfl rfl ?_
          refine wl_pickF rfl (decide_eq_false h37) rfl rfl ?_
          refine wl_move rfl rfl ?_
          refine wl_splitD 116 rfl (fun h38 => ?_) (fun h38 => ?_)
          · skip
            exact absurd hg2.2.2 h38
          · skip
            refine wl_guard rfl rfl (decide_eq_false h38) ?_
            refine wl_move rfl rfl ?_
            refine wl_guard rfl rfl (decide_eq_false h38) ?_
            refine wl_lss rfl rfl rfl ?_
            refine wl_pickF rfl (decide_eq_false h38) rfl rfl ?_
            refine wl_move rfl rfl ?_
            refine wl_splitD 120 rfl (fun h39 => ?_) (fun h39 => ?_)
            · skip
              exact absurd h39 (by omega)
            · skip
              refine wl_guard rfl rfl (decide_eq_false h39) ?_
              refine wl_move rfl rfl ?_
              refine wl_guard rfl rfl (decide_eq_false h39) ?_
              refine wl_lss rfl rfl rfl ?_
              refine wl_pickF rfl (decide_eq_false h39) rfl rfl ?_
              refine wl_nil ?_
              refine qs_seq ?_
              refine wc_sub (L' := [(123, _), (15, _), (0, _), (3, _), (4, _), (5, _), (6, _), (7, _), (8, _), (9, _), (11, _), (12, _), (13, _)]) (.cons rfl (.cons rfl (.cons rfl (.cons rfl (.cons rfl (.cons rfl (.cons rfl (.cons rfl (.cons rfl (.cons rfl (.cons rfl (.cons rfl (.cons rfl .nil))))))))))))) ?_
              refine wc_condD rfl (fun h40 => ?_) (fun h40 => ?_)
              · skip
                exact absurd h40 (by omega)
              · skip
                refine wc_skip ?_
                refine qs_seq ?_
                refine wc_seq ?_
                refine wc_seq ?_
                refine wc_region ?_
                refine wl_move rfl rfl ?_
                refine wl_eql rfl rfl rfl ?_
                refine wl_move rfl rfl ?_
                refine wl_splitD 126 rfl (fun h41 => ?_) (fun h41 => ?_)
                · skip
                  refine wl_guard rfl rfl (decide_eq_true h41) ?_
                  refine wl_move rfl rfl ?_
                  refine wl_guard rfl rfl (decide_eq_true h41) ?_
                  refine wl_eql rfl rfl rfl ?_
                  refine wl_guard rfl rfl (decide_eq_true h41) ?_
                  refine wl_move rfl rfl ?_
                  refine wl_guard rfl rfl (decide_eq_true h41) ?_
                  refine wl_eql rfl rfl rfl ?_
                  refine wl_guard rfl rfl (decide_eq_true h41) ?_
                  refine wl_neqB Tryd.underlying4 rfl rfl rfl ?_
                  refine wl_pickT rfl (decide_eq_true h41) rfl rfl ?_
                  refine wl_move rfl rfl ?_
                  refine wl_split 133 rfl (fun h42 => ?_) (fun h42 => ?_)
                  · skip
                    have hq := (hkw (by assumption)).1; simp [hq] at h42
                  · skip
                    refine wl_guard rfl rfl h42 ?_
                    refine wl_move rfl rfl ?_
                    refine wl_guard rfl rfl h42 ?_
                    refine wl_eql rfl rfl rfl ?_
                    refine wl_guard rfl rfl h42 ?_
                    refine wl_move rfl rfl ?_
                    refine wl_splitD 136 rfl (fun h43 => ?_) (fun h43 => ?_)
                    · skip
                      refine wl_guard rfl rfl (decide_eq_true h43) ?_
                      refine wl_move rfl rfl ?_
                      refine wl_guard rfl rfl (decide_eq_true h43) ?_
                      refine wl_eql rfl rfl rfl ?_
                      refine wl_guard rfl rfl h42 ?_
                      refine wl_pickT rfl (decide_eq_true h43) rfl rfl ?_
                      refine wl_guard rfl rfl h42 ?_
                      refine wl_move rfl rfl ?_
                      refine wl_splitD 140 rfl (fun h44 => ?_) (fun h44 => ?_)
                      · skip
                        refine wl_guard rfl rfl (decide_eq_true h44) ?_
                        refine wl_move rfl rfl ?_
                        refine wl_guard rfl rfl (decide_eq_true h44) ?_
                        refine wl_neq rfl rfl rfl ?_
                        refine wl_guard rfl rfl h42 ?_
                        refine wl_pickT rfl (decide_eq_true h44) rfl rfl ?_
                        refine wl_pickF rfl h42 rfl rfl ?_
                        refine wl_nil ?_
                        refine qs_seq ?_
                        refine wc_sub (L' := [(144, _), (15, _), (0, _), (3, _), (4, _), (5, _), (6, _), (7, _), (8, _), (9, _), (12, _), (13, _)]) (.cons rfl (.cons rfl (.cons rfl (.cons rfl (.cons rfl (.cons rfl (.cons rfl (.cons rfl (.cons rfl (.cons rfl (.cons rfl (.cons rfl .nil)))))))))))) ?_
                        refine wc_condD rfl (fun h45 => ?_) (fun h45 => ?_)
                        · skip
                          exact absurd ((hkw (by assumption)).2 (by assumption)) h45
                        · skip
                          refine wc_skip ?_
                          refine qs_seq ?_
                          refine wc_seq ?_
                          refine wc_region ?_
                          refine wl_move rfl rfl ?_
                          refine wl_eql rfl rfl rfl ?_
                          refine wl_move rfl rfl ?_
                          refine wl_splitD 147 rfl (fun h46 => ?_) (fun h46 => ?_)
                          · skip
                            refine wl_guard rfl rfl (decide_eq_true h46) ?_
                            refine wl_move rfl rfl ?_
                            refine wl_pickT rfl (decide_eq_true h46) rfl rfl ?_
                            refine wl_move rfl rfl ?_
                            refine wl_split 150 rfl (fun h47 => ?_) (fun h47 => ?_)
                            · skip
                              refine wl_guard rfl rfl h47 ?_
                              refine wl_fieldAddr rfl fo_31_3 rfl ?_
                              refine wl_guard rfl rfl h47 ?_
                              refine wl_load rfl ag_3 (by first | assumption | exact hS35.cell 0 rfl rfl | exact hS35.cell 2 rfl rfl) rfl ?_
                              refine wl_guard rfl rfl h47 ?_
                              refine wl_gtr rfl rfl rfl ?_
                              refine wl_pickT rfl h47 rfl rfl ?_
                              refine wl_move rfl rfl ?_
                              refine wl_splitD 155 rfl (fun h48 => ?_) (fun h48 => ?_)
                              · skip
                                refine wl_guard rfl rfl (decide_eq_true h48) ?_
                                refine wl_fieldAddr rfl fo_39_0 rfl ?_
                                refine wl_guard rfl rfl (decide_eq_true h48) ?_
                                refine wl_load rfl ag_9 (by first | assumption | exact hS35.cell 0 rfl rfl | exact hS35.cell 2 rfl rfl) rfl ?_
                                refine wl_guard rfl rfl (decide_eq_true h48) ?_
                                refine wl_eqlS rfl rfl rfl ?_
                                refine wl_pickT rfl (decide_eq_true h48) rfl rfl ?_
                                refine wl_move rfl rfl ?_
                                refine wl_splitD 160 rfl (fun h49 => ?_) (fun h49 => ?_)
                                · skip
                                  refine wl_guard rfl rfl (decide_eq_true h49) ?_
                                  refine wl_move rfl rfl ?_
                                  refine wl_guard rfl rfl (decide_eq_true h49) ?_
                                  refine wl_eql rfl rfl rfl ?_
                                  refine wl_pickT rfl (decide_eq_true h49) rfl rfl ?_
                                  refine wl_move rfl rfl ?_
                                  refine wl_splitD 164 rfl (fun h50 => ?_) (fun h50 => ?_)
                                  · skip
                                    refine wl_guard rfl rfl (decide_eq_true h50) ?_
                                    refine wl_move rfl rfl ?_
                                    refine wl_guard rfl rfl (decide_eq_true h50) ?_
                                    refine wl_neq rfl rfl rfl ?_
                                    refine wl_pickT rfl (decide_eq_true h50) rfl rfl ?_
                                    refine wl_move rfl rfl ?_
                                    refine wl_splitD 168 rfl (fun h51 => ?_) (fun h51 => ?_)
                                    · skip
                                      refine wl_guard rfl rfl (decide_eq_true h51) ?_
                                      refine wl_move rfl rfl ?_
                                      refine wl_guard rfl rfl (decide_eq_true h51) ?_
                                      refine wl_neq rfl rfl rfl ?_
                                      refine wl_pickT rfl (decide_eq_true h51) rfl rfl ?_
                                      refine wl_nil ?_
                                      refine qs_seq ?_
                                      refine wc_sub (L' := [(171, _), (0, _), (3, _), (4, _), (5, _), (6, _), (7, _), (8, _)]) (.cons rfl (.cons rfl (.cons rfl (.cons rfl (.cons rfl (.cons rfl (.cons rfl (.cons rfl .nil)))))))) ?_
                                      refine wc_condD rfl (fun h52 => ?_) (fun h52 => ?_)
                                      · skip
                                        exfalso; rcases hkr (by assumption) (by assumption) with q | q <;> contradiction
                                      · skip
                                        refine wc_skip ?_
                                        refine qs_block_normal ?_
                                        refine qs_seq ?_
                                        refine wc_region ?_
                                        refine wl_move rfl rfl ?_
                                        refine wl_add rfl rfl (by first | omega | (simp; omega)) (by first | omega | (simp; omega)) rfl ?_
                                        refine wl_assign rfl rfl ?_
                                        refine wl_nil ?_
                                        exact qs_round (L1 := [(0, _), (3, _), (4, _), (5, _), (6, _), (7, _), (8, intV ((i + 1 : Nat) : Int))]) (.cons rfl (.cons rfl (.cons rfl (.cons rfl (.cons rfl (.cons rfl (.cons rfl .nil))))))) (k1 := l.length - (i + 1)) (by omega) ⟨i + 1, _, _, _, _, rfl, rfl, hS35.pick [1, 3] rfl, by omega, hP.doP (o := { o with id := [120] }) (by simp), hE2⟩
                                    · skip
                                      refine wl_unwanted rfl rfl (decide_eq_false h51) rfl ?_
                                      refine wl_unwanted rfl rfl (decide_eq_false h51) rfl ?_
                                      refine wl_pickF rfl (decide_eq_false h51) rfl rfl ?_
                                      refine wl_nil ?_
                                      refine qs_seq ?_
                                      refine wc_sub (L' := [(171, _), (0, _), (3, _), (4, _), (5, _), (6, _), (7, _), (8, _)]) (.cons rfl (.cons rfl (.cons rfl (.cons rfl (.cons rfl (.cons rfl (.cons rfl (.cons rfl .nil)))))))) ?_
                                      refine wc_condF rfl ?_
                                      refine wc_skip ?_
                                      refine qs_block_normal ?_
                                      refine qs_seq ?_
                                      refine wc_region ?_
                                      refine wl_move rfl rfl ?_
                                      refine wl_add rfl rfl (by first | omega | (simp; omega)) (by first | omega | (simp; omega)) rfl ?_
                                      refine wl_assign rfl rfl ?_
                                      refine wl_nil ?_
                                      exact qs_round (L1 := [(0, _), (3, _), (4, _), (5, _), (6, _), (7, _), (8, intV ((i + 1 : Nat) : Int))]) (.cons rfl (.cons rfl (.cons rfl (.cons rfl (.cons rfl (.cons rfl (.cons rfl .nil))))))) (k1 := l.length - (i + 1)) (by omega) ⟨i + 1, _, _, _, _, rfl, rfl, hS35.pick [1, 3] rfl, by omega, hP.doP (o := { o with id := [120] }) (by simp), hE2⟩
                                  · skip
                                    refine wl_unwanted rfl rfl (decide_eq_false h50) rfl ?_
                                    refine wl_unwanted rfl rfl (decide_eq_false h50) rfl ?_
                                    refine wl_pickF rfl (decide_eq_false h50) rfl rfl ?_
                                    refine wl_move rfl rfl ?_
                                    refine wl_unwanted rfl rfl rfl rfl ?_
                                    refine wl_unwanted rfl rfl rfl rfl ?_
                                    refine wl_pickF rfl rfl rfl rfl ?_
                                    refine wl_nil ?_
                                    refine qs_seq ?_
                                    refine wc_sub (L' := [(171, _), (0, _), (3, _), (4, _), (5, _), (6, _), (7, _), (8, _)]) (.cons rfl (.cons rfl (.cons rfl (.cons rfl (.cons rfl (.cons rfl (.cons rfl (.cons rfl .nil)))))))) ?_
                                    refine wc_condF rfl ?_
                                    refine wc_skip ?_
                                    refine qs_block_normal ?_
                                    refine qs_seq ?_
                                    refine wc_region ?_
                                    refine wl_move rfl rfl ?_
                                    refine wl_add rfl rfl (by first | omega | (simp; omega)) (by first | omega | (simp; omega)) rfl ?_
                                    refine wl_assign rfl rfl ?_
                                    refine wl_nil ?_
                                    exact qs_round (L1 := [(0, _), (3, _), (4, _), (5, _), (6, _), (7, _), (8, intV ((i + 1 : Nat) : Int))]) (.cons rfl (.cons rfl (.cons rfl (.cons rfl (.cons rfl (.cons rfl (.cons rfl .nil))))))) (k1 := l.length - (i + 1)) (by omega) ⟨i + 1, _, _, _, _, rfl, rfl, hS35.pick [1, 3] rfl, by omega, hP.doP (o := { o with id := [120] }) (by simp), hE2⟩
                                · skip
                                  refine wl_unwanted rfl rfl (decide_eq_false h49) rfl ?_
                                  refine wl_unwanted rfl rfl (decide_eq_false h49) rfl ?_
                                  refine wl_pickF rfl (decide_eq_false h49) rfl rfl ?_
                                  refine wl_move rfl rfl ?_
                                  refine wl_unwanted rfl rfl rfl rfl ?_
                                  refine wl_unwanted rfl rfl rfl rfl ?_
                                  refine wl_pickF rfl rfl rfl rfl ?_
                                  refine wl_move rfl rfl ?_
                                  refine wl_unwanted rfl rfl rfl rfl ?_
                                  refine wl_unwanted rfl rfl rfl rfl ?_
                                  refine wl_pickF rfl rfl rfl rfl ?_
                                  refine wl_nil ?_
                                  refine qs_seq ?_
                                  refine wc_sub (L' := [(171, _), (0, _), (3, _), (4, _), (5, _), (6, _), (7, _), (8, _)]) (.cons rfl (.cons rfl (.cons rfl (.cons rfl (.cons rfl (.cons rfl (.cons rfl (.cons rfl .nil)))))))) ?_
                                  refine wc_condF rfl ?_
                                  refine wc_skip ?_
                                  refine qs_block_normal ?_
                                  refine qs_seq ?_
                                  refine wc_region ?_
                                  refine wl_move rfl rfl ?_
                                  refine wl_add rfl rfl (by first | omega | (simp; omega)) (by first | omega | (simp; omega)) rfl ?_
                                  refine wl_assign rfl rfl ?_
                                  refine wl_nil ?_
                                  exact qs_round (L1 := [(0, _), (3, _), (4, _), (5, _), (6, _), (7, _), (8, intV ((i + 1 : Nat) : Int))]) (.cons rfl (.cons rfl (.cons rfl (.cons rfl (.cons rfl (.cons rfl (.cons rfl .nil))))))) (k1 := l.length - (i + 1)) (by omega) ⟨i + 1, _, _, _, _, rfl, rfl, hS35.pick [1, 3] rfl, by omega, hP.doP (o := { o with id := [120] }) (by simp), hE2⟩
                              · skip
                                refine wl_unwanted rfl rfl (decide_eq_false h48) rfl ?_
                                refine wl_unwanted rfl rfl (decide_eq_false h48) rfl ?_
                                refine wl_unwanted rfl rfl (decide_eq_false h48) rfl ?_
                                refine wl_pickF rfl (decide_eq_false h48) rfl rfl ?_
                                refine wl_move rfl rfl ?_
                                refine wl_unwanted rfl rfl rfl rfl ?_
                                refine wl_unwanted rfl rfl rfl rfl ?_
                                refine wl_pickF rfl rfl rfl rfl ?_
                                refine wl_move rfl rfl ?_
                                refine wl_unwanted rfl rfl rfl rfl ?_
                                refine wl_unwanted rfl rfl rfl rfl ?_
                                refine wl_pickF rfl rfl rfl rfl ?_
                                refine wl_move rfl rfl ?_
                                refine wl_unwanted rfl rfl rfl rfl ?_
                                refine wl_unwanted rfl rfl rfl rfl ?_
                                refine wl_pickF rfl rfl rfl rfl ?_
                                refine wl_nil ?_
                                refine qs_seq ?_
                                refine wc_sub (L' := [(171, _), (0, _), (3, _), (4, _), (5, _), (6, _), (7, _), (8, _)]) (.cons rfl (.cons rfl (.cons rfl (.cons rfl (.cons rfl (.cons rfl (.cons rfl (.cons rfl .nil)))))))) ?_
                                refine wc_condF rfl ?_
                                refine wc_skip ?_
                                refine qs_block_normal ?_
                                refine qs_seq ?_
                                refine wc_region ?_
                                refine wl_move rfl rfl ?_
                                refine wl_add rfl rfl (by first | omega | (simp; omega)) (by first | omega | (simp; omega)) rfl ?_
                                refine wl_assign rfl rfl ?_
                                refine wl_nil ?_
                                exact qs_round (L1 := [(0, _), (3, _), (4, _), (5, _), (6, _), (7, _), (8, intV ((i + 1 : Nat) : Int))]) (.cons rfl (.cons rfl (.cons rfl (.cons rfl (.cons rfl (.cons rfl (.cons rfl .nil))))))) (k1 := l.length - (i + 1)) (by omega) ⟨i + 1, _, _, _, _, rfl, rfl, hS35.pick [1, 3] rfl, by omega, hP.doP (o := { o with id := [120] }) (by simp), hE2⟩
                            · skip
                              refine wl_unwanted rfl rfl h47 rfl ?_
                              refine wl_unwanted rfl rfl h47 rfl ?_
                              refine wl_unwanted rfl rfl h47 rfl ?_
                              refine wl_pickF rfl h47 rfl rfl ?_
                              refine wl_move rfl rfl ?_
                              refine wl_unwanted rfl rfl rfl rfl ?_
                              refine wl_unwanted rfl rfl rfl rfl ?_
                              refine wl_unwanted rfl rfl rfl rfl ?_
                              refine wl_pickF rfl rfl rfl rfl ?_
                              refine wl_move rfl rfl ?_
                              refine wl_unwanted rfl rfl rfl rfl ?_
                              refine wl_unwanted rfl rfl rfl rfl ?_
                              refine wl_pickF rfl rfl rfl rfl ?_
                              refine wl_move rfl rfl ?_
                              refine wl_unwanted rfl rfl rfl rfl ?_
                              refine wl_unwanted rfl rfl rfl rfl ?_
                              refine wl_pickF rfl rfl rfl rfl ?_
                              refine wl_move rfl rfl ?_
                              refine wl_unwanted rfl rfl rfl rfl ?_
                              refine wl_unwanted rfl rfl rfl rfl ?_
                              refine wl_pickF rfl rfl rfl rfl ?_
                              refine wl_nil ?_
                              refine qs_seq ?_
                              refine wc_sub (L' := [(171, _), (0, _), (3, _), (4, _), (5, _), (6, _), (7, _), (8, _)]) (.cons rfl (.cons rfl (.cons rfl (.cons rfl (.cons rfl (.cons rfl (.cons rfl (.cons rfl .nil)))))))) ?_
                              refine wc_condF rfl ?_
                              refine wc_skip ?_
                              refine qs_block_normal ?_
                              refine qs_seq ?_
                              refine wc_region ?_
                              refine wl_move rfl rfl ?_
                              refine wl_add rfl rfl (by first | omega | (simp; omega)) (by first | omega | (simp; omega)) rfl ?_
                              refine wl_assign rfl rfl ?_
                              refine wl_nil ?_
                              exact qs_round (L1 := [(0, _), (3, _), (4, _), (5, _), (6, _), (7, _), (8, intV ((i + 1 : Nat) : Int))]) (.cons rfl (.cons rfl (.cons rfl (.cons rfl (.cons rfl (.cons rfl (.cons rfl .nil))))))) (k1 := l.length - (i + 1)) (by omega) ⟨i + 1, _, _, _, _, rfl, rfl, hS35.pick [1, 3] rfl, by omega, hP.doP (o := { o with id := [120] }) (by simp), hE2⟩
                          · skip
                            refine wl_unwanted rfl rfl (decide_eq_false h46) rfl ?_
                            refine wl_pickF rfl (decide_eq_false h46) rfl rfl ?_
                            refine wl_move rfl rfl ?_
                            refine wl_unwanted rfl rfl rfl rfl ?_
                            refine wl_unwanted rfl rfl rfl rfl ?_
                            refine wl_unwanted rfl rfl rfl rfl ?_
                            refine wl_pickF rfl rfl rfl rfl ?_
                            refine wl_move rfl rfl ?_
                            refine wl_unwanted rfl rfl rfl rfl ?_
                            refine wl_unwanted rfl rfl rfl rfl ?_
                            refine wl_unwanted rfl rfl rfl rfl ?_
                            refine wl_pickF rfl rfl rfl rfl ?_
                            refine wl_move rfl rfl ?_
                            refine wl_unwanted rfl rfl rfl rfl ?_
                            refine wl_unwanted rfl rfl rfl rfl ?_
                            refine wl_pickF rfl rfl rfl rfl ?_
                            refine wl_move rfl rfl ?_
                            refine wl_unwanted rfl rfl rfl rfl ?_
                            refine wl_unwanted rfl rfl rfl rfl ?_
                            refine wl_pickF rfl rfl rfl rfl ?_
                            refine wl_move rfl rfl ?_
                            refine wl_unwanted rfl rfl rfl rfl ?_
                            refine wl_unwanted rfl rfl rfl rfl ?_
                            refine wl_pickF rfl rfl rfl rfl ?_
                            refine wl_nil ?_
                            refine qs_seq ?_
                            refine wc_sub (L' := [(171, _), (0, _), (3, _), (4, _), (5, _), (6, _), (7, _), (8, _)]) (.cons rfl (.cons rfl (.cons rfl (.cons rfl (.cons rfl (.cons rfl (.cons rfl (.cons rfl .nil)))))))) ?_
                            refine wc_condF rfl ?_
                            refine wc_skip ?_
                            refine qs_block_normal ?_
                            refine qs_seq ?_
                            refine wc_region ?_
                            refine wl_move rfl rfl ?_
                            refine wl_add rfl rfl (by first | omega | (simp; omega)) (by first | omega | (simp; omega)) rfl ?_
                            refine wl_assign rfl rfl ?_
                            refine wl_nil ?_
                            exact qs_round (L1 := [(0, _), (3, _), (4, _), (5, _), (6, _), (7, _), (8, intV ((i + 1 : Nat) : Int))]) (.cons rfl (.cons rfl (.cons rfl (.cons rfl (.cons rfl (.cons rfl (.cons rfl .nil))))))) (k1 := l.length - (i + 1)) (by omega) ⟨i + 1, _, _, _, _, rfl, rfl, hS35.pick [1, 3] rfl, by omega, hP.doP (o := { o with id := [120] }) (by simp), hE2⟩
                      · skip
                        refine wl_unwanted rfl rfl (decide_eq_false h44) rfl ?_
                        refine wl_unwanted rfl rfl (decide_eq_false h44) rfl ?_
                        refine wl_guard rfl rfl h42 ?_
                        refine wl_pickF rfl (decide_eq_false h44) rfl rfl ?_
                        refine wl_pickF rfl h42 rfl rfl ?_
                        refine wl_nil ?_
                        refine qs_seq ?_
                        refine wc_sub (L' := [(144, _), (15, _), (0, _), (3, _), (4, _), (5, _), (6, _), (7, _), (8, _), (9, _), (12, _), (13, _)]) (.cons rfl (.cons rfl (.cons rfl (.cons rfl (.cons rfl (.cons rfl (.cons rfl (.cons rfl (.cons rfl (.cons rfl (.cons rfl (.cons rfl .nil)))))))))))) ?_
                        refine wc_condF rfl ?_
                        refine wc_skip ?_
                        refine qs_seq ?_
                        refine wc_seq ?_
                        refine wc_region ?_
                        refine wl_move rfl rfl ?_
                        refine wl_eql rfl rfl rfl ?_
                        refine wl_move rfl rfl ?_
                        refine wl_splitD 147 rfl (fun h53 => ?_) (fun h53 => ?_)
                        · skip
                          refine wl_guard rfl rfl (decide_eq_true h53) ?_
                          refine wl_move rfl rfl ?_
                          refine wl_pickT rfl (decide_eq_true h53) rfl rfl ?_
                          refine wl_move rfl rfl ?_
                          refine wl_split 150 rfl (fun h54 => ?_) (fun h54 => ?_)
                          · skip
                            refine wl_guard rfl rfl h54 ?_
                            refine wl_fieldAddr rfl fo_31_3 rfl ?_
                            refine wl_guard rfl rfl h54 ?_
                            refine wl_load rfl ag_3 (by first | assumption | exact hS35.cell 0 rfl rfl | exact hS35.cell 2 rfl rfl) rfl ?_
                            refine wl_guard rfl rfl h54 ?_
                            refine wl_gtr rfl rfl rfl ?_
                            refine wl_pickT rfl h54 rfl rfl ?_
                            refine wl_move rfl rfl ?_
                            refine wl_splitD 155 rfl (fun h55 => ?_) (fun h55 => ?_)
                            · skip
                              refine wl_guard rfl rfl (decide_eq_true h55) ?_
                              refine wl_fieldAddr rfl fo_39_0 rfl ?_
                              refine wl_guard rfl rfl (decide_eq_true h55) ?_
                              refine wl_load rfl ag_9 (by first | assumption | exact hS35.cell 0 rfl rfl | exact hS35.cell 2 rfl rfl) rfl ?_
                              refine wl_guard rfl rfl (decide_eq_true h55) ?_
                              refine wl_eqlS rfl rfl rfl ?_
                              refine wl_pickT rfl (decide_eq_true h55) rfl rfl ?_
                              refine wl_move rfl rfl ?_
                              refine wl_splitD 160 rfl (fun h56 => ?_) (fun h56 => ?_)
                              · skip
                                refine wl_guard rfl rfl (decide_eq_true h56) ?_
                                refine wl_move rfl rfl ?_
                                refine wl_guard rfl rfl (decide_eq_true h56) ?_
                                refine wl_eql rfl rfl rfl ?_
                                refine wl_pickT rfl (decide_eq_true h56) rfl rfl ?_
                                refine wl_move rfl rfl ?_
                                refine wl_splitD 164 rfl (fun h57 => ?_) (fun h57 => ?_)
                                · skip
                                  refine wl_guard rfl rfl (decide_eq_true h57) ?_
                                  refine wl_move rfl rfl ?_
                                  refine wl_guard rfl rfl (decide_eq_true h57) ?_
                                  refine wl_neq rfl rfl rfl ?_
                                  refine wl_pickT rfl (decide_eq_true h57) rfl rfl ?_
                                  refine wl_move rfl rfl ?_
                                  refine wl_splitD 168 rfl (fun h58 => ?_) (fun h58 => ?_)
                                  · skip
                                    refine wl_guard rfl rfl (decide_eq_true h58) ?_
                                    refine wl_move rfl rfl ?_
                                    refine wl_guard rfl rfl (decide_eq_true h58) ?_
                                    refine wl_neq rfl rfl rfl ?_
                                    refine wl_pickT rfl (decide_eq_true h58) rfl rfl ?_
                                    refine wl_nil ?_
                                    refine qs_seq ?_
                                    refine wc_sub (L' := [(171, _), (0, _), (3, _), (4, _), (5, _), (6, _), (7, _), (8, _)]) (.cons rfl (.cons rfl (.cons rfl (.cons rfl (.cons rfl (.cons rfl (.cons rfl (.cons rfl .nil)))))))) ?_
                                    refine wc_condD rfl (fun h59 => ?_) (fun h59 => ?_)
                                    · skip
                                      exfalso; rcases hkr (by assumption) (by assumption) with q | q <;> contradiction
                                    · skip
                                      refine wc_skip ?_
                                      refine qs_block_normal ?_
                                      refine qs_seq ?_
                                      refine wc_region ?_
                                      refine wl_move rfl rfl ?_
                                      refine wl_add rfl rfl (by first | omega | (simp; omega)) (by first | omega | (simp; omega)) rfl ?_
                                      refine wl_assign rfl rfl ?_
                                      refine wl_nil ?_
                                      exact qs_round (L1 := [(0, _), (3, _), (4, _), (5, _), (6, _), (7, _), (8, intV ((i + 1 : Nat) : Int))]) (.cons rfl (.cons rfl (.cons rfl (.cons rfl (.cons rfl (.cons rfl (.cons rfl .nil))))))) (k1 := l.length - (i + 1)) (by omega) ⟨i + 1, _, _, _, _, rfl, rfl, hS35.pick [1, 3] rfl, by omega, hP.doP (o := { o with id := [120] }) (by simp), hE2⟩
                                  · skip
                                    refine wl_unwanted rfl rfl (decide_eq_false h58) rfl ?_
                                    refine wl_unwanted rfl rfl (decide_eq_false h58) rfl ?_
                                    refine wl_pickF rfl (decide_eq_false h58) rfl rfl ?_
                                    refine wl_nil ?_
                                    refine qs_seq ?_
                                    refine wc_sub (L' := [(171, _), (0, _), (3, _), (4, _), (5, _), (6, _), (7, _), (8, _)]) (.cons rfl (.cons rfl (.cons rfl (.cons rfl (.cons rfl (.cons rfl (.cons rfl (.cons rfl .nil)))))))) ?_
                                    refine wc_condF rfl ?_
                                    refine wc_skip ?_
                                    refine qs_block_normal ?_
                                    refine qs_seq ?_
                                    refine wc_region ?_
                                    refine wl_move rfl rfl ?_
                                    refine wl_add rfl rfl (by first | omega | (simp; omega)) (by first | omega | (simp; omega)) rfl ?_
                                    refine wl_assign rfl rfl ?_
                                    refine wl_nil ?_
                                    exact qs_round (L1 := [(0, _), (3, _), (4, _), (5, _), (6, _), (7, _), (8, intV ((i + 1 : Nat) : Int))]) (.cons rfl (.cons rfl (.cons rfl (.cons rfl (.cons rfl (.cons rfl (.cons rfl .nil))))))) (k1 := l.length - (i + 1)) (by omega) ⟨i + 1, _, _, _, _, rfl, rfl, hS35.pick [1, 3] rfl, by omega, hP.doP (o := { o with id := [120] }) (by simp), hE2⟩
                                · skip
                                  refine wl_unwanted rfl rfl (decide_eq_false h57) rfl ?_
                                  refine wl_unwanted rfl rfl (decide_eq_false h57) rfl ?_
                                  refine wl_pickF rfl (decide_eq_false h57) rfl rfl ?_
                                  refine wl_move rfl rfl ?_
                                  refine wl_unwanted rfl rfl rfl rfl ?_
                                  refine wl_unwanted rfl rfl rfl rfl ?_
                                  refine wl_pickF rfl rfl rfl rfl ?_
                                  refine wl_nil ?_
                                  refine qs_seq ?_
                                  refine wc_sub (L' := [(171, _), (0, _), (3, _), (4, _), (5, _), (6, _), (7, _), (8, _)]) (.cons rfl (.cons rfl (.cons rfl (.cons rfl (.cons rfl (.cons rfl (.cons rfl (.cons rfl .nil)))))))) ?_
                                  refine wc_condF rfl ?_
                                  refine wc_skip ?_
                                  refine qs_block_normal ?_
                                  refine qs_seq ?_
                                  refine wc_region ?_
                                  refine wl_move rfl rfl ?_
                                  refine wl_add rfl rfl (by first | omega | (simp; omega)) (by first | omega | (simp; omega)) rfl ?_
                                  refine wl_assign rfl rfl ?_
                                  refine wl_nil ?_
                                  exact qs_round (L1 := [(0, _), (3, _), (4, _), (5, _), (6, _), (7, _), (8, intV ((i + 1 : Nat) : Int))]) (.cons rfl (.cons rfl (.cons rfl (.cons rfl (.cons rfl (.cons rfl (.cons rfl .nil))))))) (k1 := l.length - (i + 1)) (by omega) ⟨i + 1, _, _, _, _, rfl, rfl, hS35.pick [1, 3] rfl, by omega, hP.doP (o := { o with id := [120] }) (by simp), hE2⟩
                              · skip
                                refine wl_unwanted rfl rfl (decide_eq_false h56) rfl ?_
                                refine wl_unwanted rfl rfl (decide_eq_false h56) rfl ?_
                                refine wl_pickF rfl (decide_eq_false h56) rfl rfl ?_
                                refine wl_move rfl rfl ?_
                                refine wl_unwanted rfl rfl rfl rfl ?_
                                refine wl_unwanted rfl rfl rfl rfl ?_
                                refine wl_pickF rfl rfl rfl rfl ?_
                                refine wl_move rfl rfl ?_
                                refine wl_unwanted rfl rfl rfl rfl ?_
                                refine wl_unwanted rfl rfl rfl rfl ?_
                                refine wl_pickF rfl rfl rfl rfl ?_
                                refine wl_nil ?_
                                refine qs_seq ?_
                                refine wc_sub (L' := [(171, _), (0, _), (3, _), (4, _), (5, _), (6, _), (7, _), (8, _)]) (.cons rfl (.cons rfl (.cons rfl (.cons rfl (.cons rfl (.cons rfl (.cons rfl (.cons rfl .nil)))))))) ?_
                                refine wc_condF rfl ?_
                                refine wc_skip ?_
                                refine qs_block_normal ?_
                                refine qs_seq ?_
                                refine wc_region ?_
                                refine wl_move rfl rfl ?_
                                refine wl_add rfl rfl (by first | omega | (simp; omega)) (by first | omega | (simp; omega)) rfl ?_
                                refine wl_assign rfl rfl ?_
                                refine wl_nil ?_
                                exact qs_round (L1 := [(0, _), (3, _), (4, _), (5, _), (6, _), (7, _), (8, intV ((i + 1 : Nat) : Int))]) (.cons rfl (.cons rfl (.cons rfl (.cons rfl (.cons rfl (.cons rfl (.cons rfl .nil))))))) (k1 := l.length - (i + 1)) (by omega) ⟨i + 1, _, _, _, _, rfl, rfl, hS35.pick [1, 3] rfl, by omega, hP.doP (o := { o with id := [120] }) (by simp), hE2⟩
                            · skip
                              refine wl_unwanted rfl rfl (decide_eq_false h55) rfl ?_
                              refine wl_unwanted rfl rfl (decide_eq_false h55) rfl ?_
                              refine wl_unwanted rfl rfl (decide_eq_false h55) rfl ?_
                              refine wl_pickF rfl (decide_eq_false h55) rfl rfl ?_
                              refine wl_move rfl rfl ?_
                              refine wl_unwanted rfl rfl rfl rfl ?_
                              refine wl_unwanted rfl rfl rfl rfl ?_
                              refine wl_pickF rfl rfl rfl rfl ?_
                              refine wl_move rfl rfl ?_
                              refine wl_unwanted rfl rfl rfl rfl ?_
                              refine wl_unwanted rfl rfl rfl rfl ?_
                              refine wl_pickF rfl rfl rfl rfl ?_
                              refine wl_move rfl rfl ?_
                              refine wl_unwanted rfl rfl rfl rfl ?_
                              refine wl_unwanted rfl rfl rfl rfl ?_
                              refine wl_pickF rfl rfl rfl rfl ?_
                              refine wl_nil ?_
                              refine qs_seq ?_
                              refine wc_sub (L' := [(171, _), (0, _), (3, _), (4, _), (5, _), (6, _), (7, _), (8, _)]) (.cons rfl (.cons rfl (.cons rfl (.cons rfl (.cons rfl (.cons rfl (.cons rfl (.cons rfl .nil)))))))) ?_
                              refine wc_condF rfl ?_
                              refine wc_skip ?_
                              refine qs_block_normal ?_
                              refine qs_seq ?_
                              refine wc_region ?_
                              refine wl_move rfl rfl ?_
                              refine wl_add rfl rfl (by first | omega | (simp; omega)) (by first | omega | (simp; omega)) rfl ?_
                              refine wl_assign rfl rfl ?_
                              refine wl_nil ?_
                              exact qs_round (L1 := [(0, _), (3, _), (4, _), (5, _), (6, _), (7, _), (8, intV ((i + 1 : Nat) : Int))]) (.cons rfl (.cons rfl (.cons rfl (.cons rfl (.cons rfl (.cons rfl (.cons rfl .nil))))))) (k1 := l.length - (i + 1)) (by omega) ⟨i + 1, _, _, _, _, rfl, rfl, hS35.pick [1, 3] rfl, by omega, hP.doP (o := { o with id := [120] }) (by simp), hE2⟩
                          · skip
                            refine wl_unwanted rfl rfl h54 rfl ?_
                            refine wl_unwanted rfl rfl h54 rfl ?_
                            refine wl_unwanted rfl rfl h54 rfl ?_
                            refine wl_pickF rfl h54 rfl rfl ?_
                            refine wl_move rfl rfl ?_
                            refine wl_unwanted rfl rfl rfl rfl ?_
                            refine wl_unwanted rfl rfl rfl rfl ?_
                            refine wl_unwanted rfl rfl rfl rfl ?_
                            refine wl_pickF rfl rfl rfl rfl ?_
                            refine wl_move rfl rfl ?_
                            refine wl_unwanted rfl rfl rfl rfl ?_
                            refine wl_unwanted rfl rfl rfl rfl ?_
                            refine wl_pickF rfl rfl rfl rfl ?_
                            refine wl_move rfl rfl ?_
                            refine wl_unwanted rfl rfl rfl rfl ?_
                            refine wl_unwanted rfl rfl rfl rfl ?_
                            refine wl_pickF rfl rfl rfl rfl ?_
                            refine wl_move rfl rfl ?_
                            refine wl_unwanted rfl rfl rfl rfl ?_
                            refine wl_unwanted rfl rfl rfl rfl ?_
                            refine wl_pickF rfl rfl rfl rfl ?_
                            refine wl_nil ?_
                            refine qs_seq ?_
                            refine wc_sub (L' := [(171, _), (0, _), (3, _), (4, _), (5, _), (6, _), (7, _), (8, _)]) (.cons rfl (.cons rfl (.cons rfl (.cons rfl (.cons rfl (.cons rfl (.cons rfl (.cons rfl .nil)))))))) ?_
                            refine wc_condF rfl ?_
                            refine wc_skip ?_
                            refine qs_block_normal ?_
                            refine qs_seq ?_
                            refine wc_region ?_
                            refine wl_move rfl rfl ?_
                            refine wl_add rfl rfl (by first | omega | (simp; omega)) (by first | omega | (simp; omega)) rfl ?_
                            refine wl_assign rfl rfl ?_
                            refine wl_nil ?_
                            exact qs_round (L1 := [(0, _), (3, _), (4, _), (5, _), (6, _), (7, _), (8, intV ((i + 1 : Nat) : Int))]) (.cons rfl (.cons rfl (.cons rfl (.cons rfl (.cons rfl (.cons rfl (.cons rfl .nil))))))) (k1 := l.length - (i + 1)) (by omega) ⟨i + 1, _, _, _, _, rfl, rfl, hS35.pick [1, 3] rfl, by omega, hP.doP (o := { o with id := [120] }) (by simp), hE2⟩
                        · skip
                          refine wl_unwanted rfl rfl (decide_eq_false h53) rfl ?_
                          refine wl_pickF rfl (decide_eq_false h53) rfl rfl ?_
                          refine wl_move rfl rfl ?_
                          refine wl_unwanted rfl rfl rfl rfl ?_
                          refine wl_unwanted rfl rfl rfl rfl ?_
                          refine wl_unwanted rfl rfl rfl rfl ?_
                          refine wl_pickF rfl rfl rfl rfl ?_
                          refine wl_move rfl rfl ?_
                          refine wl_unwanted rfl rfl rfl rfl ?_
                          refine wl_unwanted rfl rfl rfl rfl ?_
                          refine wl_unwanted rfl rfl rfl rfl ?_
                          refine wl_pickF rfl rfl rfl rfl ?_
                          refine wl_move rfl rfl ?_
                          refine wl_unwanted rfl rfl rfl rfl ?_
                          refine wl_unwanted rfl rfl rfl rfl ?_
                          refine wl_pickF rfl rfl rfl rfl ?_
                          refine wl_move rfl rfl ?_
                          refine wl_unwanted rfl rfl rfl rfl ?_
                          refine wl_unwanted rfl rfl rfl rfl ?_
                          refine wl_pickF rfl rfl rfl rfl ?_
                          refine wl_move rfl rfl ?_
                          refine wl_unwanted rfl rfl rfl rfl ?_
                          refine wl_unwanted rfl rfl rfl rfl ?_
                          refine wl_pickF rfl rfl rfl rfl ?_
                          refine wl_nil ?_
                          refine qs_seq ?_
                          refine wc_sub (L' := [(171, _), (0, _), (3, _), (4, _), (5, _), (6, _), (7, _), (8, _)]) (.cons rfl (.cons rfl (.cons rfl (.cons rfl (.cons rfl (.cons rfl (.cons rfl (.cons rfl .nil)))))))) ?_
                          refine wc_condF rfl ?_
                          refine wc_skip ?_
                          refine qs_block_normal ?_
                          refine qs_seq ?_
                          refine wc_region ?_
                          refine wl_move rfl rfl ?_
                          refine wl_add rfl rfl (by first | omega | (simp; omega)) (by first | omega | (simp; omega)) rfl ?_
                          refine wl_assign rfl rfl ?_
                          refine wl_nil ?_
                          exact qs_round (L1 := [(0, _), (3, _), (4, _), (5, _), (6, _), (7, _), (8, intV ((i + 1 : Nat) : Int))]) (.cons rfl (.cons rfl (.cons rfl (.cons rfl (.cons rfl (.cons rfl (.cons rfl .nil))))))) (k1 := l.length - (i + 1)) (by omega) ⟨i + 1, _, _, _, _, rfl, rfl, hS35.pick [1, 3] rfl, by omega, hP.doP (o := { o with id := [120] }) (by simp), hE2⟩
                    · skip
                      refine wl_unwanted rfl rfl (decide_eq_false h43) rfl ?_
                      refine wl_unwanted rfl rfl (decide_eq_false h43) rfl ?_
                      refine wl_guard rfl rfl h42 ?_
                      refine wl_pickF rfl (decide_eq_false h43) rfl rfl ?_
                      refine wl_guard rfl rfl h42 ?_
                      refine wl_move rfl rfl ?_
                      refine wl_unwanted rfl rfl rfl rfl ?_
                      refine wl_unwanted rfl rfl rfl rfl ?_
                      refine wl_guard rfl rfl h42 ?_
                      refine wl_pickF rfl rfl rfl rfl ?_
                      refine wl_pickF rfl h42 rfl rfl ?_
                      refine wl_nil ?_
                      refine qs_seq ?_
                      refine wc_sub (L' := [(144, _), (15, _), (0, _), (3, _), (4, _), (5, _), (6, _), (7, _), (8, _), (9, _), (12, _), (13, _)]) (.cons rfl (.cons rfl (.cons rfl (.cons rfl (.cons rfl (.cons rfl (.cons rfl (.cons rfl (.cons rfl (.cons rfl (.cons rfl (.cons rfl .nil)))))))))))) ?_
                      refine wc_condF rfl ?_
                      refine wc_skip ?_
                      refine qs_seq ?_
                      refine wc_seq ?_
                      refine wc_region ?_
                      refine wl_move rfl rfl ?_
                      refine wl_eql rfl rfl rfl ?_
                      refine wl_move rfl rfl ?_
                      refine wl_splitD 147 rfl (fun h60 => ?_) (fun h60 => ?_)
                      · skip
                        refine wl_guard rfl rfl (decide_eq_true h60) ?_
                        refine wl_move rfl rfl ?_
                        refine wl_pickT rfl (decide_eq_true h60) rfl rfl ?_
                        refine wl_move rfl rfl ?_
                        refine wl_split 150 rfl (fun h61 => ?_) (fun h61 => ?_)
                        · skip
                          refine wl_guard rfl rfl h61 ?_
                          refine wl_fieldAddr rfl fo_31_3 rfl ?_
                          refine wl_guard rfl rfl h61 ?_
                          refine wl_load rfl ag_3 (by first | assumption | exact hS35.cell 0 rfl rfl | exact hS35.cell 2 rfl rfl) rfl ?_
                          refine wl_guard rfl rfl h61 ?_
                          refine wl_gtr rfl rfl rfl ?_
                          refine wl_pickT rfl h61 rfl rfl ?_
                          refine wl_move rfl rfl ?_
                          refine wl_splitD 155 rfl (fun h62 => ?_) (fun h62 => ?_)
                          · skip
                            refine wl_guard rfl rfl (decide_eq_true h62) ?_
                            refine wl_fieldAddr rfl fo_39_0 rfl ?_
                            refine wl_guard rfl rfl (decide_eq_true h62) ?_
                            refine wl_load rfl ag_9 (by first | assumption | exact hS35.cell 0 rfl rfl | exact hS35.cell 2 rfl rfl) rfl ?_
                            refine wl_guard rfl rfl (decide_eq_true h62) ?_
                            refine wl_eqlS rfl rfl rfl ?_
                            refine wl_pickT rfl (decide_eq_true h62) rfl rfl ?_
                            refine wl_move rfl rfl ?_
                            refine wl_splitD 160 rfl (fun h63 => ?_) (fun h63 => ?_)
                            · skip
                              refine wl_guard rfl rfl (decide_eq_true h63) ?_
                              refine wl_move rfl rfl ?_
                              refine wl_guard rfl rfl (decide_eq_true h63) ?_
                              refine wl_eql rfl rfl rfl ?_
                              refine wl_pickT rfl (decide_eq_true h63) rfl rfl ?_
                              refine wl_move rfl rfl ?_
                              refine wl_splitD 164 rfl (fun h64 => ?_) (fun h64 => ?_)
                              · skip
                                refine wl_guard rfl rfl (decide_eq_true h64) ?_
                                refine wl_move rfl rfl ?_
                                refine wl_guard rfl rfl (decide_eq_true h64) ?_
                                refine wl_neq rfl rfl rfl ?_
                                refine wl_pickT rfl (decide_eq_true h64) rfl rfl ?_
                                refine wl_move rfl rfl ?_
                                refine wl_splitD 168 rfl (fun h65 => ?_) (fun h65 => ?_)
                                · skip
                                  refine wl_guard rfl rfl (decide_eq_true h65) ?_
                                  refine wl_move rfl rfl ?_
                                  refine wl_guard rfl rfl (decide_eq_true h65) ?_
                                  refine wl_neq rfl rfl rfl ?_
                                  refine wl_pickT rfl (decide_eq_true h65) rfl rfl ?_
                                  refine wl_nil ?_
                                  refine qs_seq ?_
                                  refine wc_sub (L' := [(171, _), (0, _), (3, _), (4, _), (5, _), (6, _), (7, _), (8, _)]) (.cons rfl (.cons rfl (.cons rfl (.cons rfl (.cons rfl (.cons rfl (.cons rfl (.cons rfl .nil)))))))) ?_
                                  refine wc_condD rfl (fun h66 => ?_) (fun h66 => ?_)
                                  · skip
                                    exfalso; rcases hkr (by assumption) (by assumption) with q | q <;> contradiction
                                  · skip
                                    refine wc_skip ?_
                                    refine qs_block_normal ?_
                                    refine qs_seq ?_
                                    refine wc_region ?_
                                    refine wl_move rfl rfl ?_
                                    refine wl_add rfl rfl (by first | omega | (simp; omega)) (by first | omega | (simp; omega)) rfl ?_
                                    refine wl_assign rfl rfl ?_
                                    refine wl_nil ?_
                                    exact qs_round (L1 := [(0, _), (3, _), (4, _), (5, _), (6, _), (7, _), (8, intV ((i + 1 : Nat) : Int))]) (.cons rfl (.cons rfl (.cons rfl (.cons rfl (.cons rfl (.cons rfl (.cons rfl .nil))))))) (k1 := l.length - (i + 1)) (by omega) ⟨i + 1, _, _, _, _, rfl, rfl, hS35.pick [1, 3] rfl, by omega, hP.doP (o := { o with id := [120] }) (by simp), hE2⟩
                                · skip
                                  refine wl_unwanted rfl rfl (decide_eq_false h65) rfl ?_
                                  refine wl_unwanted rfl rfl (decide_eq_false h65) rfl ?_
                                  refine wl_pickF rfl (decide_eq_false h65) rfl rfl ?_
                                  refine wl_nil ?_
                                  refine qs_seq ?_
                                  refine wc_sub (L' := [(171, _), (0, _), (3, _), (4, _), (5, _), (6, _), (7, _), (8, _)]) (.cons rfl (.cons rfl (.cons rfl (.cons rfl (.cons rfl (.cons rfl (.cons rfl (.cons rfl .nil)))))))) ?_
                                  refine wc_condF rfl ?_
                                  refine wc_skip ?_
                                  refine qs_block_normal ?_
                                  refine qs_seq ?_
                                  refine wc_region ?_
                                  refine wl_move rfl rfl ?_
                                  refine wl_add rfl rfl (by first | omega | (simp; omega)) (by first | omega | (simp; omega)) rfl ?_
                                  refine wl_assign rfl rfl ?_
                                  refine wl_nil ?_
                                  exact qs_round (L1 := [(0, _), (3, _), (4, _), (5, _), (6, _), (7, _), (8, intV ((i + 1 : Nat) : Int))]) (.cons rfl (.cons rfl (.cons rfl (.cons rfl (.cons rfl (.cons rfl (.cons rfl .nil))))))) (k1 := l.length - (i + 1)) (by omega) ⟨i + 1, _, _, _, _, rfl, rfl, hS35.pick [1, 3] rfl, by omega, hP.doP (o := { o with id := [120] }) (by simp), hE2⟩
                              · skip
                                refine wl_unwanted rfl rfl (decide_eq_false h64) rfl ?_
                                refine wl_unwanted rfl rfl (decide_eq_false h64) rfl ?_
                                refine wl_pickF rfl (decide_eq_false h64) rfl rfl ?_
                                refine wl_move rfl rfl ?_
                                refine wl_unwanted rfl rfl rfl rfl ?_
                                refine wl_unwanted rfl rfl rfl rfl ?_
                                refine wl_pickF rfl rfl rfl rfl ?_
                                refine wl_nil ?_
                                refine qs_seq ?_
                                refine wc_sub (L' := [(171, _), (0, _), (3, _), (4, _), (5, _), (6, _), (7, _), (8, _)]) (.cons rfl (.cons rfl (.cons rfl (.cons rfl (.cons rfl (.cons rfl (.cons rfl (.cons rfl .nil)))))))) ?_
                                refine wc_condF rfl ?_
                                refine wc_skip ?_
                                refine qs_block_normal ?_
                                refine qs_seq ?_
                                refine wc_region ?_
                                refine wl_move rfl rfl ?_
                                refine wl_add rfl rfl (by first | omega | (simp; omega)) (by first | omega | (simp; omega)) rfl ?_
                                refine wl_assign rfl rfl ?_
                                refine wl_nil ?_
                                exact qs_round (L1 := [(0, _), (3, _), (4, _), (5, _), (6, _), (7, _), (8, intV ((i + 1 : Nat) : Int))]) (.cons rfl (.cons rfl (.cons rfl (.cons rfl (.cons rfl (.cons rfl (.cons rfl .nil))))))) (k1 := l.length - (i + 1)) (by omega) ⟨i + 1, _, _, _, _, rfl, rfl, hS35.pick [1, 3] rfl, by omega, hP.doP (o := { o with id := [120] }) (by simp), hE2⟩
                            · skip
                              refine wl_unwanted rfl rfl (decide_eq_false h63) rfl ?_
                              refine wl_unwanted rfl rfl (decide_eq_false h63) rfl ?_
                              refine wl_pickF rfl (decide_eq_false h63) rfl rfl ?_
                              refine wl_move rfl rfl ?_
                              refine wl_unwanted rfl rfl rfl rfl ?_
                              refine wl_unwanted rfl rfl rfl rfl ?_
                              refine wl_pickF rfl rfl rfl rfl ?_
                              refine wl_move rfl rfl ?_
                              refine wl_unwanted rfl rfl rfl rfl ?_
                              refine wl_unwanted rfl rfl rfl rfl ?_
                              refine wl_pickF rfl rfl rfl rfl ?_
                              refine wl_nil ?_
                              refine qs_seq ?_
                              refine wc_sub (L' := [(171, _), (0, _), (3, _), (4, _), (5, _), (6, _), (7, _), (8, _)]) (.cons rfl (.cons rfl (.cons rfl (.cons rfl (.cons rfl (.cons rfl (.cons rfl (.cons rfl .nil)))))))) ?_
                              refine wc_condF rfl ?_
                              refine wc_skip ?_
                              refine qs_block_normal ?_
                              refine qs_seq ?_
                              refine wc_region ?_
                              refine wl_move rfl rfl ?_
                              refine wl_add rfl rfl (by first | omega | (simp; omega)) (by first | omega | (simp; omega)) rfl ?_
                              refine wl_assign rfl rfl ?_
                              refine wl_nil ?_
                              exact qs_round (L1 := [(0, _), (3, _), (4, _), (5, _), (6, _), (7, _), (8, intV ((i + 1 : Nat) : Int))]) (.cons rfl (.cons rfl (.cons rfl (.cons rfl (.cons rfl (.cons rfl (.cons rfl .nil))))))) (k1 := l.length - (i + 1)) (by omega) ⟨i + 1, _, _, _, _, rfl, rfl, hS35.pick [1, 3] rfl, by omega, hP.doP (o := { o with id := [120] }) (by simp), hE2⟩
                          · skip
                            refine wl_unwanted rfl rfl (decide_eq_false h62) rfl ?_
                            refine wl_unwanted rfl rfl (decide_eq_false h62) rfl ?_
                            refine wl_unwanted rfl rfl (decide_eq_false h62) rfl ?_
                            refine wl_pickF rfl (decide_eq_false h62) rfl rfl ?_
                            refine wl_move rfl rfl ?_
                            refine wl_unwanted rfl rfl rfl rfl ?_
                            refine wl_unwanted rfl rfl rfl rfl ?_
                            refine wl_pickF rfl rfl rfl rfl ?_
                            refine wl_move rfl rfl ?_
                            refine wl_unwanted rfl rfl rfl rfl ?_
                            refine wl_unwanted rfl rfl rfl rfl ?_
                            refine wl_pickF rfl rfl rfl rfl ?_
                            refine wl_move rfl rfl ?_
                            refine wl_unwanted rfl rfl rfl rfl ?_
                            refine wl_unwanted rfl rfl rfl rfl ?_
                            refine wl_pickF rfl rfl rfl rfl ?_
                            refine wl_nil ?_
                            refine qs_seq ?_
                            refine wc_sub (L' := [(171, _), (0, _), (3, _), (4, _), (5, _), (6, _), (7, _), (8, _)]) (.cons rfl (.cons rfl (.cons rfl (.cons rfl (.cons rfl (.cons rfl (.cons rfl (.cons rfl .nil)))))))) ?_
                            refine wc_condF rfl ?_
                            refine wc_skip ?_
                            refine qs_block_normal ?_
                            refine qs_seq ?_
                            refine wc_region ?_
                            refine wl_move rfl rfl ?_
                            refine wl_add rfl rfl (by first | omega | (simp; omega)) (by first | omega | (simp; omega)) rfl ?_
                            refine wl_assign rfl rfl ?_
                            refine wl_nil ?_
                            exact qs_round (L1 := [(0, _), (3, _), (4, _), (5, _), (6, _), (7, _), (8, intV ((i + 1 : Nat) : Int))]) (.cons rfl (.cons rfl (.cons rfl (.cons rfl (.cons rfl (.cons rfl (.cons rfl .nil))))))) (k1 := l.length - (i + 1)) (by omega) ⟨i + 1, _, _, _, _, rfl, rfl, hS35.pick [1, 3] rfl, by omega, hP.doP (o := { o with id := [120] }) (by simp), hE2⟩
                        · skip
                          refine wl_unwanted rfl rfl h61 rfl ?_
                          refine wl_unwanted rfl rfl h61 rfl ?_
                          refine wl_unwanted rfl rfl h61 rfl ?_
                          refine wl_pickF rfl h61 rfl rfl ?_
                          refine wl_move rfl rfl ?_
                          refine wl_unwanted rfl rfl rfl rfl ?_
                          refine wl_unwanted rfl rfl rfl rfl ?_
                          refine wl_unwanted rfl rfl rfl rfl ?_
                          refine wl_pickF rfl rfl rfl rfl ?_
                          refine wl_move rfl rfl ?_
                          refine wl_unwanted rfl rfl rfl rfl ?_
                          refine wl_unwanted rfl rfl rfl rfl ?_
                          refine wl_pickF rfl rfl rfl rfl ?_
                          refine wl_move rfl rfl ?_
                          refine wl_unwanted rfl rfl rfl rfl ?_
                          refine wl_unwanted rfl rfl rfl rfl ?_
                          refine wl_pickF rfl rfl rfl rfl ?_
                          refine wl_move rfl rfl ?_
                          refine wl_unwanted rfl rfl rfl rfl ?_
                          refine wl_unwanted rfl rfl rfl rfl ?_
                          refine wl_pickF rfl rfl rfl rfl ?_
                          refine wl_nil ?_
                          refine qs_seq ?_
                          refine wc_sub (L' := [(171, _), (0, _), (3, _), (4, _), (5, _), (6, _), (7, _), (8, _)]) (.cons rfl (.cons rfl (.cons rfl (.cons rfl (.cons rfl (.cons rfl (.cons rfl (.cons rfl .nil)))))))) ?_
                          refine wc_condF rfl ?_
                          refine wc_skip ?_
                          refine qs_block_normal ?_
                          refine qs_seq ?_
                          refine wc_region ?_
                          refine wl_move rfl rfl ?_
                          refine wl_add rfl rfl (by first | omega | (simp; omega)) (by first | omega | (simp; omega)) rfl ?_
                          refine wl_assign rfl rfl ?_
                          refine wl_nil ?_
                          exact qs_round (L1 := [(0, _), (3, _), (4, _), (5, _), (6, _), (7, _), (8, intV ((i + 1 : Nat) : Int))]) (.cons rfl (.cons rfl (.cons rfl (.cons rfl (.cons rfl (.cons rfl (.cons rfl .nil))))))) (k1 := l.length - (i + 1)) (by omega) ⟨i + 1, _, _, _, _, rfl, rfl, hS35.pick [1, 3] rfl, by omega, hP.doP (o := { o with id := [120] }) (by simp), hE2⟩
                      · skip
                        refine wl_unwanted rfl rfl (decide_eq_false h60) rfl ?_
                        refine wl_pickF rfl (decide_eq_false h60) rfl rfl ?_
                        refine wl_move rfl rfl ?_
                        refine wl_unwanted rfl rfl rfl rfl ?_
                        refine wl_unwanted rfl rfl rfl rfl ?_
                        refine wl_unwanted rfl rfl rfl rfl ?_
                        refine wl_pickF rfl rfl rfl rfl ?_
                        refine wl_move rfl rfl ?_
                        refine wl_unwanted rfl rfl rfl rfl ?_
                        refine wl_unwanted rfl rfl rfl rfl ?_
                        refine wl_unwanted rfl rfl rfl rfl ?_
                        refine wl_pickF rfl rfl rfl rfl ?_
                        refine wl_move rfl rfl ?_
                        refine wl_unwanted rfl rfl rfl rfl ?_
                        refine wl_unwanted rfl rfl rfl rfl ?_
                        refine wl_pickF rfl rfl rfl rfl ?_
                        refine wl_move rfl rfl ?_
                        refine wl_unwanted rfl rfl rfl rfl ?_
                        refine wl_unwanted rfl rfl rfl rfl ?_
                        refine wl_pickF rfl rfl rfl rfl ?_
                        refine wl_move rfl rfl ?_
                        refine wl_unwanted rfl rfl rfl rfl ?_
                        refine wl_unwanted rfl rfl rfl rfl ?_
                        refine wl_pickF rfl rfl rfl rfl ?_
                        refine wl_nil ?_
                        refine qs_seq ?_
                        refine wc_sub (L' := [(171, _), (0, _), (3, _), (4, _), (5, _), (6, _), (7, _), (8, _)]) (.cons rfl (.cons rfl (.cons rfl (.cons rfl (.cons rfl (.cons rfl (.cons rfl (.cons rfl .nil)))))))) ?_
                        refine wc_condF rfl ?_
                        refine wc_skip ?_
                        refine qs_block_normal ?_
                        refine qs_seq ?_
                        refine wc_region ?_
                        refine wl_move rfl rfl ?_
                        refine wl_add rfl rfl (by first | omega | (simp; omega)) (by first | omega | (simp; omega)) rfl ?_
                        refine wl_assign rfl rfl ?_
                        refine wl_nil ?_
                        exact qs_round (L1 := [(0, _), (3, _), (4, _), (5, _), (6, _), (7, _), (8, intV ((i + 1 : Nat) : Int))]) (.cons rfl (.cons rfl (.cons rfl (.cons rfl (.cons rfl (.cons rfl (.cons rfl .nil))))))) (k1 := l.length - (i + 1)) (by omega) ⟨i + 1, _, _, _, _, rfl, rfl, hS35.pick [1, 3] rfl, by omega, hP.doP (o := { o with id := [120] }) (by simp), hE2⟩
                · skip
                  refine wl_unwanted rfl rfl (decide_eq_false h41) rfl ?_
                  refine wl_unwanted rfl rfl (decide_eq_false h41) rfl ?_
                  refine wl_unwanted rfl rfl (decide_eq_false h41) rfl ?_
                  refine wl_unwanted rfl rfl (decide_eq_false h41) rfl ?_
                  refine wl_unwanted rfl rfl (decide_eq_false h41) rfl ?_
                  refine wl_pickF rfl (decide_eq_false h41) rfl rfl ?_
                  refine wl_move rfl rfl ?_
                  refine wl_guard rfl rfl rfl ?_
                  refine wl_move rfl rfl ?_
                  refine wl_guard rfl rfl rfl ?_
                  refine wl_eql rfl rfl rfl ?_
                  refine wl_guard rfl rfl rfl ?_
                  refine wl_move rfl rfl ?_
                  refine wl_splitD 136 rfl (fun h67 => ?_) (fun h67 => ?_)
                  · skip
                    refine wl_guard rfl rfl (decide_eq_true h67) ?_
                    refine wl_move rfl rfl ?_
                    refine wl_guard rfl rfl (decide_eq_true h67) ?_
                    refine wl_eql rfl rfl rfl ?_
                    refine wl_guard rfl rfl rfl ?_
                    refine wl_pickT rfl (decide_eq_true h67) rfl rfl ?_
                    refine wl_guard rfl rfl rfl ?_
                    refine wl_move rfl rfl ?_
                    refine wl_splitD 140 rfl (fun h68 => ?_) (fun h68 => ?_)
                    · skip
                      refine wl_guard rfl rfl (decide_eq_true h68) ?_
                      refine wl_move rfl rfl ?_
                      refine wl_guard rfl rfl (decide_eq_true h68) ?_
                      refine wl_neq rfl rfl rfl ?_
                      refine wl_guard rfl rfl rfl ?_
                      refine wl_pickT rfl (decide_eq_true h68) rfl rfl ?_
                      refine wl_pickF rfl rfl rfl rfl ?_
                      refine wl_nil ?_
                      refine qs_seq ?_
                      refine wc_sub (L' := [(144, _), (15, _), (0, _), (3, _), (4, _), (5, _), (6, _), (7, _), (8, _), (9, _), (12, _), (13, _)]) (.cons rfl (.cons rfl (.cons rfl (.cons rfl (.cons rfl (.cons rfl (.cons rfl (.cons rfl (.cons rfl (.cons rfl (.cons rfl (.cons rfl .nil)))))))))))) ?_
                      refine wc_condD rfl (fun h69 => ?_) (fun h69 => ?_)
                      · skip
                        exact absurd ((hkw (by assumption)).2 (by assumption)) h69
                      · skip
                        refine wc_skip ?_
                        refine qs_seq ?_
                        refine wc_seq ?_
                        refine wc_region ?_
                        refine wl_move rfl rfl ?_
                        refine wl_eql rfl rfl rfl ?_
                        refine wl_move rfl rfl ?_
                        refine wl_splitD 147 rfl (fun h70 => ?_) (fun h70 => ?_)
                        · skip
                          refine wl_guard rfl rfl (decide_eq_true h70) ?_
                          refine wl_move rfl rfl ?_
                          refine wl_pickT rfl (decide_eq_true h70) rfl rfl ?_
                          refine wl_move rfl rfl ?_
                          refine wl_split 150 rfl (fun h71 => ?_) (fun h71 => ?_)
                          · skip
                            refine wl_guard rfl rfl h71 ?_
                            refine wl_fieldAddr rfl fo_31_3 rfl ?_
                            refine wl_guard rfl rfl h71 ?_
                            refine wl_load rfl ag_3 (by first | assumption | exact hS35.cell 0 rfl rfl | exact hS35.cell 2 rfl rfl) rfl ?_
                            refine wl_guard rfl rfl h71 ?_
                            refine wl_gtr rfl rfl rfl ?_
                            refine wl_pickT rfl h71 rfl rfl ?_
                            refine wl_move rfl rfl ?_
                            refine wl_splitD 155 rfl (fun h72 => ?_) (fun h72 => ?_)
                            · skip
                              refine wl_guard rfl rfl (decide_eq_true h72) ?_
                              refine wl_fieldAddr rfl fo_39_0 rfl ?_
                              refine wl_guard rfl rfl (decide_eq_true h72) ?_
                              refine wl_load rfl ag_9 (by first | assumption | exact hS35.cell 0 rfl rfl | exact hS35.cell 2 rfl rfl) rfl ?_
                              refine wl_guard rfl rfl (decide_eq_true h72) ?_
                              refine wl_eqlS rfl rfl rfl ?_
                              refine wl_pickT rfl (decide_eq_true h72) rfl rfl ?_
                              refine wl_move rfl rfl ?_
                              refine wl_splitD 160 rfl (fun h73 => ?_) (fun h73 => ?_)
                              · skip
                                refine wl_guard rfl rfl (decide_eq_true h73) ?_
                                refine wl_move rfl rfl ?_
                                refine wl_guard rfl rfl (decide_eq_true h73) ?_
                                refine wl_eql rfl rfl rfl ?_
                                refine wl_pickT rfl (decide_eq_true h73) rfl rfl ?_
                                refine wl_move rfl rfl ?_
                                refine wl_splitD 164 rfl (fun h74 => ?_) (fun h74 => ?_)
                                · skip
                                  refine wl_guard rfl rfl (decide_eq_true h74) ?_
                                  refine wl_move rfl rfl ?_
                                  refine wl_guard rfl rfl (decide_eq_true h74) ?_
                                  refine wl_neq rfl rfl rfl ?_
                                  refine wl_pickT rfl (decide_eq_true h74) rfl rfl ?_
                                  refine wl_move rfl rfl ?_
                                  refine wl_splitD 168 rfl (fun h75 => ?_) (fun h75 => ?_)
                                  · skip
                                    refine wl_guard rfl rfl (decide_eq_true h75) ?_
                                    refine wl_move rfl rfl ?_
                                    refine wl_guard rfl rfl (decide_eq_true h75) ?_
                                    refine wl_neq rfl rfl rfl ?_
                                    refine wl_pickT rfl (decide_eq_true h75) rfl rfl ?_
                                    refine wl_nil ?_
                                    refine qs_seq ?_
                                    refine wc_sub (L' := [(171, _), (0, _), (3, _), (4, _), (5, _), (6, _), (7, _), (8, _)]) (.cons rfl (.cons rfl (.cons rfl (.cons rfl (.cons rfl (.cons rfl (.cons rfl (.cons rfl .nil)))))))) ?_
                                    refine wc_condD rfl (fun h76 => ?_) (fun h76 => ?_)
                                    · skip
                                      exfalso; rcases hkr (by assumption) (by assumption) with q | q <;> contradiction
                                    · skip
                                      refine wc_skip ?_
                                      refine qs_block_normal ?_
                                      refine qs_seq ?_
                                      refine wc_region ?_
                                      refine wl_move rfl rfl ?_
                                      refine wl_add rfl rfl (by first | omega | (simp; omega)) (by first | omega | (simp; omega)) rfl ?_
                                      refine wl_assign rfl rfl ?_
                                      refine wl_nil ?_
                                      exact qs_round (L1 := [(0, _), (3, _), (4, _), (5, _), (6, _), (7, _), (8, intV ((i + 1 : Nat) : Int))]) (.cons rfl (.cons rfl (.cons rfl (.cons rfl (.cons rfl (.cons rfl (.cons rfl .nil))))))) (k1 := l.length - (i + 1)) (by omega) ⟨i + 1, _, _, _, _, rfl, rfl, hS35.pick [1, 3] rfl, by omega, hP.doP (o := { o with id := [120] }) (by simp), hE2⟩
                                  · skip
                                    refine wl_unwanted rfl rfl (decide_eq_false h75) rfl ?_
                                    refine wl_unwanted rfl rfl (decide_eq_false h75) rfl ?_
                                    refine wl_pickF rfl (decide_eq_false h75) rfl rfl ?_
                                    refine wl_nil ?_
                                    refine qs_seq ?_
                                    refine wc_sub (L' := [(171, _), (0, _), (3, _), (4, _), (5, _), (6, _), (7, _), (8, _)]) (.cons rfl (.cons rfl (.cons rfl (.cons rfl (.cons rfl (.cons rfl (.cons rfl (.cons rfl .nil)))))))) ?_
                                    refine wc_condF rfl ?_
                                    refine wc_skip ?_
                                    refine qs_block_normal ?_
                                    refine qs_seq ?_
                                    refine wc_region ?_
                                    refine wl_move rfl rfl ?_
                                    refine wl_add rfl rfl (by first | omega | (simp; omega)) (by first | omega | (simp; omega)) rfl ?_
                                    refine wl_assign rfl rfl ?_
                                    refine wl_nil ?_
                                    exact qs_round (L1 := [(0, _), (3, _), (4, _), (5, _), (6, _), (7, _), (8, intV ((i + 1 : Nat) : Int))]) (.cons rfl (.cons rfl (.cons rfl (.cons rfl (.cons rfl (.cons rfl (.cons rfl .nil))))))) (k1 := l.length - (i + 1)) (by omega) ⟨i + 1, _, _, _, _, rfl, rfl, hS35.pick [1, 3] rfl, by omega, hP.doP (o := { o with id := [120] }) (by simp), hE2⟩
                                · skip
                                  refine wl_unwanted rfl rfl (decide_eq_false h74) rfl ?_
                                  refine wl_unwanted rfl rfl (decide_eq_false h74) rfl ?_
                                  refine wl_pickF rfl (decide_eq_false h74) rfl rfl ?_
                                  refine wl_move rfl rfl ?_
                                  refine wl_unwanted rfl rfl rfl rfl ?_
                                  refine wl_unwanted rfl rfl rfl rfl ?_
                                  refine wl_pickF rfl rfl rfl rfl ?_
                                  refine wl_nil ?_
                                  refine qs_seq ?_
                                  refine wc_sub (L' := [(171, _), (0, _), (3, _), (4, _), (5, _), (6, _), (7, _), (8, _)]) (.cons rfl (.cons rfl (.cons rfl (.cons rfl (.cons rfl (.cons rfl (.cons rfl (.cons rfl .nil)))))))) ?_
                                  refine wc_condF rfl ?_
                                  refine wc_skip ?_
                                  refine qs_block_normal ?_
                                  refine qs_seq ?_
                                  refine wc_region ?_
                                  refine wl_move rfl rfl ?_
                                  refine wl_add rfl rfl (by first | omega | (simp; omega)) (by first | omega | (simp; omega)) rfl ?_
                                  refine wl_assign rfl rfl ?_
                                  refine wl_nil ?_
                                  exact qs_round (L1 := [(0, _), (3, _), (4, _), (5, _), (6, _), (7, _), (8, intV ((i + 1 : Nat) : Int))]) (.cons rfl (.cons rfl (.cons rfl (.cons rfl (.cons rfl (.cons rfl (.cons rfl .nil))))))) (k1 := l.length - (i + 1)) (by omega) ⟨i + 1, _, _, _, _, rfl, rfl, hS35.pick [1, 3] rfl, by omega, hP.doP (o := { o with id := [120] }) (by simp), hE2⟩
                              · skip
                                refine wl_unwanted rfl rfl (decide_eq_false h73) rfl ?_
                                refine wl_unwanted rfl rfl (decide_eq_false h73) rfl ?_
                                refine wl_pickF rfl (decide_eq_false h73) rfl rfl ?_
                                refine wl_move rfl rfl ?_
                                refine wl_unwanted rfl rfl rfl rfl ?_
                                refine wl_unwanted rfl rfl rfl rfl ?_
                                refine wl_pickF rfl rfl rfl rfl ?_
                                refine wl_move rfl rfl ?_
                                refine wl_unwanted rfl rfl rfl rfl ?_
                                refine wl_unwanted rfl rfl rfl rfl ?_
                                refine wl_pickF rfl rfl rfl rfl ?_
                                refine wl_nil ?_
                                refine qs_seq ?_
                                refine wc_sub (L' := [(171, _), (0, _), (3, _), (4, _), (5, _), (6, _), (7, _), (8, _)]) (.cons rfl (.cons rfl (.cons rfl (.cons rfl (.cons rfl (.cons rfl (.cons rfl (.cons rfl .nil)))))))) ?_
                                refine wc_condF rfl ?_
                                refine wc_skip ?_
                                refine qs_block_normal ?_
                                refine qs_seq ?_
                                refine wc_region ?_
                                refine wl_move rfl rfl ?_
                                refine wl_add rfl rfl (by first | omega | (simp; omega)) (by first | omega | (simp; omega)) rfl ?_
                                refine wl_assign rfl rfl ?_
                                refine wl_nil ?_
                                exact qs_round (L1 := [(0, _), (3, _), (4, _), (5, _), (6, _), (7, _), (8, intV ((i + 1 : Nat) : Int))]) (.cons rfl (.cons rfl (.cons rfl (.cons rfl (.cons rfl (.cons rfl (.cons rfl .nil))))))) (k1 := l.length - (i + 1)) (by omega) ⟨i + 1, _, _, _, _, rfl, rfl, hS35.pick [1, 3] rfl, by omega, hP.doP (o := { o with id := [120] }) (by simp), hE2⟩
                            · skip
                              refine wl_unwanted rfl rfl (decide_eq_false h72) rfl ?_
                              refine wl_unwanted rfl rfl (decide_eq_false h72) rfl ?_
                              refine wl_unwanted rfl rfl (decide_eq_false h72) rfl ?_
                              refine wl_pickF rfl (decide_eq_false h72) rfl rfl ?_
                              refine wl_move rfl rfl ?_
                              refine wl_unwanted rfl rfl rfl rfl ?_
                              refine wl_unwanted rfl rfl rfl rfl ?_
                              refine wl_pickF rfl rfl rfl rfl ?_
                              refine wl_move rfl rfl ?_
                              refine wl_unwanted rfl rfl rfl rfl ?_
                              refine wl_unwanted rfl rfl rfl rfl ?_
                              refine wl_pickF rfl rfl rfl rfl ?_
                              refine wl_move rfl rfl ?_
                              refine wl_unwanted rfl rfl rfl rfl ?_
                              refine wl_unwanted rfl rfl rfl rfl ?_
                              refine wl_pickF rfl rfl rfl rfl ?_
                              refine wl_nil ?_
                              refine qs_seq ?_
                              refine wc_sub (L' := [(171, _), (0, _), (3, _), (4, _), (5, _), (6, _), (7, _), (8, _)]) (.cons rfl (.cons rfl (.cons rfl (.cons rfl (.cons rfl (.cons rfl (.cons rfl (.cons rfl .nil)))))))) ?_
                              refine wc_condF rfl ?_
                              refine wc_skip ?_
                              refine qs_block_normal ?_
                              refine qs_seq ?_
                              refine wc_region ?_
                              refine wl_move rfl rfl ?_
                              refine wl_add rfl rfl (by first | omega | (simp; omega)) (by first | omega | (simp; omega)) rfl ?_
                              refine wl_assign rfl rfl ?_
                              refine wl_nil ?_
                              exact qs_round (L1 := [(0, _), (3, _), (4, _), (5, _), (6, _), (7, _), (8, intV ((i + 1 : Nat) : Int))]) (.cons rfl (.cons rfl (.cons rfl (.cons rfl (.cons rfl (.cons rfl (.cons rfl .nil))))))) (k1 := l.length - (i + 1)) (by omega) ⟨i + 1, _, _, _, _, rfl, rfl, hS35.pick [1, 3] rfl, by omega, hP.doP (o := { o with id := [120] }) (by simp), hE2⟩
                          · skip
                            refine wl_unwanted rfl rfl h71 rfl ?_
                            refine wl_unwanted rfl rfl h71 rfl ?_
                            refine wl_unwanted rfl rfl h71 rfl ?_
                            refine wl_pickF rfl h71 rfl rfl ?_
                            refine wl_move rfl rfl ?_
                            refine wl_unwanted rfl rfl rfl rfl ?_
                            refine wl_unwanted rfl rfl rfl rfl ?_
                            refine wl_unwanted rfl rfl rfl rfl ?_
                            refine wl_pickF rfl rfl rfl rfl ?_
                            refine wl_move rfl rfl ?_
                            refine wl_unwanted rfl rfl rfl rfl ?_
                            refine wl_unwanted rfl rfl rfl rfl ?_
                            refine wl_pickF rfl rfl rfl rfl ?_
                            refine wl_move rfl rfl ?_
                            refine wl_unwanted rfl rfl rfl rfl ?_
                            refine wl_unwanted rfl rfl rfl rfl ?_
                            refine wl_pickF rfl rfl rfl rfl ?_
                            refine wl_move rfl rfl ?_
                            refine wl_unwanted rfl rfl rfl rfl ?_
                            refine wl_unwanted rfl rfl rfl rfl ?_
                            refine wl_pickF rfl rfl rfl rfl ?_
                            refine wl_nil ?_
                            refine qs_seq ?_
                            refine wc_sub (L' := [(171, _), (0, _), (3, _), (4, _), (5, _), (6, _), (7, _), (8, _)]) (.cons rfl (.cons rfl (.cons rfl (.cons rfl (.cons rfl (.cons rfl (.cons rfl (.cons rfl .nil)))))))) ?_
                            refine wc_condF rfl ?_
                            refine wc_skip ?_
                            refine qs_block_normal ?_
                            refine qs_seq ?_
                            refine wc_region ?_
                            refine wl_move rfl rfl ?_
                            refine wl_add rfl rfl (by first | omega | (simp; omega)) (by first | omega | (simp; omega)) rfl ?_
                            refine wl_assign rfl rfl ?_
                            refine wl_nil ?_
                            exact qs_round (L1 := [(0, _), (3, _), (4, _), (5, _), (6, _), (7, _), (8, intV ((i + 1 : Nat) : Int))]) (.cons rfl (.cons rfl (.cons rfl (.cons rfl (.cons rfl (.cons rfl (.cons rfl .nil))))))) (k1 := l.length - (i + 1)) (by omega) ⟨i + 1, _, _, _, _, rfl, rfl, hS35.pick [1, 3] rfl, by omega, hP.doP (o := { o with id := [120] }) (by simp), hE2⟩
                        · skip
                          refine wl_unwanted rfl rfl (decide_eq_false h70) rfl ?_
                          refine wl_pickF rfl (decide_eq_false h70) rfl rfl ?_
                          refine wl_move rfl rfl ?_
                          refine wl_unwanted rfl rfl rfl rfl ?_
                          refine wl_unwanted rfl rfl rfl rfl ?_
                          refine wl_unwanted rfl rfl rfl rfl ?_
                          refine wl_pickF rfl rfl rfl rfl ?_
                          refine wl_move rfl rfl ?_
                          refine wl_unwanted rfl rfl rfl rfl ?_
                          refine wl_unwanted rfl rfl rfl rfl ?_
                          refine wl_unwanted rfl rfl rfl rfl ?_
                          refine wl_pickF rfl rfl rfl rfl ?_
                          refine wl_move rfl rfl ?_
                          refine wl_unwanted rfl rfl rfl rfl ?_
                          refine wl_unwanted rfl rfl rfl rfl ?_
                          refine wl_pickF rfl rfl rfl rfl ?_
                          refine wl_move rfl rfl ?_
                          refine wl_unwanted rfl rfl rfl rfl ?_
                          refine wl_unwanted rfl rfl rfl rfl ?_
                          refine wl_pickF rfl rfl rfl rfl ?_
                          refine wl_move rfl rfl ?_
                          refine wl_unwanted rfl rfl rfl rfl ?_
                          refine wl_unwanted rfl rfl rfl rfl ?_
                          refine wl_pickF rfl rfl rfl rfl ?_
                          refine wl_nil ?_
                          refine qs_seq ?_
                          refine wc_sub (L' := [(171, _), (0, _), (3, _), (4, _), (5, _), (6, _), (7, _), (8, _)]) (.cons rfl (.cons rfl (.cons rfl (.cons rfl (.cons rfl (.cons rfl (.cons rfl (.cons rfl .nil)))))))) ?_
                          refine wc_condF rfl ?_
                          refine wc_skip ?_
                          refine qs_block_normal ?_
                          refine qs_seq ?_
                          refine wc_region ?_
                          refine wl_move rfl rfl ?_
                          refine wl_add rfl rfl (by first | omega | (simp; omega)) (by first | omega | (simp; omega)) rfl ?_
                          refine wl_assign rfl rfl ?_
                          refine wl_nil ?_
                          exact qs_round (L1 := [(0, _), (3, _), (4, _), (5, _), (6, _), (7, _), (8, intV ((i + 1 : Nat) : Int))]) (.cons rfl (.cons rfl (.cons rfl (.cons rfl (.cons rfl (.cons rfl (.cons rfl .nil))))))) (k1 := l.length - (i + 1)) (by omega) ⟨i + 1, _, _, _, _, rfl, rfl, hS35.pick [1, 3] rfl, by omega, hP.doP (o := { o with id := [120] }) (by simp), hE2⟩
                    · skip
                      refine wl_unwanted rfl rfl (decide_eq_false h68) rfl ?_
                      refine wl_unwanted rfl rfl (decide_eq_false h68) rfl ?_
                      refine wl_guard rfl rfl rfl ?_
                      refine wl_pickF rfl (decide_eq_false h68) rfl rfl ?_
                      refine wl_pickF rfl rfl rfl rfl ?_
                      refine wl_nil ?_
                      refine qs_seq ?_
                      refine wc_sub (L' := [(144, _), (15, _), (0, _), (3, _), (4, _), (5, _), (6, _), (7, _), (8, _), (9, _), (12, _), (13, _)]) (.cons rfl (.cons rfl (.cons rfl (.cons rfl (.cons rfl (.cons rfl (.cons rfl (.cons rfl (.cons rfl (.cons rfl (.cons rfl (.cons rfl .nil)))))))))))) ?_
                      refine wc_condF rfl ?_
                      refine wc_skip ?_
                      refine qs_seq ?_
                      refine wc_seq ?_
                      refine wc_region ?_
                      refine wl_move rfl rfl ?_
                      refine wl_eql rfl rfl rfl ?_
                      refine wl_move rfl rfl ?_
                      refine wl_splitD 147 rfl (fun h77 => ?_) (fun h77 => ?_)
                      · skip
                        refine wl_guard rfl rfl (decide_eq_true h77) ?_
                        refine wl_move rfl rfl ?_
                        refine wl_pickT rfl (decide_eq_true h77) rfl rfl ?_
                        refine wl_move rfl rfl ?_
                        refine wl_split 150 rfl (fun h78 => ?_) (fun h78 => ?_)
                        · skip
                          refine wl_guard rfl rfl h78 ?_
                          refine wl_fieldAddr rfl fo_31_3 rfl ?_
                          refine wl_guard rfl rfl h78 ?_
                          refine wl_load rfl ag_3 (by first | assumption | exact hS35.cell 0 rfl rfl | exact hS35.cell 2 rfl rfl) rfl ?_
                          refine wl_guard rfl rfl h78 ?_
                          refine wl_gtr rfl rfl rfl ?_
                          refine wl_pickT rfl h78 rfl rfl ?_
                          refine wl_move rfl rfl ?_
                          refine wl_splitD 155 rfl (fun h79 => ?_) (fun h79 => ?_)
                          · skip
                            refine wl_guard rfl rfl (decide_eq_true h79) ?_
                            refine wl_fieldAddr rfl fo_39_0 rfl ?_
                            refine wl_guard rfl rfl (decide_eq_true h79) ?_
                            refine wl_load rfl ag_9 (by first | assumption | exact hS35.cell 0 rfl rfl | exact hS35.cell 2 rfl rfl) rfl ?_
                            refine wl_guard rfl rfl (decide_eq_true h79) ?_
                            refine wl_eqlS rfl rfl rfl ?_
                            refine wl_pickT rfl (decide_eq_true h79) rfl rfl ?_
                            refine wl_move rfl rfl ?_
                            refine wl_splitD 160 rfl (fun h80 => ?_) (fun h80 => ?_)
                            · skip
                              refine wl_guard rfl rfl (decide_eq_true h80) ?_
                              refine wl_move rfl rfl ?_
                              refine wl_guard rfl rfl (decide_eq_true h80) ?_
                              refine wl_eql rfl rfl rfl ?_
                              refine wl_pickT rfl (decide_eq_true h80) rfl rfl ?_
                              refine wl_move rfl rfl ?_
                              refine wl_splitD 164 rfl (fun h81 => ?_) (fun h81 => ?_)
                              · skip
                                refine wl_guard rfl rfl (decide_eq_true h81) ?_
                                refine wl_move rfl rfl ?_
                                refine wl_guard rfl rfl (decide_eq_true h81) ?_
                                refine wl_neq rfl rfl rfl ?_
                                refine wl_pickT rfl (decide_eq_true h81) rfl rfl ?_
                                refine wl_move rfl rfl ?_
                                refine wl_splitD 168 rfl (fun h82 => ?_) (fun h82 => ?_)
                                · skip
                                  refine wl_guard rfl rfl (decide_eq_true h82) ?_
                                  refine wl_move rfl rfl ?_
                                  refine wl_guard rfl rfl (decide_eq_true h82) ?_
                                  refine wl_neq rfl rfl rfl ?_
                                  refine wl_pickT rfl (decide_eq_true h82) rfl rfl ?_
                                  refine wl_nil ?_
                                  refine qs_seq ?_
                                  refine wc_sub (L' := [(171, _), (0, _), (3, _), (4, _), (5, _), (6, _), (7, _), (8, _)]) (.cons rfl (.cons rfl (.cons rfl (.cons rfl (.cons rfl (.cons rfl (.cons rfl (.cons rfl .nil)))))))) ?_
                                  refine wc_condD rfl (fun h83 => ?_) (fun h83 => ?_)
                                  · skip
                                    exfalso; rcases hkr (by assumption) (by assumption) with q | q <;> contradiction
                                  · skip
                                    refine wc_skip ?_
                                    refine qs_block_normal ?_
                                    refine qs_seq ?_
                                    refine wc_region ?_
                                    refine wl_move rfl rfl ?_
                                    refine wl_add rfl rfl (by first | omega | (simp; omega)) (by first | omega | (simp; omega)) rfl ?_
                                    refine wl_assign rfl rfl ?_
                                    refine wl_nil ?_
                                    exact qs_round (L1 := [(0, _), (3, _), (4, _), (5, _), (6, _), (7, _), (8, intV ((i + 1 : Nat) : Int))]) (.cons rfl (.cons rfl (.cons rfl (.cons rfl (.cons rfl (.cons rfl (.cons rfl .nil))))))) (k1 := l.length - (i + 1)) (by omega) ⟨i + 1, _, _, _, _, rfl, rfl, hS35.pick [1, 3] rfl, by omega, hP.doP (o := { o with id := [120] }) (by simp), hE2⟩
                                · skip
                                  refine wl_unwanted rfl rfl (decide_eq_false h82) rfl ?_
                                  refine wl_unwanted rfl rfl (decide_eq_false h82) rfl ?_
                                  refine wl_pickF rfl (decide_eq_false h82) rfl rfl ?_
                                  refine wl_nil ?_
                                  refine qs_seq ?_
                                  refine wc_sub (L' := [(171, _), (0, _), (3, _), (4, _), (5, _), (6, _), (7, _), (8, _)]) (.cons rfl (.cons rfl (.cons rfl (.cons rfl (.cons rfl (.cons rfl (.cons rfl (.cons rfl .nil)))))))) ?_
                                  refine wc_condF rfl ?_
                                  refine wc_skip ?_
                                  refine qs_block_normal ?_
                                  refine qs_seq ?_
                                  refine wc_region ?_
                                  refine wl_move rfl rfl ?_
                                  refine wl_add rfl rfl (by first | omega | (simp; omega)) (by first | omega | (simp; omega)) rfl ?_
                                  refine wl_assign rfl rfl ?_
                                  refine wl_nil ?_
                                  exact qs_round (L1 := [(0, _), (3, _), (4, _), (5, _), (6, _), (7, _), (8, intV ((i + 1 : Nat) : Int))]) (.cons rfl (.cons rfl (.cons rfl (.cons rfl (.cons rfl (.cons rfl (.cons rfl .nil))))))) (k1 := l.length - (i + 1)) (by omega) ⟨i + 1, _, _, _, _, rfl, rfl, hS35.pick [1, 3] rfl, by omega, hP.doP (o := { o with id := [120] }) (by simp), hE2⟩
                              · skip
                                refine wl_unwanted rfl rfl (decide_eq_false h81) rfl ?_
                                refine wl_unwanted rfl rfl (decide_eq_false h81) rfl ?_
                                refine wl_pickF rfl (decide_eq_false h81) rfl rfl ?_
                                refine wl_move rfl rfl ?_
                                refine wl_unwanted rfl rfl rfl rfl ?_
                                refine wl_unwanted rfl rfl rfl rfl ?_
                                refine wl_pickF rfl rfl rfl rfl ?_
                                refine wl_nil ?_
                                refine qs_seq ?_
                                refine wc_sub (L' := [(171, _), (0, _), (3, _), (4, _), (5, _), (6, _), (7, _), (8, _)]) (.cons rfl (.cons rfl (.cons rfl (.cons rfl (.cons rfl (.cons rfl (.cons rfl (.cons rfl .nil)))))))) ?_
                                refine wc_condF rfl ?_
                                refine wc_skip ?_
                                refine qs_block_normal ?_
                                refine qs_seq ?_
                                refine wc_region ?_
                                refine wl_move rfl rfl ?_
                                refine wl_add rfl rfl (by first | omega | (simp; omega)) (by first | omega | (simp; omega)) rfl ?_
                                refine wl_assign rfl rfl ?_
                                refine wl_nil ?_
                                exact qs_round (L1 := [(0, _), (3, _), (4, _), (5, _), (6, _), (7, _), (8, intV ((i + 1 : Nat) : Int))]) (.cons rfl (.cons rfl (.cons rfl (.cons rfl (.cons rfl (.cons rfl (.cons rfl .nil))))))) (k1 := l.length - (i + 1)) (by omega) ⟨i + 1, _, _, _, _, rfl, rfl, hS35.pick [1, 3] rfl, by omega, hP.doP (o := { o with id := [120] }) (by simp), hE2⟩
                            · skip
                              refine wl_unwanted rfl rfl (decide_eq_false h80) rfl ?_
                              refine wl_unwanted rfl rfl (decide_eq_false h80) rfl ?_
                              refine wl_pickF rfl (decide_eq_false h80) rfl rfl ?_
                              refine wl_move rfl rfl ?_
                              refine wl_unwanted rfl rfl rfl rfl ?_
                              refine wl_unwanted rfl rfl rfl rfl ?_
                              refine wl_pickF rfl rfl rfl rfl ?_
                              refine wl_move rfl rfl ?_
                              refine wl_unwanted rfl rfl rfl rfl ?_
                              refine wl_unwanted rfl rfl rfl rfl ?_
                              refine wl_pickF rfl rfl rfl rfl ?_
                              refine wl_nil ?_
                              refine qs_seq ?_
                              refine wc_sub (L' := [(171, _), (0, _), (3, _), (4, _), (5, _), (6, _), (7, _), (8, _)]) (.cons rfl (.cons rfl (.cons rfl (.cons rfl (.cons rfl (.cons rfl (.cons rfl (.cons rfl .nil)))))))) ?_
                              refine wc_condF rfl ?_
                              refine wc_skip ?_
                              refine qs_block_normal ?_
                              refine qs_seq ?_
                              refine wc_region ?_
                              refine wl_move rfl rfl ?_
                              refine wl_add rfl rfl (by first | omega | (simp; omega)) (by first | omega | (simp; omega)) rfl ?_
                              refine wl_assign rfl rfl ?_
                              refine wl_nil ?_
                              exact qs_round (L1 := [(0, _), (3, _), (4, _), (5, _), (6, _), (7, _), (8, intV ((i + 1 : Nat) : Int))]) (.cons rfl (.cons rfl (.cons rfl (.cons rfl (.cons rfl (.cons rfl (.cons rfl .nil))))))) (k1 := l.length - (i + 1)) (by omega) ⟨i + 1, _, _, _, _, rfl, rfl, hS35.pick [1, 3] rfl, by omega, hP.doP (o := { o with id := [120] }) (by simp), hE2⟩
                          · skip
                            refine wl_unwanted rfl rfl (decide_eq_false h79) rfl ?_
                            refine wl_unwanted rfl rfl (decide_eq_false h79) rfl ?_
                            refine wl_unwanted rfl rfl (decide_eq_false h79) rfl ?_
                            refine wl_pickF rfl (decide_eq_false h79) rfl rfl ?_
                            refine wl_move rfl rfl ?_
                            refine wl_unwanted rfl rfl rfl rfl ?_
                            refine wl_unwanted rfl rfl rfl rfl ?_
                            refine wl_pickF rfl rfl rfl rfl ?_
                            refine wl_move rfl rfl ?_
                            refine wl_unwanted rfl rfl rfl rfl ?_
                            refine wl_unwanted rfl rfl rfl rfl ?_
                            refine wl_pickF rfl rfl rfl rfl ?_
                            refine wl_move rfl rfl ?_
                            refine wl_unwanted rfl rfl rfl rfl ?_
                            refine wl_unwanted rfl rfl rfl rfl ?_
                            refine wl_pickF rfl rfl rfl rfl ?_
                            refine wl_nil ?_
                            refine qs_seq ?_
                            refine wc_sub (L' := [(171, _), (0, _), (3, _), (4, _), (5, _), (6, _), (7, _), (8, _)]) (.cons rfl (.cons rfl (.cons rfl (.cons rfl (.cons rfl (.cons rfl (.cons rfl (.cons rfl .nil)))))))) ?_
                            refine wc_condF rfl ?_
                            refine wc_skip ?_
                            refine qs_block_normal ?_
                            refine qs_seq ?_
                            refine wc_region ?_
                            refine wl_move rfl rfl ?_
                            refine wl_add rfl rfl (by first | omega | (simp; omega)) (by first | omega | (simp; omega)) rfl ?_
                            refine wl_assign rfl rfl ?_
                            refine wl_nil ?_
                            exact qs_round (L1 := [(0, _), (3, _), (4, _), (5, _), (6, _), (7, _), (8, intV ((i + 1 : Nat) : Int))]) (.cons rfl (.cons rfl (.cons rfl (.cons rfl (.cons rfl (.cons rfl (.cons rfl .nil))))))) (k1 := l.length - (i + 1)) (by omega) ⟨i + 1, _, _, _, _, rfl, rfl, hS35.pick [1, 3] rfl, by omega, hP.doP (o := { o with id := [120] }) (by simp), hE2⟩
                        · skip
                          refine wl_unwanted rfl rfl h78 rfl ?_
                          refine wl_unwanted rfl rfl h78 rfl ?_
                          refine wl_unwanted rfl rfl h78 rfl ?_
                          refine wl_pickF rfl h78 rfl rfl ?_
                          refine wl_move rfl rfl ?_
                          refine wl_unwanted rfl rfl rfl rfl ?_
                          refine wl_unwanted rfl rfl rfl rfl ?_
                          refine wl_unwanted rfl rfl rfl rfl ?_
                          refine wl_pickF rfl rfl rfl rfl ?_
                          refine wl_move rfl rfl ?_
                          refine wl_unwanted rfl rfl rfl rfl ?_
                          refine wl_unwanted rfl rfl rfl rfl ?_
                          refine wl_pickF rfl rfl rfl rfl ?_
                          refine wl_move rfl rfl ?_
                          refine wl_unwanted rfl rfl rfl rfl ?_
                          refine wl_unwanted rfl rfl rfl rfl ?_
                          refine wl_pickF rfl rfl rfl rfl ?_
                          refine wl_move rfl rfl ?_
                          refine wl_unwanted rfl rfl rfl rfl ?_
                          refine wl_unwanted rfl rfl rfl rfl ?_
                          refine wl_pickF rfl rfl rfl rfl ?_
                          refine wl_nil ?_
                          refine qs_seq ?_
                          refine wc_sub (L' := [(171, _), (0, _), (3, _), (4, _), (5, _), (6, _), (7, _), (8, _)]) (.cons rfl (.cons rfl (.cons rfl (.cons rfl (.cons rfl (.cons rfl (.cons rfl (.cons rfl .nil)))))))) ?_
                          refine wc_condF rfl ?_
                          refine wc_skip ?_
                          refine qs_block_normal ?_
                          refine qs_seq ?_
                          refine wc_region ?_
                          refine wl_move rfl rfl ?_
                          refine wl_add rfl rfl (by first | omega | (simp; omega)) (by first | omega | (simp; omega)) rfl ?_
                          refine wl_assign rfl rfl ?_
                          refine wl_nil ?_
                          exact qs_round (L1 := [(0, _), (3, _), (4, _), (5, _), (6, _), (7, _), (8, intV ((i + 1 : Nat) : Int))]) (.cons rfl (.cons rfl (.cons rfl (.cons rfl (.cons rfl (.cons rfl (.cons rfl .nil))))))) (k1 := l.length - (i + 1)) (by omega) ⟨i + 1, _, _, _, _, rfl, rfl, hS35.pick [1, 3] rfl, by omega, hP.doP (o := { o with id := [120] }) (by simp), hE2⟩
                      · skip
                        refine wl_unwanted rfl rfl (decide_eq_false h77) rfl ?_
                        refine wl_pickF rfl (decide_eq_false h77) rfl rfl ?_
                        refine wl_move rfl rfl ?_
                        refine wl_unwanted rfl rfl rfl rfl ?_
                        refine wl_unwanted rfl rfl rfl rfl ?_
                        refine wl_unwanted rfl rfl rfl rfl ?_
                        refine wl_pickF rfl rfl rfl rfl ?_
                        refine wl_move rfl rfl ?_
                        refine wl_unwanted rfl rfl rfl rfl ?_
                        refine wl_unwanted rfl rfl rfl rfl ?_
                        refine wl_unwanted rfl rfl rfl rfl ?_
                        refine wl_pickF rfl rfl rfl rfl ?_
                        refine wl_move rfl rfl ?_
                        refine wl_unwanted rfl rfl rfl rfl ?_
                        refine wl_unwanted rfl rfl rfl rfl ?_
                        refine wl_pickF rfl rfl rfl rfl ?_
                        refine wl_move rfl rfl ?_
                        refine wl_unwanted rfl rfl rfl rfl ?_
                        refine wl_unwanted rfl rfl rfl rfl ?_
                        refine wl_pickF rfl rfl rfl rfl ?_
                        refine wl_move rfl rfl ?_
                        refine wl_unwanted rfl rfl rfl rfl ?_
                        refine wl_unwanted rfl rfl rfl rfl ?_
                        refine wl_pickF rfl rfl rfl rfl ?_
                        refine wl_nil ?_
                        refine qs_seq ?_
                        refine wc_sub (L' := [(171, _), (0, _), (3, _), (4, _), (5, _), (6, _), (7, _), (8, _)]) (.cons rfl (.cons rfl (.cons rfl (.cons rfl (.cons rfl (.cons rfl (.cons rfl (.cons rfl .nil)))))))) ?_
                        refine wc_condF rfl ?_
                        refine wc_skip ?_
                        refine qs_block_normal ?_
                        refine qs_seq ?_
                        refine wc_region ?_
                        refine wl_move rfl rfl ?_
                        refine wl_add rfl rfl (by first | omega | (simp; omega)) (by first | omega | (simp; omega)) rfl ?_
                        refine wl_assign rfl rfl ?_
                        refine wl_nil ?_
                        exact qs_round (L1 := [(0, _), (3, _), (4, _), (5, _), (6, _), (7, _), (8, intV ((i + 1 : Nat) : Int))]) (.cons rfl (.cons rfl (.cons rfl (.cons rfl (.cons rfl (.cons rfl (.cons rfl .nil))))))) (k1 := l.length - (i + 1)) (by omega) ⟨i + 1, _, _, _, _, rfl, rfl, hS35.pick [1, 3] rfl, by omega, hP.doP (o := { o with id := [120] }) (by simp), hE2⟩
                  · skip
                    refine wl_unwanted rfl rfl (decide_eq_false h67) rfl ?_
                    refine wl_unwanted rfl rfl (decide_eq_false h67) rfl ?_
                    refine wl_guard rfl rfl rfl ?_
                    refine wl_pickF rfl (decide_eq_false h67) rfl rfl ?_
                    refine wl_guard rfl rfl rfl ?_
                    refine wl_move rfl rfl ?_
                    refine wl_unwanted rfl rfl rfl rfl ?_
                    refine wl_unwanted rfl rfl rfl rfl ?_
                    refine wl_guard rfl rfl rfl ?_
                    refine wl_pickF rfl rfl rfl rfl ?_
                    refine wl_pickF rfl rfl rfl rfl ?_
                    refine wl_nil ?_
                    refine qs_seq ?_
                    refine wc_sub (L' := [(144, _), (15, _), (0, _), (3, _), (4, _), (5, _), (6, _), (7, _), (8, _), (9, _), (12, _), (13, _)]) (.cons rfl (.cons rfl (.cons rfl (.cons rfl (.cons rfl (.cons rfl (.cons rfl (.cons rfl (.cons rfl (.cons rfl (.cons rfl (.cons rfl .nil)))))))))))) ?_
                    refine wc_condF rfl ?_
                    refine wc_skip ?_
                    refine qs_seq ?_
                    refine wc_seq ?_
                    refine wc_region ?_
                    refine wl_move rfl rfl ?_
                    refine wl_eql rfl rfl rfl ?_
                    refine wl_move rfl rfl ?_
                    refine wl_splitD 147 rfl (fun h84 => ?_) (fun h84 => ?_)
                    · skip
                      refine wl_guard rfl rfl (decide_eq_true h84) ?_
                      refine wl_move rfl rfl ?_
                      refine wl_pickT rfl (decide_eq_true h84) rfl rfl ?_
                      refine wl_move rfl rfl ?_
                      refine wl_split 150 rfl (fun h85 => ?_) (fun h85 => ?_)
                      · skip
                        refine wl_guard rfl rfl h85 ?_
                        refine wl_fieldAddr rfl fo_31_3 rfl ?_
                        refine wl_guard rfl rfl h85 ?_
                        refine wl_load rfl ag_3 (by first | assumption | exact hS35.cell 0 rfl rfl | exact hS35.cell 2 rfl rfl) rfl ?_
                        refine wl_guard rfl rfl h85 ?_
                        refine wl_gtr rfl rfl rfl ?_
                        refine wl_pickT rfl h85 rfl rfl ?_
                        refine wl_move rfl rfl ?_
                        refine wl_splitD 155 rfl (fun h86 => ?_) (fun h86 => ?_)
                        · skip
                          refine wl_guard rfl rfl (decide_eq_true h86) ?_
                          refine wl_fieldAddr rfl fo_39_0 rfl ?_
                          refine wl_guard rfl rfl (decide_eq_true h86) ?_
                          refine wl_load rfl ag_9 (by first | assumption | exact hS35.cell 0 rfl rfl | exact hS35.cell 2 rfl rfl) rfl ?_
                          refine wl_guard rfl rfl (decide_eq_true h86) ?_
                          refine wl_eqlS rfl rfl rfl ?_
                          refine wl_pickT rfl (decide_eq_true h86) rfl rfl ?_
                          refine wl_move rfl rfl ?_
                          refine wl_splitD 160 rfl (fun h87 => ?_) (fun h87 => ?_)
                          · skip
                            refine wl_guard rfl rfl (decide_eq_true h87) ?_
                            refine wl_move rfl rfl ?_
                            refine wl_guard rfl rfl (decide_eq_true h87) ?_
                            refine wl_eql rfl rfl rfl ?_
                            refine wl_pickT rfl (decide_eq_true h87) rfl rfl ?_
                            refine wl_move rfl rfl ?_
                            refine wl_splitD 164 rfl (fun h88 => ?_) (fun h88 => ?_)
                            · skip
                              refine wl_guard rfl rfl (decide_eq_true h88) ?_
                              refine wl_move rfl rfl ?_
                              refine wl_guard rfl rfl (decide_eq_true h88) ?_
                              refine wl_neq rfl rfl rfl ?_
                              refine wl_pickT rfl (decide_eq_true h88) rfl rfl ?_
                              refine wl_move rfl rfl ?_
                              refine wl_splitD 168 rfl (fun h89 => ?_) (fun h89 => ?_)
                              · skip
                                refine wl_guard rfl rfl (decide_eq_true h89) ?_
                                refine wl_move rfl rfl ?_
                                refine wl_guard rfl rfl (decide_eq_true h89) ?_
                                refine wl_neq rfl rfl rfl ?_
                                refine wl_pickT rfl (decide_eq_true h89) rfl rfl ?_
                                refine wl_nil ?_
                                refine qs_seq ?_
                                refine wc_sub (L' := [(171, _), (0, _), (3, _), (4, _), (5, _), (6, _), (7, _), (8, _)]) (.cons rfl (.cons rfl (.cons rfl (.cons rfl (.cons rfl (.cons rfl (.cons rfl (.cons rfl .nil)))))))) ?_
                                refine wc_condD rfl (fun h90 => ?_) (fun h90 => ?_)
                                · skip
                                  exfalso; rcases hkr (by assumption) (by assumption) with q | q <;> contradiction
                                · skip
                                  refine wc_skip ?_
                                  refine qs_block_normal ?_
                                  refine qs_seq ?_
                                  refine wc_region ?_
                                  refine wl_move rfl rfl ?_
                                  refine wl_add rfl rfl (by first | omega | (simp; omega)) (by first | omega | (simp; omega)) rfl ?_
                                  refine wl_assign rfl rfl ?_
                                  refine wl_nil ?_
                                  exact qs_round (L1 := [(0, _), (3, _), (4, _), (5, _), (6, _), (7, _), (8, intV ((i + 1 : Nat) : Int))]) (.cons rfl (.cons rfl (.cons rfl (.cons rfl (.cons rfl (.cons rfl (.cons rfl .nil))))))) (k1 := l.length - (i + 1)) (by omega) ⟨i + 1, _, _, _, _, rfl, rfl, hS35.pick [1, 3] rfl, by omega, hP.doP (o := { o with id := [120] }) (by simp), hE2⟩
                              · skip
                                refine wl_unwanted rfl rfl (decide_eq_false h89) rfl ?_
                                refine wl_unwanted rfl rfl (decide_eq_false h89) rfl ?_
                                refine wl_pickF rfl (decide_eq_false h89) rfl rfl ?_
                                refine wl_nil ?_
                                refine qs_seq ?_
                                refine wc_sub (L' := [(171, _), (0, _), (3, _), (4, _), (5, _), (6, _), (7, _), (8, _)]) (.cons rfl (.cons rfl (.cons rfl (.cons rfl (.cons rfl (.cons rfl (.cons rfl (.cons rfl .nil)))))))) ?_
                                refine wc_condF rfl ?_
                                refine wc_skip ?_
                                refine qs_block_normal ?_
                                refine qs_seq ?_
                                refine wc_region ?_
                                refine wl_move rfl rfl ?_
                                refine wl_add rfl rfl (by first | omega | (simp; omega)) (by first | omega | (simp; omega)) rfl ?_
                                refine wl_assign rfl rfl ?_
                                refine wl_nil ?_
                                exact qs_round (L1 := [(0, _), (3, _), (4, _), (5, _), (6, _), (7, _), (8, intV ((i + 1 : Nat) : Int))]) (.cons rfl (.cons rfl (.cons rfl (.cons rfl (.cons rfl (.cons rfl (.cons rfl .nil))))))) (k1 := l.length - (i + 1)) (by omega) ⟨i + 1, _, _, _, _, rfl, rfl, hS35.pick [1, 3] rfl, by omega, hP.doP (o := { o with id := [120] }) (by simp), hE2⟩
                            · skip
                              refine wl_unwanted rfl rfl (decide_eq_false h88) rfl ?_
                              refine wl_unwanted rfl rfl (decide_eq_false h88) rfl ?_
                              refine wl_pickF rfl (decide_eq_false h88) rfl rfl ?_
                              refine wl_move rfl rfl ?_
                              refine wl_unwanted rfl rfl rfl rfl ?_
                              refine wl_unwanted rfl rfl rfl rfl ?_
                              refine wl_pickF rfl rfl rfl rfl ?_
                              refine wl_nil ?_
                              refine qs_seq ?_
                              refine wc_sub (L' := [(171, _), (0, _), (3, _), (4, _), (5, _), (6, _), (7, _), (8, _)]) (.cons rfl (.cons rfl (.cons rfl (.cons rfl (.cons rfl (.cons rfl (.cons rfl (.cons rfl .nil)))))))) ?_
                              refine wc_condF rfl ?_
                              refine wc_skip ?_
                              refine qs_block_normal ?_
                              refine qs_seq ?_
                              refine wc_region ?_
                              refine wl_move rfl rfl ?_
                              refine wl_add rfl rfl (by first | omega | (simp; omega)) (by first | omega | (simp; omega)) rfl ?_
                              refine wl_assign rfl rfl ?_
                              refine wl_nil ?_
                              exact qs_round (L1 := [(0, _), (3, _), (4, _), (5, _), (6, _), (7, _), (8, intV ((i + 1 : Nat) : Int))]) (.cons rfl (.cons rfl (.cons rfl (.cons rfl (.cons rfl (.cons rfl (.cons rfl .nil))))))) (k1 := l.length - (i + 1)) (by omega) ⟨i + 1, _, _, _, _, rfl, rfl, hS35.pick [1, 3] rfl, by omega, hP.doP (o := { o with id := [120] }) (by simp), hE2⟩
                          · skip
                            refine wl_unwanted rfl rfl (decide_eq_false h87) rfl ?_
                            refine wl_unwanted rfl rfl (decide_eq_false h87) rfl ?_
                            refine wl_pickF rfl (decide_eq_false h87) rfl rfl ?_
                            refine wl_move rfl rfl ?_
                            refine wl_unwanted rfl rfl rfl rfl ?_
                            refine wl_unwanted rfl rfl rfl rfl ?_
                            refine wl_pickF rfl rfl rfl rfl ?_
                            refine wl_move rfl rfl ?_
                            refine wl_unwanted rfl rfl rfl rfl ?_
                            refine wl_unwanted rfl rfl rfl rfl ?_
                            refine wl_pickF rfl rfl rfl rfl ?_
                            refine wl_nil ?_
                            refine qs_seq ?_
                            refine wc_sub (L' := [(171, _), (0, _), (3, _), (4, _), (5, _), (6, _), (7, _), (8, _)]) (.cons rfl (.cons rfl (.cons rfl (.cons rfl (.cons rfl (.cons rfl (.cons rfl (.cons rfl .nil)))))))) ?_
                            refine wc_condF rfl ?_
                            refine wc_skip ?_
                            refine qs_block_normal ?_
                            refine qs_seq ?_
                            refine wc_region ?_
                            refine wl_move rfl rfl ?_
                            refine wl_add rfl rfl (by first | omega | (simp; omega)) (by first | omega | (simp; omega)) rfl ?_
                            refine wl_assign rfl rfl ?_
                            refine wl_nil ?_
                            exact qs_round (L1 := [(0, _), (3, _), (4, _), (5, _), (6, _), (7, _), (8, intV ((i + 1 : Nat) : Int))]) (.cons rfl (.cons rfl (.cons rfl (.cons rfl (.cons rfl (.cons rfl (.cons rfl .nil))))))) (k1 := l.length - (i + 1)) (by omega) ⟨i + 1, _, _, _, _, rfl, rfl, hS35.pick [1, 3] rfl, by omega, hP.doP (o := { o with id := [120] }) (by simp), hE2⟩
                        · skip
                          refine wl_unwanted rfl rfl (decide_eq_false h86) rfl ?_
                          refine wl_unwanted rfl rfl (decide_eq_false h86) rfl ?_
                          refine wl_unwanted rfl rfl (decide_eq_false h86) rfl ?_
                          refine wl_pickF rfl (decide_eq_false h86) rfl rfl ?_
                          refine wl_move rfl rfl ?_
                          refine wl_unwanted rfl rfl rfl rfl ?_
                          refine wl_unwanted rfl rfl rfl rfl ?_
                          refine wl_pickF rfl rfl rfl rfl ?_
                          refine wl_move rfl rfl ?_
                          refine wl_unwanted rfl rfl rfl rfl ?_
                          refine wl_unwanted rfl rfl rfl rfl ?_
                          refine wl_pickF rfl rfl rfl rfl ?_
                          refine wl_move rfl rfl ?_
                          refine wl_unwanted rfl rfl rfl rfl ?_
                          refine wl_unwanted rfl rfl rfl rfl ?_
                          refine wl_pickF rfl rfl rfl rfl ?_
                          refine wl_nil ?_
                          refine qs_seq ?_
                          refine wc_sub (L' := [(171, _), (0, _), (3, _), (4, _), (5, _), (6, _), (7, _), (8, _)]) (.cons rfl (.cons rfl (.cons rfl (.cons rfl (.cons rfl (.cons rfl (.cons rfl (.cons rfl .nil)))))))) ?_
                          refine wc_condF rfl ?_
                          refine wc_skip ?_
                          refine qs_block_normal ?_
                          refine qs_seq ?_
                          refine wc_region ?_
                          refine wl_move rfl rfl ?_
                          refine wl_add rfl rfl (by first | omega | (simp; omega)) (by first | omega | (simp; omega)) rfl ?_
                          refine wl_assign rfl rfl ?_
                          refine wl_nil ?_
                          exact qs_round (L1 := [(0, _), (3, _), (4, _), (5, _), (6, _), (7, _), (8, intV ((i + 1 : Nat) : Int))]) (.cons rfl (.cons rfl (.cons rfl (.cons rfl (.cons rfl (.cons rfl (.cons rfl .nil))))))) (k1 := l.length - (i + 1)) (by omega) ⟨i + 1, _, _, _, _, rfl, rfl, hS35.pick [1, 3] rfl, by omega, hP.doP (o := { o with id := [120] }) (by simp), hE2⟩
                      · skip
                        refine wl_unwanted rfl rfl h85 rfl ?_
                        refine wl_unwanted rfl rfl h85 rfl ?_
                        refine wl_unwanted rfl rfl h85 rfl ?_
                        refine wl_pickF rfl h85 rfl rfl ?_
                        refine wl_move rfl rfl ?_
                        refine wl_unwanted rfl rfl rfl rfl ?_
                        refine wl_unwanted rfl rfl rfl rfl ?_
                        refine wl_unwanted rfl rfl rfl rfl ?_
                        refine wl_pickF rfl rfl rfl rfl ?_
                        refine wl_move rfl rfl ?_
                        refine wl_unwanted rfl rfl rfl rfl ?_
                        refine wl_unwanted rfl rfl rfl rfl ?_
                        refine wl_pickF rfl rfl rfl rfl ?_
                        refine wl_move rfl rfl ?_
                        refine wl_unwanted rfl rfl rfl rfl ?_
                        refine wl_unwanted rfl rfl rfl rfl ?_
                        refine wl_pickF rfl rfl rfl rfl ?_
                        refine wl_move rfl rfl ?_
                        refine wl_unwanted rfl rfl rfl rfl ?_
                        refine wl_unwanted rfl rfl rfl rfl ?_
                        refine wl_pickF rfl rfl rfl rfl ?_
                        refine wl_nil ?_
                        refine qs_seq ?_
                        refine wc_sub (L' := [(171, _), (0, _), (3, _), (4, _), (5, _), (6, _), (7, _), (8, _)]) (.cons rfl (.cons rfl (.cons rfl (.cons rfl (.cons rfl (.cons rfl (.cons rfl (.cons rfl .nil)))))))) ?_
                        refine wc_condF rfl ?_
                        refine wc_skip ?_
                        refine qs_block_normal ?_
                        refine qs_seq ?_
                        refine wc_region ?_
                        refine wl_move rfl rfl ?_
                        refine wl_add rfl rfl (by first | omega | (simp; omega)) (by first | omega | (simp; omega)) rfl ?_
                        refine wl_assign rfl rfl ?_
                        refine wl_nil ?_
                        exact qs_round (L1 := [(0, _), (3, _), (4, _), (5, _), (6, _), (7, _), (8, intV ((i + 1 : Nat) : Int))]) (.cons rfl (.cons rfl (.cons rfl (.cons rfl (.cons rfl (.cons rfl (.cons rfl .nil))))))) (k1 := l.length - (i + 1)) (by omega) ⟨i + 1, _, _, _, _, rfl, rfl, hS35.pick [1, 3] rfl, by omega, hP.doP (o := { o with id := [120] }) (by simp), hE2⟩
                    · skip
                      refine wl_unwanted rfl rfl (decide_eq_false h84) rfl ?_
                      refine wl_pickF rfl (decide_eq_false h84) rfl rfl ?_
                      refine wl_move rfl rfl ?_
                      refine wl_unwanted rfl rfl rfl rfl ?_
                      refine wl_unwanted rfl rfl rfl rfl ?_
                      refine wl_unwanted rfl rfl rfl rfl ?_
                      refine wl_pickF rfl rfl rfl rfl ?_
                      refine wl_move rfl rfl ?_
                      refine wl_unwanted rfl rfl rfl rfl ?_
                      refine wl_unwanted rfl rfl rfl rfl ?_
                      refine wl_unwanted rfl rfl rfl rfl ?_
                      refine wl_pickF rfl rfl rfl rfl ?_
                      refine wl_move rfl rfl ?_
                      refine wl_unwanted rfl rfl rfl rfl ?_
                      refine wl_unwanted rfl rfl rfl rfl ?_
                      refine wl_pickF rfl rfl rfl rfl ?_
                      refine wl_move rfl rfl ?_
                      refine wl_unwanted rfl rfl rfl rfl ?_
                      refine wl_unwanted rfl rfl rfl rfl ?_
                      refine wl_pickF rfl rfl rfl rfl ?_
                      refine wl_move rfl rfl ?_
                      refine wl_unwanted rfl rfl rfl rfl ?_
                      refine wl_unwanted rfl rfl rfl rfl ?_
                      refine wl_pickF rfl rfl rfl rfl ?_
                      refine wl_nil ?_
                      refine qs_seq ?_
                      refine wc_sub (L' := [(171, _), (0, _), (3, _), (4, _), (5, _), (6, _), (7, _), (8, _)]) (.cons rfl (.cons rfl (.cons rfl (.cons rfl (.cons rfl (.cons rfl (.cons rfl (.cons rfl .nil)))))))) ?_
                      refine wc_condF rfl ?_
                      refine wc_skip ?_
                      refine qs_block_normal ?_
                      refine qs_seq ?_
                      refine wc_region ?_
                      refine wl_move rfl rfl ?_
                      refine wl_add rfl rfl (by first | omega | (simp; omega)) (by first | omega | (simp; omega)) rfl ?_
                      refine wl_assign rfl rfl ?_
                      refine wl_nil ?_
                      exact qs_round (L1 := [(0, _), (3, _), (4, _), (5, _), (6, _), (7, _), (8, intV ((i + 1 : Nat) : Int))]) (.cons rfl (.cons rfl (.cons rfl (.cons rfl (.cons rfl (.cons rfl (.cons rfl .nil))))))) (k1 := l.length - (i + 1)) (by omega) ⟨i + 1, _, _, _, _, rfl, rfl, hS35.pick [1, 3] rfl, by omega, hP.doP (o := { o with id := [120] }) (by simp), hE2⟩
    · skip
      refine wc_exit ?_
      refine qs_then_exit ?_
      refine qs_then_exit ?_
      refine qs_block_exit ?_
      refine qs_seq ?_
      refine wc_seq ?_
      refine wc_region ?_
      refine wl_move rfl rfl ?_
      refine wl_assign rfl rfl ?_
      refine wl_nil ?_
      refine qs_seq ?_
      refine wc_ret ?_
      refine fin1 (.inr rfl) rfl rfl ?_
      exact ⟨_, rfl, by first | rfl | simp, hS6.pick [1] rfl⟩

end Go.Proofs.YtgnhfhhmipcgcaaDoor
