/- laws of cell: CellTells -/
import Derived.Test.YtleaahajkncnpaaDoorCf
namespace Go.Proofs.YtleaahajkncnpaaDoor
open Go.RowKit M
set_option linter.unusedVariables false
theorem op_ent {F : Th} {ao : Option Addr} {n cap i : Nat} {l : List OpD} {a : OpD} (h : Ent F (OpsRd (.slice ao n cap) l)) (ha : l[i]? = some a) : Ent F (RdI a.kv a.ks) := fun g => ((h g).get ha).2.1
theorem op_one {a : OpD} {w : World} (h : opOk a w) : allOne (opV a) = true := by
  obtain ⟨_, _, h1, _⟩ := h.1.shape
  simp [opV, allOne, h1, Value.oneCell']
def AnyP : Nat → Bytes → Prop := fun _ _ => True
set_option maxRecDepth 100000 in
set_option maxHeartbeats 1000000 in
theorem tells_law {w : World} {F : Th} (hS : Sat w [F]) (hG : Ent F (Glob 0)) {lv : Value} {l : List OpD} (hL : Ent F (OpsRd lv l)) :
    Calls Tryd.prog 7 #[lv] w (Ret fun v w' => v = .bool true ∧ Sat w' [F]) := by
  obtain ⟨ao, cap, rfl, hmax⟩ := (hL.sat hS 0 rfl).shape
  refine calls_enter Tryd.func7 rfl Tryd.ntmps7 rfl ?_
  refine wc_seq ?_
  refine wc_region ?_
  refine wl_assign rfl rfl ?_
  refine wl_nil ?_
  refine qs_seq ?_
  refine wc_seq ?_
  refine wc_region ?_
  have hC1 := hS.split [] [false] rfl; dsimp only [selF, pickA, nthA, List.cons_append, List.nil_append] at hC1
  refine wl_call cal_8 rfl (small_sp hC1 (hG.starL 0 rfl)) rfl ?_
  rintro e w1 ⟨_, rfl, rfl, hS1⟩; refine ⟨_, rfl, ?_⟩
  replace hS1 := hS1.join rfl; dsimp only [List.dropLast, List.cons_append, List.nil_append] at hS1; clear hC1
  refine wl_assign rfl rfl ?_
  refine wl_nil ?_
  refine qs_seq ?_
  refine wc_seq ?_
  refine wc_region ?_
  refine wl_move rfl rfl ?_
  have hC2 := hS1.split [] [false] rfl; dsimp only [selF, pickA, nthA, List.cons_append, List.nil_append] at hC2
  refine wl_call cal_17 rfl (few_sp hC2 (hL.starL 0 rfl)) rfl ?_
  rintro e w2 ⟨_, rfl, rfl, hS2⟩; refine ⟨_, rfl, ?_⟩
  replace hS2 := hS2.join rfl; dsimp only [List.dropLast, List.cons_append, List.nil_append] at hS2; clear hC2
  clear hS1
  refine wl_assign rfl rfl ?_
  refine wl_nil ?_
  refine qs_seq ?_
  refine wc_seq ?_
  refine wc_seq ?_
  refine wc_region ?_
  refine wl_move rfl rfl ?_
  refine wl_not rfl rfl ?_
  refine wl_nil ?_
  refine qs_seq ?_
  refine wc_cond rfl (fun h3 => ?_) (fun h3 => ?_)
  · skip
    refine wc_seq ?_
    refine wc_region ?_
    refine wl_move rfl rfl ?_
    refine wl_assign rfl rfl ?_
    refine wl_nil ?_
    refine qs_seq ?_
    refine wc_ret ?_
    refine qs_then_ret ?_
    refine fin1 (.inr rfl) rfl rfl ?_
    exact ⟨_, rfl, by first | rfl | simp, hS2.pick [0] rfl⟩
  · skip
    have hfew : fewO l = true := by simpa using h3
    refine wc_skip ?_
    refine qs_seq ?_
    refine wc_seq ?_
    refine wc_region ?_
    have hC4 := hS2.split [] [false] rfl; dsimp only [selF, pickA, nthA, List.cons_append, List.nil_append] at hC4
    refine wl_call cal_9 rfl (new_sp hC4) rfl ?_
    rintro e w4 ⟨_, rfl, p, rfl, hS4⟩; refine ⟨_, rfl, ?_⟩
    replace hS4 := hS4.join rfl; dsimp only [List.dropLast, List.cons_append, List.nil_append] at hS4; clear hC4
    clear hS2
    replace hS4 := dT_new hS4
    refine wl_assign rfl rfl ?_
    refine wl_nil ?_
    refine qs_seq ?_
    refine wc_sub (L' := [(5, _), (3, _), (2, _), (0, _)]) (.cons rfl (.cons rfl (.cons rfl (.cons rfl .nil)))) ?_
    refine wc_seq ?_
    refine wc_region ?_
    have hC5 := hS4.split [] [false, false] rfl; dsimp only [selF, pickA, nthA, List.cons_append, List.nil_append] at hC5
    refine wl_call cal_10 rfl (newR_sp hC5) rfl ?_
    rintro e w5 ⟨_, rfl, r, rfl, hS5⟩; refine ⟨_, rfl, ?_⟩
    replace hS5 := hS5.join rfl; dsimp only [List.dropLast, List.cons_append, List.nil_append] at hS5; clear hC5
    clear hS4
    replace hS5 := rT_new2 hS5
    refine wl_assign rfl rfl ?_
    refine wl_nil ?_
    obtain ⟨ho1, ho2, hg0, _⟩ := Good.begin (f := 3) (P := AnyP) (by omega) trivial
    refine qs_seq ?_
    refine wc_seq ?_
    refine wc_region ?_
    refine wl_move rfl rfl ?_
    have hC6 := hS5.split [1] [false, true, false] rfl; dsimp only [selF, pickA, nthA, List.cons_append, List.nil_append] at hC6
    refine wl_call cal_13 rfl (open0_sp hC6 (hG.starL 1 rfl) 3 ho1) rfl ?_
    rintro e w6 ⟨_, rfl, c, rfl, hS6⟩; refine ⟨_, rfl, ?_⟩
    replace hS6 := hS6.join rfl; dsimp only [List.dropLast, List.cons_append, List.nil_append] at hS6; clear hC6
    clear hS5
    rw [ho2] at hS6
    refine wl_move rfl rfl ?_
    refine wl_extract rfl rfl rfl ?_
    refine wl_extract rfl rfl rfl ?_
    refine wl_assign rfl rfl ?_
    refine wl_assign rfl rfl ?_
    refine wl_nil ?_
    refine qs_seq ?_
    refine wc_sub (L' := [(8, _), (7, _), (6, _), (5, _), (3, _), (2, _), (0, _)]) (.cons rfl (.cons rfl (.cons rfl (.cons rfl (.cons rfl (.cons rfl (.cons rfl .nil))))))) ?_
    refine wc_seq ?_
    refine wc_region ?_
    refine wl_move rfl rfl ?_
    have hC7 := hS6.split [2] [false, false, true, false] rfl; dsimp only [selF, pickA, nthA, List.cons_append, List.nil_append] at hC7
    refine wl_call cal_14 rfl (openR0_sp hC7 3 ho1) rfl ?_
    rintro e w7 ⟨_, rfl, b, rfl, hS7⟩; refine ⟨_, rfl, ?_⟩
    replace hS7 := hS7.join rfl; dsimp only [List.dropLast, List.cons_append, List.nil_append] at hS7; clear hC7
    clear hS6
    rw [ho2] at hS7
    refine wl_move rfl rfl ?_
    refine wl_extract rfl rfl rfl ?_
    refine wl_extract rfl rfl rfl ?_
    refine wl_assign rfl rfl ?_
    refine wl_assign rfl rfl ?_
    refine wl_nil ?_
    refine qs_seq ?_
    refine wc_sub (L' := [(10, _), (9, _), (8, _), (7, _), (6, _), (5, _), (3, _), (2, _), (0, _)]) (.cons rfl (.cons rfl (.cons rfl (.cons rfl (.cons rfl (.cons rfl (.cons rfl (.cons rfl (.cons rfl .nil))))))))) ?_
    refine wc_seq ?_
    refine wc_seq ?_
    refine wc_region ?_
    refine wl_move rfl rfl ?_
    refine wl_eqlNil Tryd.underlying23 rfl rfl rfl ?_
    refine wl_move rfl rfl ?_
    refine wl_guard rfl rfl rfl ?_
    refine wl_move rfl rfl ?_
    refine wl_guard rfl rfl rfl ?_
    refine wl_neq rfl rfl rfl ?_
    refine wl_pickF rfl rfl rfl rfl ?_
    refine wl_move rfl rfl ?_
    refine wl_splitD 46 rfl (fun h8 => ?_) (fun h8 => ?_)
    · skip
      exact absurd rfl h8
    · skip
      refine wl_guard rfl rfl (decide_eq_false h8) ?_
      refine wl_move rfl rfl ?_
      refine wl_guard rfl rfl (decide_eq_false h8) ?_
      refine wl_neq rfl rfl rfl ?_
      refine wl_pickF rfl (decide_eq_false h8) rfl rfl ?_
      refine wl_move rfl rfl ?_
      refine wl_splitD 50 rfl (fun h9 => ?_) (fun h9 => ?_)
      · skip
        exact absurd rfl h9
      · skip
        refine wl_guard rfl rfl (decide_eq_false h9) ?_
        refine wl_move rfl rfl ?_
        refine wl_guard rfl rfl (decide_eq_false h9) ?_
        refine wl_eqlNil Tryd.underlying29 rfl rfl rfl ?_
        refine wl_pickF rfl (decide_eq_false h9) rfl rfl ?_
        refine wl_move rfl rfl ?_
        refine wl_guard rfl rfl rfl ?_
        refine wl_move rfl rfl ?_
        refine wl_guard rfl rfl rfl ?_
        refine wl_eqlNil Tryd.underlying32 rfl rfl rfl ?_
        refine wl_pickF rfl rfl rfl rfl ?_
        refine wl_nil ?_
        refine qs_seq ?_
        refine wc_sub (L' := [(57, _), (10, _), (9, _), (8, _), (7, _), (6, _), (5, _), (3, _), (2, _), (0, _)]) (.cons rfl (.cons rfl (.cons rfl (.cons rfl (.cons rfl (.cons rfl (.cons rfl (.cons rfl (.cons rfl (.cons rfl .nil)))))))))) ?_
        refine wc_condF rfl ?_
        refine wc_skip ?_
        refine qs_seq ?_
        refine wc_seq ?_
        refine wc_seq ?_
        refine wc_region ?_
        refine wl_assign rfl rfl ?_
        refine wl_nil ?_
        refine qs_seq ?_
        refine wc_block ?_
        refine wc_loop (fun K0 E0 W0 => ∃ (i c b : Nat) (D : DS) (C : CS), K0 = l.length - i ∧ E0 = [(0, .slice ao l.length cap), (3, .bool true), (5, ptrV p 0), (6, ptrV r 0), (7, ptrV c 0), (9, ptrV b 0), (11, intV (i : Int))] ∧ Sat W0 [blkT c (cellV p C), blkT b (cellV r C), dT p D, rT r D, F] ∧ (i ≤ l.length) ∧ (OkSt D 3 C AnyP) ∧ (C.slot ≤ 2)) (L0 := [(0, _), (3, _), (5, _), (6, _), (7, _), (9, _), (11, _)]) (l.length) (.cons rfl (.cons rfl (.cons rfl (.cons rfl (.cons rfl (.cons rfl (.cons rfl .nil))))))) ⟨0, _, _, newD, newC 3, by omega, rfl, hS7.reorder [2, 0, 3, 1, 4] rfl, by omega, .inl hg0, by decide⟩ ?_
        rintro _ _ w10 ⟨i, c, b, D, C, rfl, rfl, hS10, hi, hok, hsl⟩
        refine wc_seq ?_
        refine wc_seq ?_
        refine wc_region ?_
        refine wl_move rfl rfl ?_
        refine wl_move rfl rfl ?_
        refine wl_lenL Tryd.underlying38 rfl rfl ?_
        refine wl_lss rfl rfl rfl ?_
        refine wl_nil ?_
        refine qs_seq ?_
        refine wc_sub (L' := [(61, _), (0, _), (3, _), (5, _), (6, _), (7, _), (9, _), (11, _)]) (.cons rfl (.cons rfl (.cons rfl (.cons rfl (.cons rfl (.cons rfl (.cons rfl (.cons rfl .nil)))))))) ?_
        refine wc_condD rfl (fun h11 => ?_) (fun h11 => ?_)
        · skip
          obtain ⟨a, ha⟩ : ∃ a, l[i]? = some a := ⟨_, List.getElem?_eq_getElem (by omega)⟩
          obtain ⟨⟨bo, off, rfl, hc⟩, hopk⟩ := (hL.sat hS10 4 rfl).get ha
          have hone := op_one hopk
          have hn := hopk.2
          have hfk := few_ok hfew ha
          clear hc
          refine wc_skip ?_
          refine qs_seq ?_
          refine wc_seq ?_
          refine wc_block ?_
          refine wc_seq ?_
          refine wc_region ?_
          refine wl_move rfl rfl ?_
          refine wl_move rfl rfl ?_
          refine wl_indexAddr _ rfl rfl (by first | rfl | omega) (by omega) es_38 rfl ?_
          refine wl_loadAt rfl ag_42 sz_42 (vs := opV a) (RdX.cells (hL.sat hS10 4 rfl) ha) rfl ?_
          refine wl_alloc hS10 zr_42 rfl rfl ?_
          intro b12 w12 hS12
          clear hS10
          first | (refine wl_storeA hS12 rfl rfl sz_42 rfl (by first | rfl | (simp [allOne, Value.oneCell']; done) | assumption | exact hone) (i := 0) rfl (by first | decide | exact Nat.le_of_ble_eq_true rfl | (simp; done) | omega) ?_) | (refine wl_storeA hS12 rfl rfl sz_42 rfl (by first | rfl | (simp [allOne, Value.oneCell']; done) | assumption | exact hone) (i := 1) rfl (by first | decide | exact Nat.le_of_ble_eq_true rfl | (simp; done) | omega) ?_) | (refine wl_storeA hS12 rfl rfl sz_42 rfl (by first | rfl | (simp [allOne, Value.oneCell']; done) | assumption | exact hone) (i := 2) rfl (by first | decide | exact Nat.le_of_ble_eq_true rfl | (simp; done) | omega) ?_)
          intro w13 hS14; dsimp only [List.set] at hS14
          clear hS12
          refine wl_nil ?_
          refine qs_seq ?_
          refine wc_sub (L' := [(12, _), (0, _), (3, _), (5, _), (6, _), (7, _), (9, _), (11, _)]) (.cons rfl (.cons rfl (.cons rfl (.cons rfl (.cons rfl (.cons rfl (.cons rfl (.cons rfl .nil)))))))) ?_
          refine wc_mid (fun E0 W0 => ∃ (c b : Nat) (D : DS) (C : CS), E0 = [(0, .slice (some ⟨bo, off, none⟩) l.length cap), (3, .bool true), (5, ptrV p 0), (6, ptrV r 0), (7, ptrV c 0), (9, ptrV b 0), (11, intV (i : Int))] ∧ Sat W0 [blkT c (cellV p C), blkT b (cellV r C), dT p D, rT r D, F] ∧ (OkSt D 3 C AnyP) ∧ (C.slot ≤ 2)) ?_ ?_
          · skip
            refine wc_seq ?_
            refine wc_region ?_
            refine wl_fieldAddr rfl fo_42_0 rfl ?_
            refine wl_load rfl ag_3 (by first | assumption | exact hS14.cell 0 rfl rfl | exact hS14.cell 1 rfl rfl | exact hS14.cell 2 rfl rfl) rfl ?_
            refine wl_nil ?_
            refine qs_seq ?_
            refine wc_block ?_
            refine wc_seq ?_
            refine wc_region ?_
            refine wl_eql rfl rfl rfl ?_
            refine wl_assign rfl rfl ?_
            refine wl_nil ?_
            refine qs_seq ?_
            refine wc_condD rfl (fun h16 => ?_) (fun h16 => ?_)
            · skip
              refine wc_seq ?_
              have hS17 := hS14.drew
              refine wc_draw [0, 1, 2, 4, 5, 6, 3, 7, 8] [3, 7] mix (by kernel_rfl) ?_
              refine vc_p rfl rfl rfl (fun _ => (ev_move rfl)) ?_
              refine vc_p rfl rfl rfl (fun _ => (ev_fieldAddr rfl fo_42_1)) ?_
              refine vc_q rfl rfl rfl (ev_load rfl ag_9 (by first | assumption | exact hS17.cell 0 rfl rfl | exact hS17.cell 1 rfl rfl | exact hS17.cell 2 rfl rfl)) ?_
              refine vc_p rfl rfl rfl (fun _ => (ev_move rfl)) ?_
              refine vc_p rfl rfl rfl (fun _ => (ev_fieldAddr rfl fo_42_1)) ?_
              refine vc_q rfl rfl rfl (ev_load rfl ag_9 (by first | assumption | exact hS17.cell 0 rfl rfl | exact hS17.cell 1 rfl rfl | exact hS17.cell 2 rfl rfl)) ?_
              refine vc_s rfl rfl rfl rfl rfl rfl ?_
              have hC18 := hS17.split [1, 3] [false, true, false, true, false, false] rfl; dsimp only [selF, pickA, nthA, List.cons_append, List.nil_append] at hC18
              refine wl_call cal_18 rfl (set_sp hC18 (hG.starL 3 rfl) hsl a.s) rfl ?_
              rintro e w18 ⟨_, rfl, rfl, hS18⟩; refine ⟨_, rfl, ?_⟩
              replace hS18 := hS18.join rfl; dsimp only [List.dropLast, List.cons_append, List.nil_append] at hS18; clear hC18
              clear hS17
              refine vc_e (.cons (.inl ⟨rfl, (ev_load rfl ag_9 (by first | assumption | exact hS18.cell 0 rfl rfl | exact hS18.cell 2 rfl rfl | exact hS18.cell 3 rfl rfl))⟩) (.skip (by kernel_rfl) .nil)) ?_
              refine vc_s rfl rfl rfl rfl rfl rfl ?_
              have hC19 := hS18.split [3, 4] [false, false, false, true, true, false] rfl; dsimp only [selF, pickA, nthA, List.cons_append, List.nil_append] at hC19
              refine wl_call cal_25 rfl (setR_sp4 hC19 hsl a.s) rfl ?_
              rintro e w19 ⟨_, rfl, rfl, hS19⟩; refine ⟨_, rfl, ?_⟩
              replace hS19 := hS19.join rfl; dsimp only [List.dropLast, List.cons_append, List.nil_append] at hS19; clear hC19
              clear hS18
              refine vc_e (.skip (by kernel_rfl) (.skip (by kernel_rfl) .nil)) ?_
              refine vc_p rfl rfl rfl (fun _ => (ev_neq rfl rfl)) ?_
              refine VC.nil ?_
              refine qs_seq ?_
              refine wc_sub (L' := [(80, _), (0, _), (3, _), (5, _), (6, _), (7, _), (9, _), (11, _)]) (.cons rfl (.cons rfl (.cons rfl (.cons rfl (.cons rfl (.cons rfl (.cons rfl (.cons rfl .nil)))))))) ?_
              refine wc_condD rfl (fun h20 => ?_) (fun h20 => ?_)
              · skip
                exact absurd rfl h20
              · skip
                refine wc_skip ?_
                refine qs_block_normal ?_
                exact qs_mid (.cons rfl (.cons rfl (.cons rfl (.cons rfl (.cons rfl (.cons rfl (.cons rfl .nil))))))) ⟨_, _, _, _, rfl, hS19.pick [2, 0, 3, 1, 5] rfl, (hok.set a.s (fun _ _ => trivial)).1, slot2_set hsl⟩
            · skip
              refine wc_seq ?_
              refine wc_region ?_
              refine wl_eql rfl rfl rfl ?_
              refine wl_assign rfl rfl ?_
              refine wl_nil ?_
              refine qs_seq ?_
              refine wc_sub (L' := [(81, _), (69, _), (12, _), (0, _), (3, _), (5, _), (6, _), (7, _), (9, _), (11, _)]) (.cons rfl (.cons rfl (.cons rfl (.cons rfl (.cons rfl (.cons rfl (.cons rfl (.cons rfl (.cons rfl (.cons rfl .nil)))))))))) ?_
              refine wc_condD rfl (fun h21 => ?_) (fun h21 => ?_)
              · skip
                refine wc_seq ?_
                refine wc_region ?_
                refine wl_move rfl rfl ?_
                refine wl_fieldAddr rfl fo_42_2 rfl ?_
                refine wl_load rfl ag_3 (by first | assumption | exact hS14.cell 0 rfl rfl | exact hS14.cell 1 rfl rfl | exact hS14.cell 2 rfl rfl) rfl ?_
                have hC22 := hS14.split [3] [false, false, false, true, false, false] rfl; dsimp only [selF, pickA, nthA, List.cons_append, List.nil_append] at hC22
                refine wl_call cal_19 rfl (loseT hC22 a.n hn) rfl ?_
                rintro e w22 ⟨_, rfl, rfl, hS22⟩; refine ⟨_, rfl, ?_⟩
                replace hS22 := hS22.join rfl; dsimp only [List.dropLast, List.cons_append, List.nil_append] at hS22; clear hC22
                clear hS14
                refine wl_nil ?_
                refine qs_seq ?_
                refine wc_sub (L' := [(12, _), (0, _), (3, _), (5, _), (6, _), (7, _), (9, _), (11, _)]) (.cons rfl (.cons rfl (.cons rfl (.cons rfl (.cons rfl (.cons rfl (.cons rfl (.cons rfl .nil)))))))) ?_
                refine wc_region ?_
                refine wl_move rfl rfl ?_
                refine wl_fieldAddr rfl fo_42_2 rfl ?_
                refine wl_load rfl ag_3 (by first | assumption | exact hS22.cell 1 rfl rfl | exact hS22.cell 2 rfl rfl | exact hS22.cell 3 rfl rfl) rfl ?_
                have hC23 := hS22.split [4] [false, false, false, false, true, false] rfl; dsimp only [selF, pickA, nthA, List.cons_append, List.nil_append] at hC23
                refine wl_call cal_26 rfl (loseRT hC23 a.n hn) rfl ?_
                rintro e w23 ⟨_, rfl, rfl, hS23⟩; refine ⟨_, rfl, ?_⟩
                replace hS23 := hS23.join rfl; dsimp only [List.dropLast, List.cons_append, List.nil_append] at hS23; clear hC23
                clear hS22
                refine wl_nil ?_
                refine qs_block_normal ?_
                exact qs_mid (.cons rfl (.cons rfl (.cons rfl (.cons rfl (.cons rfl (.cons rfl (.cons rfl .nil))))))) ⟨_, _, _, _, rfl, hS23.pick [3, 4, 1, 0, 5] rfl, hok.lose _, hsl⟩
              · skip
                refine wc_seq ?_
                refine wc_region ?_
                refine wl_eql rfl rfl rfl ?_
                refine wl_assign rfl rfl ?_
                refine wl_nil ?_
                refine qs_seq ?_
                refine wc_condD rfl (fun h24 => ?_) (fun h24 => ?_)
                · skip
                  refine wc_seq ?_
                  refine wc_region ?_
                  refine wl_move rfl rfl ?_
                  refine wl_fieldAddr rfl fo_42_2 rfl ?_
                  refine wl_load rfl ag_3 (by first | assumption | exact hS14.cell 0 rfl rfl | exact hS14.cell 1 rfl rfl | exact hS14.cell 2 rfl rfl) rfl ?_
                  refine wl_fieldAddr rfl fo_42_3 rfl ?_
                  refine wl_load rfl ag_39 (by first | assumption | exact hS14.cell 0 rfl rfl | exact hS14.cell 1 rfl rfl | exact hS14.cell 2 rfl rfl) rfl ?_
                  have hC25 := hS14.split [3] [false, false, false, true, false, false] rfl; dsimp only [selF, pickA, nthA, List.cons_append, List.nil_append] at hC25
                  refine wl_call cal_21 rfl (armT hC25 a.n hn (op_ent (hL.starL 4 rfl) ha) (by omega)) rfl ?_
                  rintro e w25 ⟨_, rfl, rfl, hS25⟩; refine ⟨_, rfl, ?_⟩
                  replace hS25 := hS25.join rfl; dsimp only [List.dropLast, List.cons_append, List.nil_append] at hS25; clear hC25
                  clear hS14
                  refine wl_nil ?_
                  refine qs_seq ?_
                  refine wc_sub (L' := [(12, _), (0, _), (3, _), (5, _), (6, _), (7, _), (9, _), (11, _)]) (.cons rfl (.cons rfl (.cons rfl (.cons rfl (.cons rfl (.cons rfl (.cons rfl (.cons rfl .nil)))))))) ?_
                  refine wc_region ?_
                  refine wl_move rfl rfl ?_
                  refine wl_fieldAddr rfl fo_42_2 rfl ?_
                  refine wl_load rfl ag_3 (by first | assumption | exact hS25.cell 1 rfl rfl | exact hS25.cell 2 rfl rfl | exact hS25.cell 3 rfl rfl) rfl ?_
                  refine wl_fieldAddr rfl fo_42_3 rfl ?_
                  refine wl_load rfl ag_39 (by first | assumption | exact hS25.cell 1 rfl rfl | exact hS25.cell 2 rfl rfl | exact hS25.cell 3 rfl rfl) rfl ?_
                  have hC26 := hS25.split [4] [false, false, false, false, true, false] rfl; dsimp only [selF, pickA, nthA, List.cons_append, List.nil_append] at hC26
                  refine wl_call cal_27 rfl (armRT hC26 a.n hn (fun g => RdI.toL ((op_ent (hL.starL 4 rfl) ha) g)) (by omega)) rfl ?_
                  rintro e w26 ⟨_, rfl, rfl, hS26⟩; refine ⟨_, rfl, ?_⟩
                  replace hS26 := hS26.join rfl; dsimp only [List.dropLast, List.cons_append, List.nil_append] at hS26; clear hC26
                  clear hS25
                  refine wl_nil ?_
                  refine qs_block_normal ?_
                  exact qs_mid (.cons rfl (.cons rfl (.cons rfl (.cons rfl (.cons rfl (.cons rfl (.cons rfl .nil))))))) ⟨_, _, _, _, rfl, hS26.pick [3, 4, 1, 0, 5] rfl, hok.arm _ _, hsl⟩
                · skip
                  refine wc_seq ?_
                  refine wc_region ?_
                  refine wl_eql rfl rfl rfl ?_
                  refine wl_assign rfl rfl ?_
                  refine wl_nil ?_
                  refine qs_seq ?_
                  refine wc_sub (L' := [(105, _), (12, _), (0, _), (3, _), (5, _), (6, _), (7, _), (9, _), (11, _)]) (.cons rfl (.cons rfl (.cons rfl (.cons rfl (.cons rfl (.cons rfl (.cons rfl (.cons rfl (.cons rfl .nil))))))))) ?_
                  refine wc_condD rfl (fun h27 => ?_) (fun h27 => ?_)
                  · skip
                    obtain ⟨hE9, s9, v9, hC9, hs9, _, hgood9, _⟩ := hok.again a.ks
                    refine wc_seq ?_
                    refine wc_region ?_
                    refine wl_move rfl rfl ?_
                    refine wl_fieldAddr rfl fo_42_3 rfl ?_
                    refine wl_load rfl ag_39 (by first | assumption | exact hS14.cell 0 rfl rfl | exact hS14.cell 1 rfl rfl | exact hS14.cell 2 rfl rfl) rfl ?_
                    have hC28 := hS14.split [3] [false, false, false, true, false, false] rfl; dsimp only [selF, pickA, nthA, List.cons_append, List.nil_append] at hC28
                    refine wl_call cal_20 rfl (again_sp hC28 (hG.starL 4 rfl) (op_ent (hL.starL 4 rfl) ha) hE9) rfl ?_
                    rintro e w28 ⟨_, rfl, c9, rfl, hS28⟩; refine ⟨_, rfl, ?_⟩
                    replace hS28 := hS28.join rfl; dsimp only [List.dropLast, List.cons_append, List.nil_append] at hS28; clear hC28
                    clear hS14
                    refine wl_move rfl rfl ?_
                    refine wl_extract rfl rfl rfl ?_
                    refine wl_extract rfl rfl rfl ?_
                    refine wl_assign rfl rfl ?_
                    refine wl_assign rfl rfl ?_
                    refine wl_nil ?_
                    refine qs_seq ?_
                    refine wc_sub (L' := [(8, _), (7, _), (12, _), (0, _), (3, _), (5, _), (6, _), (9, _), (11, _)]) (.cons rfl (.cons rfl (.cons rfl (.cons rfl (.cons rfl (.cons rfl (.cons rfl (.cons rfl (.cons rfl .nil))))))))) ?_
                    refine wc_seq ?_
                    refine wc_region ?_
                    refine wl_move rfl rfl ?_
                    refine wl_fieldAddr rfl fo_42_3 rfl ?_
                    refine wl_load rfl ag_39 (by first | assumption | exact hS28.cell 0 rfl rfl | exact hS28.cell 2 rfl rfl | exact hS28.cell 3 rfl rfl | exact hS28.cell 4 rfl rfl) rfl ?_
                    have hC29 := hS28.split [5] [false, false, false, false, false, true, false] rfl; dsimp only [selF, pickA, nthA, List.cons_append, List.nil_append] at hC29
                    refine wl_call cal_28 rfl (crashRT hC29 (fun g => RdI.toL ((op_ent (hL.starL 5 rfl) ha) g))) rfl ?_
                    rintro e w29 ⟨_, rfl, rfl, hS29⟩; refine ⟨_, rfl, ?_⟩
                    replace hS29 := hS29.join rfl; dsimp only [List.dropLast, List.cons_append, List.nil_append] at hS29; clear hC29
                    clear hS28
                    refine wl_nil ?_
                    refine qs_seq ?_
                    refine wc_sub (L' := [(8, _), (7, _), (0, _), (3, _), (5, _), (6, _), (9, _), (11, _)]) (.cons rfl (.cons rfl (.cons rfl (.cons rfl (.cons rfl (.cons rfl (.cons rfl (.cons rfl .nil)))))))) ?_
                    refine wc_seq ?_
                    refine wc_region ?_
                    refine wl_move rfl rfl ?_
                    have hC30 := hS29.split [0] [true, false, false, false, false, false, false] rfl; dsimp only [selF, pickA, nthA, List.cons_append, List.nil_append] at hC30
                    refine wl_call cal_29 rfl (startRT hC30) rfl ?_
                    rintro e w30 ⟨_, rfl, rfl, hS30⟩; refine ⟨_, rfl, ?_⟩
                    replace hS30 := hS30.join rfl; dsimp only [List.dropLast, List.cons_append, List.nil_append] at hS30; clear hC30
                    clear hS29
                    refine wl_nil ?_
                    refine qs_seq ?_
                    refine wc_seq ?_
                    refine wc_region ?_
                    refine wl_move rfl rfl ?_
                    have hC31 := hS30.split [0] [true, false, false, false, false, false, false] rfl; dsimp only [selF, pickA, nthA, List.cons_append, List.nil_append] at hC31
                    refine wl_call cal_14 rfl (openR0_sp hC31 3 hE9) rfl ?_
                    rintro e w31 ⟨_, rfl, b9, rfl, hS31⟩; refine ⟨_, rfl, ?_⟩
                    replace hS31 := hS31.join rfl; dsimp only [List.dropLast, List.cons_append, List.nil_append] at hS31; clear hC31
                    clear hS30
                    refine wl_move rfl rfl ?_
                    refine wl_extract rfl rfl rfl ?_
                    refine wl_extract rfl rfl rfl ?_
                    refine wl_assign rfl rfl ?_
                    refine wl_assign rfl rfl ?_
                    refine wl_nil ?_
                    refine qs_seq ?_
                    refine wc_sub (L' := [(10, _), (9, _), (8, _), (7, _), (0, _), (3, _), (5, _), (6, _), (11, _)]) (.cons rfl (.cons rfl (.cons rfl (.cons rfl (.cons rfl (.cons rfl (.cons rfl (.cons rfl (.cons rfl .nil))))))))) ?_
                    refine wc_seq ?_
                    refine wc_region ?_
                    refine wl_move rfl rfl ?_
                    refine wl_move rfl rfl ?_
                    refine wl_neq rfl rfl rfl ?_
                    refine wl_move rfl rfl ?_
                    refine wl_splitD 128 rfl (fun h32 => ?_) (fun h32 => ?_)
                    · skip
                      exact absurd rfl h32
                    · skip
                      refine wl_guard rfl rfl (decide_eq_false h32) ?_
                      refine wl_move rfl rfl ?_
                      refine wl_guard rfl rfl (decide_eq_false h32) ?_
                      refine wl_eqlNil Tryd.underlying29 rfl rfl rfl ?_
                      refine wl_pickF rfl (decide_eq_false h32) rfl rfl ?_
                      refine wl_move rfl rfl ?_
                      refine wl_guard rfl rfl rfl ?_
                      refine wl_move rfl rfl ?_
                      refine wl_guard rfl rfl rfl ?_
                      refine wl_eqlNil Tryd.underlying32 rfl rfl rfl ?_
                      refine wl_pickF rfl rfl rfl rfl ?_
                      refine wl_nil ?_
                      refine qs_seq ?_
                      refine wc_sub (L' := [(135, _), (9, _), (7, _), (0, _), (3, _), (5, _), (6, _), (11, _)]) (.cons rfl (.cons rfl (.cons rfl (.cons rfl (.cons rfl (.cons rfl (.cons rfl (.cons rfl .nil)))))))) ?_
                      refine wc_condF rfl ?_
                      refine wc_skip ?_
                      refine qs_block_normal ?_
                      exact qs_mid (.cons rfl (.cons rfl (.cons rfl (.cons rfl (.cons rfl (.cons rfl (.cons rfl .nil))))))) ⟨_, _, _, _, rfl, hS31.pick [2, 0, 3, 1, 7] rfl, by rw [hC9]; exact .inl hgood9, by rw [hC9]; exact hs9⟩
                  · skip
                    refine wc_skip ?_
                    refine qs_block_normal ?_
                    exact qs_mid (.cons rfl (.cons rfl (.cons rfl (.cons rfl (.cons rfl (.cons rfl (.cons rfl .nil))))))) ⟨_, _, _, _, rfl, hS14.pick [1, 2, 3, 4, 5] rfl, hok, hsl⟩
          rintro _ w15 ⟨c, b, D, C, rfl, hS15, hok, hsl⟩
          refine wc_seq ?_
          refine wc_region ?_
          refine wl_move rfl rfl ?_
          have hC33 := hS15.split [0] [true, false, false, false, false] rfl; dsimp only [selF, pickA, nthA, List.cons_append, List.nil_append] at hC33
          refine wl_call cal_15 rfl (get_sp hC33) rfl ?_
          rintro e w33 ⟨_, rfl, rfl, hS33⟩; refine ⟨_, rfl, ?_⟩
          replace hS33 := hS33.join rfl; dsimp only [List.dropLast, List.cons_append, List.nil_append] at hS33; clear hC33
          clear hS15
          refine wl_move rfl rfl ?_
          refine wl_extract rfl rfl rfl ?_
          refine wl_extract rfl rfl rfl ?_
          refine wl_assign rfl rfl ?_
          refine wl_assign rfl rfl ?_
          refine wl_nil ?_
          refine qs_seq ?_
          refine wc_sub (L' := [(14, _), (13, _), (0, _), (3, _), (5, _), (6, _), (7, _), (9, _), (11, _)]) (.cons rfl (.cons rfl (.cons rfl (.cons rfl (.cons rfl (.cons rfl (.cons rfl (.cons rfl (.cons rfl .nil))))))))) ?_
          refine wc_seq ?_
          refine wc_region ?_
          refine wl_move rfl rfl ?_
          have hC34 := hS33.split [1] [false, true, false, false, false] rfl; dsimp only [selF, pickA, nthA, List.cons_append, List.nil_append] at hC34
          refine wl_call cal_16 rfl (getR_sp4 hC34) rfl ?_
          rintro e w34 ⟨_, rfl, rfl, hS34⟩; refine ⟨_, rfl, ?_⟩
          replace hS34 := hS34.join rfl; dsimp only [List.dropLast, List.cons_append, List.nil_append] at hS34; clear hC34
          clear hS33
          refine wl_move rfl rfl ?_
          refine wl_extract rfl rfl rfl ?_
          refine wl_extract rfl rfl rfl ?_
          refine wl_assign rfl rfl ?_
          refine wl_assign rfl rfl ?_
          refine wl_nil ?_
          refine qs_seq ?_
          refine wc_sub (L' := [(16, _), (15, _), (14, _), (13, _), (0, _), (3, _), (5, _), (6, _), (7, _), (9, _), (11, _)]) (.cons rfl (.cons rfl (.cons rfl (.cons rfl (.cons rfl (.cons rfl (.cons rfl (.cons rfl (.cons rfl (.cons rfl (.cons rfl .nil))))))))))) ?_
          refine wc_seq ?_
          refine wc_region ?_
          refine wl_move rfl rfl ?_
          refine wl_move rfl rfl ?_
          refine wl_neqS rfl rfl rfl ?_
          refine wl_move rfl rfl ?_
          refine wl_splitD 149 rfl (fun h35 => ?_) (fun h35 => ?_)
          · skip
            exact absurd rfl h35
          · skip
            refine wl_guard rfl rfl (decide_eq_false h35) ?_
            refine wl_move rfl rfl ?_
            refine wl_guard rfl rfl (decide_eq_false h35) ?_
            refine wl_move rfl rfl ?_
            refine wl_guard rfl rfl (decide_eq_false h35) ?_
            refine wl_neqB Tryd.underlying4 rfl rfl rfl ?_
            refine wl_pickF rfl (decide_eq_false h35) rfl rfl ?_
            refine wl_nil ?_
            refine qs_seq ?_
            refine wc_sub (L' := [(153, _), (0, _), (3, _), (5, _), (6, _), (7, _), (9, _), (11, _)]) (.cons rfl (.cons rfl (.cons rfl (.cons rfl (.cons rfl (.cons rfl (.cons rfl (.cons rfl .nil)))))))) ?_
            refine wc_cond rfl (fun h36 => ?_) (fun h36 => ?_)
            · skip
              simp at h36
            · skip
              refine wc_skip ?_
              refine qs_block_normal ?_
              refine qs_seq ?_
              refine wc_region ?_
              refine wl_move rfl rfl ?_
              refine wl_add rfl rfl (by omega) (by omega) rfl ?_
              refine wl_assign rfl rfl ?_
              refine wl_nil ?_
              exact qs_round (L1 := [(0, _), (3, .bool true), (5, _), (6, _), (7, _), (9, _), (11, intV ((i + 1 : Nat) : Int))]) (.cons rfl (.cons rfl (.cons rfl (.cons rfl (.cons rfl (.cons rfl (.cons rfl .nil))))))) (k1 := l.length - (i + 1)) (by omega) ⟨i + 1, _, _, _, _, by omega, rfl, hS34.pick [1, 0, 2, 3, 4] rfl, by omega, hok, hsl⟩
        · skip
          refine wc_exit ?_
          refine qs_then_exit ?_
          refine qs_then_exit ?_
          refine qs_block_exit ?_
          refine qs_seq ?_
          refine wc_seq ?_
          refine wc_region ?_
          refine wl_move rfl rfl ?_
          have hC37 := hS10.split [2] [false, false, true, false, false] rfl; dsimp only [selF, pickA, nthA, List.cons_append, List.nil_append] at hC37
          refine wl_call cal_22 rfl (crashT hC37 (ks := []) (fun _ => RdI_nil _)) rfl ?_
          rintro e w37 ⟨_, rfl, rfl, hS37⟩; refine ⟨_, rfl, ?_⟩
          replace hS37 := hS37.join rfl; dsimp only [List.dropLast, List.cons_append, List.nil_append] at hS37; clear hC37
          clear hS10
          refine wl_nil ?_
          refine qs_seq ?_
          refine wc_seq ?_
          refine wc_region ?_
          refine wl_move rfl rfl ?_
          have hC38 := hS37.split [0] [true, false, false, false, false] rfl; dsimp only [selF, pickA, nthA, List.cons_append, List.nil_append] at hC38
          refine wl_call cal_23 rfl (startT hC38) rfl ?_
          rintro e w38 ⟨_, rfl, rfl, hS38⟩; refine ⟨_, rfl, ?_⟩
          replace hS38 := hS38.join rfl; dsimp only [List.dropLast, List.cons_append, List.nil_append] at hS38; clear hC38
          clear hS37
          refine wl_nil ?_
          refine qs_seq ?_
          refine wc_sub (L' := [(3, _), (5, _), (6, _)]) (.cons rfl (.cons rfl (.cons rfl .nil))) ?_
          refine wc_seq ?_
          refine wc_region ?_
          refine wl_move rfl rfl ?_
          have hC39 := hS38.split [3] [false, false, false, true, false] rfl; dsimp only [selF, pickA, nthA, List.cons_append, List.nil_append] at hC39
          refine wl_call cal_28 rfl (crashRT hC39 (ks := []) (fun _ => RdL.nil inC _)) rfl ?_
          rintro e w39 ⟨_, rfl, rfl, hS39⟩; refine ⟨_, rfl, ?_⟩
          replace hS39 := hS39.join rfl; dsimp only [List.dropLast, List.cons_append, List.nil_append] at hS39; clear hC39
          clear hS38
          refine wl_nil ?_
          refine qs_seq ?_
          refine wc_seq ?_
          refine wc_region ?_
          refine wl_move rfl rfl ?_
          have hC40 := hS39.split [0] [true, false, false, false, false] rfl; dsimp only [selF, pickA, nthA, List.cons_append, List.nil_append] at hC40
          refine wl_call cal_29 rfl (startRT hC40) rfl ?_
          rintro e w40 ⟨_, rfl, rfl, hS40⟩; refine ⟨_, rfl, ?_⟩
          replace hS40 := hS40.join rfl; dsimp only [List.dropLast, List.cons_append, List.nil_append] at hS40; clear hC40
          clear hS39
          refine wl_nil ?_
          refine qs_seq ?_
          refine wc_seq ?_
          refine wc_region ?_
          refine wl_move rfl rfl ?_
          have hC41 := hS40.split [1] [false, true, false, false, false] rfl; dsimp only [selF, pickA, nthA, List.cons_append, List.nil_append] at hC41
          refine wl_call cal_30 rfl (sizeT hC41 3) rfl ?_
          rintro e w41 ⟨_, rfl, rfl, hS41⟩; refine ⟨_, rfl, ?_⟩
          replace hS41 := hS41.join rfl; dsimp only [List.dropLast, List.cons_append, List.nil_append] at hS41; clear hC41
          clear hS40
          refine wl_assign rfl rfl ?_
          refine wl_nil ?_
          refine qs_seq ?_
          refine wc_seq ?_
          refine wc_region ?_
          refine wl_move rfl rfl ?_
          refine wl_move rfl rfl ?_
          have hC42 := hS41.split [0] [true, false, false, false, false] rfl; dsimp only [selF, pickA, nthA, List.cons_append, List.nil_append] at hC42
          refine wl_call cal_31 rfl (readT hC42 3 0 (((startD (crashD D [])).F 3).1.length : Int)) rfl ?_
          rintro e w42 ⟨_, rfl, rfl, hS42⟩; refine ⟨_, rfl, ?_⟩
          replace hS42 := hS42.join rfl; dsimp only [List.dropLast, List.cons_append, List.nil_append] at hS42; clear hC42
          clear hS41
          refine wl_move rfl rfl ?_
          refine wl_extract rfl rfl rfl ?_
          refine wl_extract rfl rfl rfl ?_
          refine wl_assign rfl rfl ?_
          refine wl_assign rfl rfl ?_
          refine wl_nil ?_
          refine qs_seq ?_
          refine wc_sub (L' := [(18, _), (17, _), (3, _), (6, _)]) (.cons rfl (.cons rfl (.cons rfl (.cons rfl .nil)))) ?_
          refine wc_seq ?_
          refine wc_region ?_
          refine wl_move rfl rfl ?_
          refine wl_move rfl rfl ?_
          have hC43 := hS42.split [1] [false, true, false, false, false] rfl; dsimp only [selF, pickA, nthA, List.cons_append, List.nil_append] at hC43
          refine wl_call cal_32 rfl (readRT hC43 3 0 (((startD (crashD D [])).F 3).1.length : Int)) rfl ?_
          rintro e w43 ⟨_, rfl, rfl, hS43⟩; refine ⟨_, rfl, ?_⟩
          replace hS43 := hS43.join rfl; dsimp only [List.dropLast, List.cons_append, List.nil_append] at hS43; clear hC43
          clear hS42
          refine wl_move rfl rfl ?_
          refine wl_extract rfl rfl rfl ?_
          refine wl_extract rfl rfl rfl ?_
          refine wl_assign rfl rfl ?_
          refine wl_assign rfl rfl ?_
          refine wl_nil ?_
          refine qs_seq ?_
          refine wc_sub (L' := [(20, _), (18, _), (17, _), (3, _), (6, _)]) (.cons rfl (.cons rfl (.cons rfl (.cons rfl (.cons rfl .nil))))) ?_
          refine wc_seq ?_
          refine wc_region ?_
          refine wl_move rfl rfl ?_
          refine wl_move rfl rfl ?_
          refine wl_guard rfl rfl rfl ?_
          refine wl_move rfl rfl ?_
          refine wl_guard rfl rfl rfl ?_
          refine wl_move rfl rfl ?_
          refine wl_guard rfl rfl rfl ?_
          refine wl_eqlS rfl rfl rfl ?_
          refine wl_pickT rfl rfl rfl rfl ?_
          refine wl_move rfl rfl ?_
          refine wl_splitD 182 rfl (fun h44 => ?_) (fun h44 => ?_)
          · skip
            refine wl_guard rfl rfl (decide_eq_true h44) ?_
            refine wl_move rfl rfl ?_
            refine wl_guard rfl rfl (decide_eq_true h44) ?_
            refine wl_move rfl rfl ?_
            refine wl_guard rfl rfl (decide_eq_true h44) ?_
            have hC45 := hS43.split [0] [true, false, false, false, false] rfl; dsimp only [selF, pickA, nthA, List.cons_append, List.nil_append] at hC45
            refine wl_call cal_33 rfl (sizeRT hC45 3) rfl ?_
            rintro e w45 ⟨_, rfl, rfl, hS45⟩; refine ⟨_, rfl, ?_⟩
            replace hS45 := hS45.join rfl; dsimp only [List.dropLast, List.cons_append, List.nil_append] at hS45; clear hC45
            clear hS43
            refine wl_guard rfl rfl (decide_eq_true h44) ?_
            refine wl_eql rfl rfl rfl ?_
            refine wl_pickT rfl (decide_eq_true h44) rfl rfl ?_
            refine wl_assign rfl rfl ?_
            refine wl_nil ?_
            refine qs_seq ?_
            refine wc_sub (L' := [(2, _)]) (.cons rfl .nil) ?_
            refine wc_ret ?_
            refine fin1 (.inr rfl) rfl rfl ?_
            exact ⟨_, rfl, by first | rfl | simp, hS45.pick [4] rfl⟩
          · skip
            exact absurd rfl h44

theorem tells_row {W : World} (hG : Glob 0 W) {v0 : Value} {l0 : List (Int × ByteArray × Int × List Int × Unit)} (h0 : SliceRd opC.rd opC.size W v0 l0) :
    Calls Tryd.prog 7 #[v0] W fun e W' => e = .returned (.bool true) ∧ Below W.heap.size W W' := by
  obtain ⟨a0, h0⟩ := ops_of h0
  exact (tells_law (Sat.start W) hG.frame (Ent.frame h0)).mono fun e W' ⟨v, h4, h5, h6⟩ => ⟨by rw [h4, h5], below_of h6⟩
end Go.Proofs.YtleaahajkncnpaaDoor
