/- laws of tty: TtyControls -/
import Derived.Test.YtdkfppcafpjomaaDoorTh
namespace Go.Proofs.YtdkfppcafpjomaaDoor
open Go.RowKit M
set_option linter.unusedVariables false
theorem ctl_yes {l : List ItemD} {i : Nat} {x : ItemD} (hx : l[i]? = some x) (h : x.k = 2 ∨ x.k = 3) : (l.take (i + 1)).filter ctlB = (l.take i).filter ctlB ++ [x] := by
  rw [take_snoc hx, List.filter_append, List.filter_cons, if_pos (by unfold ctlB; simpa using h)]; rfl
theorem ctl_no {l : List ItemD} {i : Nat} {x : ItemD} (hx : l[i]? = some x) (h : ¬ (x.k = 2 ∨ x.k = 3)) : (l.take (i + 1)).filter ctlB = (l.take i).filter ctlB := by
  rw [take_snoc hx, List.filter_append, List.filter_cons, if_neg (by unfold ctlB; simpa using h)]; simp
theorem cnt_le (l : List ItemD) (i : Nat) : ((l.take i).filter ctlB).length ≤ l.length := by
  have h1 := List.length_filter_le ctlB (l.take i)
  have h2 : (l.take i).length ≤ l.length := by rw [List.length_take]; omega
  omega
theorem due_yes {W : WS} {l : List ItemD} {pos ctl i : Nat} {part : Bs} (h : TI W l pos ctl part) {now : Int} (hd : dueX l ctl now = some i) : dueD W now = ix l i ∧ TI (dueW W now) l pos (i + 1) part := by
  have h1 := h.due now
  rw [hd] at h1
  refine ⟨?_, h1⟩
  unfold dueD
  rw [h.dueI, hd, h.items]
theorem due_no {W : WS} {l : List ItemD} {pos ctl : Nat} {part : Bs} (h : TI W l pos ctl part) {now : Int} (hd : dueX l ctl now = none) : TI (dueW W now) l pos ctl part := by
  have h1 := h.due now
  rw [hd] at h1
  exact h1
/-- is the control with the number n due -/
def dueQ (l : List ItemD) (n : Nat) (now : Int) : Prop := ∃ x, (l.filter ctlB)[n]? = some x ∧ x.a ≤ now
theorem due_iff {l : List ItemD} {ctl : Nat} {now : Int} : (dueX l ctl now).isSome = true ↔ dueQ l (cntC l ctl) now := by
  obtain ⟨h1, h2⟩ := due_step (l := l) (ctl := ctl) (now := now)
  cases hq : dueX l ctl now with
  | none =>
    simp only [Option.isSome_none]
    refine ⟨fun q => (by cases q), ?_⟩
    rintro ⟨x, q1, q2⟩
    have := h2 hq x q1
    omega
  | some i =>
    simp only [Option.isSome_some, true_iff]
    obtain ⟨q1, q2, _⟩ := h1 i hq
    exact ⟨_, q1, q2⟩
theorem cnt_zero (l : List ItemD) : cntC l 0 = 0 := by simp [cntC]
theorem logs_due (W : WS) (now : Int) : ((dueW W now).logs kOut).length ≤ (W.logs kOut).length := by
  unfold dueW; split <;> exact Nat.le_refl _
theorem dueQ_iff {l : List ItemD} {n : Nat} {now : Int} {x : ItemD} (hx : (l.filter ctlB)[n]? = some x) : dueQ l n now ↔ x.a ≤ now := by
  constructor
  · rintro ⟨y, h1, h2⟩; rw [hx] at h1; cases h1; exact h2
  · intro h; exact ⟨x, hx, h⟩
theorem dueQ_no {l : List ItemD} {n : Nat} {now : Int} (hx : (l.filter ctlB).length ≤ n) : ¬ dueQ l n now := by
  rintro ⟨y, h1, h2⟩; rw [List.getElem?_eq_none hx] at h1; cases h1
set_option maxRecDepth 100000 in
set_option maxHeartbeats 4000000 in
theorem controls_law {w : World} {F : Th} (hS : Sat w [F]) (hG : Ent F WireG) {lv : Value} {l : List ItemD} (hL : Ent F (RdL itC lv l)) {ov : Value} {ol : List OpT} (hO : Ent F (OtRd ov ol)) :
    Calls Tryd.prog 6 #[lv, ov] w (Ret fun v w' => v = .bool true ∧ Sat w' [F]) := by
  obtain ⟨ao, cap, rfl, hmax⟩ := (hO.sat hS 0 rfl).shape
  refine calls_enter Tryd.func6 rfl Tryd.ntmps6 rfl ?_
  obtain ⟨ai, ci, rfl, hmi⟩ := (hL.sat hS 0 rfl).shape
  refine wc_seq ?_
  refine wc_region ?_
  refine wl_assign rfl rfl ?_
  refine wl_nil ?_
  refine qs_seq ?_
  refine wc_seq ?_
  refine wc_region ?_
  have hC1 := hS.split [] [false] rfl; dsimp only [selF, pickA, nthA, List.cons_append, List.nil_append] at hC1
  refine wl_call cal_7 rfl (tsmall_sp hC1 (hG.starL 0 rfl)) rfl ?_
  rintro e w1 ⟨_, rfl, rfl, hS1⟩; refine ⟨_, rfl, ?_⟩
  replace hS1 := hS1.join rfl; dsimp only [List.dropLast, List.cons_append, List.nil_append] at hS1; clear hC1
  refine wl_assign rfl rfl ?_
  refine wl_nil ?_
  refine qs_seq ?_
  refine wc_seq ?_
  refine wc_region ?_
  have hC2 := hS1.split [] [false] rfl; dsimp only [selF, pickA, nthA, List.cons_append, List.nil_append] at hC2
  refine wl_call cal_8 rfl (new_sp hC2) rfl ?_
  rintro e w2 ⟨_, rfl, p, rfl, hS2⟩; refine ⟨_, rfl, ?_⟩
  replace hS2 := hS2.join rfl; dsimp only [List.dropLast, List.cons_append, List.nil_append] at hS2; clear hC2
  clear hS1
  refine wl_assign rfl rfl ?_
  refine wl_nil ?_
  refine qs_seq ?_
  refine wc_seq ?_
  refine wc_region ?_
  have hC3 := hS2.split [] [false, false] rfl; dsimp only [selF, pickA, nthA, List.cons_append, List.nil_append] at hC3
  refine wl_call cal_8 rfl (new_sp hC3) rfl ?_
  rintro e w3 ⟨_, rfl, q, rfl, hS3⟩; refine ⟨_, rfl, ?_⟩
  replace hS3 := hS3.join rfl; dsimp only [List.dropLast, List.cons_append, List.nil_append] at hS3; clear hC3
  clear hS2
  refine wl_assign rfl rfl ?_
  refine wl_nil ?_
  refine qs_seq ?_
  refine wc_seq ?_
  refine wc_seq ?_
  refine wc_region ?_
  refine wl_move rfl rfl ?_
  have hC4 := hS3.split [] [false, false, false] rfl; dsimp only [selF, pickA, nthA, List.cons_append, List.nil_append] at hC4
  refine wl_call cal_13 rfl (tfew_sp hC4 (hO.starL 2 rfl)) rfl ?_
  rintro e w4 ⟨_, rfl, rfl, hS4⟩; refine ⟨_, rfl, ?_⟩
  replace hS4 := hS4.join rfl; dsimp only [List.dropLast, List.cons_append, List.nil_append] at hS4; clear hC4
  clear hS3
  refine wl_not rfl rfl ?_
  refine wl_move rfl rfl ?_
  refine wl_split 28 rfl (fun h5 => ?_) (fun h5 => ?_)
  · skip
    refine wl_unwanted rfl rfl h5 rfl ?_
    refine wl_unwanted rfl rfl h5 rfl ?_
    refine wl_unwanted rfl rfl h5 rfl ?_
    refine wl_pickT rfl h5 rfl rfl ?_
    refine wl_move rfl rfl ?_
    refine wl_unwanted rfl rfl rfl rfl ?_
    refine wl_unwanted rfl rfl rfl rfl ?_
    refine wl_pickT rfl rfl rfl rfl ?_
    refine wl_move rfl rfl ?_
    refine wl_unwanted rfl rfl rfl rfl ?_
    refine wl_unwanted rfl rfl rfl rfl ?_
    refine wl_pickT rfl rfl rfl rfl ?_
    refine wl_nil ?_
    refine qs_seq ?_
    refine wc_sub (L' := [(40, _), (7, _), (6, _), (5, _), (4, _), (0, _), (1, _)]) (.cons rfl (.cons rfl (.cons rfl (.cons rfl (.cons rfl (.cons rfl (.cons rfl .nil))))))) ?_
    refine wc_condT rfl ?_
    refine wc_seq ?_
    refine wc_region ?_
    refine wl_move rfl rfl ?_
    refine wl_move rfl rfl ?_
    refine wl_guard rfl rfl rfl ?_
    refine wl_move rfl rfl ?_
    refine wl_guard rfl rfl rfl ?_
    refine wl_neqNil Tryd.underlying24 rfl rfl rfl ?_
    refine wl_pickT rfl rfl rfl rfl ?_
    refine wl_move rfl rfl ?_
    refine wl_guard rfl rfl rfl ?_
    refine wl_move rfl rfl ?_
    refine wl_guard rfl rfl rfl ?_
    refine wl_neqNil Tryd.underlying24 rfl rfl rfl ?_
    refine wl_pickT rfl rfl rfl rfl ?_
    refine wl_assign rfl rfl ?_
    refine wl_nil ?_
    refine qs_seq ?_
    refine wc_sub (L' := [(4, _), (7, _), (6, _), (5, _), (0, _), (1, _)]) (.cons rfl (.cons rfl (.cons rfl (.cons rfl (.cons rfl (.cons rfl .nil)))))) ?_
    refine wc_ret ?_
    refine qs_then_ret ?_
    refine fin1 (.inr rfl) rfl rfl ?_
    exact ⟨_, rfl, by first | rfl | simp, hS4.pick [2] rfl⟩
  · skip
    refine wl_guard rfl rfl h5 ?_
    refine wl_move rfl rfl ?_
    refine wl_guard rfl rfl h5 ?_
    refine wl_lenL Tryd.underlying22 rfl rfl ?_
    refine wl_guard rfl rfl h5 ?_
    refine wl_gtr rfl rfl rfl ?_
    refine wl_pickF rfl h5 rfl rfl ?_
    refine wl_move rfl rfl ?_
    refine wl_splitD 33 rfl (fun h6 => ?_) (fun h6 => ?_)
    · skip
      refine wl_unwanted rfl rfl (decide_eq_true h6) rfl ?_
      refine wl_unwanted rfl rfl (decide_eq_true h6) rfl ?_
      refine wl_pickT rfl (decide_eq_true h6) rfl rfl ?_
      refine wl_move rfl rfl ?_
      refine wl_unwanted rfl rfl rfl rfl ?_
      refine wl_unwanted rfl rfl rfl rfl ?_
      refine wl_pickT rfl rfl rfl rfl ?_
      refine wl_nil ?_
      refine qs_seq ?_
      refine wc_sub (L' := [(40, _), (7, _), (6, _), (5, _), (4, _), (0, _), (1, _)]) (.cons rfl (.cons rfl (.cons rfl (.cons rfl (.cons rfl (.cons rfl (.cons rfl .nil))))))) ?_
      refine wc_condT rfl ?_
      refine wc_seq ?_
      refine wc_region ?_
      refine wl_move rfl rfl ?_
      refine wl_move rfl rfl ?_
      refine wl_guard rfl rfl rfl ?_
      refine wl_move rfl rfl ?_
      refine wl_guard rfl rfl rfl ?_
      refine wl_neqNil Tryd.underlying24 rfl rfl rfl ?_
      refine wl_pickT rfl rfl rfl rfl ?_
      refine wl_move rfl rfl ?_
      refine wl_guard rfl rfl rfl ?_
      refine wl_move rfl rfl ?_
      refine wl_guard rfl rfl rfl ?_
      refine wl_neqNil Tryd.underlying24 rfl rfl rfl ?_
      refine wl_pickT rfl rfl rfl rfl ?_
      refine wl_assign rfl rfl ?_
      refine wl_nil ?_
      refine qs_seq ?_
      refine wc_sub (L' := [(4, _), (7, _), (6, _), (5, _), (0, _), (1, _)]) (.cons rfl (.cons rfl (.cons rfl (.cons rfl (.cons rfl (.cons rfl .nil)))))) ?_
      refine wc_ret ?_
      refine qs_then_ret ?_
      refine fin1 (.inr rfl) rfl rfl ?_
      exact ⟨_, rfl, by first | rfl | simp, hS4.pick [2] rfl⟩
    · skip
      refine wl_guard rfl rfl (decide_eq_false h6) ?_
      refine wl_move rfl rfl ?_
      refine wl_guard rfl rfl (decide_eq_false h6) ?_
      refine wl_eqlNil Tryd.underlying24 rfl rfl rfl ?_
      refine wl_pickF rfl (decide_eq_false h6) rfl rfl ?_
      refine wl_move rfl rfl ?_
      refine wl_guard rfl rfl rfl ?_
      refine wl_move rfl rfl ?_
      refine wl_guard rfl rfl rfl ?_
      refine wl_eqlNil Tryd.underlying24 rfl rfl rfl ?_
      refine wl_pickF rfl rfl rfl rfl ?_
      refine wl_nil ?_
      refine qs_seq ?_
      refine wc_sub (L' := [(40, _), (7, _), (6, _), (5, _), (4, _), (0, _), (1, _)]) (.cons rfl (.cons rfl (.cons rfl (.cons rfl (.cons rfl (.cons rfl (.cons rfl .nil))))))) ?_
      refine wc_condF rfl ?_
      refine wc_skip ?_
      refine qs_seq ?_
      refine wc_seq ?_
      refine wc_seq ?_
      refine wc_region ?_
      refine wl_move rfl rfl ?_
      refine wl_makeIface nif_24 rfl rfl ?_
      refine wl_move rfl rfl ?_
      have hC7 := hS4.split [1] [false, true, false] rfl; dsimp only [selF, pickA, nthA, List.cons_append, List.nil_append] at hC7
      refine wl_call cal_9 rfl (fill_sp hC7 (hG.starL 1 rfl) (hL.starL 1 rfl) (by omega)) rfl ?_
      rintro e w7 ⟨_, rfl, rfl, hS7⟩; refine ⟨_, rfl, ?_⟩
      replace hS7 := hS7.join rfl; dsimp only [List.dropLast, List.cons_append, List.nil_append] at hS7; clear hC7
      clear hS4
      refine wl_neq rfl rfl rfl ?_
      refine wl_move rfl rfl ?_
      refine wl_splitD 55 rfl (fun h8 => ?_) (fun h8 => ?_)
      · skip
        refine wl_unwanted rfl rfl (decide_eq_true h8) rfl ?_
        refine wl_unwanted rfl rfl (decide_eq_true h8) rfl ?_
        refine wl_unwanted rfl rfl (decide_eq_true h8) rfl ?_
        refine wl_unwanted rfl rfl (decide_eq_true h8) rfl ?_
        refine wl_unwanted rfl rfl (decide_eq_true h8) rfl ?_
        refine wl_pickT rfl (decide_eq_true h8) rfl rfl ?_
        refine wl_nil ?_
        refine qs_seq ?_
        refine wc_sub (L' := [(61, _), (7, _), (6, _), (5, _), (4, _), (0, _), (1, _)]) (.cons rfl (.cons rfl (.cons rfl (.cons rfl (.cons rfl (.cons rfl (.cons rfl .nil))))))) ?_
        refine wc_condT rfl ?_
        refine wc_seq ?_
        refine wc_region ?_
        refine wl_move rfl rfl ?_
        refine wl_assign rfl rfl ?_
        refine wl_nil ?_
        refine qs_seq ?_
        refine wc_ret ?_
        refine qs_then_ret ?_
        refine fin1 (.inr rfl) rfl rfl ?_
        exact ⟨_, rfl, by first | rfl | simp, hS7.pick [2] rfl⟩
      · skip
        refine wl_guard rfl rfl (decide_eq_false h8) ?_
        refine wl_move rfl rfl ?_
        refine wl_guard rfl rfl (decide_eq_false h8) ?_
        refine wl_makeIface nif_24 rfl rfl ?_
        refine wl_guard rfl rfl (decide_eq_false h8) ?_
        refine wl_move rfl rfl ?_
        refine wl_guard rfl rfl (decide_eq_false h8) ?_
        have hC9 := hS7.split [1] [false, true, false] rfl; dsimp only [selF, pickA, nthA, List.cons_append, List.nil_append] at hC9
        refine wl_call cal_9 rfl (fill_sp hC9 (hG.starL 1 rfl) (hL.starL 1 rfl) (by omega)) rfl ?_
        rintro e w9 ⟨_, rfl, rfl, hS9⟩; refine ⟨_, rfl, ?_⟩
        replace hS9 := hS9.join rfl; dsimp only [List.dropLast, List.cons_append, List.nil_append] at hS9; clear hC9
        clear hS7
        refine wl_guard rfl rfl (decide_eq_false h8) ?_
        refine wl_neq rfl rfl rfl ?_
        refine wl_pickF rfl (decide_eq_false h8) rfl rfl ?_
        refine wl_nil ?_
        refine qs_seq ?_
        refine wc_sub (L' := [(61, _), (7, _), (6, _), (5, _), (4, _), (0, _), (1, _)]) (.cons rfl (.cons rfl (.cons rfl (.cons rfl (.cons rfl (.cons rfl (.cons rfl .nil))))))) ?_
        refine wc_condD rfl (fun h10 => ?_) (fun h10 => ?_)
        · skip
          refine wc_seq ?_
          refine wc_region ?_
          refine wl_move rfl rfl ?_
          refine wl_assign rfl rfl ?_
          refine wl_nil ?_
          refine qs_seq ?_
          refine wc_ret ?_
          refine qs_then_ret ?_
          refine fin1 (.inr rfl) rfl rfl ?_
          exact ⟨_, rfl, by first | rfl | simp, hS9.pick [2] rfl⟩
        · skip
          have hfew : fewT ol = true := by simpa using (show (!fewT ol) = false by assumption)
          have hll := fewT_len hfew
          have hr : rightB l = true := fillE_right (by assumption)
          have hrl := right_len hr
          refine wc_skip ?_
          refine qs_seq ?_
          refine wc_seq ?_
          refine wc_region ?_
          refine wl_assign rfl rfl ?_
          refine wl_nil ?_
          refine qs_seq ?_
          refine wc_seq ?_
          refine wc_seq ?_
          refine wc_region ?_
          refine wl_assign rfl rfl ?_
          refine wl_nil ?_
          refine qs_seq ?_
          refine wc_block ?_
          refine wc_loop (fun K0 E0 W0 => ∃ (i : Nat) (wv : Value), K0 = l.length - i ∧ E0 = [(0, .slice ai l.length ci), (1, .slice ao ol.length cap), (5, .bool true), (6, ptrV p 0), (7, ptrV q 0), (8, wv), (9, intV (i : Int))] ∧ Sat W0 [rowT itC wv ((l.take i).filter ctlB), worldT p (fillW emptyW l), worldT q (fillW emptyW l), F] ∧ (i ≤ l.length)) (L0 := [(0, _), (1, _), (5, _), (6, _), (7, _), (8, _), (9, _)]) (l.length - 0) (.cons rfl (.cons rfl (.cons rfl (.cons rfl (.cons rfl (.cons rfl (.cons rfl .nil))))))) ⟨0, _, rfl, rfl, (by rw [show (l.take 0).filter ctlB = [] by simp]; exact (hS9.row_nil itC).pick [0, 2, 1, 3] rfl), by omega⟩ ?_
          rintro _ _ w11 ⟨i, wv, rfl, rfl, hS11, hi⟩
          have h1wv : wv.oneCell' = true := hS11.own_one 0 rfl
          refine wc_seq ?_
          refine wc_seq ?_
          refine wc_region ?_
          refine wl_move rfl rfl ?_
          refine wl_move rfl rfl ?_
          first | refine wl_lenL Tryd.underlying22 rfl rfl ?_ | refine wl_lenO 0 hS11 Tryd.underlying22 rfl rfl rfl ?_
          refine wl_lss rfl rfl rfl ?_
          refine wl_nil ?_
          refine qs_seq ?_
          refine wc_sub (L' := [(66, _), (0, _), (1, _), (5, _), (6, _), (7, _), (8, _), (9, _)]) (.cons rfl (.cons rfl (.cons rfl (.cons rfl (.cons rfl (.cons rfl (.cons rfl (.cons rfl .nil)))))))) ?_
          refine wc_condD rfl (fun h12 => ?_) (fun h12 => ?_)
          · skip
            obtain ⟨x, hx⟩ : ∃ x, l[i]? = some x := ⟨_, List.getElem?_eq_getElem (by omega)⟩
            obtain ⟨bi, offi, rfl, hc⟩ := (hL.sat hS11 3 rfl).get hx
            have hcn := cnt_le l i
            refine wc_skip ?_
            refine qs_seq ?_
            refine wc_seq ?_
            refine wc_block ?_
            refine wc_seq ?_
            refine wc_region ?_
            refine wl_move rfl rfl ?_
            refine wl_move rfl rfl ?_
            refine wl_indexAddr i rfl rfl (by first | rfl | omega) (by omega) es_22 rfl ?_
            refine wl_fieldAddr rfl fo_29_1 rfl ?_
            refine wl_load rfl ag_3 (rdl_at (C := itC) (j := 1) (hL.sat hS11 3 rfl) hx rfl) rfl ?_
            refine wl_eql rfl rfl rfl ?_
            refine wl_move rfl rfl ?_
            refine wl_splitD 75 rfl (fun h13 => ?_) (fun h13 => ?_)
            · skip
              refine wl_unwanted rfl rfl (decide_eq_true h13) rfl ?_
              refine wl_unwanted rfl rfl (decide_eq_true h13) rfl ?_
              refine wl_unwanted rfl rfl (decide_eq_true h13) rfl ?_
              refine wl_unwanted rfl rfl (decide_eq_true h13) rfl ?_
              refine wl_unwanted rfl rfl (decide_eq_true h13) rfl ?_
              refine wl_unwanted rfl rfl (decide_eq_true h13) rfl ?_
              refine wl_pickT rfl (decide_eq_true h13) rfl rfl ?_
              refine wl_nil ?_
              refine qs_seq ?_
              refine wc_sub (L' := [(82, _), (0, _), (1, _), (5, _), (6, _), (7, _), (8, _), (9, _)]) (.cons rfl (.cons rfl (.cons rfl (.cons rfl (.cons rfl (.cons rfl (.cons rfl (.cons rfl .nil)))))))) ?_
              refine wc_condT rfl ?_
              refine wc_region ?_
              refine wl_move rfl rfl ?_
              refine wl_move rfl rfl ?_
              refine wl_move rfl rfl ?_
              refine wl_indexAddr i rfl rfl (by first | rfl | omega) (by omega) es_22 rfl ?_
              refine wl_loadAt rfl ag_29 sz_29 (vs := itV x) hc rfl ?_
              refine wl_rowBuild itC [x] hS11 rfl Tryd.underlying22 ifz_29 rfl rfl rfl rfl (by first | rfl | simp [RowC.cells, fillL, splice]) rfl ?_
              intro b14 w14 hS14
              clear hS11
              refine wl_rowApp itC 1 hS14 rfl rfl rfl (hS14.rd 0 rfl (by simp)) Tryd.underlying22 Tryd.underlying22 (by intro k hk; cases hk) ifo_29 rfl (by first | (simp only [List.length_cons, List.length_nil]; omega) | omega) rfl (by first | (simp only [List.length_cons, List.length_nil]; omega) | omega) ?_
              intro v15 w15 hS15; dsimp only [List.set] at hS15
              clear hS14
              have h1v15 : v15.oneCell' = true := hS15.own_one 1 rfl
              refine wl_assign rfl rfl ?_
              refine wl_nil ?_
              refine qs_block_normal ?_
              refine qs_seq ?_
              refine wc_sub (L' := [(8, _), (0, _), (1, _), (5, _), (6, _), (7, _), (9, _)]) (.cons rfl (.cons rfl (.cons rfl (.cons rfl (.cons rfl (.cons rfl (.cons rfl .nil))))))) ?_
              refine wc_region ?_
              refine wl_move rfl rfl ?_
              refine wl_add rfl rfl (by first | omega | (simp; omega)) (by first | omega | (simp; omega)) rfl ?_
              refine wl_assign rfl rfl ?_
              refine wl_nil ?_
              have e1 := ctl_yes hx (by first | (left; assumption) | (right; assumption))
              exact qs_round (L1 := [(0, _), (1, _), (5, _), (6, _), (7, _), (8, _), (9, intV ((i + 1 : Nat) : Int))]) (.cons rfl (.cons rfl (.cons rfl (.cons rfl (.cons rfl (.cons rfl (.cons rfl .nil))))))) (k1 := l.length - (i + 1)) (by omega) ⟨i + 1, _, rfl, rfl, (by rw [e1]; exact hS15.pick [1, 2, 3, 4] rfl), by omega⟩
            · skip
              refine wl_guard rfl rfl (decide_eq_false h13) ?_
              refine wl_move rfl rfl ?_
              refine wl_guard rfl rfl (decide_eq_false h13) ?_
              refine wl_move rfl rfl ?_
              refine wl_guard rfl rfl (decide_eq_false h13) ?_
              refine wl_indexAddr i rfl rfl (by first | rfl | omega) (by omega) es_22 rfl ?_
              refine wl_guard rfl rfl (decide_eq_false h13) ?_
              refine wl_fieldAddr rfl fo_29_1 rfl ?_
              refine wl_guard rfl rfl (decide_eq_false h13) ?_
              refine wl_load rfl ag_3 (rdl_at (C := itC) (j := 1) (hL.sat hS11 3 rfl) hx rfl) rfl ?_
              refine wl_guard rfl rfl (decide_eq_false h13) ?_
              refine wl_eql rfl rfl rfl ?_
              refine wl_pickF rfl (decide_eq_false h13) rfl rfl ?_
              refine wl_nil ?_
              refine qs_seq ?_
              refine wc_sub (L' := [(82, _), (0, _), (1, _), (5, _), (6, _), (7, _), (8, _), (9, _)]) (.cons rfl (.cons rfl (.cons rfl (.cons rfl (.cons rfl (.cons rfl (.cons rfl (.cons rfl .nil)))))))) ?_
              refine wc_condD rfl (fun h16 => ?_) (fun h16 => ?_)
              · skip
                refine wc_region ?_
                refine wl_move rfl rfl ?_
                refine wl_move rfl rfl ?_
                refine wl_move rfl rfl ?_
                refine wl_indexAddr i rfl rfl (by first | rfl | omega) (by omega) es_22 rfl ?_
                refine wl_loadAt rfl ag_29 sz_29 (vs := itV x) hc rfl ?_
                refine wl_rowBuild itC [x] hS11 rfl Tryd.underlying22 ifz_29 rfl rfl rfl rfl (by first | rfl | simp [RowC.cells, fillL, splice]) rfl ?_
                intro b17 w17 hS17
                clear hS11
                refine wl_rowApp itC 1 hS17 rfl rfl rfl (hS17.rd 0 rfl (by simp)) Tryd.underlying22 Tryd.underlying22 (by intro k hk; cases hk) ifo_29 rfl (by first | (simp only [List.length_cons, List.length_nil]; omega) | omega) rfl (by first | (simp only [List.length_cons, List.length_nil]; omega) | omega) ?_
                intro v18 w18 hS18; dsimp only [List.set] at hS18
                clear hS17
                have h1v18 : v18.oneCell' = true := hS18.own_one 1 rfl
                refine wl_assign rfl rfl ?_
                refine wl_nil ?_
                refine qs_block_normal ?_
                refine qs_seq ?_
                refine wc_sub (L' := [(8, _), (0, _), (1, _), (5, _), (6, _), (7, _), (9, _)]) (.cons rfl (.cons rfl (.cons rfl (.cons rfl (.cons rfl (.cons rfl (.cons rfl .nil))))))) ?_
                refine wc_region ?_
                refine wl_move rfl rfl ?_
                refine wl_add rfl rfl (by first | omega | (simp; omega)) (by first | omega | (simp; omega)) rfl ?_
                refine wl_assign rfl rfl ?_
                refine wl_nil ?_
                have e1 := ctl_yes hx (by first | (left; assumption) | (right; assumption))
                exact qs_round (L1 := [(0, _), (1, _), (5, _), (6, _), (7, _), (8, _), (9, intV ((i + 1 : Nat) : Int))]) (.cons rfl (.cons rfl (.cons rfl (.cons rfl (.cons rfl (.cons rfl (.cons rfl .nil))))))) (k1 := l.length - (i + 1)) (by omega) ⟨i + 1, _, rfl, rfl, (by rw [e1]; exact hS18.pick [1, 2, 3, 4] rfl), by omega⟩
              · skip
                refine wc_skip ?_
                refine qs_block_normal ?_
                refine qs_seq ?_
                refine wc_region ?_
                refine wl_move rfl rfl ?_
                refine wl_add rfl rfl (by first | omega | (simp; omega)) (by first | omega | (simp; omega)) rfl ?_
                refine wl_assign rfl rfl ?_
                refine wl_nil ?_
                have e1 := ctl_no hx (by omega)
                exact qs_round (L1 := [(0, _), (1, _), (5, _), (6, _), (7, _), (8, _), (9, intV ((i + 1 : Nat) : Int))]) (.cons rfl (.cons rfl (.cons rfl (.cons rfl (.cons rfl (.cons rfl (.cons rfl .nil))))))) (k1 := l.length - (i + 1)) (by omega) ⟨i + 1, _, rfl, rfl, (by rw [e1]; exact hS11.pick [0, 1, 2, 3] rfl), by omega⟩
          · skip
            refine wc_exit ?_
            refine qs_then_exit ?_
            refine qs_then_exit ?_
            refine qs_block_exit ?_
            refine qs_seq ?_
            refine wc_seq ?_
            refine wc_region ?_
            refine wl_assign rfl rfl ?_
            refine wl_nil ?_
            refine qs_seq ?_
            refine wc_seq ?_
            refine wc_seq ?_
            refine wc_region ?_
            refine wl_assign rfl rfl ?_
            refine wl_nil ?_
            refine qs_seq ?_
            refine wc_block ?_
            obtain rfl : i = l.length := by omega
            have etk : l.take l.length = l := List.take_length
            rw [etk] at hS11
            refine wc_loop (fun K0 E0 W0 => ∃ (i : Nat) (pos : Nat) (ctl : Nat) (ctv : Nat) (n : Nat) (part : Bs) (W : WS) (V : WS) (wz : Value), K0 = ol.length - i ∧ E0 = [(1, .slice ao ol.length cap), (5, .bool true), (6, ptrV p 0), (7, ptrV q 0), (8, wz), (10, intV (n : Int)), (11, intV (i : Int))] ∧ Sat W0 [rowT itC wz (l.filter ctlB), worldT p W, worldT q V, F] ∧ (i ≤ ol.length) ∧ (TI W l pos ctl part) ∧ (TI V l pos ctv part) ∧ (n = cntC l ctl) ∧ (TB W) ∧ (TB V) ∧ ((W.logs kOut).length ≤ 300 * i) ∧ ((V.logs kOut).length ≤ 300 * i)) (L0 := [(1, _), (5, _), (6, _), (7, _), (8, _), (10, _), (11, _)]) (ol.length - 0) (.cons rfl (.cons rfl (.cons rfl (.cons rfl (.cons rfl (.cons rfl (.cons rfl .nil))))))) ⟨0, 0, 0, 0, 0, [], _, _, _, rfl, rfl, hS11.pick [0, 1, 2, 3] rfl, by omega, TI.fill hr, TI.fill hr, (cnt_zero l).symm, TB.empty.fill l, TB.empty.fill l, by rw [logs_fill]; omega, by rw [logs_fill]; omega⟩ ?_
            rintro _ _ w19 ⟨i, pos, ctl, ctv, n, part, W, V, wz, rfl, rfl, hS19, hi, hT, hV, hn, hBW, hBV, hlw, hlv⟩
            subst hn
            have hcl : (l.filter ctlB).length ≤ l.length := List.length_filter_le _ _
            refine wc_seq ?_
            refine wc_seq ?_
            refine wc_region ?_
            refine wl_move rfl rfl ?_
            refine wl_move rfl rfl ?_
            first | refine wl_lenL Tryd.underlying35 rfl rfl ?_ | refine wl_lenO 0 hS19 Tryd.underlying35 rfl rfl rfl ?_
            refine wl_lss rfl rfl rfl ?_
            refine wl_nil ?_
            refine qs_seq ?_
            refine wc_sub (L' := [(93, _), (1, _), (5, _), (6, _), (7, _), (8, _), (10, _), (11, _)]) (.cons rfl (.cons rfl (.cons rfl (.cons rfl (.cons rfl (.cons rfl (.cons rfl (.cons rfl .nil)))))))) ?_
            refine wc_condD rfl (fun h20 => ?_) (fun h20 => ?_)
            · skip
              obtain ⟨o, ho⟩ : ∃ o, ol[i]? = some o := ⟨_, List.getElem?_eq_getElem (by omega)⟩
              obtain ⟨⟨b, off, rfl, hc⟩, hil, hin⟩ := (hO.sat hS19 3 rfl).get ho
              have hLo : Ent F (RdL itC o.lv o.l) := fun g => (RdX.elem hO ho g).1
              have hos := fewT_get hfew ho
              have hoi : i < ol.length := (List.getElem?_eq_some_iff.1 ho).1
              refine wc_skip ?_
              refine qs_seq ?_
              refine wc_seq ?_
              refine wc_block ?_
              refine wc_seq ?_
              refine wc_region ?_
              refine wl_move rfl rfl ?_
              refine wl_move rfl rfl ?_
              refine wl_indexAddr i rfl rfl (by first | rfl | omega) (by omega) es_35 rfl ?_
              refine wl_fieldAddr rfl fo_41_0 rfl ?_
              refine wl_load rfl ag_3 (((hO.sat hS19 3 rfl).cells ho) 0 _ rfl) rfl ?_
              refine wl_mask 4 rfl rfl rfl rfl (q := 16) rfl rfl ?_
              refine wl_assign rfl rfl ?_
              refine wl_nil ?_
              refine qs_seq ?_
              refine wc_sub (L' := [(12, _), (1, _), (5, _), (6, _), (7, _), (8, _), (10, _), (11, _)]) (.cons rfl (.cons rfl (.cons rfl (.cons rfl (.cons rfl (.cons rfl (.cons rfl (.cons rfl .nil)))))))) ?_
              refine wc_seq ?_
              refine wc_region ?_
              refine wl_move rfl rfl ?_
              refine wl_nil ?_
              refine qs_seq ?_
              refine wc_block ?_
              refine wc_seq ?_
              refine wc_seq ?_
              refine wc_region ?_
              refine wl_eql rfl rfl rfl ?_
              refine wl_assign rfl rfl ?_
              refine wl_nil ?_
              refine qs_seq ?_
              refine wc_condD rfl (fun h21 => ?_) (fun h21 => ?_)
              · skip
                refine wc_skip ?_
                refine qs_seq ?_
                refine wc_condKT rfl (decide_eq_true h21) ?_
                refine wc_mid (fun E0 W0 => ∃ (dq : Bool) (wv2 : Value), E0 = [(1, .slice (some ⟨b, off, none⟩) ol.length cap), (5, .bool true), (6, ptrV p 0), (7, ptrV q 0), (8, wv2), (10, intV (cntC l ctl : Int)), (11, intV (i : Int)), (13, .bool dq)] ∧ Sat W0 [rowT itC wv2 (l.filter ctlB), worldT p W, worldT q V, F] ∧ (dq = true ↔ dueQ l (cntC l ctl) o.now)) ?_ ?_
                · skip
                  obtain ⟨wa, wcap, rfl, _⟩ := hS19.own_shape 0 rfl
                  have hS23 := hS19.drew
                  refine wc_draw [0, 1, 2, 3, 4, 5, 6, 7, 8, 9, 10, 11, 12, 13, 14, 15, 16, 17, 18, 19, 20, 21, 22] [] mix (by kernel_rfl) ?_
                  refine vc_p rfl rfl rfl (fun _ => (ev_move rfl)) ?_
                  refine vc_p rfl rfl rfl (fun _ => (ev_move rfl)) ?_
                  refine vc_p rfl rfl rfl (fun _ => (ev_lenL Tryd.underlying22 rfl)) ?_
                  refine vc_p rfl rfl rfl (fun _ => (ev_lss rfl rfl)) ?_
                  refine vc_p rfl rfl rfl (fun _ => (ev_move rfl)) ?_
                  refine vc_splitD 110 rfl (fun h24 => ?_) (fun h24 => ?_)
                  · skip
                    obtain ⟨y, hy⟩ : ∃ y, (l.filter ctlB)[cntC l ctl]? = some y := ⟨_, List.getElem?_eq_getElem (by omega)⟩
                    obtain ⟨rb, rcap, he, _⟩ := hS23.own_at 0 rfl (by omega)
                    cases he
                    refine vc_p rfl rfl (guard_yes rfl rfl (decide_eq_true h24)) (fun _ => (Ev.gd (ev_move rfl))) ?_
                    refine vc_p rfl rfl (guard_yes rfl rfl (decide_eq_true h24)) (fun _ => (Ev.gd (ev_move rfl))) ?_
                    refine vc_p rfl rfl (guard_yes rfl rfl (decide_eq_true h24)) (fun _ => (Ev.gd (ev_move rfl))) ?_
                    refine vc_p rfl rfl (guard_yes rfl rfl (decide_eq_true h24)) (fun _ => (Ev.gd (ev_lenL Tryd.underlying22 rfl))) ?_
                    refine vc_p rfl rfl (guard_yes rfl rfl (decide_eq_true h24)) (fun _ => (Ev.gd (ev_sub' rfl rfl (by first | omega | (simp; omega)) (by first | omega | (simp; omega))))) ?_
                    refine vc_p rfl rfl (guard_yes rfl rfl (decide_eq_true h24)) (fun _ => (Ev.gd (ev_maxI rfl rfl))) ?_
                    refine vc_p rfl rfl (guard_yes rfl rfl (decide_eq_true h24)) (fun _ => (Ev.gd (ev_minI rfl rfl))) ?_
                    refine vc_p rfl rfl (guard_yes rfl rfl (decide_eq_true h24)) (fun _ => (Ev.gd (ev_indexAddr (cntC l ctl) rfl rfl (by first | rfl | omega) (by first | omega | exact (List.getElem?_eq_some_iff.1 hy).1) es_22))) ?_
                    refine vc_p rfl rfl (guard_yes rfl rfl (decide_eq_true h24)) (fun _ => (Ev.gd (ev_fieldAddr rfl fo_29_0))) ?_
                    refine vc_q rfl rfl (guard_yes rfl rfl (decide_eq_true h24)) (Ev.gd (ev_rowLoad0 itC 0 (cntC l ctl) 0 hS23 rfl hy ag_3 rfl rfl)) ?_
                    refine vc_p rfl rfl (guard_yes rfl rfl (decide_eq_true h24)) (fun _ => (Ev.gd (ev_move rfl))) ?_
                    refine vc_p rfl rfl (guard_yes rfl rfl (decide_eq_true h24)) (fun _ => (Ev.gd (ev_move rfl))) ?_
                    refine vc_p rfl rfl (guard_yes rfl rfl (decide_eq_true h24)) (fun _ => (Ev.gd (ev_indexAddr i rfl rfl (by first | rfl | omega) (by omega) es_35))) ?_
                    refine vc_p rfl rfl (guard_yes rfl rfl (decide_eq_true h24)) (fun _ => (Ev.gd (ev_fieldAddr rfl fo_41_1))) ?_
                    refine vc_q rfl rfl (guard_yes rfl rfl (decide_eq_true h24)) (Ev.gd (ev_load rfl ag_3 (((hO.sat hS23 3 rfl).cells ho) 1 _ rfl))) ?_
                    refine vc_p rfl rfl (guard_yes rfl rfl (decide_eq_true h24)) (fun _ => (Ev.gd (ev_leq rfl rfl))) ?_
                    refine vc_p rfl rfl rfl (fun _ => (ev_pickT rfl (decide_eq_true h24) rfl)) ?_
                    refine vc_p rfl rfl rfl (fun _ => (ev_assign rfl)) ?_
                    refine VC.nil ?_
                    exact qs_mid (.cons rfl (.cons rfl (.cons rfl (.cons rfl (.cons rfl (.cons rfl (.cons rfl (.cons rfl .nil)))))))) ⟨decide (y.a ≤ o.now), _, rfl, hS23.pick [0, 1, 2, 3] rfl, by rw [dueQ_iff hy]; simp⟩
                  · skip
                    refine vc_not rfl rfl (guard_no rfl rfl (decide_eq_false h24)) ?_
                    refine vc_not rfl rfl (guard_no rfl rfl (decide_eq_false h24)) ?_
                    refine vc_not rfl rfl (guard_no rfl rfl (decide_eq_false h24)) ?_
                    refine vc_not rfl rfl (guard_no rfl rfl (decide_eq_false h24)) ?_
                    refine vc_not rfl rfl (guard_no rfl rfl (decide_eq_false h24)) ?_
                    refine vc_not rfl rfl (guard_no rfl rfl (decide_eq_false h24)) ?_
                    refine vc_not rfl rfl (guard_no rfl rfl (decide_eq_false h24)) ?_
                    refine vc_not rfl rfl (guard_no rfl rfl (decide_eq_false h24)) ?_
                    refine vc_not rfl rfl (guard_no rfl rfl (decide_eq_false h24)) ?_
                    refine vc_not rfl rfl (guard_no rfl rfl (decide_eq_false h24)) ?_
                    refine vc_not rfl rfl (guard_no rfl rfl (decide_eq_false h24)) ?_
                    refine vc_not rfl rfl (guard_no rfl rfl (decide_eq_false h24)) ?_
                    refine vc_not rfl rfl (guard_no rfl rfl (decide_eq_false h24)) ?_
                    refine vc_not rfl rfl (guard_no rfl rfl (decide_eq_false h24)) ?_
                    refine vc_not rfl rfl (guard_no rfl rfl (decide_eq_false h24)) ?_
                    refine vc_not rfl rfl (guard_no rfl rfl (decide_eq_false h24)) ?_
                    refine vc_p rfl rfl rfl (fun _ => (ev_pickF rfl (decide_eq_false h24) rfl)) ?_
                    refine vc_p rfl rfl rfl (fun _ => (ev_assign rfl)) ?_
                    refine VC.nil ?_
                    exact qs_mid (.cons rfl (.cons rfl (.cons rfl (.cons rfl (.cons rfl (.cons rfl (.cons rfl (.cons rfl .nil)))))))) ⟨false, _, rfl, hS23.pick [0, 1, 2, 3] rfl, by have := dueQ_no (l := l) (n := cntC l ctl) (now := o.now) (by omega); simp [this]⟩
                rintro _ w22 ⟨dq, wv2, rfl, hS22, hdq⟩
                refine wc_seq ?_
                refine wc_region ?_
                refine wl_move rfl rfl ?_
                refine wl_makeIface nif_24 rfl rfl ?_
                refine wl_move rfl rfl ?_
                refine wl_move rfl rfl ?_
                refine wl_indexAddr i rfl rfl (by first | rfl | omega) (by omega) es_35 rfl ?_
                refine wl_fieldAddr rfl fo_41_1 rfl ?_
                refine wl_load rfl ag_3 (((hO.sat hS22 3 rfl).cells ho) 1 _ rfl) rfl ?_
                have hC25 := hS22.split [1] [false, true, false, false] rfl; dsimp only [selF, pickA, nthA, List.cons_append, List.nil_append] at hC25
                refine wl_call cal_18 rfl (due_sp hC25 (hG.starL 2 rfl) hBW o.now) rfl ?_
                rintro e w25 ⟨_, rfl, rfl, hS25⟩; refine ⟨_, rfl, ?_⟩
                replace hS25 := hS25.join rfl; dsimp only [List.dropLast, List.cons_append, List.nil_append] at hS25; clear hC25
                clear hS22
                refine wl_move rfl rfl ?_
                refine wl_extract rfl rfl rfl ?_
                refine wl_extract rfl rfl rfl ?_
                refine wl_alloc hS25 zr_29 rfl rfl ?_
                intro b26 w26 hS26
                clear hS25
                first | (refine wl_storeA hS26 rfl rfl sz_29 rfl (by first | rfl | (simp [allOne, Value.oneCell']; done) | assumption | exact hone) (i := 0) rfl (by first | decide | exact Nat.le_of_ble_eq_true rfl | (simp; done) | omega) ?_)
                intro w27 hS28; dsimp only [List.set] at hS28
                clear hS26
                refine wl_assign rfl rfl ?_
                refine wl_nil ?_
                refine qs_seq ?_
                refine wc_sub (L' := [(15, _), (14, _), (1, _), (5, _), (6, _), (7, _), (8, _), (10, _), (11, _), (13, _)]) (.cons rfl (.cons rfl (.cons rfl (.cons rfl (.cons rfl (.cons rfl (.cons rfl (.cons rfl (.cons rfl (.cons rfl .nil)))))))))) ?_
                refine wc_seq ?_
                refine wc_seq ?_
                have hdd : (dueI W o.now).isSome = dq := by rw [hT.dueI, Bool.eq_iff_iff, due_iff, hdq]
                have hS29 := hS28.drew
                refine wc_draw [0, 1, 2, 3, 4, 5, 6, 7, 8, 9, 10, 11, 12, 13] [] mix (by kernel_rfl) ?_
                refine vc_p rfl rfl rfl (fun _ => (ev_move rfl)) ?_
                refine vc_p rfl rfl rfl (fun _ => (ev_move rfl)) ?_
                refine vc_p rfl rfl rfl (fun _ => (ev_neqB Tryd.underlying4 rfl rfl)) ?_
                refine vc_p rfl rfl rfl (fun _ => (ev_move rfl)) ?_
                refine vc_split 142 rfl (fun h30 => ?_) (fun h30 => ?_)
                · skip
                  simp [hdd] at h30
                · skip
                  refine vc_p rfl rfl (guard_yes rfl rfl h30) (fun _ => (Ev.gd (ev_move rfl))) ?_
                  refine vc_p rfl rfl (guard_yes rfl rfl h30) (fun _ => (Ev.gd (ev_move rfl))) ?_
                  refine vc_split 144 rfl (fun h31 => ?_) (fun h31 => ?_)
                  · skip
                    obtain ⟨j, hj⟩ := optYes (q := dueX l ctl o.now) (by rw [← hT.dueI]; exact h31)
                    obtain ⟨hdx, hdn⟩ := due_yes hT hj
                    obtain ⟨hd1, hd2, hd3⟩ := due_step.1 j hj
                    have hlp := (List.getElem?_eq_some_iff.1 hd1).1
                    obtain ⟨rb, rcap, rfl, _⟩ := hS29.own_at 2 rfl (by omega)
                    refine vc_q rfl rfl (guard_yes rfl rfl h31) (Ev.gd (ev_loadA rfl ag_29 sz_29 (by first | exact hS29.blk 0 rfl) (by first | decide | exact Nat.le_of_ble_eq_true rfl | (simp; done) | omega) rfl)) ?_
                    refine vc_p rfl rfl (guard_yes rfl rfl h31) (fun _ => (Ev.gd (ev_move rfl))) ?_
                    refine vc_p rfl rfl (guard_yes rfl rfl h31) (fun _ => (Ev.gd (ev_move rfl))) ?_
                    refine vc_p rfl rfl (guard_yes rfl rfl h31) (fun _ => (Ev.gd (ev_indexAddr (cntC l ctl) rfl rfl (by first | rfl | omega) (by first | omega | exact (List.getElem?_eq_some_iff.1 hd1).1) es_22))) ?_
                    refine vc_q rfl rfl (guard_yes rfl rfl h31) (Ev.gd (ev_rowLoadA0 itC 2 (cntC l ctl) hS29 rfl hd1 ag_29 sz_29 rfl rfl)) ?_
                    refine vc_p rfl rfl (guard_yes rfl rfl h31) (fun _ => (Ev.gd (ev_neqAgg (eqItem (dueD W o.now) (ix l j)) (by kernel_rfl) rfl rfl))) ?_
                    refine vc_p rfl rfl (guard_yes rfl rfl h30) (fun _ => (Ev.gd (ev_pickT rfl h31 rfl))) ?_
                    refine vc_p rfl rfl rfl (fun _ => (ev_pickF rfl h30 rfl)) ?_
                    refine VC.nil ?_
                    refine qs_seq ?_
                    refine wc_sub (L' := [(152, _), (15, _), (1, _), (5, _), (6, _), (7, _), (8, _), (10, _), (11, _)]) (.cons rfl (.cons rfl (.cons rfl (.cons rfl (.cons rfl (.cons rfl (.cons rfl (.cons rfl (.cons rfl .nil))))))))) ?_
                    refine wc_cond rfl (fun h32 => ?_) (fun h32 => ?_)
                    · skip
                      rw [hdx] at h32; simp at h32
                    · skip
                      refine wc_skip ?_
                      refine qs_seq ?_
                      refine wc_seq ?_
                      refine wc_region ?_
                      refine wl_move rfl rfl ?_
                      refine wl_nil ?_
                      refine qs_seq ?_
                      refine wc_cond rfl (fun h33 => ?_) (fun h33 => ?_)
                      · skip
                        refine wc_region ?_
                        refine wl_move rfl rfl ?_
                        refine wl_add rfl rfl (by first | omega | (simp; omega)) (by first | omega | (simp; omega)) rfl ?_
                        refine wl_assign rfl rfl ?_
                        refine wl_nil ?_
                        refine qs_block_normal ?_
                        refine qs_block_normal ?_
                        refine qs_seq ?_
                        refine wc_sub (L' := [(10, _), (1, _), (5, _), (6, _), (7, _), (8, _), (11, _)]) (.cons rfl (.cons rfl (.cons rfl (.cons rfl (.cons rfl (.cons rfl (.cons rfl .nil))))))) ?_
                        refine wc_region ?_
                        refine wl_move rfl rfl ?_
                        refine wl_add rfl rfl (by first | omega | (simp; omega)) (by first | omega | (simp; omega)) rfl ?_
                        refine wl_assign rfl rfl ?_
                        refine wl_nil ?_
                        exact qs_round (L1 := [(1, _), (5, _), (6, _), (7, _), (8, _), (10, _), (11, intV ((i + 1 : Nat) : Int))]) (.cons rfl (.cons rfl (.cons rfl (.cons rfl (.cons rfl (.cons rfl (.cons rfl .nil))))))) (k1 := ol.length - (i + 1)) (by omega) ⟨i + 1, pos, j + 1, ctv, cntC l ctl + 1, part, dueW W o.now, V, _, rfl, rfl, hS29.pick [2, 1, 3, 4] rfl, by omega, hdn, hV, by rw [hd3], hBW.due _, hBV, by have := logs_due W o.now; omega, by omega⟩
                      · skip
                        simp_all
                  · skip
                    have hd0 := optNo (q := dueX l ctl o.now) (by rw [← hT.dueI]; exact h31)
                    refine vc_not rfl rfl (guard_no rfl rfl h31) ?_
                    refine vc_not rfl rfl (guard_no rfl rfl h31) ?_
                    refine vc_not rfl rfl (guard_no rfl rfl h31) ?_
                    refine vc_not rfl rfl (guard_no rfl rfl h31) ?_
                    refine vc_not rfl rfl (guard_no rfl rfl h31) ?_
                    refine vc_not rfl rfl (guard_no rfl rfl h31) ?_
                    refine vc_p rfl rfl (guard_yes rfl rfl h30) (fun _ => (Ev.gd (ev_pickF rfl h31 rfl))) ?_
                    refine vc_p rfl rfl rfl (fun _ => (ev_pickF rfl h30 rfl)) ?_
                    refine VC.nil ?_
                    refine qs_seq ?_
                    refine wc_sub (L' := [(152, _), (15, _), (1, _), (5, _), (6, _), (7, _), (8, _), (10, _), (11, _)]) (.cons rfl (.cons rfl (.cons rfl (.cons rfl (.cons rfl (.cons rfl (.cons rfl (.cons rfl (.cons rfl .nil))))))))) ?_
                    refine wc_condF rfl ?_
                    refine wc_skip ?_
                    refine qs_seq ?_
                    refine wc_seq ?_
                    refine wc_region ?_
                    refine wl_move rfl rfl ?_
                    refine wl_nil ?_
                    refine qs_seq ?_
                    refine wc_cond rfl (fun h34 => ?_) (fun h34 => ?_)
                    · skip
                      simp_all
                    · skip
                      refine wc_skip ?_
                      refine qs_block_normal ?_
                      refine qs_block_normal ?_
                      refine qs_seq ?_
                      refine wc_region ?_
                      refine wl_move rfl rfl ?_
                      refine wl_add rfl rfl (by first | omega | (simp; omega)) (by first | omega | (simp; omega)) rfl ?_
                      refine wl_assign rfl rfl ?_
                      refine wl_nil ?_
                      exact qs_round (L1 := [(1, _), (5, _), (6, _), (7, _), (8, _), (10, _), (11, intV ((i + 1 : Nat) : Int))]) (.cons rfl (.cons rfl (.cons rfl (.cons rfl (.cons rfl (.cons rfl (.cons rfl .nil))))))) (k1 := ol.length - (i + 1)) (by omega) ⟨i + 1, pos, ctl, ctv, cntC l ctl, part, dueW W o.now, V, _, rfl, rfl, hS29.pick [2, 1, 3, 4] rfl, by omega, due_no hT hd0, hV, rfl, hBW.due _, hBV, by have := logs_due W o.now; omega, by omega⟩
              · skip
                refine wc_region ?_
                refine wl_eql rfl rfl rfl ?_
                refine wl_assign rfl rfl ?_
                refine wl_nil ?_
                refine qs_seq ?_
                refine wc_sub (L' := [(103, _), (102, _), (1, _), (5, _), (6, _), (7, _), (8, _), (10, _), (11, _)]) (.cons rfl (.cons rfl (.cons rfl (.cons rfl (.cons rfl (.cons rfl (.cons rfl (.cons rfl (.cons rfl .nil))))))))) ?_
                refine wc_condD rfl (fun h35 => ?_) (fun h35 => ?_)
                · skip
                  refine wc_mid (fun E0 W0 => ∃ (dq : Bool) (wv2 : Value), E0 = [(1, .slice (some ⟨b, off, none⟩) ol.length cap), (5, .bool true), (6, ptrV p 0), (7, ptrV q 0), (8, wv2), (10, intV (cntC l ctl : Int)), (11, intV (i : Int)), (13, .bool dq)] ∧ Sat W0 [rowT itC wv2 (l.filter ctlB), worldT p W, worldT q V, F] ∧ (dq = true ↔ dueQ l (cntC l ctl) o.now)) ?_ ?_
                  · skip
                    obtain ⟨wa, wcap, rfl, _⟩ := hS19.own_shape 0 rfl
                    have hS37 := hS19.drew
                    refine wc_draw [0, 1, 2, 3, 4, 5, 6, 7, 8, 9, 10, 11, 12, 13, 14, 15, 16, 17, 18, 19, 20, 21, 22] [] mix (by kernel_rfl) ?_
                    refine vc_p rfl rfl rfl (fun _ => (ev_move rfl)) ?_
                    refine vc_p rfl rfl rfl (fun _ => (ev_move rfl)) ?_
                    refine vc_p rfl rfl rfl (fun _ => (ev_lenL Tryd.underlying22 rfl)) ?_
                    refine vc_p rfl rfl rfl (fun _ => (ev_lss rfl rfl)) ?_
                    refine vc_p rfl rfl rfl (fun _ => (ev_move rfl)) ?_
                    refine vc_splitD 110 rfl (fun h38 => ?_) (fun h38 => ?_)
                    · skip
                      obtain ⟨y, hy⟩ : ∃ y, (l.filter ctlB)[cntC l ctl]? = some y := ⟨_, List.getElem?_eq_getElem (by omega)⟩
                      obtain ⟨rb, rcap, he, _⟩ := hS37.own_at 0 rfl (by omega)
                      cases he
                      refine vc_p rfl rfl (guard_yes rfl rfl (decide_eq_true h38)) (fun _ => (Ev.gd (ev_move rfl))) ?_
                      refine vc_p rfl rfl (guard_yes rfl rfl (decide_eq_true h38)) (fun _ => (Ev.gd (ev_move rfl))) ?_
                      refine vc_p rfl rfl (guard_yes rfl rfl (decide_eq_true h38)) (fun _ => (Ev.gd (ev_move rfl))) ?_
                      refine vc_p rfl rfl (guard_yes rfl rfl (decide_eq_true h38)) (fun _ => (Ev.gd (ev_lenL Tryd.underlying22 rfl))) ?_
                      refine vc_p rfl rfl (guard_yes rfl rfl (decide_eq_true h38)) (fun _ => (Ev.gd (ev_sub' rfl rfl (by first | omega | (simp; omega)) (by first | omega | (simp; omega))))) ?_
                      refine vc_p rfl rfl (guard_yes rfl rfl (decide_eq_true h38)) (fun _ => (Ev.gd (ev_maxI rfl rfl))) ?_
                      refine vc_p rfl rfl (guard_yes rfl rfl (decide_eq_true h38)) (fun _ => (Ev.gd (ev_minI rfl rfl))) ?_
                      refine vc_p rfl rfl (guard_yes rfl rfl (decide_eq_true h38)) (fun _ => (Ev.gd (ev_indexAddr (cntC l ctl) rfl rfl (by first | rfl | omega) (by first | omega | exact (List.getElem?_eq_some_iff.1 hy).1) es_22))) ?_
                      refine vc_p rfl rfl (guard_yes rfl rfl (decide_eq_true h38)) (fun _ => (Ev.gd (ev_fieldAddr rfl fo_29_0))) ?_
                      refine vc_q rfl rfl (guard_yes rfl rfl (decide_eq_true h38)) (Ev.gd (ev_rowLoad0 itC 0 (cntC l ctl) 0 hS37 rfl hy ag_3 rfl rfl)) ?_
                      refine vc_p rfl rfl (guard_yes rfl rfl (decide_eq_true h38)) (fun _ => (Ev.gd (ev_move rfl))) ?_
                      refine vc_p rfl rfl (guard_yes rfl rfl (decide_eq_true h38)) (fun _ => (Ev.gd (ev_move rfl))) ?_
                      refine vc_p rfl rfl (guard_yes rfl rfl (decide_eq_true h38)) (fun _ => (Ev.gd (ev_indexAddr i rfl rfl (by first | rfl | omega) (by omega) es_35))) ?_
                      refine vc_p rfl rfl (guard_yes rfl rfl (decide_eq_true h38)) (fun _ => (Ev.gd (ev_fieldAddr rfl fo_41_1))) ?_
                      refine vc_q rfl rfl (guard_yes rfl rfl (decide_eq_true h38)) (Ev.gd (ev_load rfl ag_3 (((hO.sat hS37 3 rfl).cells ho) 1 _ rfl))) ?_
                      refine vc_p rfl rfl (guard_yes rfl rfl (decide_eq_true h38)) (fun _ => (Ev.gd (ev_leq rfl rfl))) ?_
                      refine vc_p rfl rfl rfl (fun _ => (ev_pickT rfl (decide_eq_true h38) rfl)) ?_
                      refine vc_p rfl rfl rfl (fun _ => (ev_assign rfl)) ?_
                      refine VC.nil ?_
                      exact qs_mid (.cons rfl (.cons rfl (.cons rfl (.cons rfl (.cons rfl (.cons rfl (.cons rfl (.cons rfl .nil)))))))) ⟨decide (y.a ≤ o.now), _, rfl, hS37.pick [0, 1, 2, 3] rfl, by rw [dueQ_iff hy]; simp⟩
                    · skip
                      refine vc_not rfl rfl (guard_no rfl rfl (decide_eq_false h38)) ?_
                      refine vc_not rfl rfl (guard_no rfl rfl (decide_eq_false h38)) ?_
                      refine vc_not rfl rfl (guard_no rfl rfl (decide_eq_false h38)) ?_
                      refine vc_not rfl rfl (guard_no rfl rfl (decide_eq_false h38)) ?_
                      refine vc_not rfl rfl (guard_no rfl rfl (decide_eq_false h38)) ?_
                      refine vc_not rfl rfl (guard_no rfl rfl (decide_eq_false h38)) ?_
                      refine vc_not rfl rfl (guard_no rfl rfl (decide_eq_false h38)) ?_
                      refine vc_not rfl rfl (guard_no rfl rfl (decide_eq_false h38)) ?_
                      refine vc_not rfl rfl (guard_no rfl rfl (decide_eq_false h38)) ?_
                      refine vc_not rfl rfl (guard_no rfl rfl (decide_eq_false h38)) ?_
                      refine vc_not rfl rfl (guard_no rfl rfl (decide_eq_false h38)) ?_
                      refine vc_not rfl rfl (guard_no rfl rfl (decide_eq_false h38)) ?_
                      refine vc_not rfl rfl (guard_no rfl rfl (decide_eq_false h38)) ?_
                      refine vc_not rfl rfl (guard_no rfl rfl (decide_eq_false h38)) ?_
                      refine vc_not rfl rfl (guard_no rfl rfl (decide_eq_false h38)) ?_
                      refine vc_not rfl rfl (guard_no rfl rfl (decide_eq_false h38)) ?_
                      refine vc_p rfl rfl rfl (fun _ => (ev_pickF rfl (decide_eq_false h38) rfl)) ?_
                      refine vc_p rfl rfl rfl (fun _ => (ev_assign rfl)) ?_
                      refine VC.nil ?_
                      exact qs_mid (.cons rfl (.cons rfl (.cons rfl (.cons rfl (.cons rfl (.cons rfl (.cons rfl (.cons rfl .nil)))))))) ⟨false, _, rfl, hS37.pick [0, 1, 2, 3] rfl, by have := dueQ_no (l := l) (n := cntC l ctl) (now := o.now) (by omega); simp [this]⟩
                  rintro _ w36 ⟨dq, wv2, rfl, hS36, hdq⟩
                  refine wc_seq ?_
                  refine wc_region ?_
                  refine wl_move rfl rfl ?_
                  refine wl_makeIface nif_24 rfl rfl ?_
                  refine wl_move rfl rfl ?_
                  refine wl_move rfl rfl ?_
                  refine wl_indexAddr i rfl rfl (by first | rfl | omega) (by omega) es_35 rfl ?_
                  refine wl_fieldAddr rfl fo_41_1 rfl ?_
                  refine wl_load rfl ag_3 (((hO.sat hS36 3 rfl).cells ho) 1 _ rfl) rfl ?_
                  have hC39 := hS36.split [1] [false, true, false, false] rfl; dsimp only [selF, pickA, nthA, List.cons_append, List.nil_append] at hC39
                  refine wl_call cal_18 rfl (due_sp hC39 (hG.starL 2 rfl) hBW o.now) rfl ?_
                  rintro e w39 ⟨_, rfl, rfl, hS39⟩; refine ⟨_, rfl, ?_⟩
                  replace hS39 := hS39.join rfl; dsimp only [List.dropLast, List.cons_append, List.nil_append] at hS39; clear hC39
                  clear hS36
                  refine wl_move rfl rfl ?_
                  refine wl_extract rfl rfl rfl ?_
                  refine wl_extract rfl rfl rfl ?_
                  refine wl_alloc hS39 zr_29 rfl rfl ?_
                  intro b40 w40 hS40
                  clear hS39
                  first | (refine wl_storeA hS40 rfl rfl sz_29 rfl (by first | rfl | (simp [allOne, Value.oneCell']; done) | assumption | exact hone) (i := 0) rfl (by first | decide | exact Nat.le_of_ble_eq_true rfl | (simp; done) | omega) ?_)
                  intro w41 hS42; dsimp only [List.set] at hS42
                  clear hS40
                  refine wl_assign rfl rfl ?_
                  refine wl_nil ?_
                  refine qs_seq ?_
                  refine wc_sub (L' := [(15, _), (14, _), (1, _), (5, _), (6, _), (7, _), (8, _), (10, _), (11, _), (13, _)]) (.cons rfl (.cons rfl (.cons rfl (.cons rfl (.cons rfl (.cons rfl (.cons rfl (.cons rfl (.cons rfl (.cons rfl .nil)))))))))) ?_
                  refine wc_seq ?_
                  refine wc_seq ?_
                  have hdd : (dueI W o.now).isSome = dq := by rw [hT.dueI, Bool.eq_iff_iff, due_iff, hdq]
                  have hS43 := hS42.drew
                  refine wc_draw [0, 1, 2, 3, 4, 5, 6, 7, 8, 9, 10, 11, 12, 13] [] mix (by kernel_rfl) ?_
                  refine vc_p rfl rfl rfl (fun _ => (ev_move rfl)) ?_
                  refine vc_p rfl rfl rfl (fun _ => (ev_move rfl)) ?_
                  refine vc_p rfl rfl rfl (fun _ => (ev_neqB Tryd.underlying4 rfl rfl)) ?_
                  refine vc_p rfl rfl rfl (fun _ => (ev_move rfl)) ?_
                  refine vc_split 142 rfl (fun h44 => ?_) (fun h44 => ?_)
                  · skip
                    simp [hdd] at h44
                  · skip
                    refine vc_p rfl rfl (guard_yes rfl rfl h44) (fun _ => (Ev.gd (ev_move rfl))) ?_
                    refine vc_p rfl rfl (guard_yes rfl rfl h44) (fun _ => (Ev.gd (ev_move rfl))) ?_
                    refine vc_split 144 rfl (fun h45 => ?_) (fun h45 => ?_)
                    · skip
                      obtain ⟨j, hj⟩ := optYes (q := dueX l ctl o.now) (by rw [← hT.dueI]; exact h45)
                      obtain ⟨hdx, hdn⟩ := due_yes hT hj
                      obtain ⟨hd1, hd2, hd3⟩ := due_step.1 j hj
                      have hlp := (List.getElem?_eq_some_iff.1 hd1).1
                      obtain ⟨rb, rcap, rfl, _⟩ := hS43.own_at 2 rfl (by omega)
                      refine vc_q rfl rfl (guard_yes rfl rfl h45) (Ev.gd (ev_loadA rfl ag_29 sz_29 (by first | exact hS43.blk 0 rfl) (by first | decide | exact Nat.le_of_ble_eq_true rfl | (simp; done) | omega) rfl)) ?_
                      refine vc_p rfl rfl (guard_yes rfl rfl h45) (fun _ => (Ev.gd (ev_move rfl))) ?_
                      refine vc_p rfl rfl (guard_yes rfl rfl h45) (fun _ => (Ev.gd (ev_move rfl))) ?_
                      refine vc_p rfl rfl (guard_yes rfl rfl h45) (fun _ => (Ev.gd (ev_indexAddr (cntC l ctl) rfl rfl (by first | rfl | omega) (by first | omega | exact (List.getElem?_eq_some_iff.1 hd1).1) es_22))) ?_
                      refine vc_q rfl rfl (guard_yes rfl rfl h45) (Ev.gd (ev_rowLoadA0 itC 2 (cntC l ctl) hS43 rfl hd1 ag_29 sz_29 rfl rfl)) ?_
                      refine vc_p rfl rfl (guard_yes rfl rfl h45) (fun _ => (Ev.gd (ev_neqAgg (eqItem (dueD W o.now) (ix l j)) (by kernel_rfl) rfl rfl))) ?_
                      refine vc_p rfl rfl (guard_yes rfl rfl h44) (fun _ => (Ev.gd (ev_pickT rfl h45 rfl))) ?_
                      refine vc_p rfl rfl rfl (fun _ => (ev_pickF rfl h44 rfl)) ?_
                      refine VC.nil ?_
                      refine qs_seq ?_
                      refine wc_sub (L' := [(152, _), (15, _), (1, _), (5, _), (6, _), (7, _), (8, _), (10, _), (11, _)]) (.cons rfl (.cons rfl (.cons rfl (.cons rfl (.cons rfl (.cons rfl (.cons rfl (.cons rfl (.cons rfl .nil))))))))) ?_
                      refine wc_cond rfl (fun h46 => ?_) (fun h46 => ?_)
                      · skip
                        rw [hdx] at h46; simp at h46
                      · skip
                        refine wc_skip ?_
                        refine qs_seq ?_
                        refine wc_seq ?_
                        refine wc_region ?_
                        refine wl_move rfl rfl ?_
                        refine wl_nil ?_
                        refine qs_seq ?_
                        refine wc_cond rfl (fun h47 => ?_) (fun h47 => ?_)
                        · skip
                          refine wc_region ?_
                          refine wl_move rfl rfl ?_
                          refine wl_add rfl rfl (by first | omega | (simp; omega)) (by first | omega | (simp; omega)) rfl ?_
                          refine wl_assign rfl rfl ?_
                          refine wl_nil ?_
                          refine qs_block_normal ?_
                          refine qs_block_normal ?_
                          refine qs_seq ?_
                          refine wc_sub (L' := [(10, _), (1, _), (5, _), (6, _), (7, _), (8, _), (11, _)]) (.cons rfl (.cons rfl (.cons rfl (.cons rfl (.cons rfl (.cons rfl (.cons rfl .nil))))))) ?_
                          refine wc_region ?_
                          refine wl_move rfl rfl ?_
                          refine wl_add rfl rfl (by first | omega | (simp; omega)) (by first | omega | (simp; omega)) rfl ?_
                          refine wl_assign rfl rfl ?_
                          refine wl_nil ?_
                          exact qs_round (L1 := [(1, _), (5, _), (6, _), (7, _), (8, _), (10, _), (11, intV ((i + 1 : Nat) : Int))]) (.cons rfl (.cons rfl (.cons rfl (.cons rfl (.cons rfl (.cons rfl (.cons rfl .nil))))))) (k1 := ol.length - (i + 1)) (by omega) ⟨i + 1, pos, j + 1, ctv, cntC l ctl + 1, part, dueW W o.now, V, _, rfl, rfl, hS43.pick [2, 1, 3, 4] rfl, by omega, hdn, hV, by rw [hd3], hBW.due _, hBV, by have := logs_due W o.now; omega, by omega⟩
                        · skip
                          simp_all
                    · skip
                      have hd0 := optNo (q := dueX l ctl o.now) (by rw [← hT.dueI]; exact h45)
                      refine vc_not rfl rfl (guard_no rfl rfl h45) ?_
                      refine vc_not rfl rfl (guard_no rfl rfl h45) ?_
                      refine vc_not rfl rfl (guard_no rfl rfl h45) ?_
                      refine vc_not rfl rfl (guard_no rfl rfl h45) ?_
                      refine vc_not rfl rfl (guard_no rfl rfl h45) ?_
                      refine vc_not rfl rfl (guard_no rfl rfl h45) ?_
                      refine vc_p rfl rfl (guard_yes rfl rfl h44) (fun _ => (Ev.gd (ev_pickF rfl h45 rfl))) ?_
                      refine vc_p rfl rfl rfl (fun _ => (ev_pickF rfl h44 rfl)) ?_
                      refine VC.nil ?_
                      refine qs_seq ?_
                      refine wc_sub (L' := [(152, _), (15, _), (1, _), (5, _), (6, _), (7, _), (8, _), (10, _), (11, _)]) (.cons rfl (.cons rfl (.cons rfl (.cons rfl (.cons rfl (.cons rfl (.cons rfl (.cons rfl (.cons rfl .nil))))))))) ?_
                      refine wc_condF rfl ?_
                      refine wc_skip ?_
                      refine qs_seq ?_
                      refine wc_seq ?_
                      refine wc_region ?_
                      refine wl_move rfl rfl ?_
                      refine wl_nil ?_
                      refine qs_seq ?_
                      refine wc_cond rfl (fun h48 => ?_) (fun h48 => ?_)
                      · skip
                        simp_all
                      · skip
                        refine wc_skip ?_
                        refine qs_block_normal ?_
                        refine qs_block_normal ?_
                        refine qs_seq ?_
                        refine wc_region ?_
                        refine wl_move rfl rfl ?_
                        refine wl_add rfl rfl (by first | omega | (simp; omega)) (by first | omega | (simp; omega)) rfl ?_
                        refine wl_assign rfl rfl ?_
                        refine wl_nil ?_
                        exact qs_round (L1 := [(1, _), (5, _), (6, _), (7, _), (8, _), (10, _), (11, intV ((i + 1 : Nat) : Int))]) (.cons rfl (.cons rfl (.cons rfl (.cons rfl (.cons rfl (.cons rfl (.cons rfl .nil))))))) (k1 := ol.length - (i + 1)) (by omega) ⟨i + 1, pos, ctl, ctv, cntC l ctl, part, dueW W o.now, V, _, rfl, rfl, hS43.pick [2, 1, 3, 4] rfl, by omega, due_no hT hd0, hV, rfl, hBW.due _, hBV, by have := logs_due W o.now; omega, by omega⟩
                · skip
                  refine wc_seq ?_
                  refine wc_seq ?_
                  refine wc_region ?_
                  refine wl_eql rfl rfl rfl ?_
                  refine wl_assign rfl rfl ?_
                  refine wl_nil ?_
                  refine qs_seq ?_
                  refine wc_condD rfl (fun h49 => ?_) (fun h49 => ?_)
                  · skip
                    refine wc_skip ?_
                    refine qs_seq ?_
                    refine wc_sub (L' := [(156, _), (1, _), (5, _), (6, _), (7, _), (8, _), (10, _), (11, _)]) (.cons rfl (.cons rfl (.cons rfl (.cons rfl (.cons rfl (.cons rfl (.cons rfl (.cons rfl .nil)))))))) ?_
                    refine wc_condKT rfl (decide_eq_true h49) ?_
                    refine wc_seq ?_
                    have hrd : isRd o := by unfold isRd; omega
                    refine wc_region ?_
                    refine wl_move rfl rfl ?_
                    refine wl_move rfl rfl ?_
                    refine wl_move rfl rfl ?_
                    refine wl_indexAddr i rfl rfl (by first | rfl | omega) (by omega) es_35 rfl ?_
                    refine wl_loadAt rfl ag_41 sz_41 (vs := otV o) ((hO.sat hS19 3 rfl).cells ho) rfl ?_
                    have hC50 := hS19.split [1] [false, true, false, false] rfl; dsimp only [selF, pickA, nthA, List.cons_append, List.nil_append] at hC50
                    refine wl_call cal_17 rfl (tdo_sp hC50 (hG.starL 2 rfl) hBW o hos.1 (by omega) hin (by omega) (hLo.starL 2 rfl)) rfl ?_
                    rintro e w50 ⟨_, rfl, rfl, hS50⟩; refine ⟨_, rfl, ?_⟩
                    replace hS50 := hS50.join rfl; dsimp only [List.dropLast, List.cons_append, List.nil_append] at hS50; clear hC50
                    clear hS19
                    refine wl_move rfl rfl ?_
                    refine wl_extract rfl rfl rfl ?_
                    refine wl_extract rfl rfl rfl ?_
                    refine wl_extract rfl rfl rfl ?_
                    refine wl_assign rfl rfl ?_
                    refine wl_assign rfl rfl ?_
                    refine wl_assign rfl rfl ?_
                    refine wl_nil ?_
                    refine qs_seq ?_
                    refine wc_sub (L' := [(17, _), (16, _), (1, _), (5, _), (6, _), (7, _), (8, _), (10, _), (11, _)]) (.cons rfl (.cons rfl (.cons rfl (.cons rfl (.cons rfl (.cons rfl (.cons rfl (.cons rfl (.cons rfl .nil))))))))) ?_
                    refine wc_seq ?_
                    refine wc_region ?_
                    refine wl_move rfl rfl ?_
                    refine wl_move rfl rfl ?_
                    refine wl_move rfl rfl ?_
                    refine wl_indexAddr i rfl rfl (by first | rfl | omega) (by omega) es_35 rfl ?_
                    refine wl_loadAt rfl ag_41 sz_41 (vs := otV o) ((hO.sat hS50 3 rfl).cells ho) rfl ?_
                    have hC51 := hS50.split [2] [false, false, true, false] rfl; dsimp only [selF, pickA, nthA, List.cons_append, List.nil_append] at hC51
                    refine wl_call cal_17 rfl (tdo_sp hC51 (hG.starL 2 rfl) hBV o hos.1 (by omega) hin (by omega) (hLo.starL 2 rfl)) rfl ?_
                    rintro e w51 ⟨_, rfl, rfl, hS51⟩; refine ⟨_, rfl, ?_⟩
                    replace hS51 := hS51.join rfl; dsimp only [List.dropLast, List.cons_append, List.nil_append] at hS51; clear hC51
                    clear hS50
                    refine wl_move rfl rfl ?_
                    refine wl_extract rfl rfl rfl ?_
                    refine wl_extract rfl rfl rfl ?_
                    refine wl_extract rfl rfl rfl ?_
                    refine wl_assign rfl rfl ?_
                    refine wl_assign rfl rfl ?_
                    refine wl_assign rfl rfl ?_
                    refine wl_nil ?_
                    refine qs_seq ?_
                    refine wc_sub (L' := [(20, _), (19, _), (17, _), (16, _), (1, _), (5, _), (6, _), (7, _), (8, _), (10, _), (11, _)]) (.cons rfl (.cons rfl (.cons rfl (.cons rfl (.cons rfl (.cons rfl (.cons rfl (.cons rfl (.cons rfl (.cons rfl (.cons rfl .nil))))))))))) ?_
                    refine wc_seq ?_
                    have hT2 := hT.rd hrd
                    have hV2 := hV.rd hrd
                    rw [hT2.2, hV2.2]
                    refine wc_region ?_
                    refine wl_move rfl rfl ?_
                    refine wl_move rfl rfl ?_
                    refine wl_neqS rfl rfl rfl ?_
                    refine wl_move rfl rfl ?_
                    refine wl_splitD 188 rfl (fun h52 => ?_) (fun h52 => ?_)
                    · skip
                      exact absurd rfl h52
                    · skip
                      refine wl_guard rfl rfl (decide_eq_false h52) ?_
                      refine wl_move rfl rfl ?_
                      refine wl_guard rfl rfl (decide_eq_false h52) ?_
                      refine wl_move rfl rfl ?_
                      refine wl_guard rfl rfl (decide_eq_false h52) ?_
                      refine wl_neq rfl rfl rfl ?_
                      refine wl_pickF rfl (decide_eq_false h52) rfl rfl ?_
                      refine wl_nil ?_
                      refine qs_seq ?_
                      refine wc_sub (L' := [(192, _), (1, _), (5, _), (6, _), (7, _), (8, _), (10, _), (11, _)]) (.cons rfl (.cons rfl (.cons rfl (.cons rfl (.cons rfl (.cons rfl (.cons rfl (.cons rfl .nil)))))))) ?_
                      refine wc_condD rfl (fun h53 => ?_) (fun h53 => ?_)
                      · skip
                        exact absurd rfl h53
                      · skip
                        refine wc_skip ?_
                        refine qs_block_normal ?_
                        refine qs_block_normal ?_
                        refine qs_seq ?_
                        refine wc_region ?_
                        refine wl_move rfl rfl ?_
                        refine wl_add rfl rfl (by first | omega | (simp; omega)) (by first | omega | (simp; omega)) rfl ?_
                        refine wl_assign rfl rfl ?_
                        refine wl_nil ?_
                        exact qs_round (L1 := [(1, _), (5, _), (6, _), (7, _), (8, _), (10, _), (11, intV ((i + 1 : Nat) : Int))]) (.cons rfl (.cons rfl (.cons rfl (.cons rfl (.cons rfl (.cons rfl (.cons rfl .nil))))))) (k1 := ol.length - (i + 1)) (by omega) ⟨i + 1, _, ctl, ctv, cntC l ctl, _, doW W o, doW V o, _, rfl, rfl, hS51.pick [2, 1, 0, 3] rfl, by omega, hT2.1, hV2.1, rfl, hBW.doW hos.1 hin, hBV.doW hos.1 hin, by have := logs_do W o; omega, by have := logs_do V o; omega⟩
                  · skip
                    refine wc_seq ?_
                    refine wc_region ?_
                    refine wl_eql rfl rfl rfl ?_
                    refine wl_assign rfl rfl ?_
                    refine wl_nil ?_
                    refine qs_seq ?_
                    refine wc_sub (L' := [(156, _), (102, _), (1, _), (5, _), (6, _), (7, _), (8, _), (10, _), (11, _)]) (.cons rfl (.cons rfl (.cons rfl (.cons rfl (.cons rfl (.cons rfl (.cons rfl (.cons rfl (.cons rfl .nil))))))))) ?_
                    refine wc_condD rfl (fun h54 => ?_) (fun h54 => ?_)
                    · skip
                      refine wc_skip ?_
                      refine qs_seq ?_
                      refine wc_condKT rfl (decide_eq_true h54) ?_
                      refine wc_seq ?_
                      have hrd : isRd o := by unfold isRd; omega
                      refine wc_region ?_
                      refine wl_move rfl rfl ?_
                      refine wl_move rfl rfl ?_
                      refine wl_move rfl rfl ?_
                      refine wl_indexAddr i rfl rfl (by first | rfl | omega) (by omega) es_35 rfl ?_
                      refine wl_loadAt rfl ag_41 sz_41 (vs := otV o) ((hO.sat hS19 3 rfl).cells ho) rfl ?_
                      have hC55 := hS19.split [1] [false, true, false, false] rfl; dsimp only [selF, pickA, nthA, List.cons_append, List.nil_append] at hC55
                      refine wl_call cal_17 rfl (tdo_sp hC55 (hG.starL 2 rfl) hBW o hos.1 (by omega) hin (by omega) (hLo.starL 2 rfl)) rfl ?_
                      rintro e w55 ⟨_, rfl, rfl, hS55⟩; refine ⟨_, rfl, ?_⟩
                      replace hS55 := hS55.join rfl; dsimp only [List.dropLast, List.cons_append, List.nil_append] at hS55; clear hC55
                      clear hS19
                      refine wl_move rfl rfl ?_
                      refine wl_extract rfl rfl rfl ?_
                      refine wl_extract rfl rfl rfl ?_
                      refine wl_extract rfl rfl rfl ?_
                      refine wl_assign rfl rfl ?_
                      refine wl_assign rfl rfl ?_
                      refine wl_assign rfl rfl ?_
                      refine wl_nil ?_
                      refine qs_seq ?_
                      refine wc_sub (L' := [(17, _), (16, _), (1, _), (5, _), (6, _), (7, _), (8, _), (10, _), (11, _)]) (.cons rfl (.cons rfl (.cons rfl (.cons rfl (.cons rfl (.cons rfl (.cons rfl (.cons rfl (.cons rfl .nil))))))))) ?_
                      refine wc_seq ?_
                      refine wc_region ?_
                      refine wl_move rfl rfl ?_
                      refine wl_move rfl rfl ?_
                      refine wl_move rfl rfl ?_
                      refine wl_indexAddr i rfl rfl (by first | rfl | omega) (by omega) es_35 rfl ?_
                      refine wl_loadAt rfl ag_41 sz_41 (vs := otV o) ((hO.sat hS55 3 rfl).cells ho) rfl ?_
                      have hC56 := hS55.split [2] [false, false, true, false] rfl; dsimp only [selF, pickA, nthA, List.cons_append, List.nil_append] at hC56
                      refine wl_call cal_17 rfl (tdo_sp hC56 (hG.starL 2 rfl) hBV o hos.1 (by omega) hin (by omega) (hLo.starL 2 rfl)) rfl ?_
                      rintro e w56 ⟨_, rfl, rfl, hS56⟩; refine ⟨_, rfl, ?_⟩
                      replace hS56 := hS56.join rfl; dsimp only [List.dropLast, List.cons_append, List.nil_append] at hS56; clear hC56
                      clear hS55
                      refine wl_move rfl rfl ?_
                      refine wl_extract rfl rfl rfl ?_
                      refine wl_extract rfl rfl rfl ?_
                      refine wl_extract rfl rfl rfl ?_
                      refine wl_assign rfl rfl ?_
                      refine wl_assign rfl rfl ?_
                      refine wl_assign rfl rfl ?_
                      refine wl_nil ?_
                      refine qs_seq ?_
                      refine wc_sub (L' := [(20, _), (19, _), (17, _), (16, _), (1, _), (5, _), (6, _), (7, _), (8, _), (10, _), (11, _)]) (.cons rfl (.cons rfl (.cons rfl (.cons rfl (.cons rfl (.cons rfl (.cons rfl (.cons rfl (.cons rfl (.cons rfl (.cons rfl .nil))))))))))) ?_
                      refine wc_seq ?_
                      have hT2 := hT.rd hrd
                      have hV2 := hV.rd hrd
                      rw [hT2.2, hV2.2]
                      refine wc_region ?_
                      refine wl_move rfl rfl ?_
                      refine wl_move rfl rfl ?_
                      refine wl_neqS rfl rfl rfl ?_
                      refine wl_move rfl rfl ?_
                      refine wl_splitD 188 rfl (fun h57 => ?_) (fun h57 => ?_)
                      · skip
                        exact absurd rfl h57
                      · skip
                        refine wl_guard rfl rfl (decide_eq_false h57) ?_
                        refine wl_move rfl rfl ?_
                        refine wl_guard rfl rfl (decide_eq_false h57) ?_
                        refine wl_move rfl rfl ?_
                        refine wl_guard rfl rfl (decide_eq_false h57) ?_
                        refine wl_neq rfl rfl rfl ?_
                        refine wl_pickF rfl (decide_eq_false h57) rfl rfl ?_
                        refine wl_nil ?_
                        refine qs_seq ?_
                        refine wc_sub (L' := [(192, _), (1, _), (5, _), (6, _), (7, _), (8, _), (10, _), (11, _)]) (.cons rfl (.cons rfl (.cons rfl (.cons rfl (.cons rfl (.cons rfl (.cons rfl (.cons rfl .nil)))))))) ?_
                        refine wc_condD rfl (fun h58 => ?_) (fun h58 => ?_)
                        · skip
                          exact absurd rfl h58
                        · skip
                          refine wc_skip ?_
                          refine qs_block_normal ?_
                          refine qs_block_normal ?_
                          refine qs_seq ?_
                          refine wc_region ?_
                          refine wl_move rfl rfl ?_
                          refine wl_add rfl rfl (by first | omega | (simp; omega)) (by first | omega | (simp; omega)) rfl ?_
                          refine wl_assign rfl rfl ?_
                          refine wl_nil ?_
                          exact qs_round (L1 := [(1, _), (5, _), (6, _), (7, _), (8, _), (10, _), (11, intV ((i + 1 : Nat) : Int))]) (.cons rfl (.cons rfl (.cons rfl (.cons rfl (.cons rfl (.cons rfl (.cons rfl .nil))))))) (k1 := ol.length - (i + 1)) (by omega) ⟨i + 1, _, ctl, ctv, cntC l ctl, _, doW W o, doW V o, _, rfl, rfl, hS56.pick [2, 1, 0, 3] rfl, by omega, hT2.1, hV2.1, rfl, hBW.doW hos.1 hin, hBV.doW hos.1 hin, by have := logs_do W o; omega, by have := logs_do V o; omega⟩
                    · skip
                      refine wc_seq ?_
                      refine wc_region ?_
                      refine wl_eql rfl rfl rfl ?_
                      refine wl_assign rfl rfl ?_
                      refine wl_nil ?_
                      refine qs_seq ?_
                      refine wc_condD rfl (fun h59 => ?_) (fun h59 => ?_)
                      · skip
                        refine wc_skip ?_
                        refine qs_seq ?_
                        refine wc_condKT rfl (decide_eq_true h59) ?_
                        refine wc_seq ?_
                        have hrd : isRd o := by unfold isRd; omega
                        refine wc_region ?_
                        refine wl_move rfl rfl ?_
                        refine wl_move rfl rfl ?_
                        refine wl_move rfl rfl ?_
                        refine wl_indexAddr i rfl rfl (by first | rfl | omega) (by omega) es_35 rfl ?_
                        refine wl_loadAt rfl ag_41 sz_41 (vs := otV o) ((hO.sat hS19 3 rfl).cells ho) rfl ?_
                        have hC60 := hS19.split [1] [false, true, false, false] rfl; dsimp only [selF, pickA, nthA, List.cons_append, List.nil_append] at hC60
                        refine wl_call cal_17 rfl (tdo_sp hC60 (hG.starL 2 rfl) hBW o hos.1 (by omega) hin (by omega) (hLo.starL 2 rfl)) rfl ?_
                        rintro e w60 ⟨_, rfl, rfl, hS60⟩; refine ⟨_, rfl, ?_⟩
                        replace hS60 := hS60.join rfl; dsimp only [List.dropLast, List.cons_append, List.nil_append] at hS60; clear hC60
                        clear hS19
                        refine wl_move rfl rfl ?_
                        refine wl_extract rfl rfl rfl ?_
                        refine wl_extract rfl rfl rfl ?_
                        refine wl_extract rfl rfl rfl ?_
                        refine wl_assign rfl rfl ?_
                        refine wl_assign rfl rfl ?_
                        refine wl_assign rfl rfl ?_
                        refine wl_nil ?_
                        refine qs_seq ?_
                        refine wc_sub (L' := [(17, _), (16, _), (1, _), (5, _), (6, _), (7, _), (8, _), (10, _), (11, _)]) (.cons rfl (.cons rfl (.cons rfl (.cons rfl (.cons rfl (.cons rfl (.cons rfl (.cons rfl (.cons rfl .nil))))))))) ?_
                        refine wc_seq ?_
                        refine wc_region ?_
                        refine wl_move rfl rfl ?_
                        refine wl_move rfl rfl ?_
                        refine wl_move rfl rfl ?_
                        refine wl_indexAddr i rfl rfl (by first | rfl | omega) (by omega) es_35 rfl ?_
                        refine wl_loadAt rfl ag_41 sz_41 (vs := otV o) ((hO.sat hS60 3 rfl).cells ho) rfl ?_
                        have hC61 := hS60.split [2] [false, false, true, false] rfl; dsimp only [selF, pickA, nthA, List.cons_append, List.nil_append] at hC61
                        refine wl_call cal_17 rfl (tdo_sp hC61 (hG.starL 2 rfl) hBV o hos.1 (by omega) hin (by omega) (hLo.starL 2 rfl)) rfl ?_
                        rintro e w61 ⟨_, rfl, rfl, hS61⟩; refine ⟨_, rfl, ?_⟩
                        replace hS61 := hS61.join rfl; dsimp only [List.dropLast, List.cons_append, List.nil_append] at hS61; clear hC61
                        clear hS60
                        refine wl_move rfl rfl ?_
                        refine wl_extract rfl rfl rfl ?_
                        refine wl_extract rfl rfl rfl ?_
                        refine wl_extract rfl rfl rfl ?_
                        refine wl_assign rfl rfl ?_
                        refine wl_assign rfl rfl ?_
                        refine wl_assign rfl rfl ?_
                        refine wl_nil ?_
                        refine qs_seq ?_
                        refine wc_sub (L' := [(20, _), (19, _), (17, _), (16, _), (1, _), (5, _), (6, _), (7, _), (8, _), (10, _), (11, _)]) (.cons rfl (.cons rfl (.cons rfl (.cons rfl (.cons rfl (.cons rfl (.cons rfl (.cons rfl (.cons rfl (.cons rfl (.cons rfl .nil))))))))))) ?_
                        refine wc_seq ?_
                        have hT2 := hT.rd hrd
                        have hV2 := hV.rd hrd
                        rw [hT2.2, hV2.2]
                        refine wc_region ?_
                        refine wl_move rfl rfl ?_
                        refine wl_move rfl rfl ?_
                        refine wl_neqS rfl rfl rfl ?_
                        refine wl_move rfl rfl ?_
                        refine wl_splitD 188 rfl (fun h62 => ?_) (fun h62 => ?_)
                        · skip
                          exact absurd rfl h62
                        · skip
                          refine wl_guard rfl rfl (decide_eq_false h62) ?_
                          refine wl_move rfl rfl ?_
                          refine wl_guard rfl rfl (decide_eq_false h62) ?_
                          refine wl_move rfl rfl ?_
                          refine wl_guard rfl rfl (decide_eq_false h62) ?_
                          refine wl_neq rfl rfl rfl ?_
                          refine wl_pickF rfl (decide_eq_false h62) rfl rfl ?_
                          refine wl_nil ?_
                          refine qs_seq ?_
                          refine wc_sub (L' := [(192, _), (1, _), (5, _), (6, _), (7, _), (8, _), (10, _), (11, _)]) (.cons rfl (.cons rfl (.cons rfl (.cons rfl (.cons rfl (.cons rfl (.cons rfl (.cons rfl .nil)))))))) ?_
                          refine wc_condD rfl (fun h63 => ?_) (fun h63 => ?_)
                          · skip
                            exact absurd rfl h63
                          · skip
                            refine wc_skip ?_
                            refine qs_block_normal ?_
                            refine qs_block_normal ?_
                            refine qs_seq ?_
                            refine wc_region ?_
                            refine wl_move rfl rfl ?_
                            refine wl_add rfl rfl (by first | omega | (simp; omega)) (by first | omega | (simp; omega)) rfl ?_
                            refine wl_assign rfl rfl ?_
                            refine wl_nil ?_
                            exact qs_round (L1 := [(1, _), (5, _), (6, _), (7, _), (8, _), (10, _), (11, intV ((i + 1 : Nat) : Int))]) (.cons rfl (.cons rfl (.cons rfl (.cons rfl (.cons rfl (.cons rfl (.cons rfl .nil))))))) (k1 := ol.length - (i + 1)) (by omega) ⟨i + 1, _, ctl, ctv, cntC l ctl, _, doW W o, doW V o, _, rfl, rfl, hS61.pick [2, 1, 0, 3] rfl, by omega, hT2.1, hV2.1, rfl, hBW.doW hos.1 hin, hBV.doW hos.1 hin, by have := logs_do W o; omega, by have := logs_do V o; omega⟩
                      · skip
                        refine wc_seq ?_
                        refine wc_region ?_
                        refine wl_eql rfl rfl rfl ?_
                        refine wl_assign rfl rfl ?_
                        refine wl_nil ?_
                        refine qs_seq ?_
                        refine wc_condD rfl (fun h64 => ?_) (fun h64 => ?_)
                        · skip
                          refine wc_skip ?_
                          refine qs_seq ?_
                          refine wc_sub (L' := [(156, _), (1, _), (5, _), (6, _), (7, _), (8, _), (10, _), (11, _)]) (.cons rfl (.cons rfl (.cons rfl (.cons rfl (.cons rfl (.cons rfl (.cons rfl (.cons rfl .nil)))))))) ?_
                          refine wc_condKT rfl (decide_eq_true h64) ?_
                          refine wc_seq ?_
                          have hrd : isRd o := by unfold isRd; omega
                          refine wc_region ?_
                          refine wl_move rfl rfl ?_
                          refine wl_move rfl rfl ?_
                          refine wl_move rfl rfl ?_
                          refine wl_indexAddr i rfl rfl (by first | rfl | omega) (by omega) es_35 rfl ?_
                          refine wl_loadAt rfl ag_41 sz_41 (vs := otV o) ((hO.sat hS19 3 rfl).cells ho) rfl ?_
                          have hC65 := hS19.split [1] [false, true, false, false] rfl; dsimp only [selF, pickA, nthA, List.cons_append, List.nil_append] at hC65
                          refine wl_call cal_17 rfl (tdo_sp hC65 (hG.starL 2 rfl) hBW o hos.1 (by omega) hin (by omega) (hLo.starL 2 rfl)) rfl ?_
                          rintro e w65 ⟨_, rfl, rfl, hS65⟩; refine ⟨_, rfl, ?_⟩
                          replace hS65 := hS65.join rfl; dsimp only [List.dropLast, List.cons_append, List.nil_append] at hS65; clear hC65
                          clear hS19
                          refine wl_move rfl rfl ?_
                          refine wl_extract rfl rfl rfl ?_
                          refine wl_extract rfl rfl rfl ?_
                          refine wl_extract rfl rfl rfl ?_
                          refine wl_assign rfl rfl ?_
                          refine wl_assign rfl rfl ?_
                          refine wl_assign rfl rfl ?_
                          refine wl_nil ?_
                          refine qs_seq ?_
                          refine wc_sub (L' := [(17, _), (16, _), (1, _), (5, _), (6, _), (7, _), (8, _), (10, _), (11, _)]) (.cons rfl (.cons rfl (.cons rfl (.cons rfl (.cons rfl (.cons rfl (.cons rfl (.cons rfl (.cons rfl .nil))))))))) ?_
                          refine wc_seq ?_
                          refine wc_region ?_
                          refine wl_move rfl rfl ?_
                          refine wl_move rfl rfl ?_
                          refine wl_move rfl rfl ?_
                          refine wl_indexAddr i rfl rfl (by first | rfl | omega) (by omega) es_35 rfl ?_
                          refine wl_loadAt rfl ag_41 sz_41 (vs := otV o) ((hO.sat hS65 3 rfl).cells ho) rfl ?_
                          have hC66 := hS65.split [2] [false, false, true, false] rfl; dsimp only [selF, pickA, nthA, List.cons_append, List.nil_append] at hC66
                          refine wl_call cal_17 rfl (tdo_sp hC66 (hG.starL 2 rfl) hBV o hos.1 (by omega) hin (by omega) (hLo.starL 2 rfl)) rfl ?_
                          rintro e w66 ⟨_, rfl, rfl, hS66⟩; refine ⟨_, rfl, ?_⟩
                          replace hS66 := hS66.join rfl; dsimp only [List.dropLast, List.cons_append, List.nil_append] at hS66; clear hC66
                          clear hS65
                          refine wl_move rfl rfl ?_
                          refine wl_extract rfl rfl rfl ?_
                          refine wl_extract rfl rfl rfl ?_
                          refine wl_extract rfl rfl rfl ?_
                          refine wl_assign rfl rfl ?_
                          refine wl_assign rfl rfl ?_
                          refine wl_assign rfl rfl ?_
                          refine wl_nil ?_
                          refine qs_seq ?_
                          refine wc_sub (L' := [(20, _), (19, _), (17, _), (16, _), (1, _), (5, _), (6, _), (7, _), (8, _), (10, _), (11, _)]) (.cons rfl (.cons rfl (.cons rfl (.cons rfl (.cons rfl (.cons rfl (.cons rfl (.cons rfl (.cons rfl (.cons rfl (.cons rfl .nil))))))))))) ?_
                          refine wc_seq ?_
                          have hT2 := hT.rd hrd
                          have hV2 := hV.rd hrd
                          rw [hT2.2, hV2.2]
                          refine wc_region ?_
                          refine wl_move rfl rfl ?_
                          refine wl_move rfl rfl ?_
                          refine wl_neqS rfl rfl rfl ?_
                          refine wl_move rfl rfl ?_
                          refine wl_splitD 188 rfl (fun h67 => ?_) (fun h67 => ?_)
                          · skip
                            exact absurd rfl h67
                          · skip
                            refine wl_guard rfl rfl (decide_eq_false h67) ?_
                            refine wl_move rfl rfl ?_
                            refine wl_guard rfl rfl (decide_eq_false h67) ?_
                            refine wl_move rfl rfl ?_
                            refine wl_guard rfl rfl (decide_eq_false h67) ?_
                            refine wl_neq rfl rfl rfl ?_
                            refine wl_pickF rfl (decide_eq_false h67) rfl rfl ?_
                            refine wl_nil ?_
                            refine qs_seq ?_
                            refine wc_sub (L' := [(192, _), (1, _), (5, _), (6, _), (7, _), (8, _), (10, _), (11, _)]) (.cons rfl (.cons rfl (.cons rfl (.cons rfl (.cons rfl (.cons rfl (.cons rfl (.cons rfl .nil)))))))) ?_
                            refine wc_condD rfl (fun h68 => ?_) (fun h68 => ?_)
                            · skip
                              exact absurd rfl h68
                            · skip
                              refine wc_skip ?_
                              refine qs_block_normal ?_
                              refine qs_block_normal ?_
                              refine qs_seq ?_
                              refine wc_region ?_
                              refine wl_move rfl rfl ?_
                              refine wl_add rfl rfl (by first | omega | (simp; omega)) (by first | omega | (simp; omega)) rfl ?_
                              refine wl_assign rfl rfl ?_
                              refine wl_nil ?_
                              exact qs_round (L1 := [(1, _), (5, _), (6, _), (7, _), (8, _), (10, _), (11, intV ((i + 1 : Nat) : Int))]) (.cons rfl (.cons rfl (.cons rfl (.cons rfl (.cons rfl (.cons rfl (.cons rfl .nil))))))) (k1 := ol.length - (i + 1)) (by omega) ⟨i + 1, _, ctl, ctv, cntC l ctl, _, doW W o, doW V o, _, rfl, rfl, hS66.pick [2, 1, 0, 3] rfl, by omega, hT2.1, hV2.1, rfl, hBW.doW hos.1 hin, hBV.doW hos.1 hin, by have := logs_do W o; omega, by have := logs_do V o; omega⟩
                        · skip
                          refine wc_seq ?_
                          refine wc_region ?_
                          refine wl_eql rfl rfl rfl ?_
                          refine wl_assign rfl rfl ?_
                          refine wl_nil ?_
                          refine qs_seq ?_
                          refine wc_sub (L' := [(156, _), (102, _), (1, _), (5, _), (6, _), (7, _), (8, _), (10, _), (11, _)]) (.cons rfl (.cons rfl (.cons rfl (.cons rfl (.cons rfl (.cons rfl (.cons rfl (.cons rfl (.cons rfl .nil))))))))) ?_
                          refine wc_condD rfl (fun h69 => ?_) (fun h69 => ?_)
                          · skip
                            refine wc_skip ?_
                            refine qs_seq ?_
                            refine wc_condKT rfl (decide_eq_true h69) ?_
                            refine wc_seq ?_
                            have hrd : isRd o := by unfold isRd; omega
                            refine wc_region ?_
                            refine wl_move rfl rfl ?_
                            refine wl_move rfl rfl ?_
                            refine wl_move rfl rfl ?_
                            refine wl_indexAddr i rfl rfl (by first | rfl | omega) (by omega) es_35 rfl ?_
                            refine wl_loadAt rfl ag_41 sz_41 (vs := otV o) ((hO.sat hS19 3 rfl).cells ho) rfl ?_
                            have hC70 := hS19.split [1] [false, true, false, false] rfl; dsimp only [selF, pickA, nthA, List.cons_append, List.nil_append] at hC70
                            refine wl_call cal_17 rfl (tdo_sp hC70 (hG.starL 2 rfl) hBW o hos.1 (by omega) hin (by omega) (hLo.starL 2 rfl)) rfl ?_
                            rintro e w70 ⟨_, rfl, rfl, hS70⟩; refine ⟨_, rfl, ?_⟩
                            replace hS70 := hS70.join rfl; dsimp only [List.dropLast, List.cons_append, List.nil_append] at hS70; clear hC70
                            clear hS19
                            refine wl_move rfl rfl ?_
                            refine wl_extract rfl rfl rfl ?_
                            refine wl_extract rfl rfl rfl ?_
                            refine wl_extract rfl rfl rfl ?_
                            refine wl_assign rfl rfl ?_
                            refine wl_assign rfl rfl ?_
                            refine wl_assign rfl rfl ?_
                            refine wl_nil ?_
                            refine qs_seq ?_
                            refine wc_sub (L' := [(17, _), (16, _), (1, _), (5, _), (6, _), (7, _), (8, _), (10, _), (11, _)]) (.cons rfl (.cons rfl (.cons rfl (.cons rfl (.cons rfl (.cons rfl (.cons rfl (.cons rfl (.cons rfl .nil))))))))) ?_
                            refine wc_seq ?_
                            refine wc_region ?_
                            refine wl_move rfl rfl ?_
                            refine wl_move rfl rfl ?_
                            refine wl_move rfl rfl ?_
                            refine wl_indexAddr i rfl rfl (by first | rfl | omega) (by omega) es_35 rfl ?_
                            refine wl_loadAt rfl ag_41 sz_41 (vs := otV o) ((hO.sat hS70 3 rfl).cells ho) rfl ?_
                            have hC71 := hS70.split [2] [false, false, true, false] rfl; dsimp only [selF, pickA, nthA, List.cons_append, List.nil_append] at hC71
                            refine wl_call cal_17 rfl (tdo_sp hC71 (hG.starL 2 rfl) hBV o hos.1 (by omega) hin (by omega) (hLo.starL 2 rfl)) rfl ?_
                            rintro e w71 ⟨_, rfl, rfl, hS71⟩; refine ⟨_, rfl, ?_⟩
                            replace hS71 := hS71.join rfl; dsimp only [List.dropLast, List.cons_append, List.nil_append] at hS71; clear hC71
                            clear hS70
                            refine wl_move rfl rfl ?_
                            refine wl_extract rfl rfl rfl ?_
                            refine wl_extract rfl rfl rfl ?_
                            refine wl_extract rfl rfl rfl ?_
                            refine wl_assign rfl rfl ?_
                            refine wl_assign rfl rfl ?_
                            refine wl_assign rfl rfl ?_
                            refine wl_nil ?_
                            refine qs_seq ?_
                            refine wc_sub (L' := [(20, _), (19, _), (17, _), (16, _), (1, _), (5, _), (6, _), (7, _), (8, _), (10, _), (11, _)]) (.cons rfl (.cons rfl (.cons rfl (.cons rfl (.cons rfl (.cons rfl (.cons rfl (.cons rfl (.cons rfl (.cons rfl (.cons rfl .nil))))))))))) ?_
                            refine wc_seq ?_
                            have hT2 := hT.rd hrd
                            have hV2 := hV.rd hrd
                            rw [hT2.2, hV2.2]
                            refine wc_region ?_
                            refine wl_move rfl rfl ?_
                            refine wl_move rfl rfl ?_
                            refine wl_neqS rfl rfl rfl ?_
                            refine wl_move rfl rfl ?_
                            refine wl_splitD 188 rfl (fun h72 => ?_) (fun h72 => ?_)
                            · skip
                              exact absurd rfl h72
                            · skip
                              refine wl_guard rfl rfl (decide_eq_false h72) ?_
                              refine wl_move rfl rfl ?_
                              refine wl_guard rfl rfl (decide_eq_false h72) ?_
                              refine wl_move rfl rfl ?_
                              refine wl_guard rfl rfl (decide_eq_false h72) ?_
                              refine wl_neq rfl rfl rfl ?_
                              refine wl_pickF rfl (decide_eq_false h72) rfl rfl ?_
                              refine wl_nil ?_
                              refine qs_seq ?_
                              refine wc_sub (L' := [(192, _), (1, _), (5, _), (6, _), (7, _), (8, _), (10, _), (11, _)]) (.cons rfl (.cons rfl (.cons rfl (.cons rfl (.cons rfl (.cons rfl (.cons rfl (.cons rfl .nil)))))))) ?_
                              refine wc_condD rfl (fun h73 => ?_) (fun h73 => ?_)
                              · skip
                                exact absurd rfl h73
                              · skip
                                refine wc_skip ?_
                                refine qs_block_normal ?_
                                refine qs_block_normal ?_
                                refine qs_seq ?_
                                refine wc_region ?_
                                refine wl_move rfl rfl ?_
                                refine wl_add rfl rfl (by first | omega | (simp; omega)) (by first | omega | (simp; omega)) rfl ?_
                                refine wl_assign rfl rfl ?_
                                refine wl_nil ?_
                                exact qs_round (L1 := [(1, _), (5, _), (6, _), (7, _), (8, _), (10, _), (11, intV ((i + 1 : Nat) : Int))]) (.cons rfl (.cons rfl (.cons rfl (.cons rfl (.cons rfl (.cons rfl (.cons rfl .nil))))))) (k1 := ol.length - (i + 1)) (by omega) ⟨i + 1, _, ctl, ctv, cntC l ctl, _, doW W o, doW V o, _, rfl, rfl, hS71.pick [2, 1, 0, 3] rfl, by omega, hT2.1, hV2.1, rfl, hBW.doW hos.1 hin, hBV.doW hos.1 hin, by have := logs_do W o; omega, by have := logs_do V o; omega⟩
                          · skip
                            refine wc_seq ?_
                            refine wc_region ?_
                            refine wl_eql rfl rfl rfl ?_
                            refine wl_assign rfl rfl ?_
                            refine wl_nil ?_
                            refine qs_seq ?_
                            refine wc_condD rfl (fun h74 => ?_) (fun h74 => ?_)
                            · skip
                              refine wc_skip ?_
                              refine qs_seq ?_
                              refine wc_condKT rfl (decide_eq_true h74) ?_
                              refine wc_seq ?_
                              have hrd : isRd o := by unfold isRd; omega
                              refine wc_region ?_
                              refine wl_move rfl rfl ?_
                              refine wl_move rfl rfl ?_
                              refine wl_move rfl rfl ?_
                              refine wl_indexAddr i rfl rfl (by first | rfl | omega) (by omega) es_35 rfl ?_
                              refine wl_loadAt rfl ag_41 sz_41 (vs := otV o) ((hO.sat hS19 3 rfl).cells ho) rfl ?_
                              have hC75 := hS19.split [1] [false, true, false, false] rfl; dsimp only [selF, pickA, nthA, List.cons_append, List.nil_append] at hC75
                              refine wl_call cal_17 rfl (tdo_sp hC75 (hG.starL 2 rfl) hBW o hos.1 (by omega) hin (by omega) (hLo.starL 2 rfl)) rfl ?_
                              rintro e w75 ⟨_, rfl, rfl, hS75⟩; refine ⟨_, rfl, ?_⟩
                              replace hS75 := hS75.join rfl; dsimp only [List.dropLast, List.cons_append, List.nil_append] at hS75; clear hC75
                              clear hS19
                              refine wl_move rfl rfl ?_
                              refine wl_extract rfl rfl rfl ?_
                              refine wl_extract rfl rfl rfl ?_
                              refine wl_extract rfl rfl rfl ?_
                              refine wl_assign rfl rfl ?_
                              refine wl_assign rfl rfl ?_
                              refine wl_assign rfl rfl ?_
                              refine wl_nil ?_
                              refine qs_seq ?_
                              refine wc_sub (L' := [(17, _), (16, _), (1, _), (5, _), (6, _), (7, _), (8, _), (10, _), (11, _)]) (.cons rfl (.cons rfl (.cons rfl (.cons rfl (.cons rfl (.cons rfl (.cons rfl (.cons rfl (.cons rfl .nil))))))))) ?_
                              refine wc_seq ?_
                              refine wc_region ?_
                              refine wl_move rfl rfl ?_
                              refine wl_move rfl rfl ?_
                              refine wl_move rfl rfl ?_
                              refine wl_indexAddr i rfl rfl (by first | rfl | omega) (by omega) es_35 rfl ?_
                              refine wl_loadAt rfl ag_41 sz_41 (vs := otV o) ((hO.sat hS75 3 rfl).cells ho) rfl ?_
                              have hC76 := hS75.split [2] [false, false, true, false] rfl; dsimp only [selF, pickA, nthA, List.cons_append, List.nil_append] at hC76
                              refine wl_call cal_17 rfl (tdo_sp hC76 (hG.starL 2 rfl) hBV o hos.1 (by omega) hin (by omega) (hLo.starL 2 rfl)) rfl ?_
                              rintro e w76 ⟨_, rfl, rfl, hS76⟩; refine ⟨_, rfl, ?_⟩
                              replace hS76 := hS76.join rfl; dsimp only [List.dropLast, List.cons_append, List.nil_append] at hS76; clear hC76
                              clear hS75
                              refine wl_move rfl rfl ?_
                              refine wl_extract rfl rfl rfl ?_
                              refine wl_extract rfl rfl rfl ?_
                              refine wl_extract rfl rfl rfl ?_
                              refine wl_assign rfl rfl ?_
                              refine wl_assign rfl rfl ?_
                              refine wl_assign rfl rfl ?_
                              refine wl_nil ?_
                              refine qs_seq ?_
                              refine wc_sub (L' := [(20, _), (19, _), (17, _), (16, _), (1, _), (5, _), (6, _), (7, _), (8, _), (10, _), (11, _)]) (.cons rfl (.cons rfl (.cons rfl (.cons rfl (.cons rfl (.cons rfl (.cons rfl (.cons rfl (.cons rfl (.cons rfl (.cons rfl .nil))))))))))) ?_
                              refine wc_seq ?_
                              have hT2 := hT.rd hrd
                              have hV2 := hV.rd hrd
                              rw [hT2.2, hV2.2]
                              refine wc_region ?_
                              refine wl_move rfl rfl ?_
                              refine wl_move rfl rfl ?_
                              refine wl_neqS rfl rfl rfl ?_
                              refine wl_move rfl rfl ?_
                              refine wl_splitD 188 rfl (fun h77 => ?_) (fun h77 => ?_)
                              · skip
                                exact absurd rfl h77
                              · skip
                                refine wl_guard rfl rfl (decide_eq_false h77) ?_
                                refine wl_move rfl rfl ?_
                                refine wl_guard rfl rfl (decide_eq_false h77) ?_
                                refine wl_move rfl rfl ?_
                                refine wl_guard rfl rfl (decide_eq_false h77) ?_
                                refine wl_neq rfl rfl rfl ?_
                                refine wl_pickF rfl (decide_eq_false h77) rfl rfl ?_
                                refine wl_nil ?_
                                refine qs_seq ?_
                                refine wc_sub (L' := [(192, _), (1, _), (5, _), (6, _), (7, _), (8, _), (10, _), (11, _)]) (.cons rfl (.cons rfl (.cons rfl (.cons rfl (.cons rfl (.cons rfl (.cons rfl (.cons rfl .nil)))))))) ?_
                                refine wc_condD rfl (fun h78 => ?_) (fun h78 => ?_)
                                · skip
                                  exact absurd rfl h78
                                · skip
                                  refine wc_skip ?_
                                  refine qs_block_normal ?_
                                  refine qs_block_normal ?_
                                  refine qs_seq ?_
                                  refine wc_region ?_
                                  refine wl_move rfl rfl ?_
                                  refine wl_add rfl rfl (by first | omega | (simp; omega)) (by first | omega | (simp; omega)) rfl ?_
                                  refine wl_assign rfl rfl ?_
                                  refine wl_nil ?_
                                  exact qs_round (L1 := [(1, _), (5, _), (6, _), (7, _), (8, _), (10, _), (11, intV ((i + 1 : Nat) : Int))]) (.cons rfl (.cons rfl (.cons rfl (.cons rfl (.cons rfl (.cons rfl (.cons rfl .nil))))))) (k1 := ol.length - (i + 1)) (by omega) ⟨i + 1, _, ctl, ctv, cntC l ctl, _, doW W o, doW V o, _, rfl, rfl, hS76.pick [2, 1, 0, 3] rfl, by omega, hT2.1, hV2.1, rfl, hBW.doW hos.1 hin, hBV.doW hos.1 hin, by have := logs_do W o; omega, by have := logs_do V o; omega⟩
                            · skip
                              refine wc_seq ?_
                              refine wc_region ?_
                              refine wl_eql rfl rfl rfl ?_
                              refine wl_assign rfl rfl ?_
                              refine wl_nil ?_
                              refine qs_seq ?_
                              refine wc_condD rfl (fun h79 => ?_) (fun h79 => ?_)
                              · skip
                                refine wc_skip ?_
                                refine qs_seq ?_
                                refine wc_sub (L' := [(156, _), (1, _), (5, _), (6, _), (7, _), (8, _), (10, _), (11, _)]) (.cons rfl (.cons rfl (.cons rfl (.cons rfl (.cons rfl (.cons rfl (.cons rfl (.cons rfl .nil)))))))) ?_
                                refine wc_condKT rfl (decide_eq_true h79) ?_
                                refine wc_seq ?_
                                have hrd : isRd o := by unfold isRd; omega
                                refine wc_region ?_
                                refine wl_move rfl rfl ?_
                                refine wl_move rfl rfl ?_
                                refine wl_move rfl rfl ?_
                                refine wl_indexAddr i rfl rfl (by first | rfl | omega) (by omega) es_35 rfl ?_
                                refine wl_loadAt rfl ag_41 sz_41 (vs := otV o) ((hO.sat hS19 3 rfl).cells ho) rfl ?_
                                have hC80 := hS19.split [1] [false, true, false, false] rfl; dsimp only [selF, pickA, nthA, List.cons_append, List.nil_append] at hC80
                                refine wl_call cal_17 rfl (tdo_sp hC80 (hG.starL 2 rfl) hBW o hos.1 (by omega) hin (by omega) (hLo.starL 2 rfl)) rfl ?_
                                rintro e w80 ⟨_, rfl, rfl, hS80⟩; refine ⟨_, rfl, ?_⟩
                                replace hS80 := hS80.join rfl; dsimp only [List.dropLast, List.cons_append, List.nil_append] at hS80; clear hC80
                                clear hS19
                                refine wl_move rfl rfl ?_
                                refine wl_extract rfl rfl rfl ?_
                                refine wl_extract rfl rfl rfl ?_
                                refine wl_extract rfl rfl rfl ?_
                                refine wl_assign rfl rfl ?_
                                refine wl_assign rfl rfl ?_
                                refine wl_assign rfl rfl ?_
                                refine wl_nil ?_
                                refine qs_seq ?_
                                refine wc_sub (L' := [(17, _), (16, _), (1, _), (5, _), (6, _), (7, _), (8, _), (10, _), (11, _)]) (.cons rfl (.cons rfl (.cons rfl (.cons rfl (.cons rfl (.cons rfl (.cons rfl (.cons rfl (.cons rfl .nil))))))))) ?_
                                refine wc_seq ?_
                                refine wc_region ?_
                                refine wl_move rfl rfl ?_
                                refine wl_move rfl rfl ?_
                                refine wl_move rfl rfl ?_
                                refine wl_indexAddr i rfl rfl (by first | rfl | omega) (by omega) es_35 rfl ?_
                                refine wl_loadAt rfl ag_41 sz_41 (vs := otV o) ((hO.sat hS80 3 rfl).cells ho) rfl ?_
                                have hC81 := hS80.split [2] [false, false, true, false] rfl; dsimp only [selF, pickA, nthA, List.cons_append, List.nil_append] at hC81
                                refine wl_call cal_17 rfl (tdo_sp hC81 (hG.starL 2 rfl) hBV o hos.1 (by omega) hin (by omega) (hLo.starL 2 rfl)) rfl ?_
                                rintro e w81 ⟨_, rfl, rfl, hS81⟩; refine ⟨_, rfl, ?_⟩
                                replace hS81 := hS81.join rfl; dsimp only [List.dropLast, List.cons_append, List.nil_append] at hS81; clear hC81
                                clear hS80
                                refine wl_move rfl rfl ?_
                                refine wl_extract rfl rfl rfl ?_
                                refine wl_extract rfl rfl rfl ?_
                                refine wl_extract rfl rfl rfl ?_
                                refine wl_assign rfl rfl ?_
                                refine wl_assign rfl rfl ?_
                                refine wl_assign rfl rfl ?_
                                refine wl_nil ?_
                                refine qs_seq ?_
                                refine wc_sub (L' := [(20, _), (19, _), (17, _), (16, _), (1, _), (5, _), (6, _), (7, _), (8, _), (10, _), (11, _)]) (.cons rfl (.cons rfl (.cons rfl (.cons rfl (.cons rfl (.cons rfl (.cons rfl (.cons rfl (.cons rfl (.cons rfl (.cons rfl .nil))))))))))) ?_
                                refine wc_seq ?_
                                have hT2 := hT.rd hrd
                                have hV2 := hV.rd hrd
                                rw [hT2.2, hV2.2]
                                refine wc_region ?_
                                refine wl_move rfl rfl ?_
                                refine wl_move rfl rfl ?_
                                refine wl_neqS rfl rfl rfl ?_
                                refine wl_move rfl rfl ?_
                                refine wl_splitD 188 rfl (fun h82 => ?_) (fun h82 => ?_)
                                · skip
                                  exact absurd rfl h82
                                · skip
                                  refine wl_guard rfl rfl (decide_eq_false h82) ?_
                                  refine wl_move rfl rfl ?_
                                  refine wl_guard rfl rfl (decide_eq_false h82) ?_
                                  refine wl_move rfl rfl ?_
                                  refine wl_guard rfl rfl (decide_eq_false h82) ?_
                                  refine wl_neq rfl rfl rfl ?_
                                  refine wl_pickF rfl (decide_eq_false h82) rfl rfl ?_
                                  refine wl_nil ?_
                                  refine qs_seq ?_
                                  refine wc_sub (L' := [(192, _), (1, _), (5, _), (6, _), (7, _), (8, _), (10, _), (11, _)]) (.cons rfl (.cons rfl (.cons rfl (.cons rfl (.cons rfl (.cons rfl (.cons rfl (.cons rfl .nil)))))))) ?_
                                  refine wc_condD rfl (fun h83 => ?_) (fun h83 => ?_)
                                  · skip
                                    exact absurd rfl h83
                                  · skip
                                    refine wc_skip ?_
                                    refine qs_block_normal ?_
                                    refine qs_block_normal ?_
                                    refine qs_seq ?_
                                    refine wc_region ?_
                                    refine wl_move rfl rfl ?_
                                    refine wl_add rfl rfl (by first | omega | (simp; omega)) (by first | omega | (simp; omega)) rfl ?_
                                    refine wl_assign rfl rfl ?_
                                    refine wl_nil ?_
                                    exact qs_round (L1 := [(1, _), (5, _), (6, _), (7, _), (8, _), (10, _), (11, intV ((i + 1 : Nat) : Int))]) (.cons rfl (.cons rfl (.cons rfl (.cons rfl (.cons rfl (.cons rfl (.cons rfl .nil))))))) (k1 := ol.length - (i + 1)) (by omega) ⟨i + 1, _, ctl, ctv, cntC l ctl, _, doW W o, doW V o, _, rfl, rfl, hS81.pick [2, 1, 0, 3] rfl, by omega, hT2.1, hV2.1, rfl, hBW.doW hos.1 hin, hBV.doW hos.1 hin, by have := logs_do W o; omega, by have := logs_do V o; omega⟩
                              · skip
                                refine wc_region ?_
                                refine wl_eql rfl rfl rfl ?_
                                refine wl_assign rfl rfl ?_
                                refine wl_nil ?_
                                refine qs_seq ?_
                                refine wc_sub (L' := [(156, _), (1, _), (5, _), (6, _), (7, _), (8, _), (10, _), (11, _)]) (.cons rfl (.cons rfl (.cons rfl (.cons rfl (.cons rfl (.cons rfl (.cons rfl (.cons rfl .nil)))))))) ?_
                                refine wc_condD rfl (fun h84 => ?_) (fun h84 => ?_)
                                · skip
                                  refine wc_seq ?_
                                  have hrd : isRd o := by unfold isRd; omega
                                  refine wc_region ?_
                                  refine wl_move rfl rfl ?_
                                  refine wl_move rfl rfl ?_
                                  refine wl_move rfl rfl ?_
                                  refine wl_indexAddr i rfl rfl (by first | rfl | omega) (by omega) es_35 rfl ?_
                                  refine wl_loadAt rfl ag_41 sz_41 (vs := otV o) ((hO.sat hS19 3 rfl).cells ho) rfl ?_
                                  have hC85 := hS19.split [1] [false, true, false, false] rfl; dsimp only [selF, pickA, nthA, List.cons_append, List.nil_append] at hC85
                                  refine wl_call cal_17 rfl (tdo_sp hC85 (hG.starL 2 rfl) hBW o hos.1 (by omega) hin (by omega) (hLo.starL 2 rfl)) rfl ?_
                                  rintro e w85 ⟨_, rfl, rfl, hS85⟩; refine ⟨_, rfl, ?_⟩
                                  replace hS85 := hS85.join rfl; dsimp only [List.dropLast, List.cons_append, List.nil_append] at hS85; clear hC85
                                  clear hS19
                                  refine wl_move rfl rfl ?_
                                  refine wl_extract rfl rfl rfl ?_
                                  refine wl_extract rfl rfl rfl ?_
                                  refine wl_extract rfl rfl rfl ?_
                                  refine wl_assign rfl rfl ?_
                                  refine wl_assign rfl rfl ?_
                                  refine wl_assign rfl rfl ?_
                                  refine wl_nil ?_
                                  refine qs_seq ?_
                                  refine wc_sub (L' := [(17, _), (16, _), (1, _), (5, _), (6, _), (7, _), (8, _), (10, _), (11, _)]) (.cons rfl (.cons rfl (.cons rfl (.cons rfl (.cons rfl (.cons rfl (.cons rfl (.cons rfl (.cons rfl .nil))))))))) ?_
                                  refine wc_seq ?_
                                  refine wc_region ?_
                                  refine wl_move rfl rfl ?_
                                  refine wl_move rfl rfl ?_
                                  refine wl_move rfl rfl ?_
                                  refine wl_indexAddr i rfl rfl (by first | rfl | omega) (by omega) es_35 rfl ?_
                                  refine wl_loadAt rfl ag_41 sz_41 (vs := otV o) ((hO.sat hS85 3 rfl).cells ho) rfl ?_
                                  have hC86 := hS85.split [2] [false, false, true, false] rfl; dsimp only [selF, pickA, nthA, List.cons_append, List.nil_append] at hC86
                                  refine wl_call cal_17 rfl (tdo_sp hC86 (hG.starL 2 rfl) hBV o hos.1 (by omega) hin (by omega) (hLo.starL 2 rfl)) rfl ?_
                                  rintro e w86 ⟨_, rfl, rfl, hS86⟩; refine ⟨_, rfl, ?_⟩
                                  replace hS86 := hS86.join rfl; dsimp only [List.dropLast, List.cons_append, List.nil_append] at hS86; clear hC86
                                  clear hS85
                                  refine wl_move rfl rfl ?_
                                  refine wl_extract rfl rfl rfl ?_
                                  refine wl_extract rfl rfl rfl ?_
                                  refine wl_extract rfl rfl rfl ?_
                                  refine wl_assign rfl rfl ?_
                                  refine wl_assign rfl rfl ?_
                                  refine wl_assign rfl rfl ?_
                                  refine wl_nil ?_
                                  refine qs_seq ?_
                                  refine wc_sub (L' := [(20, _), (19, _), (17, _), (16, _), (1, _), (5, _), (6, _), (7, _), (8, _), (10, _), (11, _)]) (.cons rfl (.cons rfl (.cons rfl (.cons rfl (.cons rfl (.cons rfl (.cons rfl (.cons rfl (.cons rfl (.cons rfl (.cons rfl .nil))))))))))) ?_
                                  refine wc_seq ?_
                                  have hT2 := hT.rd hrd
                                  have hV2 := hV.rd hrd
                                  rw [hT2.2, hV2.2]
                                  refine wc_region ?_
                                  refine wl_move rfl rfl ?_
                                  refine wl_move rfl rfl ?_
                                  refine wl_neqS rfl rfl rfl ?_
                                  refine wl_move rfl rfl ?_
                                  refine wl_splitD 188 rfl (fun h87 => ?_) (fun h87 => ?_)
                                  · skip
                                    exact absurd rfl h87
                                  · skip
                                    refine wl_guard rfl rfl (decide_eq_false h87) ?_
                                    refine wl_move rfl rfl ?_
                                    refine wl_guard rfl rfl (decide_eq_false h87) ?_
                                    refine wl_move rfl rfl ?_
                                    refine wl_guard rfl rfl (decide_eq_false h87) ?_
                                    refine wl_neq rfl rfl rfl ?_
                                    refine wl_pickF rfl (decide_eq_false h87) rfl rfl ?_
                                    refine wl_nil ?_
                                    refine qs_seq ?_
                                    refine wc_sub (L' := [(192, _), (1, _), (5, _), (6, _), (7, _), (8, _), (10, _), (11, _)]) (.cons rfl (.cons rfl (.cons rfl (.cons rfl (.cons rfl (.cons rfl (.cons rfl (.cons rfl .nil)))))))) ?_
                                    refine wc_condD rfl (fun h88 => ?_) (fun h88 => ?_)
                                    · skip
                                      exact absurd rfl h88
                                    · skip
                                      refine wc_skip ?_
                                      refine qs_block_normal ?_
                                      refine qs_block_normal ?_
                                      refine qs_seq ?_
                                      refine wc_region ?_
                                      refine wl_move rfl rfl ?_
                                      refine wl_add rfl rfl (by first | omega | (simp; omega)) (by first | omega | (simp; omega)) rfl ?_
                                      refine wl_assign rfl rfl ?_
                                      refine wl_nil ?_
                                      exact qs_round (L1 := [(1, _), (5, _), (6, _), (7, _), (8, _), (10, _), (11, intV ((i + 1 : Nat) : Int))]) (.cons rfl (.cons rfl (.cons rfl (.cons rfl (.cons rfl (.cons rfl (.cons rfl .nil))))))) (k1 := ol.length - (i + 1)) (by omega) ⟨i + 1, _, ctl, ctv, cntC l ctl, _, doW W o, doW V o, _, rfl, rfl, hS86.pick [2, 1, 0, 3] rfl, by omega, hT2.1, hV2.1, rfl, hBW.doW hos.1 hin, hBV.doW hos.1 hin, by have := logs_do W o; omega, by have := logs_do V o; omega⟩
                                · skip
                                  refine wc_skip ?_
                                  refine qs_block_normal ?_
                                  refine qs_block_normal ?_
                                  refine qs_seq ?_
                                  refine wc_region ?_
                                  refine wl_move rfl rfl ?_
                                  refine wl_add rfl rfl (by first | omega | (simp; omega)) (by first | omega | (simp; omega)) rfl ?_
                                  refine wl_assign rfl rfl ?_
                                  refine wl_nil ?_
                                  exact qs_round (L1 := [(1, _), (5, _), (6, _), (7, _), (8, _), (10, _), (11, intV ((i + 1 : Nat) : Int))]) (.cons rfl (.cons rfl (.cons rfl (.cons rfl (.cons rfl (.cons rfl (.cons rfl .nil))))))) (k1 := ol.length - (i + 1)) (by omega) ⟨i + 1, pos, ctl, ctv, cntC l ctl, part, W, V, _, rfl, rfl, hS19.pick [0, 1, 2, 3] rfl, by omega, hT, hV, rfl, hBW, hBV, by omega, by omega⟩
            · skip
              refine wc_exit ?_
              refine qs_then_exit ?_
              refine qs_then_exit ?_
              refine qs_block_exit ?_
              refine qs_seq ?_
              refine wc_seq ?_
              refine wc_region ?_
              refine wl_move rfl rfl ?_
              refine wl_assign rfl rfl ?_
              refine wl_nil ?_
              refine qs_seq ?_
              refine wc_ret ?_
              refine fin1 (.inr rfl) rfl rfl ?_
              exact ⟨_, rfl, by first | rfl | simp, hS19.pick [3] rfl⟩

end Go.Proofs.YtdkfppcafpjomaaDoor
