/- laws of sheets: SheetsKeep -/
import Derived.Test.YtnicmcdeoimhlaaGreatSl4
namespace Go.Proofs.YtnicmcdeoimhlaaGreat
open Go.RowKit M
set_option linter.unusedVariables false
theorem keep1 {o : OpD} {a e : Int} {V V' : Int → Option (Int × Bs)} (h : DoV o a e V V') (hd : o.d = 0) (he : e = 0) (hb : (decide (a = 0) != decide (b64 o.s = b64 [])) = true) : False := by
  rw [zer_b64] at hb
  rcases h with ⟨_, h1, h2, _⟩ | ⟨h1, ⟨_, h2, _⟩ | ⟨h2, _⟩⟩ | ⟨h1, _⟩ | ⟨h1, _⟩ | ⟨h1, _⟩ | ⟨h1, _⟩ | ⟨h1, _⟩
  · simp [h1, h2] at hb
  · omega
  · have h3 : b64 o.s ≠ zer := h1.elim (·.2) (fun q => by omega)
    have h4 : a ≠ 0 := by omega
    simp [h3, h4] at hb
  all_goals omega
theorem keep2 {o : OpD} {a e : Int} {V V' : Int → Option (Int × Bs)} (h : DoV o a e V V') (hd : o.d = 0 ∨ o.d = 10) (ha : a ≠ 0) : V a = none := by
  rcases h with ⟨_, _, h2, _⟩ | ⟨_, ⟨h2, _⟩ | ⟨_, _, h2, _⟩⟩ | ⟨h1, _⟩ | ⟨h1, _⟩ | ⟨h1, _⟩ | ⟨h1, _⟩ | ⟨h1, _⟩
  · exact absurd h2 ha
  · exact absurd h2 ha
  · exact h2
  all_goals omega
theorem keep3 {o : OpD} {a e : Int} {V V' : Int → Option (Int × Bs)} (h : DoV o a e V V') (hd : o.d = 10) (hb : (decide (a = 0) != decide (e ≠ 0)) = true) : False := by
  rcases h with ⟨h1, _⟩ | ⟨_, ⟨h1, h2, _⟩ | ⟨h1, h2, _⟩⟩ | ⟨h1, _⟩ | ⟨h1, _⟩ | ⟨h1, _⟩ | ⟨h1, _⟩ | ⟨h1, _⟩
  · omega
  · simp [h1, h2] at hb
  · have h4 : a ≠ 0 := by omega
    simp [h2, h4] at hb
  all_goals omega
theorem vw_bound {N : Nat} {S : SS} (hI : ShI no0 N S) (hN : N ≤ 900000) {j r : Int} {pg : Bs} (h : vw S j = some (r, pg)) : 1 ≤ r ∧ r ≤ 1000000 ∧ pg.length = 64 := by
  obtain ⟨x, hx, rfl, rfl⟩ := vw_back h
  obtain ⟨_, _, h1, h2, h3, _⟩ := hI.ent hx
  exact ⟨h1, by omega, h3⟩
theorem few_all {l : List OpD} {n : Int} (h : fewB l n = true) : (∀ (i : Nat) (o : OpD), l[i]? = some o → okO o = true) ∧ (l.length : Int) ≤ n := by
  simp only [fewB, Bool.and_eq_true, decide_eq_true_eq, List.all_eq_true] at h
  exact ⟨fun i o ho => h.1 o (List.mem_of_getElem? ho), h.2⟩
set_option maxRecDepth 100000 in
set_option maxHeartbeats 3200000 in
theorem keep_law {w : World} {F : Th} (hS : Sat w [F]) {lv : Value} {l : List OpD} (count slots budget : Int) (hL : Ent F (RdL opC lv l)) :
    Calls Tryz.prog 3 #[intV count, intV slots, intV budget, lv] w (Ret fun v w' => v = .bool true ∧ Sat w' [F]) := by
 obtain ⟨ao, cap, rfl, hmax⟩ := (hL.sat hS 0 rfl).shape
 refine calls_enter Tryz.func3 rfl Tryz.ntmps3 rfl ?_
 refine wc_seq (wc_region (wl_assign rfl rfl (wl_nil (qs_seq (wc_seq (wc_region ?_))))))
 have hC1 := hS.split [] [false] rfl; dsimp only [selF, pickA, nthA, List.cons_append, List.nil_append] at hC1
 refine wl_call cal_8 rfl (small_sp hC1) rfl ?_
 rintro e w1 ⟨_, rfl, rfl, hS1⟩; refine ⟨_, rfl, ?_⟩
 replace hS1 := hS1.join rfl; dsimp only [List.dropLast, List.cons_append, List.nil_append] at hS1; clear hC1
 refine wl_assign rfl rfl (wl_nil (qs_seq (wc_seq (wc_region (wl_move rfl rfl (wl_move rfl rfl (wl_move rfl rfl ?_)))))))
 have hC2 := hS1.split [] [false] rfl; dsimp only [selF, pickA, nthA, List.cons_append, List.nil_append] at hC2
 refine wl_call cal_9 rfl (shnew_sp hC2 count slots budget) rfl ?_
 rintro e w2 ⟨_, rfl, p, rfl, hS2⟩; refine ⟨_, rfl, ?_⟩
 replace hS2 := hS2.join rfl; dsimp only [List.dropLast, List.cons_append, List.nil_append] at hS2; clear hC2
 clear hS1
 refine wl_assign rfl rfl (wl_nil (qs_seq ?_))
 refine wc_sub (L' := [(10, _), (9, _), (8, _), (3, _)]) (.cons rfl (.cons rfl (.cons rfl (.cons rfl .nil)))) ?_
 refine wc_seq (wc_seq (wc_region (wl_move rfl rfl ?_)))
 have hC3 := hS2.split [] [false, false] rfl; dsimp only [selF, pickA, nthA, List.cons_append, List.nil_append] at hC3
 refine wl_call cal_10 rfl (few_sp hC3 (hL.starL 1 rfl) 60) rfl ?_
 rintro e w3 ⟨_, rfl, rfl, hS3⟩; refine ⟨_, rfl, ?_⟩
 replace hS3 := hS3.join rfl; dsimp only [List.dropLast, List.cons_append, List.nil_append] at hS3; clear hC3
 clear hS2
 refine wl_not rfl rfl ?_
 refine wl_move rfl rfl ?_
 refine wl_split 24 rfl (fun h4 => ?_) (fun h4 => ?_)
 ·refine wl_unwanted rfl rfl h4 rfl ?_
  refine wl_unwanted rfl rfl h4 rfl ?_
  refine wl_pickT rfl h4 rfl rfl ?_
  refine wl_nil (qs_seq ?_)
  refine wc_sub (L' := [(27, _), (10, _), (9, _), (8, _), (3, _)]) (.cons rfl (.cons rfl (.cons rfl (.cons rfl (.cons rfl .nil))))) ?_
  refine wc_condT rfl ?_
  refine wc_seq (wc_region (wl_move rfl rfl (wl_move rfl rfl ?_)))
  refine wl_split 29 rfl (fun h5 => ?_) (fun h5 => ?_)
  ·refine wl_guard rfl rfl h5 ?_
   refine wl_move rfl rfl ?_
   refine wl_guard rfl rfl h5 ?_
   refine wl_neqNil Tryz.underlying24 rfl rfl rfl ?_
   refine wl_pickT rfl h5 rfl rfl ?_
   refine wl_assign rfl rfl (wl_nil (qs_seq (wc_ret (qs_then_ret ?_))))
   refine fin1 (.inr rfl) rfl rfl ?_
   exact ⟨_, rfl, rfl, hS3.pick [1] rfl⟩
  exact absurd h5 (by simp)
 have hfew : fewB l 60 = true := by simpa using h4
 have hall := few_all hfew
 refine wl_guard rfl rfl h4 ?_
 refine wl_move rfl rfl ?_
 refine wl_guard rfl rfl h4 ?_
 refine wl_eqlNil Tryz.underlying24 rfl rfl rfl ?_
 refine wl_pickF rfl h4 rfl rfl ?_
 refine wl_nil (qs_seq ?_)
 refine wc_sub (L' := [(27, _), (10, _), (9, _), (8, _), (3, _)]) (.cons rfl (.cons rfl (.cons rfl (.cons rfl (.cons rfl .nil))))) ?_
 refine wc_condF rfl ?_
 refine wc_skip (qs_seq (wc_seq (wc_region ?_)))
 refine wl_buildS rfl pl_31_ asz_31 zr_31 rfl rfl ?_
 refine wl_box hS3 rfl rfl rfl ?_
 intro mb wmb hSmb0
 have hSmb := moT_shut (M := ⟨[], [], []⟩) (((((hSmb0.row_nil stC).row_nil inC).row_nil inC).reorder [3, 0, 1, 2, 4, 5] rfl))
 clear hS3
 refine wl_assign rfl rfl (wl_nil (qs_seq (wc_seq (wc_seq (wc_region (wl_assign rfl rfl (wl_nil (qs_seq (wc_block ?_)))))))))
 refine wc_loop (fun K0 E0 W0 => ∃ (i : Nat) (M : MoD) (S : SS), K0 = l.length - i ∧ E0 = [(3, .slice ao l.length cap), (9, .bool true), (10, ptrV p 0), (11, ptrV mb 0), (12, intV (i : Int))] ∧ Sat W0 [moT mb M, shT p S, F] ∧ (i ≤ l.length) ∧ (ShI no0 (301 * i) S) ∧ (MRel M (vw S)) ∧ (M.ids.length ≤ i)) (L0 := [(3, _), (9, _), (10, _), (11, _), (12, _)]) (l.length - 0) (.cons rfl (.cons rfl (.cons rfl (.cons rfl (.cons rfl .nil))))) ⟨0, _, _, rfl, rfl, hSmb, by omega, newS_inv count slots budget, MRel.nil, by simp⟩ ?_
 rintro _ _ w6 ⟨i, M, S, rfl, rfl, hS6, hi, hI, hR, hml⟩
 refine wc_seq (wc_seq (wc_region (wl_move rfl rfl (wl_move rfl rfl ?_))))
 refine wl_lenL Tryz.underlying22 rfl rfl ?_
 refine wl_lss rfl rfl rfl ?_
 refine wl_nil (qs_seq ?_)
 refine wc_condD rfl (fun h7 => ?_) (fun h7 => ?_)
 ·obtain ⟨o, ho⟩ : ∃ o, l[i]? = some o := ⟨_, List.getElem?_eq_getElem (by omega)⟩
  obtain ⟨b, off, rfl, _⟩ := (hL.sat hS6 2 rfl).get ho
  have hil := (List.getElem?_eq_some_iff.1 ho).1
  have hoo := hall.1 i o ho
  refine wc_skip (qs_seq (wc_seq (wc_block (wc_seq (wc_region (wl_move rfl rfl (wl_move rfl rfl ?_)))))))
  refine wl_indexAddr i rfl rfl (by first | rfl | omega) (by omega) es_22 rfl ?_
  refine wl_loadAt rfl ag_33 sz_33 (vs := opV o) ((hL.sat hS6 2 rfl).at_ ho) rfl ?_
  refine wl_alloc hS6 zr_33 rfl rfl ?_
  intro b8 w8 hS8
  clear hS6
  first | (refine wl_storeA hS8 rfl rfl sz_33 rfl (by first | rfl | (simp [allOne, Value.oneCell']; done) | assumption | exact hone) (i := 0) rfl (by first | decide | exact Nat.le_of_ble_eq_true rfl | (simp; done) | omega) ?_)
  intro w9 hS10; dsimp only [List.set] at hS10
  clear hS8
  refine wl_nil (qs_seq ?_)
  refine wc_sub (L' := [(13, _), (3, _), (9, _), (10, _), (11, _), (12, _)]) (.cons rfl (.cons rfl (.cons rfl (.cons rfl (.cons rfl (.cons rfl .nil)))))) ?_
  refine wc_seq (wc_region (wl_move rfl rfl ?_))
  refine wl_loadA rfl ag_33 sz_33 (by first | exact hS10.blk 0 rfl) (by first | decide | exact Nat.le_of_ble_eq_true rfl | (simp; done) | omega) rfl rfl ?_
  have hC11 := hS10.split [2] [false, false, true, false] rfl; dsimp only [selF, pickA, nthA, List.cons_append, List.nil_append] at hC11
  refine wl_call cal_11 rfl (do_sp hC11 hI (by omega) o hoo) rfl ?_
  rintro e w11 ⟨_, rfl, a, e, S2, rfl, hDo, hS11⟩; refine ⟨_, rfl, ?_⟩
  replace hS11 := hS11.join rfl; dsimp only [List.dropLast, List.cons_append, List.nil_append] at hS11; clear hC11
  clear hS10
  refine wl_move rfl rfl (wl_extract rfl rfl rfl (wl_extract rfl rfl rfl (wl_assign rfl rfl (wl_assign rfl rfl (wl_nil (qs_seq ?_))))))
  refine wc_sub (L' := [(15, _), (14, _), (13, _), (3, _), (9, _), (10, _), (11, _), (12, _)]) (.cons rfl (.cons rfl (.cons rfl (.cons rfl (.cons rfl (.cons rfl (.cons rfl (.cons rfl .nil)))))))) ?_
  refine wc_seq (wc_seq (wc_region ?_))
  refine wl_fieldAddr rfl fo_33_0 rfl ?_
  refine wl_load rfl ag_3 (by first | assumption | exact hS11.cell 1 rfl rfl) rfl ?_
  refine wl_eql rfl rfl rfl ?_
  refine wl_move rfl rfl ?_
  refine wl_splitD 54 rfl (fun h12 => ?_) (fun h12 => ?_)
  ·have hd0 : o.d = 0 := h12
   refine wl_guard rfl rfl (decide_eq_true h12) ?_
   refine wl_move rfl rfl ?_
   refine wl_guard rfl rfl (decide_eq_true h12) ?_
   refine wl_eql rfl rfl rfl ?_
   refine wl_pickT rfl (decide_eq_true h12) rfl rfl ?_
   refine wl_move rfl rfl ?_
   refine wl_splitD 58 rfl (fun h13 => ?_) (fun h13 => ?_)
   ·have he0 : e = 0 := h13
    refine wl_guard rfl rfl (decide_eq_true h13) ?_
    refine wl_move rfl rfl ?_
    refine wl_guard rfl rfl (decide_eq_true h13) ?_
    refine wl_eql rfl rfl rfl ?_
    refine wl_guard rfl rfl (decide_eq_true h13) ?_
    refine wl_fieldAddr rfl fo_33_4 rfl ?_
    refine wl_guard rfl rfl (decide_eq_true h13) ?_
    refine wl_load rfl ag_9 (by first | assumption | exact hS11.cell 1 rfl rfl) rfl ?_
    refine wl_guard rfl rfl (decide_eq_true h13) ?_
    have hC14 := hS11.split [] [false, false, false, false] rfl; dsimp only [selF, pickA, nthA, List.cons_append, List.nil_append] at hC14
    refine wl_call cal_12 rfl (page_sp hC14 o.s) rfl ?_
    rintro e w14 ⟨_, rfl, rfl, hS14⟩; refine ⟨_, rfl, ?_⟩
    replace hS14 := hS14.join rfl; dsimp only [List.dropLast, List.cons_append, List.nil_append] at hS14; clear hC14
    clear hS11
    refine wl_guard rfl rfl (decide_eq_true h13) ?_
    have hC15 := hS14.split [] [false, false, false, false] rfl; dsimp only [selF, pickA, nthA, List.cons_append, List.nil_append] at hC15
    refine wl_call cal_12 rfl (page_sp hC15 []) rfl ?_
    rintro e w15 ⟨_, rfl, rfl, hS15⟩; refine ⟨_, rfl, ?_⟩
    replace hS15 := hS15.join rfl; dsimp only [List.dropLast, List.cons_append, List.nil_append] at hS15; clear hC15
    clear hS14
    refine wl_guard rfl rfl (decide_eq_true h13) ?_
    refine wl_eqlS rfl rfl rfl ?_
    refine wl_guard rfl rfl (decide_eq_true h13) ?_
    refine wl_neqB Tryz.underlying4 rfl rfl rfl ?_
    refine wl_pickT rfl (decide_eq_true h13) rfl rfl ?_
    refine wl_move rfl rfl ?_
    refine wl_split 68 rfl (fun h16 => ?_) (fun h16 => ?_)
    ·exact (keep1 hDo.v hd0 he0 h16).elim
    refine wl_guard rfl rfl h16 ?_
    refine wl_fieldAddr rfl fo_33_0 rfl ?_
    refine wl_guard rfl rfl h16 ?_
    refine wl_load rfl ag_3 (by first | assumption | exact hS15.cell 1 rfl rfl) rfl ?_
    refine wl_guard rfl rfl h16 ?_
    refine wl_eql rfl rfl rfl ?_
    refine wl_guard rfl rfl h16 ?_
    refine wl_move rfl rfl ?_
    refine wl_splitD 72 rfl (fun h17 => ?_) (fun h17 => ?_)
    ·refine wl_unwanted rfl rfl (decide_eq_true h17) rfl ?_
     refine wl_unwanted rfl rfl (decide_eq_true h17) rfl ?_
     refine wl_unwanted rfl rfl (decide_eq_true h17) rfl ?_
     refine wl_guard rfl rfl h16 ?_
     refine wl_pickT rfl (decide_eq_true h17) rfl rfl ?_
     refine wl_guard rfl rfl h16 ?_
     refine wl_move rfl rfl ?_
     refine wl_guard rfl rfl rfl ?_
     refine wl_move rfl rfl ?_
     refine wl_guard rfl rfl rfl ?_
     refine wl_neq rfl rfl rfl ?_
     refine wl_guard rfl rfl h16 ?_
     refine wl_pickT rfl rfl rfl rfl ?_
     refine wl_guard rfl rfl h16 ?_
     refine wl_move rfl rfl ?_
     refine wl_splitD 81 rfl (fun h18 => ?_) (fun h18 => ?_)
     ·refine wl_guard rfl rfl (decide_eq_true h18) ?_
      refine wl_move rfl rfl ?_
      refine wl_guard rfl rfl (decide_eq_true h18) ?_
      refine wl_move rfl rfl ?_
      refine wl_guard rfl rfl (decide_eq_true h18) ?_
      have hC19 := hS15.split [2] [false, false, true, false] rfl; dsimp only [selF, pickA, nthA, List.cons_append, List.nil_append] at hC19
      refine wl_call cal_13 rfl (moidx_sp hC19 a (by omega)) rfl ?_
      rintro e w19 ⟨_, rfl, (⟨rfl, hno, hS19⟩ | ⟨k, rfl, hk, hS19⟩)⟩
      ·refine ⟨_, rfl, ?_⟩
       replace hS19 := hS19.join rfl; dsimp only [List.dropLast, List.cons_append, List.nil_append] at hS19; clear hC19
       clear hS15
       refine wl_guard rfl rfl (decide_eq_true h18) ?_
       refine wl_geq rfl rfl rfl ?_
       refine wl_guard rfl rfl h16 ?_
       refine wl_pickT rfl (decide_eq_true h18) rfl rfl ?_
       refine wl_pickF rfl h16 rfl rfl ?_
       refine wl_move rfl rfl ?_
       refine wl_splitD 88 rfl (fun h20 => ?_) (fun h20 => ?_)
       ·exact absurd h20 (by decide)
       refine wl_guard rfl rfl (decide_eq_false h20) ?_
       refine wl_fieldAddr rfl fo_33_0 rfl ?_
       refine wl_guard rfl rfl (decide_eq_false h20) ?_
       refine wl_load rfl ag_3 (by first | assumption | exact hS19.cell 2 rfl rfl) rfl ?_
       refine wl_guard rfl rfl (decide_eq_false h20) ?_
       refine wl_eql rfl rfl rfl ?_
       refine wl_guard rfl rfl (decide_eq_false h20) ?_
       refine wl_move rfl rfl ?_
       refine wl_splitD 92 rfl (fun h21 => ?_) (fun h21 => ?_)
       ·have hd10 : o.d = 10 := h21
        refine wl_guard rfl rfl (decide_eq_true h21) ?_
        refine wl_move rfl rfl ?_
        refine wl_guard rfl rfl (decide_eq_true h21) ?_
        refine wl_eql rfl rfl rfl ?_
        refine wl_guard rfl rfl (decide_eq_true h21) ?_
        refine wl_move rfl rfl ?_
        refine wl_guard rfl rfl (decide_eq_true h21) ?_
        refine wl_neq rfl rfl rfl ?_
        refine wl_guard rfl rfl (decide_eq_true h21) ?_
        refine wl_neqB Tryz.underlying4 rfl rfl rfl ?_
        refine wl_guard rfl rfl (decide_eq_false h20) ?_
        refine wl_pickT rfl (decide_eq_true h21) rfl rfl ?_
        refine wl_pickF rfl (decide_eq_false h20) rfl rfl ?_
        refine wl_nil (qs_seq ?_)
        refine wc_sub (L' := [(99, _), (15, _), (14, _), (13, _), (3, _), (9, _), (10, _), (11, _), (12, _)]) (.cons rfl (.cons rfl (.cons rfl (.cons rfl (.cons rfl (.cons rfl (.cons rfl (.cons rfl (.cons rfl .nil))))))))) ?_
        refine wc_cond rfl (fun h22 => ?_) (fun h22 => ?_)
        ·exact (keep3 hDo.v hd10 h22).elim
        refine wc_skip (qs_seq (wc_seq (wc_region (wl_move rfl rfl ?_))))
        refine wl_loadA rfl ag_33 sz_33 (by first | exact hS19.blk 2 rfl) (by first | decide | exact Nat.le_of_ble_eq_true rfl | (simp; done) | omega) rfl rfl ?_
        refine wl_move rfl rfl (wl_move rfl rfl ?_)
        have hC23 := hS19.split [0] [true, false, false, false] rfl; dsimp only [selF, pickA, nthA, List.cons_append, List.nil_append] at hC23
        refine wl_call cal_14 rfl (moapply_sp hC23 o a e hR hDo.v (vw_bound hI (by omega)) (by omega)) rfl ?_
        rintro e w23 ⟨_, rfl, rfl, M2, hR2, hml2, hS23⟩; refine ⟨_, rfl, ?_⟩
        replace hS23 := hS23.join rfl; dsimp only [List.dropLast, List.cons_append, List.nil_append] at hS23; clear hC23
        clear hS19
        refine wl_nil (qs_seq ?_)
        refine wc_sub (L' := [(3, _), (9, _), (10, _), (11, _), (12, _)]) (.cons rfl (.cons rfl (.cons rfl (.cons rfl (.cons rfl .nil))))) ?_
        refine wc_seq (wc_region (wl_move rfl rfl (wl_move rfl rfl ?_)))
        have hC24 := hS23.split [0, 1] [true, true, false, false] rfl; dsimp only [selF, pickA, nthA, List.cons_append, List.nil_append] at hC24
        refine wl_call cal_15 rfl (moholds_sp hC24 hDo.inv hR2 (by omega)) rfl ?_
        rintro e w24 ⟨_, rfl, rfl, hS24⟩; refine ⟨_, rfl, ?_⟩
        replace hS24 := hS24.join rfl; dsimp only [List.dropLast, List.cons_append, List.nil_append] at hS24; clear hC24
        clear hS23
        refine wl_not rfl rfl ?_
        refine wl_nil (qs_seq ?_)
        refine wc_condKF rfl rfl ?_
        refine wc_skip (qs_block_normal (qs_seq (wc_region (wl_move rfl rfl ?_))))
        refine wl_add rfl rfl (by omega) (by omega) rfl ?_
        refine wl_assign rfl rfl (wl_nil ?_)
        exact qs_round (L1 := [(3, _), (9, _), (10, _), (11, _), (12, intV ((i + 1 : Nat) : Int))]) (.cons rfl (.cons rfl (.cons rfl (.cons rfl (.cons rfl .nil))))) (k1 := l.length - (i + 1)) (by omega) ⟨i + 1, M2, S2, rfl, rfl, hS24.pick [0, 1, 3] rfl, by omega, by have := hDo.inv; rwa [show 301 * i + 301 = 301 * (i + 1) by omega] at this, hR2, by omega⟩
       refine wl_unwanted rfl rfl (decide_eq_false h21) rfl ?_
       refine wl_unwanted rfl rfl (decide_eq_false h21) rfl ?_
       refine wl_unwanted rfl rfl (decide_eq_false h21) rfl ?_
       refine wl_unwanted rfl rfl (decide_eq_false h21) rfl ?_
       refine wl_unwanted rfl rfl (decide_eq_false h21) rfl ?_
       refine wl_guard rfl rfl (decide_eq_false h20) ?_
       refine wl_pickF rfl (decide_eq_false h21) rfl rfl ?_
       refine wl_pickF rfl (decide_eq_false h20) rfl rfl ?_
       refine wl_nil (qs_seq ?_)
       refine wc_sub (L' := [(99, _), (15, _), (14, _), (13, _), (3, _), (9, _), (10, _), (11, _), (12, _)]) (.cons rfl (.cons rfl (.cons rfl (.cons rfl (.cons rfl (.cons rfl (.cons rfl (.cons rfl (.cons rfl .nil))))))))) ?_
       refine wc_condF rfl ?_
       refine wc_skip (qs_seq (wc_seq (wc_region (wl_move rfl rfl ?_))))
       refine wl_loadA rfl ag_33 sz_33 (by first | exact hS19.blk 2 rfl) (by first | decide | exact Nat.le_of_ble_eq_true rfl | (simp; done) | omega) rfl rfl ?_
       refine wl_move rfl rfl (wl_move rfl rfl ?_)
       have hC25 := hS19.split [0] [true, false, false, false] rfl; dsimp only [selF, pickA, nthA, List.cons_append, List.nil_append] at hC25
       refine wl_call cal_14 rfl (moapply_sp hC25 o a e hR hDo.v (vw_bound hI (by omega)) (by omega)) rfl ?_
       rintro e w25 ⟨_, rfl, rfl, M2, hR2, hml2, hS25⟩; refine ⟨_, rfl, ?_⟩
       replace hS25 := hS25.join rfl; dsimp only [List.dropLast, List.cons_append, List.nil_append] at hS25; clear hC25
       clear hS19
       refine wl_nil (qs_seq ?_)
       refine wc_sub (L' := [(3, _), (9, _), (10, _), (11, _), (12, _)]) (.cons rfl (.cons rfl (.cons rfl (.cons rfl (.cons rfl .nil))))) ?_
       refine wc_seq (wc_region (wl_move rfl rfl (wl_move rfl rfl ?_)))
       have hC26 := hS25.split [0, 1] [true, true, false, false] rfl; dsimp only [selF, pickA, nthA, List.cons_append, List.nil_append] at hC26
       refine wl_call cal_15 rfl (moholds_sp hC26 hDo.inv hR2 (by omega)) rfl ?_
       rintro e w26 ⟨_, rfl, rfl, hS26⟩; refine ⟨_, rfl, ?_⟩
       replace hS26 := hS26.join rfl; dsimp only [List.dropLast, List.cons_append, List.nil_append] at hS26; clear hC26
       clear hS25
       refine wl_not rfl rfl ?_
       refine wl_nil (qs_seq ?_)
       refine wc_condKF rfl rfl ?_
       refine wc_skip (qs_block_normal (qs_seq (wc_region (wl_move rfl rfl ?_))))
       refine wl_add rfl rfl (by omega) (by omega) rfl ?_
       refine wl_assign rfl rfl (wl_nil ?_)
       exact qs_round (L1 := [(3, _), (9, _), (10, _), (11, _), (12, intV ((i + 1 : Nat) : Int))]) (.cons rfl (.cons rfl (.cons rfl (.cons rfl (.cons rfl .nil))))) (k1 := l.length - (i + 1)) (by omega) ⟨i + 1, M2, S2, rfl, rfl, hS26.pick [0, 1, 3] rfl, by omega, by have := hDo.inv; rwa [show 301 * i + 301 = 301 * (i + 1) by omega] at this, hR2, by omega⟩
      exact (hR.no (keep2 hDo.v (by omega) (by omega)) hk).elim
     refine wl_unwanted rfl rfl (decide_eq_false h18) rfl ?_
     refine wl_unwanted rfl rfl (decide_eq_false h18) rfl ?_
     refine wl_unwanted rfl rfl (decide_eq_false h18) rfl ?_
     refine wl_unwanted rfl rfl (decide_eq_false h18) rfl ?_
     refine wl_guard rfl rfl h16 ?_
     refine wl_pickF rfl (decide_eq_false h18) rfl rfl ?_
     refine wl_pickF rfl h16 rfl rfl ?_
     refine wl_move rfl rfl ?_
     refine wl_guard rfl rfl rfl ?_
     refine wl_fieldAddr rfl fo_33_0 rfl ?_
     refine wl_guard rfl rfl rfl ?_
     refine wl_load rfl ag_3 (by first | assumption | exact hS15.cell 1 rfl rfl) rfl ?_
     refine wl_guard rfl rfl rfl ?_
     refine wl_eql rfl rfl rfl ?_
     refine wl_guard rfl rfl rfl ?_
     refine wl_move rfl rfl ?_
     refine wl_splitD 92 rfl (fun h27 => ?_) (fun h27 => ?_)
     ·have hd10 : o.d = 10 := h27
      refine wl_guard rfl rfl (decide_eq_true h27) ?_
      refine wl_move rfl rfl ?_
      refine wl_guard rfl rfl (decide_eq_true h27) ?_
      refine wl_eql rfl rfl rfl ?_
      refine wl_guard rfl rfl (decide_eq_true h27) ?_
      refine wl_move rfl rfl ?_
      refine wl_guard rfl rfl (decide_eq_true h27) ?_
      refine wl_neq rfl rfl rfl ?_
      refine wl_guard rfl rfl (decide_eq_true h27) ?_
      refine wl_neqB Tryz.underlying4 rfl rfl rfl ?_
      refine wl_guard rfl rfl rfl ?_
      refine wl_pickT rfl (decide_eq_true h27) rfl rfl ?_
      refine wl_pickF rfl rfl rfl rfl ?_
      refine wl_nil (qs_seq ?_)
      refine wc_sub (L' := [(99, _), (15, _), (14, _), (13, _), (3, _), (9, _), (10, _), (11, _), (12, _)]) (.cons rfl (.cons rfl (.cons rfl (.cons rfl (.cons rfl (.cons rfl (.cons rfl (.cons rfl (.cons rfl .nil))))))))) ?_
      refine wc_cond rfl (fun h28 => ?_) (fun h28 => ?_)
      ·exact (keep3 hDo.v hd10 h28).elim
      refine wc_skip (qs_seq (wc_seq (wc_region (wl_move rfl rfl ?_))))
      refine wl_loadA rfl ag_33 sz_33 (by first | exact hS15.blk 1 rfl) (by first | decide | exact Nat.le_of_ble_eq_true rfl | (simp; done) | omega) rfl rfl ?_
      refine wl_move rfl rfl (wl_move rfl rfl ?_)
      have hC29 := hS15.split [2] [false, false, true, false] rfl; dsimp only [selF, pickA, nthA, List.cons_append, List.nil_append] at hC29
      refine wl_call cal_14 rfl (moapply_sp hC29 o a e hR hDo.v (vw_bound hI (by omega)) (by omega)) rfl ?_
      rintro e w29 ⟨_, rfl, rfl, M2, hR2, hml2, hS29⟩; refine ⟨_, rfl, ?_⟩
      replace hS29 := hS29.join rfl; dsimp only [List.dropLast, List.cons_append, List.nil_append] at hS29; clear hC29
      clear hS15
      refine wl_nil (qs_seq ?_)
      refine wc_sub (L' := [(3, _), (9, _), (10, _), (11, _), (12, _)]) (.cons rfl (.cons rfl (.cons rfl (.cons rfl (.cons rfl .nil))))) ?_
      refine wc_seq (wc_region (wl_move rfl rfl (wl_move rfl rfl ?_)))
      have hC30 := hS29.split [0, 1] [true, true, false, false] rfl; dsimp only [selF, pickA, nthA, List.cons_append, List.nil_append] at hC30
      refine wl_call cal_15 rfl (moholds_sp hC30 hDo.inv hR2 (by omega)) rfl ?_
      rintro e w30 ⟨_, rfl, rfl, hS30⟩; refine ⟨_, rfl, ?_⟩
      replace hS30 := hS30.join rfl; dsimp only [List.dropLast, List.cons_append, List.nil_append] at hS30; clear hC30
      clear hS29
      refine wl_not rfl rfl ?_
      refine wl_nil (qs_seq ?_)
      refine wc_condKF rfl rfl ?_
      refine wc_skip (qs_block_normal (qs_seq (wc_region (wl_move rfl rfl ?_))))
      refine wl_add rfl rfl (by omega) (by omega) rfl ?_
      refine wl_assign rfl rfl (wl_nil ?_)
      exact qs_round (L1 := [(3, _), (9, _), (10, _), (11, _), (12, intV ((i + 1 : Nat) : Int))]) (.cons rfl (.cons rfl (.cons rfl (.cons rfl (.cons rfl .nil))))) (k1 := l.length - (i + 1)) (by omega) ⟨i + 1, M2, S2, rfl, rfl, hS30.pick [0, 1, 3] rfl, by omega, by have := hDo.inv; rwa [show 301 * i + 301 = 301 * (i + 1) by omega] at this, hR2, by omega⟩
     refine wl_unwanted rfl rfl (decide_eq_false h27) rfl ?_
     refine wl_unwanted rfl rfl (decide_eq_false h27) rfl ?_
     refine wl_unwanted rfl rfl (decide_eq_false h27) rfl ?_
     refine wl_unwanted rfl rfl (decide_eq_false h27) rfl ?_
     refine wl_unwanted rfl rfl (decide_eq_false h27) rfl ?_
     refine wl_guard rfl rfl rfl ?_
     refine wl_pickF rfl (decide_eq_false h27) rfl rfl ?_
     refine wl_pickF rfl rfl rfl rfl ?_
     refine wl_nil (qs_seq ?_)
     refine wc_sub (L' := [(99, _), (15, _), (14, _), (13, _), (3, _), (9, _), (10, _), (11, _), (12, _)]) (.cons rfl (.cons rfl (.cons rfl (.cons rfl (.cons rfl (.cons rfl (.cons rfl (.cons rfl (.cons rfl .nil))))))))) ?_
     refine wc_condF rfl ?_
     refine wc_skip (qs_seq (wc_seq (wc_region (wl_move rfl rfl ?_))))
     refine wl_loadA rfl ag_33 sz_33 (by first | exact hS15.blk 1 rfl) (by first | decide | exact Nat.le_of_ble_eq_true rfl | (simp; done) | omega) rfl rfl ?_
     refine wl_move rfl rfl (wl_move rfl rfl ?_)
     have hC31 := hS15.split [2] [false, false, true, false] rfl; dsimp only [selF, pickA, nthA, List.cons_append, List.nil_append] at hC31
     refine wl_call cal_14 rfl (moapply_sp hC31 o a e hR hDo.v (vw_bound hI (by omega)) (by omega)) rfl ?_
     rintro e w31 ⟨_, rfl, rfl, M2, hR2, hml2, hS31⟩; refine ⟨_, rfl, ?_⟩
     replace hS31 := hS31.join rfl; dsimp only [List.dropLast, List.cons_append, List.nil_append] at hS31; clear hC31
     clear hS15
     refine wl_nil (qs_seq ?_)
     refine wc_sub (L' := [(3, _), (9, _), (10, _), (11, _), (12, _)]) (.cons rfl (.cons rfl (.cons rfl (.cons rfl (.cons rfl .nil))))) ?_
     refine wc_seq (wc_region (wl_move rfl rfl (wl_move rfl rfl ?_)))
     have hC32 := hS31.split [0, 1] [true, true, false, false] rfl; dsimp only [selF, pickA, nthA, List.cons_append, List.nil_append] at hC32
     refine wl_call cal_15 rfl (moholds_sp hC32 hDo.inv hR2 (by omega)) rfl ?_
     rintro e w32 ⟨_, rfl, rfl, hS32⟩; refine ⟨_, rfl, ?_⟩
     replace hS32 := hS32.join rfl; dsimp only [List.dropLast, List.cons_append, List.nil_append] at hS32; clear hC32
     clear hS31
     refine wl_not rfl rfl ?_
     refine wl_nil (qs_seq ?_)
     refine wc_condKF rfl rfl ?_
     refine wc_skip (qs_block_normal (qs_seq (wc_region (wl_move rfl rfl ?_))))
     refine wl_add rfl rfl (by omega) (by omega) rfl ?_
     refine wl_assign rfl rfl (wl_nil ?_)
     exact qs_round (L1 := [(3, _), (9, _), (10, _), (11, _), (12, intV ((i + 1 : Nat) : Int))]) (.cons rfl (.cons rfl (.cons rfl (.cons rfl (.cons rfl .nil))))) (k1 := l.length - (i + 1)) (by omega) ⟨i + 1, M2, S2, rfl, rfl, hS32.pick [0, 1, 3] rfl, by omega, by have := hDo.inv; rwa [show 301 * i + 301 = 301 * (i + 1) by omega] at this, hR2, by omega⟩
    refine wl_guard rfl rfl (decide_eq_false h17) ?_
    refine wl_fieldAddr rfl fo_33_0 rfl ?_
    refine wl_guard rfl rfl (decide_eq_false h17) ?_
    refine wl_load rfl ag_3 (by first | assumption | exact hS15.cell 1 rfl rfl) rfl ?_
    refine wl_guard rfl rfl (decide_eq_false h17) ?_
    refine wl_eql rfl rfl rfl ?_
    refine wl_guard rfl rfl h16 ?_
    refine wl_pickF rfl (decide_eq_false h17) rfl rfl ?_
    refine wl_guard rfl rfl h16 ?_
    refine wl_move rfl rfl ?_
    refine wl_splitD 77 rfl (fun h33 => ?_) (fun h33 => ?_)
    ·refine wl_guard rfl rfl (decide_eq_true h33) ?_
     refine wl_move rfl rfl ?_
     refine wl_guard rfl rfl (decide_eq_true h33) ?_
     refine wl_neq rfl rfl rfl ?_
     refine wl_guard rfl rfl h16 ?_
     refine wl_pickT rfl (decide_eq_true h33) rfl rfl ?_
     refine wl_guard rfl rfl h16 ?_
     refine wl_move rfl rfl ?_
     refine wl_splitD 81 rfl (fun h34 => ?_) (fun h34 => ?_)
     ·refine wl_guard rfl rfl (decide_eq_true h34) ?_
      refine wl_move rfl rfl ?_
      refine wl_guard rfl rfl (decide_eq_true h34) ?_
      refine wl_move rfl rfl ?_
      refine wl_guard rfl rfl (decide_eq_true h34) ?_
      have hC35 := hS15.split [2] [false, false, true, false] rfl; dsimp only [selF, pickA, nthA, List.cons_append, List.nil_append] at hC35
      refine wl_call cal_13 rfl (moidx_sp hC35 a (by omega)) rfl ?_
      rintro e w35 ⟨_, rfl, (⟨rfl, hno, hS35⟩ | ⟨k, rfl, hk, hS35⟩)⟩
      ·refine ⟨_, rfl, ?_⟩
       replace hS35 := hS35.join rfl; dsimp only [List.dropLast, List.cons_append, List.nil_append] at hS35; clear hC35
       clear hS15
       refine wl_guard rfl rfl (decide_eq_true h34) ?_
       refine wl_geq rfl rfl rfl ?_
       refine wl_guard rfl rfl h16 ?_
       refine wl_pickT rfl (decide_eq_true h34) rfl rfl ?_
       refine wl_pickF rfl h16 rfl rfl ?_
       refine wl_move rfl rfl ?_
       refine wl_splitD 88 rfl (fun h36 => ?_) (fun h36 => ?_)
       ·exact absurd h36 (by decide)
       refine wl_guard rfl rfl (decide_eq_false h36) ?_
       refine wl_fieldAddr rfl fo_33_0 rfl ?_
       refine wl_guard rfl rfl (decide_eq_false h36) ?_
       refine wl_load rfl ag_3 (by first | assumption | exact hS35.cell 2 rfl rfl) rfl ?_
       refine wl_guard rfl rfl (decide_eq_false h36) ?_
       refine wl_eql rfl rfl rfl ?_
       refine wl_guard rfl rfl (decide_eq_false h36) ?_
       refine wl_move rfl rfl ?_
       refine wl_splitD 92 rfl (fun h37 => ?_) (fun h37 => ?_)
       ·have hd10 : o.d = 10 := h37
        refine wl_guard rfl rfl (decide_eq_true h37) ?_
        refine wl_move rfl rfl ?_
        refine wl_guard rfl rfl (decide_eq_true h37) ?_
        refine wl_eql rfl rfl rfl ?_
        refine wl_guard rfl rfl (decide_eq_true h37) ?_
        refine wl_move rfl rfl ?_
        refine wl_guard rfl rfl (decide_eq_true h37) ?_
        refine wl_neq rfl rfl rfl ?_
        refine wl_guard rfl rfl (decide_eq_true h37) ?_
        refine wl_neqB Tryz.underlying4 rfl rfl rfl ?_
        refine wl_guard rfl rfl (decide_eq_false h36) ?_
        refine wl_pickT rfl (decide_eq_true h37) rfl rfl ?_
        refine wl_pickF rfl (decide_eq_false h36) rfl rfl ?_
        refine wl_nil (qs_seq ?_)
        refine wc_sub (L' := [(99, _), (15, _), (14, _), (13, _), (3, _), (9, _), (10, _), (11, _), (12, _)]) (.cons rfl (.cons rfl (.cons rfl (.cons rfl (.cons rfl (.cons rfl (.cons rfl (.cons rfl (.cons rfl .nil))))))))) ?_
        refine wc_cond rfl (fun h38 => ?_) (fun h38 => ?_)
        ·exact (keep3 hDo.v hd10 h38).elim
        refine wc_skip (qs_seq (wc_seq (wc_region (wl_move rfl rfl ?_))))
        refine wl_loadA rfl ag_33 sz_33 (by first | exact hS35.blk 2 rfl) (by first | decide | exact Nat.le_of_ble_eq_true rfl | (simp; done) | omega) rfl rfl ?_
        refine wl_move rfl rfl (wl_move rfl rfl ?_)
        have hC39 := hS35.split [0] [true, false, false, false] rfl; dsimp only [selF, pickA, nthA, List.cons_append, List.nil_append] at hC39
        refine wl_call cal_14 rfl (moapply_sp hC39 o a e hR hDo.v (vw_bound hI (by omega)) (by omega)) rfl ?_
        rintro e w39 ⟨_, rfl, rfl, M2, hR2, hml2, hS39⟩; refine ⟨_, rfl, ?_⟩
        replace hS39 := hS39.join rfl; dsimp only [List.dropLast, List.cons_append, List.nil_append] at hS39; clear hC39
        clear hS35
        refine wl_nil (qs_seq ?_)
        refine wc_sub (L' := [(3, _), (9, _), (10, _), (11, _), (12, _)]) (.cons rfl (.cons rfl (.cons rfl (.cons rfl (.cons rfl .nil))))) ?_
        refine wc_seq (wc_region (wl_move rfl rfl (wl_move rfl rfl ?_)))
        have hC40 := hS39.split [0, 1] [true, true, false, false] rfl; dsimp only [selF, pickA, nthA, List.cons_append, List.nil_append] at hC40
        refine wl_call cal_15 rfl (moholds_sp hC40 hDo.inv hR2 (by omega)) rfl ?_
        rintro e w40 ⟨_, rfl, rfl, hS40⟩; refine ⟨_, rfl, ?_⟩
        replace hS40 := hS40.join rfl; dsimp only [List.dropLast, List.cons_append, List.nil_append] at hS40; clear hC40
        clear hS39
        refine wl_not rfl rfl ?_
        refine wl_nil (qs_seq ?_)
        refine wc_condKF rfl rfl ?_
        refine wc_skip (qs_block_normal (qs_seq (wc_region (wl_move rfl rfl ?_))))
        refine wl_add rfl rfl (by omega) (by omega) rfl ?_
        refine wl_assign rfl rfl (wl_nil ?_)
        exact qs_round (L1 := [(3, _), (9, _), (10, _), (11, _), (12, intV ((i + 1 : Nat) : Int))]) (.cons rfl (.cons rfl (.cons rfl (.cons rfl (.cons rfl .nil))))) (k1 := l.length - (i + 1)) (by omega) ⟨i + 1, M2, S2, rfl, rfl, hS40.pick [0, 1, 3] rfl, by omega, by have := hDo.inv; rwa [show 301 * i + 301 = 301 * (i + 1) by omega] at this, hR2, by omega⟩
       refine wl_unwanted rfl rfl (decide_eq_false h37) rfl ?_
       refine wl_unwanted rfl rfl (decide_eq_false h37) rfl ?_
       refine wl_unwanted rfl rfl (decide_eq_false h37) rfl ?_
       refine wl_unwanted rfl rfl (decide_eq_false h37) rfl ?_
       refine wl_unwanted rfl rfl (decide_eq_false h37) rfl ?_
       refine wl_guard rfl rfl (decide_eq_false h36) ?_
       refine wl_pickF rfl (decide_eq_false h37) rfl rfl ?_
       refine wl_pickF rfl (decide_eq_false h36) rfl rfl ?_
       refine wl_nil (qs_seq ?_)
       refine wc_sub (L' := [(99, _), (15, _), (14, _), (13, _), (3, _), (9, _), (10, _), (11, _), (12, _)]) (.cons rfl (.cons rfl (.cons rfl (.cons rfl (.cons rfl (.cons rfl (.cons rfl (.cons rfl (.cons rfl .nil))))))))) ?_
       refine wc_condF rfl ?_
       refine wc_skip (qs_seq (wc_seq (wc_region (wl_move rfl rfl ?_))))
       refine wl_loadA rfl ag_33 sz_33 (by first | exact hS35.blk 2 rfl) (by first | decide | exact Nat.le_of_ble_eq_true rfl | (simp; done) | omega) rfl rfl ?_
       refine wl_move rfl rfl (wl_move rfl rfl ?_)
       have hC41 := hS35.split [0] [true, false, false, false] rfl; dsimp only [selF, pickA, nthA, List.cons_append, List.nil_append] at hC41
       refine wl_call cal_14 rfl (moapply_sp hC41 o a e hR hDo.v (vw_bound hI (by omega)) (by omega)) rfl ?_
       rintro e w41 ⟨_, rfl, rfl, M2, hR2, hml2, hS41⟩; refine ⟨_, rfl, ?_⟩
       replace hS41 := hS41.join rfl; dsimp only [List.dropLast, List.cons_append, List.nil_append] at hS41; clear hC41
       clear hS35
       refine wl_nil (qs_seq ?_)
       refine wc_sub (L' := [(3, _), (9, _), (10, _), (11, _), (12, _)]) (.cons rfl (.cons rfl (.cons rfl (.cons rfl (.cons rfl .nil))))) ?_
       refine wc_seq (wc_region (wl_move rfl rfl (wl_move rfl rfl ?_)))
       have hC42 := hS41.split [0, 1] [true, true, false, false] rfl; dsimp only [selF, pickA, nthA, List.cons_append, List.nil_append] at hC42
       refine wl_call cal_15 rfl (moholds_sp hC42 hDo.inv hR2 (by omega)) rfl ?_
       rintro e w42 ⟨_, rfl, rfl, hS42⟩; refine ⟨_, rfl, ?_⟩
       replace hS42 := hS42.join rfl; dsimp only [List.dropLast, List.cons_append, List.nil_append] at hS42; clear hC42
       clear hS41
       refine wl_not rfl rfl ?_
       refine wl_nil (qs_seq ?_)
       refine wc_condKF rfl rfl ?_
       refine wc_skip (qs_block_normal (qs_seq (wc_region (wl_move rfl rfl ?_))))
       refine wl_add rfl rfl (by omega) (by omega) rfl ?_
       refine wl_assign rfl rfl (wl_nil ?_)
       exact qs_round (L1 := [(3, _), (9, _), (10, _), (11, _), (12, intV ((i + 1 : Nat) : Int))]) (.cons rfl (.cons rfl (.cons rfl (.cons rfl (.cons rfl .nil))))) (k1 := l.length - (i + 1)) (by omega) ⟨i + 1, M2, S2, rfl, rfl, hS42.pick [0, 1, 3] rfl, by omega, by have := hDo.inv; rwa [show 301 * i + 301 = 301 * (i + 1) by omega] at this, hR2, by omega⟩
      exact (hR.no (keep2 hDo.v (by omega) (by omega)) hk).elim
     refine wl_unwanted rfl rfl (decide_eq_false h34) rfl ?_
     refine wl_unwanted rfl rfl (decide_eq_false h34) rfl ?_
     refine wl_unwanted rfl rfl (decide_eq_false h34) rfl ?_
     refine wl_unwanted rfl rfl (decide_eq_false h34) rfl ?_
     refine wl_guard rfl rfl h16 ?_
     refine wl_pickF rfl (decide_eq_false h34) rfl rfl ?_
     refine wl_pickF rfl h16 rfl rfl ?_
     refine wl_move rfl rfl ?_
     refine wl_guard rfl rfl rfl ?_
     refine wl_fieldAddr rfl fo_33_0 rfl ?_
     refine wl_guard rfl rfl rfl ?_
     refine wl_load rfl ag_3 (by first | assumption | exact hS15.cell 1 rfl rfl) rfl ?_
     refine wl_guard rfl rfl rfl ?_
     refine wl_eql rfl rfl rfl ?_
     refine wl_guard rfl rfl rfl ?_
     refine wl_move rfl rfl ?_
     refine wl_splitD 92 rfl (fun h43 => ?_) (fun h43 => ?_)
     ·have hd10 : o.d = 10 := h43
      refine wl_guard rfl rfl (decide_eq_true h43) ?_
      refine wl_move rfl rfl ?_
      refine wl_guard rfl rfl (decide_eq_true h43) ?_
      refine wl_eql rfl rfl rfl ?_
      refine wl_guard rfl rfl (decide_eq_true h43) ?_
      refine wl_move rfl rfl ?_
      refine wl_guard rfl rfl (decide_eq_true h43) ?_
      refine wl_neq rfl rfl rfl ?_
      refine wl_guard rfl rfl (decide_eq_true h43) ?_
      refine wl_neqB Tryz.underlying4 rfl rfl rfl ?_
      refine wl_guard rfl rfl rfl ?_
      refine wl_pickT rfl (decide_eq_true h43) rfl rfl ?_
      refine wl_pickF rfl rfl rfl rfl ?_
      refine wl_nil (qs_seq ?_)
      refine wc_sub (L' := [(99, _), (15, _), (14, _), (13, _), (3, _), (9, _), (10, _), (11, _), (12, _)]) (.cons rfl (.cons rfl (.cons rfl (.cons rfl (.cons rfl (.cons rfl (.cons rfl (.cons rfl (.cons rfl .nil))))))))) ?_
      refine wc_cond rfl (fun h44 => ?_) (fun h44 => ?_)
      ·exact (keep3 hDo.v hd10 h44).elim
      refine wc_skip (qs_seq (wc_seq (wc_region (wl_move rfl rfl ?_))))
      refine wl_loadA rfl ag_33 sz_33 (by first | exact hS15.blk 1 rfl) (by first | decide | exact Nat.le_of_ble_eq_true rfl | (simp; done) | omega) rfl rfl ?_
      refine wl_move rfl rfl (wl_move rfl rfl ?_)
      have hC45 := hS15.split [2] [false, false, true, false] rfl; dsimp only [selF, pickA, nthA, List.cons_append, List.nil_append] at hC45
      refine wl_call cal_14 rfl (moapply_sp hC45 o a e hR hDo.v (vw_bound hI (by omega)) (by omega)) rfl ?_
      rintro e w45 ⟨_, rfl, rfl, M2, hR2, hml2, hS45⟩; refine ⟨_, rfl, ?_⟩
      replace hS45 := hS45.join rfl; dsimp only [List.dropLast, List.cons_append, List.nil_append] at hS45; clear hC45
      clear hS15
      refine wl_nil (qs_seq ?_)
      refine wc_sub (L' := [(3, _), (9, _), (10, _), (11, _), (12, _)]) (.cons rfl (.cons rfl (.cons rfl (.cons rfl (.cons rfl .nil))))) ?_
      refine wc_seq (wc_region (wl_move rfl rfl (wl_move rfl rfl ?_)))
      have hC46 := hS45.split [0, 1] [true, true, false, false] rfl; dsimp only [selF, pickA, nthA, List.cons_append, List.nil_append] at hC46
      refine wl_call cal_15 rfl (moholds_sp hC46 hDo.inv hR2 (by omega)) rfl ?_
      rintro e w46 ⟨_, rfl, rfl, hS46⟩; refine ⟨_, rfl, ?_⟩
      replace hS46 := hS46.join rfl; dsimp only [List.dropLast, List.cons_append, List.nil_append] at hS46; clear hC46
      clear hS45
      refine wl_not rfl rfl ?_
      refine wl_nil (qs_seq ?_)
      refine wc_condKF rfl rfl ?_
      refine wc_skip (qs_block_normal (qs_seq (wc_region (wl_move rfl rfl ?_))))
      refine wl_add rfl rfl (by omega) (by omega) rfl ?_
      refine wl_assign rfl rfl (wl_nil ?_)
      exact qs_round (L1 := [(3, _), (9, _), (10, _), (11, _), (12, intV ((i + 1 : Nat) : Int))]) (.cons rfl (.cons rfl (.cons rfl (.cons rfl (.cons rfl .nil))))) (k1 := l.length - (i + 1)) (by omega) ⟨i + 1, M2, S2, rfl, rfl, hS46.pick [0, 1, 3] rfl, by omega, by have := hDo.inv; rwa [show 301 * i + 301 = 301 * (i + 1) by omega] at this, hR2, by omega⟩
     refine wl_unwanted rfl rfl (decide_eq_false h43) rfl ?_
     refine wl_unwanted rfl rfl (decide_eq_false h43) rfl ?_
     refine wl_unwanted rfl rfl (decide_eq_false h43) rfl ?_
     refine wl_unwanted rfl rfl (decide_eq_false h43) rfl ?_
     refine wl_unwanted rfl rfl (decide_eq_false h43) rfl ?_
     refine wl_guard rfl rfl rfl ?_
     refine wl_pickF rfl (decide_eq_false h43) rfl rfl ?_
     refine wl_pickF rfl rfl rfl rfl ?_
     refine wl_nil (qs_seq ?_)
     refine wc_sub (L' := [(99, _), (15, _), (14, _), (13, _), (3, _), (9, _), (10, _), (11, _), (12, _)]) (.cons rfl (.cons rfl (.cons rfl (.cons rfl (.cons rfl (.cons rfl (.cons rfl (.cons rfl (.cons rfl .nil))))))))) ?_
     refine wc_condF rfl ?_
     refine wc_skip (qs_seq (wc_seq (wc_region (wl_move rfl rfl ?_))))
     refine wl_loadA rfl ag_33 sz_33 (by first | exact hS15.blk 1 rfl) (by first | decide | exact Nat.le_of_ble_eq_true rfl | (simp; done) | omega) rfl rfl ?_
     refine wl_move rfl rfl (wl_move rfl rfl ?_)
     have hC47 := hS15.split [2] [false, false, true, false] rfl; dsimp only [selF, pickA, nthA, List.cons_append, List.nil_append] at hC47
     refine wl_call cal_14 rfl (moapply_sp hC47 o a e hR hDo.v (vw_bound hI (by omega)) (by omega)) rfl ?_
     rintro e w47 ⟨_, rfl, rfl, M2, hR2, hml2, hS47⟩; refine ⟨_, rfl, ?_⟩
     replace hS47 := hS47.join rfl; dsimp only [List.dropLast, List.cons_append, List.nil_append] at hS47; clear hC47
     clear hS15
     refine wl_nil (qs_seq ?_)
     refine wc_sub (L' := [(3, _), (9, _), (10, _), (11, _), (12, _)]) (.cons rfl (.cons rfl (.cons rfl (.cons rfl (.cons rfl .nil))))) ?_
     refine wc_seq (wc_region (wl_move rfl rfl (wl_move rfl rfl ?_)))
     have hC48 := hS47.split [0, 1] [true, true, false, false] rfl; dsimp only [selF, pickA, nthA, List.cons_append, List.nil_append] at hC48
     refine wl_call cal_15 rfl (moholds_sp hC48 hDo.inv hR2 (by omega)) rfl ?_
     rintro e w48 ⟨_, rfl, rfl, hS48⟩; refine ⟨_, rfl, ?_⟩
     replace hS48 := hS48.join rfl; dsimp only [List.dropLast, List.cons_append, List.nil_append] at hS48; clear hC48
     clear hS47
     refine wl_not rfl rfl ?_
     refine wl_nil (qs_seq ?_)
     refine wc_condKF rfl rfl ?_
     refine wc_skip (qs_block_normal (qs_seq (wc_region (wl_move rfl rfl ?_))))
     refine wl_add rfl rfl (by omega) (by omega) rfl ?_
     refine wl_assign rfl rfl (wl_nil ?_)
     exact qs_round (L1 := [(3, _), (9, _), (10, _), (11, _), (12, intV ((i + 1 : Nat) : Int))]) (.cons rfl (.cons rfl (.cons rfl (.cons rfl (.cons rfl .nil))))) (k1 := l.length - (i + 1)) (by omega) ⟨i + 1, M2, S2, rfl, rfl, hS48.pick [0, 1, 3] rfl, by omega, by have := hDo.inv; rwa [show 301 * i + 301 = 301 * (i + 1) by omega] at this, hR2, by omega⟩
    refine wl_unwanted rfl rfl (decide_eq_false h33) rfl ?_
    refine wl_unwanted rfl rfl (decide_eq_false h33) rfl ?_
    refine wl_guard rfl rfl h16 ?_
    refine wl_pickF rfl (decide_eq_false h33) rfl rfl ?_
    refine wl_guard rfl rfl h16 ?_
    refine wl_move rfl rfl ?_
    refine wl_unwanted rfl rfl rfl rfl ?_
    refine wl_unwanted rfl rfl rfl rfl ?_
    refine wl_unwanted rfl rfl rfl rfl ?_
    refine wl_unwanted rfl rfl rfl rfl ?_
    refine wl_guard rfl rfl h16 ?_
    refine wl_pickF rfl rfl rfl rfl ?_
    refine wl_pickF rfl h16 rfl rfl ?_
    refine wl_move rfl rfl ?_
    refine wl_guard rfl rfl rfl ?_
    refine wl_fieldAddr rfl fo_33_0 rfl ?_
    refine wl_guard rfl rfl rfl ?_
    refine wl_load rfl ag_3 (by first | assumption | exact hS15.cell 1 rfl rfl) rfl ?_
    refine wl_guard rfl rfl rfl ?_
    refine wl_eql rfl rfl rfl ?_
    refine wl_guard rfl rfl rfl ?_
    refine wl_move rfl rfl ?_
    refine wl_splitD 92 rfl (fun h49 => ?_) (fun h49 => ?_)
    ·have hd10 : o.d = 10 := h49
     refine wl_guard rfl rfl (decide_eq_true h49) ?_
     refine wl_move rfl rfl ?_
     refine wl_guard rfl rfl (decide_eq_true h49) ?_
     refine wl_eql rfl rfl rfl ?_
     refine wl_guard rfl rfl (decide_eq_true h49) ?_
     refine wl_move rfl rfl ?_
     refine wl_guard rfl rfl (decide_eq_true h49) ?_
     refine wl_neq rfl rfl rfl ?_
     refine wl_guard rfl rfl (decide_eq_true h49) ?_
     refine wl_neqB Tryz.underlying4 rfl rfl rfl ?_
     refine wl_guard rfl rfl rfl ?_
     refine wl_pickT rfl (decide_eq_true h49) rfl rfl ?_
     refine wl_pickF rfl rfl rfl rfl ?_
     refine wl_nil (qs_seq ?_)
     refine wc_sub (L' := [(99, _), (15, _), (14, _), (13, _), (3, _), (9, _), (10, _), (11, _), (12, _)]) (.cons rfl (.cons rfl (.cons rfl (.cons rfl (.cons rfl (.cons rfl (.cons rfl (.cons rfl (.cons rfl .nil))))))))) ?_
     refine wc_cond rfl (fun h50 => ?_) (fun h50 => ?_)
     ·exact (keep3 hDo.v hd10 h50).elim
     refine wc_skip (qs_seq (wc_seq (wc_region (wl_move rfl rfl ?_))))
     refine wl_loadA rfl ag_33 sz_33 (by first | exact hS15.blk 1 rfl) (by first | decide | exact Nat.le_of_ble_eq_true rfl | (simp; done) | omega) rfl rfl ?_
     refine wl_move rfl rfl (wl_move rfl rfl ?_)
     have hC51 := hS15.split [2] [false, false, true, false] rfl; dsimp only [selF, pickA, nthA, List.cons_append, List.nil_append] at hC51
     refine wl_call cal_14 rfl (moapply_sp hC51 o a e hR hDo.v (vw_bound hI (by omega)) (by omega)) rfl ?_
     rintro e w51 ⟨_, rfl, rfl, M2, hR2, hml2, hS51⟩; refine ⟨_, rfl, ?_⟩
     replace hS51 := hS51.join rfl; dsimp only [List.dropLast, List.cons_append, List.nil_append] at hS51; clear hC51
     clear hS15
     refine wl_nil (qs_seq ?_)
     refine wc_sub (L' := [(3, _), (9, _), (10, _), (11, _), (12, _)]) (.cons rfl (.cons rfl (.cons rfl (.cons rfl (.cons rfl .nil))))) ?_
     refine wc_seq (wc_region (wl_move rfl rfl (wl_move rfl rfl ?_)))
     have hC52 := hS51.split [0, 1] [true, true, false, false] rfl; dsimp only [selF, pickA, nthA, List.cons_append, List.nil_append] at hC52
     refine wl_call cal_15 rfl (moholds_sp hC52 hDo.inv hR2 (by omega)) rfl ?_
     rintro e w52 ⟨_, rfl, rfl, hS52⟩; refine ⟨_, rfl, ?_⟩
     replace hS52 := hS52.join rfl; dsimp only [List.dropLast, List.cons_append, List.nil_append] at hS52; clear hC52
     clear hS51
     refine wl_not rfl rfl ?_
     refine wl_nil (qs_seq ?_)
     refine wc_condKF rfl rfl ?_
     refine wc_skip (qs_block_normal (qs_seq (wc_region (wl_move rfl rfl ?_))))
     refine wl_add rfl rfl (by omega) (by omega) rfl ?_
     refine wl_assign rfl rfl (wl_nil ?_)
     exact qs_round (L1 := [(3, _), (9, _), (10, _), (11, _), (12, intV ((i + 1 : Nat) : Int))]) (.cons rfl (.cons rfl (.cons rfl (.cons rfl (.cons rfl .nil))))) (k1 := l.length - (i + 1)) (by omega) ⟨i + 1, M2, S2, rfl, rfl, hS52.pick [0, 1, 3] rfl, by omega, by have := hDo.inv; rwa [show 301 * i + 301 = 301 * (i + 1) by omega] at this, hR2, by omega⟩
    refine wl_unwanted rfl rfl (decide_eq_false h49) rfl ?_
    refine wl_unwanted rfl rfl (decide_eq_false h49) rfl ?_
    refine wl_unwanted rfl rfl (decide_eq_false h49) rfl ?_
    refine wl_unwanted rfl rfl (decide_eq_false h49) rfl ?_
    refine wl_unwanted rfl rfl (decide_eq_false h49) rfl ?_
    refine wl_guard rfl rfl rfl ?_
    refine wl_pickF rfl (decide_eq_false h49) rfl rfl ?_
    refine wl_pickF rfl rfl rfl rfl ?_
    refine wl_nil (qs_seq ?_)
    refine wc_sub (L' := [(99, _), (15, _), (14, _), (13, _), (3, _), (9, _), (10, _), (11, _), (12, _)]) (.cons rfl (.cons rfl (.cons rfl (.cons rfl (.cons rfl (.cons rfl (.cons rfl (.cons rfl (.cons rfl .nil))))))))) ?_
    refine wc_condF rfl ?_
    refine wc_skip (qs_seq (wc_seq (wc_region (wl_move rfl rfl ?_))))
    refine wl_loadA rfl ag_33 sz_33 (by first | exact hS15.blk 1 rfl) (by first | decide | exact Nat.le_of_ble_eq_true rfl | (simp; done) | omega) rfl rfl ?_
    refine wl_move rfl rfl (wl_move rfl rfl ?_)
    have hC53 := hS15.split [2] [false, false, true, false] rfl; dsimp only [selF, pickA, nthA, List.cons_append, List.nil_append] at hC53
    refine wl_call cal_14 rfl (moapply_sp hC53 o a e hR hDo.v (vw_bound hI (by omega)) (by omega)) rfl ?_
    rintro e w53 ⟨_, rfl, rfl, M2, hR2, hml2, hS53⟩; refine ⟨_, rfl, ?_⟩
    replace hS53 := hS53.join rfl; dsimp only [List.dropLast, List.cons_append, List.nil_append] at hS53; clear hC53
    clear hS15
    refine wl_nil (qs_seq ?_)
    refine wc_sub (L' := [(3, _), (9, _), (10, _), (11, _), (12, _)]) (.cons rfl (.cons rfl (.cons rfl (.cons rfl (.cons rfl .nil))))) ?_
    refine wc_seq (wc_region (wl_move rfl rfl (wl_move rfl rfl ?_)))
    have hC54 := hS53.split [0, 1] [true, true, false, false] rfl; dsimp only [selF, pickA, nthA, List.cons_append, List.nil_append] at hC54
    refine wl_call cal_15 rfl (moholds_sp hC54 hDo.inv hR2 (by omega)) rfl ?_
    rintro e w54 ⟨_, rfl, rfl, hS54⟩; refine ⟨_, rfl, ?_⟩
    replace hS54 := hS54.join rfl; dsimp only [List.dropLast, List.cons_append, List.nil_append] at hS54; clear hC54
    clear hS53
    refine wl_not rfl rfl ?_
    refine wl_nil (qs_seq ?_)
    refine wc_condKF rfl rfl ?_
    refine wc_skip (qs_block_normal (qs_seq (wc_region (wl_move rfl rfl ?_))))
    refine wl_add rfl rfl (by omega) (by omega) rfl ?_
    refine wl_assign rfl rfl (wl_nil ?_)
    exact qs_round (L1 := [(3, _), (9, _), (10, _), (11, _), (12, intV ((i + 1 : Nat) : Int))]) (.cons rfl (.cons rfl (.cons rfl (.cons rfl (.cons rfl .nil))))) (k1 := l.length - (i + 1)) (by omega) ⟨i + 1, M2, S2, rfl, rfl, hS54.pick [0, 1, 3] rfl, by omega, by have := hDo.inv; rwa [show 301 * i + 301 = 301 * (i + 1) by omega] at this, hR2, by omega⟩
   refine wl_unwanted rfl rfl (decide_eq_false h13) rfl ?_
   refine wl_unwanted rfl rfl (decide_eq_false h13) rfl ?_
   refine wl_unwanted rfl rfl (decide_eq_false h13) rfl ?_
   refine wl_unwanted rfl rfl (decide_eq_false h13) rfl ?_
   refine wl_unwanted rfl rfl (decide_eq_false h13) rfl ?_
   refine wl_unwanted rfl rfl (decide_eq_false h13) rfl ?_
   refine wl_unwanted rfl rfl (decide_eq_false h13) rfl ?_
   refine wl_unwanted rfl rfl (decide_eq_false h13) rfl ?_
   refine wl_pickF rfl (decide_eq_false h13) rfl rfl ?_
   refine wl_move rfl rfl ?_
   refine wl_guard rfl rfl rfl ?_
   refine wl_fieldAddr rfl fo_33_0 rfl ?_
   refine wl_guard rfl rfl rfl ?_
   refine wl_load rfl ag_3 (by first | assumption | exact hS11.cell 1 rfl rfl) rfl ?_
   refine wl_guard rfl rfl rfl ?_
   refine wl_eql rfl rfl rfl ?_
   refine wl_guard rfl rfl rfl ?_
   refine wl_move rfl rfl ?_
   refine wl_splitD 72 rfl (fun h55 => ?_) (fun h55 => ?_)
   ·refine wl_unwanted rfl rfl (decide_eq_true h55) rfl ?_
    refine wl_unwanted rfl rfl (decide_eq_true h55) rfl ?_
    refine wl_unwanted rfl rfl (decide_eq_true h55) rfl ?_
    refine wl_guard rfl rfl rfl ?_
    refine wl_pickT rfl (decide_eq_true h55) rfl rfl ?_
    refine wl_guard rfl rfl rfl ?_
    refine wl_move rfl rfl ?_
    refine wl_guard rfl rfl rfl ?_
    refine wl_move rfl rfl ?_
    refine wl_guard rfl rfl rfl ?_
    refine wl_neq rfl rfl rfl ?_
    refine wl_guard rfl rfl rfl ?_
    refine wl_pickT rfl rfl rfl rfl ?_
    refine wl_guard rfl rfl rfl ?_
    refine wl_move rfl rfl ?_
    refine wl_splitD 81 rfl (fun h56 => ?_) (fun h56 => ?_)
    ·refine wl_guard rfl rfl (decide_eq_true h56) ?_
     refine wl_move rfl rfl ?_
     refine wl_guard rfl rfl (decide_eq_true h56) ?_
     refine wl_move rfl rfl ?_
     refine wl_guard rfl rfl (decide_eq_true h56) ?_
     have hC57 := hS11.split [2] [false, false, true, false] rfl; dsimp only [selF, pickA, nthA, List.cons_append, List.nil_append] at hC57
     refine wl_call cal_13 rfl (moidx_sp hC57 a (by omega)) rfl ?_
     rintro e w57 ⟨_, rfl, (⟨rfl, hno, hS57⟩ | ⟨k, rfl, hk, hS57⟩)⟩
     ·refine ⟨_, rfl, ?_⟩
      replace hS57 := hS57.join rfl; dsimp only [List.dropLast, List.cons_append, List.nil_append] at hS57; clear hC57
      clear hS11
      refine wl_guard rfl rfl (decide_eq_true h56) ?_
      refine wl_geq rfl rfl rfl ?_
      refine wl_guard rfl rfl rfl ?_
      refine wl_pickT rfl (decide_eq_true h56) rfl rfl ?_
      refine wl_pickF rfl rfl rfl rfl ?_
      refine wl_move rfl rfl ?_
      refine wl_splitD 88 rfl (fun h58 => ?_) (fun h58 => ?_)
      ·exact absurd h58 (by decide)
      refine wl_guard rfl rfl (decide_eq_false h58) ?_
      refine wl_fieldAddr rfl fo_33_0 rfl ?_
      refine wl_guard rfl rfl (decide_eq_false h58) ?_
      refine wl_load rfl ag_3 (by first | assumption | exact hS57.cell 2 rfl rfl) rfl ?_
      refine wl_guard rfl rfl (decide_eq_false h58) ?_
      refine wl_eql rfl rfl rfl ?_
      refine wl_guard rfl rfl (decide_eq_false h58) ?_
      refine wl_move rfl rfl ?_
      refine wl_splitD 92 rfl (fun h59 => ?_) (fun h59 => ?_)
      ·have hd10 : o.d = 10 := h59
       refine wl_guard rfl rfl (decide_eq_true h59) ?_
       refine wl_move rfl rfl ?_
       refine wl_guard rfl rfl (decide_eq_true h59) ?_
       refine wl_eql rfl rfl rfl ?_
       refine wl_guard rfl rfl (decide_eq_true h59) ?_
       refine wl_move rfl rfl ?_
       refine wl_guard rfl rfl (decide_eq_true h59) ?_
       refine wl_neq rfl rfl rfl ?_
       refine wl_guard rfl rfl (decide_eq_true h59) ?_
       refine wl_neqB Tryz.underlying4 rfl rfl rfl ?_
       refine wl_guard rfl rfl (decide_eq_false h58) ?_
       refine wl_pickT rfl (decide_eq_true h59) rfl rfl ?_
       refine wl_pickF rfl (decide_eq_false h58) rfl rfl ?_
       refine wl_nil (qs_seq ?_)
       refine wc_sub (L' := [(99, _), (15, _), (14, _), (13, _), (3, _), (9, _), (10, _), (11, _), (12, _)]) (.cons rfl (.cons rfl (.cons rfl (.cons rfl (.cons rfl (.cons rfl (.cons rfl (.cons rfl (.cons rfl .nil))))))))) ?_
       refine wc_cond rfl (fun h60 => ?_) (fun h60 => ?_)
       ·exact (keep3 hDo.v hd10 h60).elim
       refine wc_skip (qs_seq (wc_seq (wc_region (wl_move rfl rfl ?_))))
       refine wl_loadA rfl ag_33 sz_33 (by first | exact hS57.blk 2 rfl) (by first | decide | exact Nat.le_of_ble_eq_true rfl | (simp; done) | omega) rfl rfl ?_
       refine wl_move rfl rfl (wl_move rfl rfl ?_)
       have hC61 := hS57.split [0] [true, false, false, false] rfl; dsimp only [selF, pickA, nthA, List.cons_append, List.nil_append] at hC61
       refine wl_call cal_14 rfl (moapply_sp hC61 o a e hR hDo.v (vw_bound hI (by omega)) (by omega)) rfl ?_
       rintro e w61 ⟨_, rfl, rfl, M2, hR2, hml2, hS61⟩; refine ⟨_, rfl, ?_⟩
       replace hS61 := hS61.join rfl; dsimp only [List.dropLast, List.cons_append, List.nil_append] at hS61; clear hC61
       clear hS57
       refine wl_nil (qs_seq ?_)
       refine wc_sub (L' := [(3, _), (9, _), (10, _), (11, _), (12, _)]) (.cons rfl (.cons rfl (.cons rfl (.cons rfl (.cons rfl .nil))))) ?_
       refine wc_seq (wc_region (wl_move rfl rfl (wl_move rfl rfl ?_)))
       have hC62 := hS61.split [0, 1] [true, true, false, false] rfl; dsimp only [selF, pickA, nthA, List.cons_append, List.nil_append] at hC62
       refine wl_call cal_15 rfl (moholds_sp hC62 hDo.inv hR2 (by omega)) rfl ?_
       rintro e w62 ⟨_, rfl, rfl, hS62⟩; refine ⟨_, rfl, ?_⟩
       replace hS62 := hS62.join rfl; dsimp only [List.dropLast, List.cons_append, List.nil_append] at hS62; clear hC62
       clear hS61
       refine wl_not rfl rfl ?_
       refine wl_nil (qs_seq ?_)
       refine wc_condKF rfl rfl ?_
       refine wc_skip (qs_block_normal (qs_seq (wc_region (wl_move rfl rfl ?_))))
       refine wl_add rfl rfl (by omega) (by omega) rfl ?_
       refine wl_assign rfl rfl (wl_nil ?_)
       exact qs_round (L1 := [(3, _), (9, _), (10, _), (11, _), (12, intV ((i + 1 : Nat) : Int))]) (.cons rfl (.cons rfl (.cons rfl (.cons rfl (.cons rfl .nil))))) (k1 := l.length - (i + 1)) (by omega) ⟨i + 1, M2, S2, rfl, rfl, hS62.pick [0, 1, 3] rfl, by omega, by have := hDo.inv; rwa [show 301 * i + 301 = 301 * (i + 1) by omega] at this, hR2, by omega⟩
      refine wl_unwanted rfl rfl (decide_eq_false h59) rfl ?_
      refine wl_unwanted rfl rfl (decide_eq_false h59) rfl ?_
      refine wl_unwanted rfl rfl (decide_eq_false h59) rfl ?_
      refine wl_unwanted rfl rfl (decide_eq_false h59) rfl ?_
      refine wl_unwanted rfl rfl (decide_eq_false h59) rfl ?_
      refine wl_guard rfl rfl (decide_eq_false h58) ?_
      refine wl_pickF rfl (decide_eq_false h59) rfl rfl ?_
      refine wl_pickF rfl (decide_eq_false h58) rfl rfl ?_
      refine wl_nil (qs_seq ?_)
      refine wc_sub (L' := [(99, _), (15, _), (14, _), (13, _), (3, _), (9, _), (10, _), (11, _), (12, _)]) (.cons rfl (.cons rfl (.cons rfl (.cons rfl (.cons rfl (.cons rfl (.cons rfl (.cons rfl (.cons rfl .nil))))))))) ?_
      refine wc_condF rfl ?_
      refine wc_skip (qs_seq (wc_seq (wc_region (wl_move rfl rfl ?_))))
      refine wl_loadA rfl ag_33 sz_33 (by first | exact hS57.blk 2 rfl) (by first | decide | exact Nat.le_of_ble_eq_true rfl | (simp; done) | omega) rfl rfl ?_
      refine wl_move rfl rfl (wl_move rfl rfl ?_)
      have hC63 := hS57.split [0] [true, false, false, false] rfl; dsimp only [selF, pickA, nthA, List.cons_append, List.nil_append] at hC63
      refine wl_call cal_14 rfl (moapply_sp hC63 o a e hR hDo.v (vw_bound hI (by omega)) (by omega)) rfl ?_
      rintro e w63 ⟨_, rfl, rfl, M2, hR2, hml2, hS63⟩; refine ⟨_, rfl, ?_⟩
      replace hS63 := hS63.join rfl; dsimp only [List.dropLast, List.cons_append, List.nil_append] at hS63; clear hC63
      clear hS57
      refine wl_nil (qs_seq ?_)
      refine wc_sub (L' := [(3, _), (9, _), (10, _), (11, _), (12, _)]) (.cons rfl (.cons rfl (.cons rfl (.cons rfl (.cons rfl .nil))))) ?_
      refine wc_seq (wc_region (wl_move rfl rfl (wl_move rfl rfl ?_)))
      have hC64 := hS63.split [0, 1] [true, true, false, false] rfl; dsimp only [selF, pickA, nthA, List.cons_append, List.nil_append] at hC64
      refine wl_call cal_15 rfl (moholds_sp hC64 hDo.inv hR2 (by omega)) rfl ?_
      rintro e w64 ⟨_, rfl, rfl, hS64⟩; refine ⟨_, rfl, ?_⟩
      replace hS64 := hS64.join rfl; dsimp only [List.dropLast, List.cons_append, List.nil_append] at hS64; clear hC64
      clear hS63
      refine wl_not rfl rfl ?_
      refine wl_nil (qs_seq ?_)
      refine wc_condKF rfl rfl ?_
      refine wc_skip (qs_block_normal (qs_seq (wc_region (wl_move rfl rfl ?_))))
      refine wl_add rfl rfl (by omega) (by omega) rfl ?_
      refine wl_assign rfl rfl (wl_nil ?_)
      exact qs_round (L1 := [(3, _), (9, _), (10, _), (11, _), (12, intV ((i + 1 : Nat) : Int))]) (.cons rfl (.cons rfl (.cons rfl (.cons rfl (.cons rfl .nil))))) (k1 := l.length - (i + 1)) (by omega) ⟨i + 1, M2, S2, rfl, rfl, hS64.pick [0, 1, 3] rfl, by omega, by have := hDo.inv; rwa [show 301 * i + 301 = 301 * (i + 1) by omega] at this, hR2, by omega⟩
     exact (hR.no (keep2 hDo.v (by omega) (by omega)) hk).elim
    refine wl_unwanted rfl rfl (decide_eq_false h56) rfl ?_
    refine wl_unwanted rfl rfl (decide_eq_false h56) rfl ?_
    refine wl_unwanted rfl rfl (decide_eq_false h56) rfl ?_
    refine wl_unwanted rfl rfl (decide_eq_false h56) rfl ?_
    refine wl_guard rfl rfl rfl ?_
    refine wl_pickF rfl (decide_eq_false h56) rfl rfl ?_
    refine wl_pickF rfl rfl rfl rfl ?_
    refine wl_move rfl rfl ?_
    refine wl_guard rfl rfl rfl ?_
    refine wl_fieldAddr rfl fo_33_0 rfl ?_
    refine wl_guard rfl rfl rfl ?_
    refine wl_load rfl ag_3 (by first | assumption | exact hS11.cell 1 rfl rfl) rfl ?_
    refine wl_guard rfl rfl rfl ?_
    refine wl_eql rfl rfl rfl ?_
    refine wl_guard rfl rfl rfl ?_
    refine wl_move rfl rfl ?_
    refine wl_splitD 92 rfl (fun h65 => ?_) (fun h65 => ?_)
    ·have hd10 : o.d = 10 := h65
     refine wl_guard rfl rfl (decide_eq_true h65) ?_
     refine wl_move rfl rfl ?_
     refine wl_guard rfl rfl (decide_eq_true h65) ?_
     refine wl_eql rfl rfl rfl ?_
     refine wl_guard rfl rfl (decide_eq_true h65) ?_
     refine wl_move rfl rfl ?_
     refine wl_guard rfl rfl (decide_eq_true h65) ?_
     refine wl_neq rfl rfl rfl ?_
     refine wl_guard rfl rfl (decide_eq_true h65) ?_
     refine wl_neqB Tryz.underlying4 rfl rfl rfl ?_
     refine wl_guard rfl rfl rfl ?_
     refine wl_pickT rfl (decide_eq_true h65) rfl rfl ?_
     refine wl_pickF rfl rfl rfl rfl ?_
     refine wl_nil (qs_seq ?_)
     refine wc_sub (L' := [(99, _), (15, _), (14, _), (13, _), (3, _), (9, _), (10, _), (11, _), (12, _)]) (.cons rfl (.cons rfl (.cons rfl (.cons rfl (.cons rfl (.cons rfl (.cons rfl (.cons rfl (.cons rfl .nil))))))))) ?_
     refine wc_cond rfl (fun h66 => ?_) (fun h66 => ?_)
     ·exact (keep3 hDo.v hd10 h66).elim
     refine wc_skip (qs_seq (wc_seq (wc_region (wl_move rfl rfl ?_))))
     refine wl_loadA rfl ag_33 sz_33 (by first | exact hS11.blk 1 rfl) (by first | decide | exact Nat.le_of_ble_eq_true rfl | (simp; done) | omega) rfl rfl ?_
     refine wl_move rfl rfl (wl_move rfl rfl ?_)
     have hC67 := hS11.split [2] [false, false, true, false] rfl; dsimp only [selF, pickA, nthA, List.cons_append, List.nil_append] at hC67
     refine wl_call cal_14 rfl (moapply_sp hC67 o a e hR hDo.v (vw_bound hI (by omega)) (by omega)) rfl ?_
     rintro e w67 ⟨_, rfl, rfl, M2, hR2, hml2, hS67⟩; refine ⟨_, rfl, ?_⟩
     replace hS67 := hS67.join rfl; dsimp only [List.dropLast, List.cons_append, List.nil_append] at hS67; clear hC67
     clear hS11
     refine wl_nil (qs_seq ?_)
     refine wc_sub (L' := [(3, _), (9, _), (10, _), (11, _), (12, _)]) (.cons rfl (.cons rfl (.cons rfl (.cons rfl (.cons rfl .nil))))) ?_
     refine wc_seq (wc_region (wl_move rfl rfl (wl_move rfl rfl ?_)))
     have hC68 := hS67.split [0, 1] [true, true, false, false] rfl; dsimp only [selF, pickA, nthA, List.cons_append, List.nil_append] at hC68
     refine wl_call cal_15 rfl (moholds_sp hC68 hDo.inv hR2 (by omega)) rfl ?_
     rintro e w68 ⟨_, rfl, rfl, hS68⟩; refine ⟨_, rfl, ?_⟩
     replace hS68 := hS68.join rfl; dsimp only [List.dropLast, List.cons_append, List.nil_append] at hS68; clear hC68
     clear hS67
     refine wl_not rfl rfl ?_
     refine wl_nil (qs_seq ?_)
     refine wc_condKF rfl rfl ?_
     refine wc_skip (qs_block_normal (qs_seq (wc_region (wl_move rfl rfl ?_))))
     refine wl_add rfl rfl (by omega) (by omega) rfl ?_
     refine wl_assign rfl rfl (wl_nil ?_)
     exact qs_round (L1 := [(3, _), (9, _), (10, _), (11, _), (12, intV ((i + 1 : Nat) : Int))]) (.cons rfl (.cons rfl (.cons rfl (.cons rfl (.cons rfl .nil))))) (k1 := l.length - (i + 1)) (by omega) ⟨i + 1, M2, S2, rfl, rfl, hS68.pick [0, 1, 3] rfl, by omega, by have := hDo.inv; rwa [show 301 * i + 301 = 301 * (i + 1) by omega] at this, hR2, by omega⟩
    refine wl_unwanted rfl rfl (decide_eq_false h65) rfl ?_
    refine wl_unwanted rfl rfl (decide_eq_false h65) rfl ?_
    refine wl_unwanted rfl rfl (decide_eq_false h65) rfl ?_
    refine wl_unwanted rfl rfl (decide_eq_false h65) rfl ?_
    refine wl_unwanted rfl rfl (decide_eq_false h65) rfl ?_
    refine wl_guard rfl rfl rfl ?_
    refine wl_pickF rfl (decide_eq_false h65) rfl rfl ?_
    refine wl_pickF rfl rfl rfl rfl ?_
    refine wl_nil (qs_seq ?_)
    refine wc_sub (L' := [(99, _), (15, _), (14, _), (13, _), (3, _), (9, _), (10, _), (11, _), (12, _)]) (.cons rfl (.cons rfl (.cons rfl (.cons rfl (.cons rfl (.cons rfl (.cons rfl (.cons rfl (.cons rfl .nil))))))))) ?_
    refine wc_condF rfl ?_
    refine wc_skip (qs_seq (wc_seq (wc_region (wl_move rfl rfl ?_))))
    refine wl_loadA rfl ag_33 sz_33 (by first | exact hS11.blk 1 rfl) (by first | decide | exact Nat.le_of_ble_eq_true rfl | (simp; done) | omega) rfl rfl ?_
    refine wl_move rfl rfl (wl_move rfl rfl ?_)
    have hC69 := hS11.split [2] [false, false, true, false] rfl; dsimp only [selF, pickA, nthA, List.cons_append, List.nil_append] at hC69
    refine wl_call cal_14 rfl (moapply_sp hC69 o a e hR hDo.v (vw_bound hI (by omega)) (by omega)) rfl ?_
    rintro e w69 ⟨_, rfl, rfl, M2, hR2, hml2, hS69⟩; refine ⟨_, rfl, ?_⟩
    replace hS69 := hS69.join rfl; dsimp only [List.dropLast, List.cons_append, List.nil_append] at hS69; clear hC69
    clear hS11
    refine wl_nil (qs_seq ?_)
    refine wc_sub (L' := [(3, _), (9, _), (10, _), (11, _), (12, _)]) (.cons rfl (.cons rfl (.cons rfl (.cons rfl (.cons rfl .nil))))) ?_
    refine wc_seq (wc_region (wl_move rfl rfl (wl_move rfl rfl ?_)))
    have hC70 := hS69.split [0, 1] [true, true, false, false] rfl; dsimp only [selF, pickA, nthA, List.cons_append, List.nil_append] at hC70
    refine wl_call cal_15 rfl (moholds_sp hC70 hDo.inv hR2 (by omega)) rfl ?_
    rintro e w70 ⟨_, rfl, rfl, hS70⟩; refine ⟨_, rfl, ?_⟩
    replace hS70 := hS70.join rfl; dsimp only [List.dropLast, List.cons_append, List.nil_append] at hS70; clear hC70
    clear hS69
    refine wl_not rfl rfl ?_
    refine wl_nil (qs_seq ?_)
    refine wc_condKF rfl rfl ?_
    refine wc_skip (qs_block_normal (qs_seq (wc_region (wl_move rfl rfl ?_))))
    refine wl_add rfl rfl (by omega) (by omega) rfl ?_
    refine wl_assign rfl rfl (wl_nil ?_)
    exact qs_round (L1 := [(3, _), (9, _), (10, _), (11, _), (12, intV ((i + 1 : Nat) : Int))]) (.cons rfl (.cons rfl (.cons rfl (.cons rfl (.cons rfl .nil))))) (k1 := l.length - (i + 1)) (by omega) ⟨i + 1, M2, S2, rfl, rfl, hS70.pick [0, 1, 3] rfl, by omega, by have := hDo.inv; rwa [show 301 * i + 301 = 301 * (i + 1) by omega] at this, hR2, by omega⟩
   refine wl_guard rfl rfl (decide_eq_false h55) ?_
   refine wl_fieldAddr rfl fo_33_0 rfl ?_
   refine wl_guard rfl rfl (decide_eq_false h55) ?_
   refine wl_load rfl ag_3 (by first | assumption | exact hS11.cell 1 rfl rfl) rfl ?_
   refine wl_guard rfl rfl (decide_eq_false h55) ?_
   refine wl_eql rfl rfl rfl ?_
   refine wl_guard rfl rfl rfl ?_
   refine wl_pickF rfl (decide_eq_false h55) rfl rfl ?_
   refine wl_guard rfl rfl rfl ?_
   refine wl_move rfl rfl ?_
   refine wl_splitD 77 rfl (fun h71 => ?_) (fun h71 => ?_)
   ·refine wl_guard rfl rfl (decide_eq_true h71) ?_
    refine wl_move rfl rfl ?_
    refine wl_guard rfl rfl (decide_eq_true h71) ?_
    refine wl_neq rfl rfl rfl ?_
    refine wl_guard rfl rfl rfl ?_
    refine wl_pickT rfl (decide_eq_true h71) rfl rfl ?_
    refine wl_guard rfl rfl rfl ?_
    refine wl_move rfl rfl ?_
    refine wl_splitD 81 rfl (fun h72 => ?_) (fun h72 => ?_)
    ·refine wl_guard rfl rfl (decide_eq_true h72) ?_
     refine wl_move rfl rfl ?_
     refine wl_guard rfl rfl (decide_eq_true h72) ?_
     refine wl_move rfl rfl ?_
     refine wl_guard rfl rfl (decide_eq_true h72) ?_
     have hC73 := hS11.split [2] [false, false, true, false] rfl; dsimp only [selF, pickA, nthA, List.cons_append, List.nil_append] at hC73
     refine wl_call cal_13 rfl (moidx_sp hC73 a (by omega)) rfl ?_
     rintro e w73 ⟨_, rfl, (⟨rfl, hno, hS73⟩ | ⟨k, rfl, hk, hS73⟩)⟩
     ·refine ⟨_, rfl, ?_⟩
      replace hS73 := hS73.join rfl; dsimp only [List.dropLast, List.cons_append, List.nil_append] at hS73; clear hC73
      clear hS11
      refine wl_guard rfl rfl (decide_eq_true h72) ?_
      refine wl_geq rfl rfl rfl ?_
      refine wl_guard rfl rfl rfl ?_
      refine wl_pickT rfl (decide_eq_true h72) rfl rfl ?_
      refine wl_pickF rfl rfl rfl rfl ?_
      refine wl_move rfl rfl ?_
      refine wl_splitD 88 rfl (fun h74 => ?_) (fun h74 => ?_)
      ·exact absurd h74 (by decide)
      refine wl_guard rfl rfl (decide_eq_false h74) ?_
      refine wl_fieldAddr rfl fo_33_0 rfl ?_
      refine wl_guard rfl rfl (decide_eq_false h74) ?_
      refine wl_load rfl ag_3 (by first | assumption | exact hS73.cell 2 rfl rfl) rfl ?_
      refine wl_guard rfl rfl (decide_eq_false h74) ?_
      refine wl_eql rfl rfl rfl ?_
      refine wl_guard rfl rfl (decide_eq_false h74) ?_
      refine wl_move rfl rfl ?_
      refine wl_splitD 92 rfl (fun h75 => ?_) (fun h75 => ?_)
      ·have hd10 : o.d = 10 := h75
       refine wl_guard rfl rfl (decide_eq_true h75) ?_
       refine wl_move rfl rfl ?_
       refine wl_guard rfl rfl (decide_eq_true h75) ?_
       refine wl_eql rfl rfl rfl ?_
       refine wl_guard rfl rfl (decide_eq_true h75) ?_
       refine wl_move rfl rfl ?_
       refine wl_guard rfl rfl (decide_eq_true h75) ?_
       refine wl_neq rfl rfl rfl ?_
       refine wl_guard rfl rfl (decide_eq_true h75) ?_
       refine wl_neqB Tryz.underlying4 rfl rfl rfl ?_
       refine wl_guard rfl rfl (decide_eq_false h74) ?_
       refine wl_pickT rfl (decide_eq_true h75) rfl rfl ?_
       refine wl_pickF rfl (decide_eq_false h74) rfl rfl ?_
       refine wl_nil (qs_seq ?_)
       refine wc_sub (L' := [(99, _), (15, _), (14, _), (13, _), (3, _), (9, _), (10, _), (11, _), (12, _)]) (.cons rfl (.cons rfl (.cons rfl (.cons rfl (.cons rfl (.cons rfl (.cons rfl (.cons rfl (.cons rfl .nil))))))))) ?_
       refine wc_cond rfl (fun h76 => ?_) (fun h76 => ?_)
       ·exact (keep3 hDo.v hd10 h76).elim
       refine wc_skip (qs_seq (wc_seq (wc_region (wl_move rfl rfl ?_))))
       refine wl_loadA rfl ag_33 sz_33 (by first | exact hS73.blk 2 rfl) (by first | decide | exact Nat.le_of_ble_eq_true rfl | (simp; done) | omega) rfl rfl ?_
       refine wl_move rfl rfl (wl_move rfl rfl ?_)
       have hC77 := hS73.split [0] [true, false, false, false] rfl; dsimp only [selF, pickA, nthA, List.cons_append, List.nil_append] at hC77
       refine wl_call cal_14 rfl (moapply_sp hC77 o a e hR hDo.v (vw_bound hI (by omega)) (by omega)) rfl ?_
       rintro e w77 ⟨_, rfl, rfl, M2, hR2, hml2, hS77⟩; refine ⟨_, rfl, ?_⟩
       replace hS77 := hS77.join rfl; dsimp only [List.dropLast, List.cons_append, List.nil_append] at hS77; clear hC77
       clear hS73
       refine wl_nil (qs_seq ?_)
       refine wc_sub (L' := [(3, _), (9, _), (10, _), (11, _), (12, _)]) (.cons rfl (.cons rfl (.cons rfl (.cons rfl (.cons rfl .nil))))) ?_
       refine wc_seq (wc_region (wl_move rfl rfl (wl_move rfl rfl ?_)))
       have hC78 := hS77.split [0, 1] [true, true, false, false] rfl; dsimp only [selF, pickA, nthA, List.cons_append, List.nil_append] at hC78
       refine wl_call cal_15 rfl (moholds_sp hC78 hDo.inv hR2 (by omega)) rfl ?_
       rintro e w78 ⟨_, rfl, rfl, hS78⟩; refine ⟨_, rfl, ?_⟩
       replace hS78 := hS78.join rfl; dsimp only [List.dropLast, List.cons_append, List.nil_append] at hS78; clear hC78
       clear hS77
       refine wl_not rfl rfl ?_
       refine wl_nil (qs_seq ?_)
       refine wc_condKF rfl rfl ?_
       refine wc_skip (qs_block_normal (qs_seq (wc_region (wl_move rfl rfl ?_))))
       refine wl_add rfl rfl (by omega) (by omega) rfl ?_
       refine wl_assign rfl rfl (wl_nil ?_)
       exact qs_round (L1 := [(3, _), (9, _), (10, _), (11, _), (12, intV ((i + 1 : Nat) : Int))]) (.cons rfl (.cons rfl (.cons rfl (.cons rfl (.cons rfl .nil))))) (k1 := l.length - (i + 1)) (by omega) ⟨i + 1, M2, S2, rfl, rfl, hS78.pick [0, 1, 3] rfl, by omega, by have := hDo.inv; rwa [show 301 * i + 301 = 301 * (i + 1) by omega] at this, hR2, by omega⟩
      refine wl_unwanted rfl rfl (decide_eq_false h75) rfl ?_
      refine wl_unwanted rfl rfl (decide_eq_false h75) rfl ?_
      refine wl_unwanted rfl rfl (decide_eq_false h75) rfl ?_
      refine wl_unwanted rfl rfl (decide_eq_false h75) rfl ?_
      refine wl_unwanted rfl rfl (decide_eq_false h75) rfl ?_
      refine wl_guard rfl rfl (decide_eq_false h74) ?_
      refine wl_pickF rfl (decide_eq_false h75) rfl rfl ?_
      refine wl_pickF rfl (decide_eq_false h74) rfl rfl ?_
      refine wl_nil (qs_seq ?_)
      refine wc_sub (L' := [(99, _), (15, _), (14, _), (13, _), (3, _), (9, _), (10, _), (11, _), (12, _)]) (.cons rfl (.cons rfl (.cons rfl (.cons rfl (.cons rfl (.cons rfl (.cons rfl (.cons rfl (.cons rfl .nil))))))))) ?_
      refine wc_condF rfl ?_
      refine wc_skip (qs_seq (wc_seq (wc_region (wl_move rfl rfl ?_))))
      refine wl_loadA rfl ag_33 sz_33 (by first | exact hS73.blk 2 rfl) (by first | decide | exact Nat.le_of_ble_eq_true rfl | (simp; done) | omega) rfl rfl ?_
      refine wl_move rfl rfl (wl_move rfl rfl ?_)
      have hC79 := hS73.split [0] [true, false, false, false] rfl; dsimp only [selF, pickA, nthA, List.cons_append, List.nil_append] at hC79
      refine wl_call cal_14 rfl (moapply_sp hC79 o a e hR hDo.v (vw_bound hI (by omega)) (by omega)) rfl ?_
      rintro e w79 ⟨_, rfl, rfl, M2, hR2, hml2, hS79⟩; refine ⟨_, rfl, ?_⟩
      replace hS79 := hS79.join rfl; dsimp only [List.dropLast, List.cons_append, List.nil_append] at hS79; clear hC79
      clear hS73
      refine wl_nil (qs_seq ?_)
      refine wc_sub (L' := [(3, _), (9, _), (10, _), (11, _), (12, _)]) (.cons rfl (.cons rfl (.cons rfl (.cons rfl (.cons rfl .nil))))) ?_
      refine wc_seq (wc_region (wl_move rfl rfl (wl_move rfl rfl ?_)))
      have hC80 := hS79.split [0, 1] [true, true, false, false] rfl; dsimp only [selF, pickA, nthA, List.cons_append, List.nil_append] at hC80
      refine wl_call cal_15 rfl (moholds_sp hC80 hDo.inv hR2 (by omega)) rfl ?_
      rintro e w80 ⟨_, rfl, rfl, hS80⟩; refine ⟨_, rfl, ?_⟩
      replace hS80 := hS80.join rfl; dsimp only [List.dropLast, List.cons_append, List.nil_append] at hS80; clear hC80
      clear hS79
      refine wl_not rfl rfl ?_
      refine wl_nil (qs_seq ?_)
      refine wc_condKF rfl rfl ?_
      refine wc_skip (qs_block_normal (qs_seq (wc_region (wl_move rfl rfl ?_))))
      refine wl_add rfl rfl (by omega) (by omega) rfl ?_
      refine wl_assign rfl rfl (wl_nil ?_)
      exact qs_round (L1 := [(3, _), (9, _), (10, _), (11, _), (12, intV ((i + 1 : Nat) : Int))]) (.cons rfl (.cons rfl (.cons rfl (.cons rfl (.cons rfl .nil))))) (k1 := l.length - (i + 1)) (by omega) ⟨i + 1, M2, S2, rfl, rfl, hS80.pick [0, 1, 3] rfl, by omega, by have := hDo.inv; rwa [show 301 * i + 301 = 301 * (i + 1) by omega] at this, hR2, by omega⟩
     exact (hR.no (keep2 hDo.v (by omega) (by omega)) hk).elim
    refine wl_unwanted rfl rfl (decide_eq_false h72) rfl ?_
    refine wl_unwanted rfl rfl (decide_eq_false h72) rfl ?_
    refine wl_unwanted rfl rfl (decide_eq_false h72) rfl ?_
    refine wl_unwanted rfl rfl (decide_eq_false h72) rfl ?_
    refine wl_guard rfl rfl rfl ?_
    refine wl_pickF rfl (decide_eq_false h72) rfl rfl ?_
    refine wl_pickF rfl rfl rfl rfl ?_
    refine wl_move rfl rfl ?_
    refine wl_guard rfl rfl rfl ?_
    refine wl_fieldAddr rfl fo_33_0 rfl ?_
    refine wl_guard rfl rfl rfl ?_
    refine wl_load rfl ag_3 (by first | assumption | exact hS11.cell 1 rfl rfl) rfl ?_
    refine wl_guard rfl rfl rfl ?_
    refine wl_eql rfl rfl rfl ?_
    refine wl_guard rfl rfl rfl ?_
    refine wl_move rfl rfl ?_
    refine wl_splitD 92 rfl (fun h81 => ?_) (fun h81 => ?_)
    ·have hd10 : o.d = 10 := h81
     refine wl_guard rfl rfl (decide_eq_true h81) ?_
     refine wl_move rfl rfl ?_
     refine wl_guard rfl rfl (decide_eq_true h81) ?_
     refine wl_eql rfl rfl rfl ?_
     refine wl_guard rfl rfl (decide_eq_true h81) ?_
     refine wl_move rfl rfl ?_
     refine wl_guard rfl rfl (decide_eq_true h81) ?_
     refine wl_neq rfl rfl rfl ?_
     refine wl_guard rfl rfl (decide_eq_true h81) ?_
     refine wl_neqB Tryz.underlying4 rfl rfl rfl ?_
     refine wl_guard rfl rfl rfl ?_
     refine wl_pickT rfl (decide_eq_true h81) rfl rfl ?_
     refine wl_pickF rfl rfl rfl rfl ?_
     refine wl_nil (qs_seq ?_)
     refine wc_sub (L' := [(99, _), (15, _), (14, _), (13, _), (3, _), (9, _), (10, _), (11, _), (12, _)]) (.cons rfl (.cons rfl (.cons rfl (.cons rfl (.cons rfl (.cons rfl (.cons rfl (.cons rfl (.cons rfl .nil))))))))) ?_
     refine wc_cond rfl (fun h82 => ?_) (fun h82 => ?_)
     ·exact (keep3 hDo.v hd10 h82).elim
     refine wc_skip (qs_seq (wc_seq (wc_region (wl_move rfl rfl ?_))))
     refine wl_loadA rfl ag_33 sz_33 (by first | exact hS11.blk 1 rfl) (by first | decide | exact Nat.le_of_ble_eq_true rfl | (simp; done) | omega) rfl rfl ?_
     refine wl_move rfl rfl (wl_move rfl rfl ?_)
     have hC83 := hS11.split [2] [false, false, true, false] rfl; dsimp only [selF, pickA, nthA, List.cons_append, List.nil_append] at hC83
     refine wl_call cal_14 rfl (moapply_sp hC83 o a e hR hDo.v (vw_bound hI (by omega)) (by omega)) rfl ?_
     rintro e w83 ⟨_, rfl, rfl, M2, hR2, hml2, hS83⟩; refine ⟨_, rfl, ?_⟩
     replace hS83 := hS83.join rfl; dsimp only [List.dropLast, List.cons_append, List.nil_append] at hS83; clear hC83
     clear hS11
     refine wl_nil (qs_seq ?_)
     refine wc_sub (L' := [(3, _), (9, _), (10, _), (11, _), (12, _)]) (.cons rfl (.cons rfl (.cons rfl (.cons rfl (.cons rfl .nil))))) ?_
     refine wc_seq (wc_region (wl_move rfl rfl (wl_move rfl rfl ?_)))
     have hC84 := hS83.split [0, 1] [true, true, false, false] rfl; dsimp only [selF, pickA, nthA, List.cons_append, List.nil_append] at hC84
     refine wl_call cal_15 rfl (moholds_sp hC84 hDo.inv hR2 (by omega)) rfl ?_
     rintro e w84 ⟨_, rfl, rfl, hS84⟩; refine ⟨_, rfl, ?_⟩
     replace hS84 := hS84.join rfl; dsimp only [List.dropLast, List.cons_append, List.nil_append] at hS84; clear hC84
     clear hS83
     refine wl_not rfl rfl ?_
     refine wl_nil (qs_seq ?_)
     refine wc_condKF rfl rfl ?_
     refine wc_skip (qs_block_normal (qs_seq (wc_region (wl_move rfl rfl ?_))))
     refine wl_add rfl rfl (by omega) (by omega) rfl ?_
     refine wl_assign rfl rfl (wl_nil ?_)
     exact qs_round (L1 := [(3, _), (9, _), (10, _), (11, _), (12, intV ((i + 1 : Nat) : Int))]) (.cons rfl (.cons rfl (.cons rfl (.cons rfl (.cons rfl .nil))))) (k1 := l.length - (i + 1)) (by omega) ⟨i + 1, M2, S2, rfl, rfl, hS84.pick [0, 1, 3] rfl, by omega, by have := hDo.inv; rwa [show 301 * i + 301 = 301 * (i + 1) by omega] at this, hR2, by omega⟩
    refine wl_unwanted rfl rfl (decide_eq_false h81) rfl ?_
    refine wl_unwanted rfl rfl (decide_eq_false h81) rfl ?_
    refine wl_unwanted rfl rfl (decide_eq_false h81) rfl ?_
    refine wl_unwanted rfl rfl (decide_eq_false h81) rfl ?_
    refine wl_unwanted rfl rfl (decide_eq_false h81) rfl ?_
    refine wl_guard rfl rfl rfl ?_
    refine wl_pickF rfl (decide_eq_false h81) rfl rfl ?_
    refine wl_pickF rfl rfl rfl rfl ?_
    refine wl_nil (qs_seq ?_)
    refine wc_sub (L' := [(99, _), (15, _), (14, _), (13, _), (3, _), (9, _), (10, _), (11, _), (12, _)]) (.cons rfl (.cons rfl (.cons rfl (.cons rfl (.cons rfl (.cons rfl (.cons rfl (.cons rfl (.cons rfl .nil))))))))) ?_
    refine wc_condF rfl ?_
    refine wc_skip (qs_seq (wc_seq (wc_region (wl_move rfl rfl ?_))))
    refine wl_loadA rfl ag_33 sz_33 (by first | exact hS11.blk 1 rfl) (by first | decide | exact Nat.le_of_ble_eq_true rfl | (simp; done) | omega) rfl rfl ?_
    refine wl_move rfl rfl (wl_move rfl rfl ?_)
    have hC85 := hS11.split [2] [false, false, true, false] rfl; dsimp only [selF, pickA, nthA, List.cons_append, List.nil_append] at hC85
    refine wl_call cal_14 rfl (moapply_sp hC85 o a e hR hDo.v (vw_bound hI (by omega)) (by omega)) rfl ?_
    rintro e w85 ⟨_, rfl, rfl, M2, hR2, hml2, hS85⟩; refine ⟨_, rfl, ?_⟩
    replace hS85 := hS85.join rfl; dsimp only [List.dropLast, List.cons_append, List.nil_append] at hS85; clear hC85
    clear hS11
    refine wl_nil (qs_seq ?_)
    refine wc_sub (L' := [(3, _), (9, _), (10, _), (11, _), (12, _)]) (.cons rfl (.cons rfl (.cons rfl (.cons rfl (.cons rfl .nil))))) ?_
    refine wc_seq (wc_region (wl_move rfl rfl (wl_move rfl rfl ?_)))
    have hC86 := hS85.split [0, 1] [true, true, false, false] rfl; dsimp only [selF, pickA, nthA, List.cons_append, List.nil_append] at hC86
    refine wl_call cal_15 rfl (moholds_sp hC86 hDo.inv hR2 (by omega)) rfl ?_
    rintro e w86 ⟨_, rfl, rfl, hS86⟩; refine ⟨_, rfl, ?_⟩
    replace hS86 := hS86.join rfl; dsimp only [List.dropLast, List.cons_append, List.nil_append] at hS86; clear hC86
    clear hS85
    refine wl_not rfl rfl ?_
    refine wl_nil (qs_seq ?_)
    refine wc_condKF rfl rfl ?_
    refine wc_skip (qs_block_normal (qs_seq (wc_region (wl_move rfl rfl ?_))))
    refine wl_add rfl rfl (by omega) (by omega) rfl ?_
    refine wl_assign rfl rfl (wl_nil ?_)
    exact qs_round (L1 := [(3, _), (9, _), (10, _), (11, _), (12, intV ((i + 1 : Nat) : Int))]) (.cons rfl (.cons rfl (.cons rfl (.cons rfl (.cons rfl .nil))))) (k1 := l.length - (i + 1)) (by omega) ⟨i + 1, M2, S2, rfl, rfl, hS86.pick [0, 1, 3] rfl, by omega, by have := hDo.inv; rwa [show 301 * i + 301 = 301 * (i + 1) by omega] at this, hR2, by omega⟩
   refine wl_unwanted rfl rfl (decide_eq_false h71) rfl ?_
   refine wl_unwanted rfl rfl (decide_eq_false h71) rfl ?_
   refine wl_guard rfl rfl rfl ?_
   refine wl_pickF rfl (decide_eq_false h71) rfl rfl ?_
   refine wl_guard rfl rfl rfl ?_
   refine wl_move rfl rfl ?_
   refine wl_unwanted rfl rfl rfl rfl ?_
   refine wl_unwanted rfl rfl rfl rfl ?_
   refine wl_unwanted rfl rfl rfl rfl ?_
   refine wl_unwanted rfl rfl rfl rfl ?_
   refine wl_guard rfl rfl rfl ?_
   refine wl_pickF rfl rfl rfl rfl ?_
   refine wl_pickF rfl rfl rfl rfl ?_
   refine wl_move rfl rfl ?_
   refine wl_guard rfl rfl rfl ?_
   refine wl_fieldAddr rfl fo_33_0 rfl ?_
   refine wl_guard rfl rfl rfl ?_
   refine wl_load rfl ag_3 (by first | assumption | exact hS11.cell 1 rfl rfl) rfl ?_
   refine wl_guard rfl rfl rfl ?_
   refine wl_eql rfl rfl rfl ?_
   refine wl_guard rfl rfl rfl ?_
   refine wl_move rfl rfl ?_
   refine wl_splitD 92 rfl (fun h87 => ?_) (fun h87 => ?_)
   ·have hd10 : o.d = 10 := h87
    refine wl_guard rfl rfl (decide_eq_true h87) ?_
    refine wl_move rfl rfl ?_
    refine wl_guard rfl rfl (decide_eq_true h87) ?_
    refine wl_eql rfl rfl rfl ?_
    refine wl_guard rfl rfl (decide_eq_true h87) ?_
    refine wl_move rfl rfl ?_
    refine wl_guard rfl rfl (decide_eq_true h87) ?_
    refine wl_neq rfl rfl rfl ?_
    refine wl_guard rfl rfl (decide_eq_true h87) ?_
    refine wl_neqB Tryz.underlying4 rfl rfl rfl ?_
    refine wl_guard rfl rfl rfl ?_
    refine wl_pickT rfl (decide_eq_true h87) rfl rfl ?_
    refine wl_pickF rfl rfl rfl rfl ?_
    refine wl_nil (qs_seq ?_)
    refine wc_sub (L' := [(99, _), (15, _), (14, _), (13, _), (3, _), (9, _), (10, _), (11, _), (12, _)]) (.cons rfl (.cons rfl (.cons rfl (.cons rfl (.cons rfl (.cons rfl (.cons rfl (.cons rfl (.cons rfl .nil))))))))) ?_
    refine wc_cond rfl (fun h88 => ?_) (fun h88 => ?_)
    ·exact (keep3 hDo.v hd10 h88).elim
    refine wc_skip (qs_seq (wc_seq (wc_region (wl_move rfl rfl ?_))))
    refine wl_loadA rfl ag_33 sz_33 (by first | exact hS11.blk 1 rfl) (by first | decide | exact Nat.le_of_ble_eq_true rfl | (simp; done) | omega) rfl rfl ?_
    refine wl_move rfl rfl (wl_move rfl rfl ?_)
    have hC89 := hS11.split [2] [false, false, true, false] rfl; dsimp only [selF, pickA, nthA, List.cons_append, List.nil_append] at hC89
    refine wl_call cal_14 rfl (moapply_sp hC89 o a e hR hDo.v (vw_bound hI (by omega)) (by omega)) rfl ?_
    rintro e w89 ⟨_, rfl, rfl, M2, hR2, hml2, hS89⟩; refine ⟨_, rfl, ?_⟩
    replace hS89 := hS89.join rfl; dsimp only [List.dropLast, List.cons_append, List.nil_append] at hS89; clear hC89
    clear hS11
    refine wl_nil (qs_seq ?_)
    refine wc_sub (L' := [(3, _), (9, _), (10, _), (11, _), (12, _)]) (.cons rfl (.cons rfl (.cons rfl (.cons rfl (.cons rfl .nil))))) ?_
    refine wc_seq (wc_region (wl_move rfl rfl (wl_move rfl rfl ?_)))
    have hC90 := hS89.split [0, 1] [true, true, false, false] rfl; dsimp only [selF, pickA, nthA, List.cons_append, List.nil_append] at hC90
    refine wl_call cal_15 rfl (moholds_sp hC90 hDo.inv hR2 (by omega)) rfl ?_
    rintro e w90 ⟨_, rfl, rfl, hS90⟩; refine ⟨_, rfl, ?_⟩
    replace hS90 := hS90.join rfl; dsimp only [List.dropLast, List.cons_append, List.nil_append] at hS90; clear hC90
    clear hS89
    refine wl_not rfl rfl ?_
    refine wl_nil (qs_seq ?_)
    refine wc_condKF rfl rfl ?_
    refine wc_skip (qs_block_normal (qs_seq (wc_region (wl_move rfl rfl ?_))))
    refine wl_add rfl rfl (by omega) (by omega) rfl ?_
    refine wl_assign rfl rfl (wl_nil ?_)
    exact qs_round (L1 := [(3, _), (9, _), (10, _), (11, _), (12, intV ((i + 1 : Nat) : Int))]) (.cons rfl (.cons rfl (.cons rfl (.cons rfl (.cons rfl .nil))))) (k1 := l.length - (i + 1)) (by omega) ⟨i + 1, M2, S2, rfl, rfl, hS90.pick [0, 1, 3] rfl, by omega, by have := hDo.inv; rwa [show 301 * i + 301 = 301 * (i + 1) by omega] at this, hR2, by omega⟩
   refine wl_unwanted rfl rfl (decide_eq_false h87) rfl ?_
   refine wl_unwanted rfl rfl (decide_eq_false h87) rfl ?_
   refine wl_unwanted rfl rfl (decide_eq_false h87) rfl ?_
   refine wl_unwanted rfl rfl (decide_eq_false h87) rfl ?_
   refine wl_unwanted rfl rfl (decide_eq_false h87) rfl ?_
   refine wl_guard rfl rfl rfl ?_
   refine wl_pickF rfl (decide_eq_false h87) rfl rfl ?_
   refine wl_pickF rfl rfl rfl rfl ?_
   refine wl_nil (qs_seq ?_)
   refine wc_sub (L' := [(99, _), (15, _), (14, _), (13, _), (3, _), (9, _), (10, _), (11, _), (12, _)]) (.cons rfl (.cons rfl (.cons rfl (.cons rfl (.cons rfl (.cons rfl (.cons rfl (.cons rfl (.cons rfl .nil))))))))) ?_
   refine wc_condF rfl ?_
   refine wc_skip (qs_seq (wc_seq (wc_region (wl_move rfl rfl ?_))))
   refine wl_loadA rfl ag_33 sz_33 (by first | exact hS11.blk 1 rfl) (by first | decide | exact Nat.le_of_ble_eq_true rfl | (simp; done) | omega) rfl rfl ?_
   refine wl_move rfl rfl (wl_move rfl rfl ?_)
   have hC91 := hS11.split [2] [false, false, true, false] rfl; dsimp only [selF, pickA, nthA, List.cons_append, List.nil_append] at hC91
   refine wl_call cal_14 rfl (moapply_sp hC91 o a e hR hDo.v (vw_bound hI (by omega)) (by omega)) rfl ?_
   rintro e w91 ⟨_, rfl, rfl, M2, hR2, hml2, hS91⟩; refine ⟨_, rfl, ?_⟩
   replace hS91 := hS91.join rfl; dsimp only [List.dropLast, List.cons_append, List.nil_append] at hS91; clear hC91
   clear hS11
   refine wl_nil (qs_seq ?_)
   refine wc_sub (L' := [(3, _), (9, _), (10, _), (11, _), (12, _)]) (.cons rfl (.cons rfl (.cons rfl (.cons rfl (.cons rfl .nil))))) ?_
   refine wc_seq (wc_region (wl_move rfl rfl (wl_move rfl rfl ?_)))
   have hC92 := hS91.split [0, 1] [true, true, false, false] rfl; dsimp only [selF, pickA, nthA, List.cons_append, List.nil_append] at hC92
   refine wl_call cal_15 rfl (moholds_sp hC92 hDo.inv hR2 (by omega)) rfl ?_
   rintro e w92 ⟨_, rfl, rfl, hS92⟩; refine ⟨_, rfl, ?_⟩
   replace hS92 := hS92.join rfl; dsimp only [List.dropLast, List.cons_append, List.nil_append] at hS92; clear hC92
   clear hS91
   refine wl_not rfl rfl ?_
   refine wl_nil (qs_seq ?_)
   refine wc_condKF rfl rfl ?_
   refine wc_skip (qs_block_normal (qs_seq (wc_region (wl_move rfl rfl ?_))))
   refine wl_add rfl rfl (by omega) (by omega) rfl ?_
   refine wl_assign rfl rfl (wl_nil ?_)
   exact qs_round (L1 := [(3, _), (9, _), (10, _), (11, _), (12, intV ((i + 1 : Nat) : Int))]) (.cons rfl (.cons rfl (.cons rfl (.cons rfl (.cons rfl .nil))))) (k1 := l.length - (i + 1)) (by omega) ⟨i + 1, M2, S2, rfl, rfl, hS92.pick [0, 1, 3] rfl, by omega, by have := hDo.inv; rwa [show 301 * i + 301 = 301 * (i + 1) by omega] at this, hR2, by omega⟩
  refine wl_unwanted rfl rfl (decide_eq_false h12) rfl ?_
  refine wl_unwanted rfl rfl (decide_eq_false h12) rfl ?_
  refine wl_pickF rfl (decide_eq_false h12) rfl rfl ?_
  refine wl_move rfl rfl ?_
  refine wl_unwanted rfl rfl rfl rfl ?_
  refine wl_unwanted rfl rfl rfl rfl ?_
  refine wl_unwanted rfl rfl rfl rfl ?_
  refine wl_unwanted rfl rfl rfl rfl ?_
  refine wl_unwanted rfl rfl rfl rfl ?_
  refine wl_unwanted rfl rfl rfl rfl ?_
  refine wl_unwanted rfl rfl rfl rfl ?_
  refine wl_unwanted rfl rfl rfl rfl ?_
  refine wl_pickF rfl rfl rfl rfl ?_
  refine wl_move rfl rfl ?_
  refine wl_guard rfl rfl rfl ?_
  refine wl_fieldAddr rfl fo_33_0 rfl ?_
  refine wl_guard rfl rfl rfl ?_
  refine wl_load rfl ag_3 (by first | assumption | exact hS11.cell 1 rfl rfl) rfl ?_
  refine wl_guard rfl rfl rfl ?_
  refine wl_eql rfl rfl rfl ?_
  refine wl_guard rfl rfl rfl ?_
  refine wl_move rfl rfl ?_
  refine wl_splitD 72 rfl (fun h93 => ?_) (fun h93 => ?_)
  ·refine wl_unwanted rfl rfl (decide_eq_true h93) rfl ?_
   refine wl_unwanted rfl rfl (decide_eq_true h93) rfl ?_
   refine wl_unwanted rfl rfl (decide_eq_true h93) rfl ?_
   refine wl_guard rfl rfl rfl ?_
   refine wl_pickT rfl (decide_eq_true h93) rfl rfl ?_
   refine wl_guard rfl rfl rfl ?_
   refine wl_move rfl rfl ?_
   refine wl_guard rfl rfl rfl ?_
   refine wl_move rfl rfl ?_
   refine wl_guard rfl rfl rfl ?_
   refine wl_neq rfl rfl rfl ?_
   refine wl_guard rfl rfl rfl ?_
   refine wl_pickT rfl rfl rfl rfl ?_
   refine wl_guard rfl rfl rfl ?_
   refine wl_move rfl rfl ?_
   refine wl_splitD 81 rfl (fun h94 => ?_) (fun h94 => ?_)
   ·refine wl_guard rfl rfl (decide_eq_true h94) ?_
    refine wl_move rfl rfl ?_
    refine wl_guard rfl rfl (decide_eq_true h94) ?_
    refine wl_move rfl rfl ?_
    refine wl_guard rfl rfl (decide_eq_true h94) ?_
    have hC95 := hS11.split [2] [false, false, true, false] rfl; dsimp only [selF, pickA, nthA, List.cons_append, List.nil_append] at hC95
    refine wl_call cal_13 rfl (moidx_sp hC95 a (by omega)) rfl ?_
    rintro e w95 ⟨_, rfl, (⟨rfl, hno, hS95⟩ | ⟨k, rfl, hk, hS95⟩)⟩
    ·refine ⟨_, rfl, ?_⟩
     replace hS95 := hS95.join rfl; dsimp only [List.dropLast, List.cons_append, List.nil_append] at hS95; clear hC95
     clear hS11
     refine wl_guard rfl rfl (decide_eq_true h94) ?_
     refine wl_geq rfl rfl rfl ?_
     refine wl_guard rfl rfl rfl ?_
     refine wl_pickT rfl (decide_eq_true h94) rfl rfl ?_
     refine wl_pickF rfl rfl rfl rfl ?_
     refine wl_move rfl rfl ?_
     refine wl_splitD 88 rfl (fun h96 => ?_) (fun h96 => ?_)
     ·exact absurd h96 (by decide)
     refine wl_guard rfl rfl (decide_eq_false h96) ?_
     refine wl_fieldAddr rfl fo_33_0 rfl ?_
     refine wl_guard rfl rfl (decide_eq_false h96) ?_
     refine wl_load rfl ag_3 (by first | assumption | exact hS95.cell 2 rfl rfl) rfl ?_
     refine wl_guard rfl rfl (decide_eq_false h96) ?_
     refine wl_eql rfl rfl rfl ?_
     refine wl_guard rfl rfl (decide_eq_false h96) ?_
     refine wl_move rfl rfl ?_
     refine wl_splitD 92 rfl (fun h97 => ?_) (fun h97 => ?_)
     ·have hd10 : o.d = 10 := h97
      refine wl_guard rfl rfl (decide_eq_true h97) ?_
      refine wl_move rfl rfl ?_
      refine wl_guard rfl rfl (decide_eq_true h97) ?_
      refine wl_eql rfl rfl rfl ?_
      refine wl_guard rfl rfl (decide_eq_true h97) ?_
      refine wl_move rfl rfl ?_
      refine wl_guard rfl rfl (decide_eq_true h97) ?_
      refine wl_neq rfl rfl rfl ?_
      refine wl_guard rfl rfl (decide_eq_true h97) ?_
      refine wl_neqB Tryz.underlying4 rfl rfl rfl ?_
      refine wl_guard rfl rfl (decide_eq_false h96) ?_
      refine wl_pickT rfl (decide_eq_true h97) rfl rfl ?_
      refine wl_pickF rfl (decide_eq_false h96) rfl rfl ?_
      refine wl_nil (qs_seq ?_)
      refine wc_sub (L' := [(99, _), (15, _), (14, _), (13, _), (3, _), (9, _), (10, _), (11, _), (12, _)]) (.cons rfl (.cons rfl (.cons rfl (.cons rfl (.cons rfl (.cons rfl (.cons rfl (.cons rfl (.cons rfl .nil))))))))) ?_
      refine wc_cond rfl (fun h98 => ?_) (fun h98 => ?_)
      ·exact (keep3 hDo.v hd10 h98).elim
      refine wc_skip (qs_seq (wc_seq (wc_region (wl_move rfl rfl ?_))))
      refine wl_loadA rfl ag_33 sz_33 (by first | exact hS95.blk 2 rfl) (by first | decide | exact Nat.le_of_ble_eq_true rfl | (simp; done) | omega) rfl rfl ?_
      refine wl_move rfl rfl (wl_move rfl rfl ?_)
      have hC99 := hS95.split [0] [true, false, false, false] rfl; dsimp only [selF, pickA, nthA, List.cons_append, List.nil_append] at hC99
      refine wl_call cal_14 rfl (moapply_sp hC99 o a e hR hDo.v (vw_bound hI (by omega)) (by omega)) rfl ?_
      rintro e w99 ⟨_, rfl, rfl, M2, hR2, hml2, hS99⟩; refine ⟨_, rfl, ?_⟩
      replace hS99 := hS99.join rfl; dsimp only [List.dropLast, List.cons_append, List.nil_append] at hS99; clear hC99
      clear hS95
      refine wl_nil (qs_seq ?_)
      refine wc_sub (L' := [(3, _), (9, _), (10, _), (11, _), (12, _)]) (.cons rfl (.cons rfl (.cons rfl (.cons rfl (.cons rfl .nil))))) ?_
      refine wc_seq (wc_region (wl_move rfl rfl (wl_move rfl rfl ?_)))
      have hC100 := hS99.split [0, 1] [true, true, false, false] rfl; dsimp only [selF, pickA, nthA, List.cons_append, List.nil_append] at hC100
      refine wl_call cal_15 rfl (moholds_sp hC100 hDo.inv hR2 (by omega)) rfl ?_
      rintro e w100 ⟨_, rfl, rfl, hS100⟩; refine ⟨_, rfl, ?_⟩
      replace hS100 := hS100.join rfl; dsimp only [List.dropLast, List.cons_append, List.nil_append] at hS100; clear hC100
      clear hS99
      refine wl_not rfl rfl ?_
      refine wl_nil (qs_seq ?_)
      refine wc_condKF rfl rfl ?_
      refine wc_skip (qs_block_normal (qs_seq (wc_region (wl_move rfl rfl ?_))))
      refine wl_add rfl rfl (by omega) (by omega) rfl ?_
      refine wl_assign rfl rfl (wl_nil ?_)
      exact qs_round (L1 := [(3, _), (9, _), (10, _), (11, _), (12, intV ((i + 1 : Nat) : Int))]) (.cons rfl (.cons rfl (.cons rfl (.cons rfl (.cons rfl .nil))))) (k1 := l.length - (i + 1)) (by omega) ⟨i + 1, M2, S2, rfl, rfl, hS100.pick [0, 1, 3] rfl, by omega, by have := hDo.inv; rwa [show 301 * i + 301 = 301 * (i + 1) by omega] at this, hR2, by omega⟩
     refine wl_unwanted rfl rfl (decide_eq_false h97) rfl ?_
     refine wl_unwanted rfl rfl (decide_eq_false h97) rfl ?_
     refine wl_unwanted rfl rfl (decide_eq_false h97) rfl ?_
     refine wl_unwanted rfl rfl (decide_eq_false h97) rfl ?_
     refine wl_unwanted rfl rfl (decide_eq_false h97) rfl ?_
     refine wl_guard rfl rfl (decide_eq_false h96) ?_
     refine wl_pickF rfl (decide_eq_false h97) rfl rfl ?_
     refine wl_pickF rfl (decide_eq_false h96) rfl rfl ?_
     refine wl_nil (qs_seq ?_)
     refine wc_sub (L' := [(99, _), (15, _), (14, _), (13, _), (3, _), (9, _), (10, _), (11, _), (12, _)]) (.cons rfl (.cons rfl (.cons rfl (.cons rfl (.cons rfl (.cons rfl (.cons rfl (.cons rfl (.cons rfl .nil))))))))) ?_
     refine wc_condF rfl ?_
     refine wc_skip (qs_seq (wc_seq (wc_region (wl_move rfl rfl ?_))))
     refine wl_loadA rfl ag_33 sz_33 (by first | exact hS95.blk 2 rfl) (by first | decide | exact Nat.le_of_ble_eq_true rfl | (simp; done) | omega) rfl rfl ?_
     refine wl_move rfl rfl (wl_move rfl rfl ?_)
     have hC101 := hS95.split [0] [true, false, false, false] rfl; dsimp only [selF, pickA, nthA, List.cons_append, List.nil_append] at hC101
     refine wl_call cal_14 rfl (moapply_sp hC101 o a e hR hDo.v (vw_bound hI (by omega)) (by omega)) rfl ?_
     rintro e w101 ⟨_, rfl, rfl, M2, hR2, hml2, hS101⟩; refine ⟨_, rfl, ?_⟩
     replace hS101 := hS101.join rfl; dsimp only [List.dropLast, List.cons_append, List.nil_append] at hS101; clear hC101
     clear hS95
     refine wl_nil (qs_seq ?_)
     refine wc_sub (L' := [(3, _), (9, _), (10, _), (11, _), (12, _)]) (.cons rfl (.cons rfl (.cons rfl (.cons rfl (.cons rfl .nil))))) ?_
     refine wc_seq (wc_region (wl_move rfl rfl (wl_move rfl rfl ?_)))
     have hC102 := hS101.split [0, 1] [true, true, false, false] rfl; dsimp only [selF, pickA, nthA, List.cons_append, List.nil_append] at hC102
     refine wl_call cal_15 rfl (moholds_sp hC102 hDo.inv hR2 (by omega)) rfl ?_
     rintro e w102 ⟨_, rfl, rfl, hS102⟩; refine ⟨_, rfl, ?_⟩
     replace hS102 := hS102.join rfl; dsimp only [List.dropLast, List.cons_append, List.nil_append] at hS102; clear hC102
     clear hS101
     refine wl_not rfl rfl ?_
     refine wl_nil (qs_seq ?_)
     refine wc_condKF rfl rfl ?_
     refine wc_skip (qs_block_normal (qs_seq (wc_region (wl_move rfl rfl ?_))))
     refine wl_add rfl rfl (by omega) (by omega) rfl ?_
     refine wl_assign rfl rfl (wl_nil ?_)
     exact qs_round (L1 := [(3, _), (9, _), (10, _), (11, _), (12, intV ((i + 1 : Nat) : Int))]) (.cons rfl (.cons rfl (.cons rfl (.cons rfl (.cons rfl .nil))))) (k1 := l.length - (i + 1)) (by omega) ⟨i + 1, M2, S2, rfl, rfl, hS102.pick [0, 1, 3] rfl, by omega, by have := hDo.inv; rwa [show 301 * i + 301 = 301 * (i + 1) by omega] at this, hR2, by omega⟩
    exact (hR.no (keep2 hDo.v (by omega) (by omega)) hk).elim
   refine wl_unwanted rfl rfl (decide_eq_false h94) rfl ?_
   refine wl_unwanted rfl rfl (decide_eq_false h94) rfl ?_
   refine wl_unwanted rfl rfl (decide_eq_false h94) rfl ?_
   refine wl_unwanted rfl rfl (decide_eq_false h94) rfl ?_
   refine wl_guard rfl rfl rfl ?_
   refine wl_pickF rfl (decide_eq_false h94) rfl rfl ?_
   refine wl_pickF rfl rfl rfl rfl ?_
   refine wl_move rfl rfl ?_
   refine wl_guard rfl rfl rfl ?_
   refine wl_fieldAddr rfl fo_33_0 rfl ?_
   refine wl_guard rfl rfl rfl ?_
   refine wl_load rfl ag_3 (by first | assumption | exact hS11.cell 1 rfl rfl) rfl ?_
   refine wl_guard rfl rfl rfl ?_
   refine wl_eql rfl rfl rfl ?_
   refine wl_guard rfl rfl rfl ?_
   refine wl_move rfl rfl ?_
   refine wl_splitD 92 rfl (fun h103 => ?_) (fun h103 => ?_)
   ·have hd10 : o.d = 10 := h103
    refine wl_guard rfl rfl (decide_eq_true h103) ?_
    refine wl_move rfl rfl ?_
    refine wl_guard rfl rfl (decide_eq_true h103) ?_
    refine wl_eql rfl rfl rfl ?_
    refine wl_guard rfl rfl (decide_eq_true h103) ?_
    refine wl_move rfl rfl ?_
    refine wl_guard rfl rfl (decide_eq_true h103) ?_
    refine wl_neq rfl rfl rfl ?_
    refine wl_guard rfl rfl (decide_eq_true h103) ?_
    refine wl_neqB Tryz.underlying4 rfl rfl rfl ?_
    refine wl_guard rfl rfl rfl ?_
    refine wl_pickT rfl (decide_eq_true h103) rfl rfl ?_
    refine wl_pickF rfl rfl rfl rfl ?_
    refine wl_nil (qs_seq ?_)
    refine wc_sub (L' := [(99, _), (15, _), (14, _), (13, _), (3, _), (9, _), (10, _), (11, _), (12, _)]) (.cons rfl (.cons rfl (.cons rfl (.cons rfl (.cons rfl (.cons rfl (.cons rfl (.cons rfl (.cons rfl .nil))))))))) ?_
    refine wc_cond rfl (fun h104 => ?_) (fun h104 => ?_)
    ·exact (keep3 hDo.v hd10 h104).elim
    refine wc_skip (qs_seq (wc_seq (wc_region (wl_move rfl rfl ?_))))
    refine wl_loadA rfl ag_33 sz_33 (by first | exact hS11.blk 1 rfl) (by first | decide | exact Nat.le_of_ble_eq_true rfl | (simp; done) | omega) rfl rfl ?_
    refine wl_move rfl rfl (wl_move rfl rfl ?_)
    have hC105 := hS11.split [2] [false, false, true, false] rfl; dsimp only [selF, pickA, nthA, List.cons_append, List.nil_append] at hC105
    refine wl_call cal_14 rfl (moapply_sp hC105 o a e hR hDo.v (vw_bound hI (by omega)) (by omega)) rfl ?_
    rintro e w105 ⟨_, rfl, rfl, M2, hR2, hml2, hS105⟩; refine ⟨_, rfl, ?_⟩
    replace hS105 := hS105.join rfl; dsimp only [List.dropLast, List.cons_append, List.nil_append] at hS105; clear hC105
    clear hS11
    refine wl_nil (qs_seq ?_)
    refine wc_sub (L' := [(3, _), (9, _), (10, _), (11, _), (12, _)]) (.cons rfl (.cons rfl (.cons rfl (.cons rfl (.cons rfl .nil))))) ?_
    refine wc_seq (wc_region (wl_move rfl rfl (wl_move rfl rfl ?_)))
    have hC106 := hS105.split [0, 1] [true, true, false, false] rfl; dsimp only [selF, pickA, nthA, List.cons_append, List.nil_append] at hC106
    refine wl_call cal_15 rfl (moholds_sp hC106 hDo.inv hR2 (by omega)) rfl ?_
    rintro e w106 ⟨_, rfl, rfl, hS106⟩; refine ⟨_, rfl, ?_⟩
    replace hS106 := hS106.join rfl; dsimp only [List.dropLast, List.cons_append, List.nil_append] at hS106; clear hC106
    clear hS105
    refine wl_not rfl rfl ?_
    refine wl_nil (qs_seq ?_)
    refine wc_condKF rfl rfl ?_
    refine wc_skip (qs_block_normal (qs_seq (wc_region (wl_move rfl rfl ?_))))
    refine wl_add rfl rfl (by omega) (by omega) rfl ?_
    refine wl_assign rfl rfl (wl_nil ?_)
    exact qs_round (L1 := [(3, _), (9, _), (10, _), (11, _), (12, intV ((i + 1 : Nat) : Int))]) (.cons rfl (.cons rfl (.cons rfl (.cons rfl (.cons rfl .nil))))) (k1 := l.length - (i + 1)) (by omega) ⟨i + 1, M2, S2, rfl, rfl, hS106.pick [0, 1, 3] rfl, by omega, by have := hDo.inv; rwa [show 301 * i + 301 = 301 * (i + 1) by omega] at this, hR2, by omega⟩
   refine wl_unwanted rfl rfl (decide_eq_false h103) rfl ?_
   refine wl_unwanted rfl rfl (decide_eq_false h103) rfl ?_
   refine wl_unwanted rfl rfl (decide_eq_false h103) rfl ?_
   refine wl_unwanted rfl rfl (decide_eq_false h103) rfl ?_
   refine wl_unwanted rfl rfl (decide_eq_false h103) rfl ?_
   refine wl_guard rfl rfl rfl ?_
   refine wl_pickF rfl (decide_eq_false h103) rfl rfl ?_
   refine wl_pickF rfl rfl rfl rfl ?_
   refine wl_nil (qs_seq ?_)
   refine wc_sub (L' := [(99, _), (15, _), (14, _), (13, _), (3, _), (9, _), (10, _), (11, _), (12, _)]) (.cons rfl (.cons rfl (.cons rfl (.cons rfl (.cons rfl (.cons rfl (.cons rfl (.cons rfl (.cons rfl .nil))))))))) ?_
   refine wc_condF rfl ?_
   refine wc_skip (qs_seq (wc_seq (wc_region (wl_move rfl rfl ?_))))
   refine wl_loadA rfl ag_33 sz_33 (by first | exact hS11.blk 1 rfl) (by first | decide | exact Nat.le_of_ble_eq_true rfl | (simp; done) | omega) rfl rfl ?_
   refine wl_move rfl rfl (wl_move rfl rfl ?_)
   have hC107 := hS11.split [2] [false, false, true, false] rfl; dsimp only [selF, pickA, nthA, List.cons_append, List.nil_append] at hC107
   refine wl_call cal_14 rfl (moapply_sp hC107 o a e hR hDo.v (vw_bound hI (by omega)) (by omega)) rfl ?_
   rintro e w107 ⟨_, rfl, rfl, M2, hR2, hml2, hS107⟩; refine ⟨_, rfl, ?_⟩
   replace hS107 := hS107.join rfl; dsimp only [List.dropLast, List.cons_append, List.nil_append] at hS107; clear hC107
   clear hS11
   refine wl_nil (qs_seq ?_)
   refine wc_sub (L' := [(3, _), (9, _), (10, _), (11, _), (12, _)]) (.cons rfl (.cons rfl (.cons rfl (.cons rfl (.cons rfl .nil))))) ?_
   refine wc_seq (wc_region (wl_move rfl rfl (wl_move rfl rfl ?_)))
   have hC108 := hS107.split [0, 1] [true, true, false, false] rfl; dsimp only [selF, pickA, nthA, List.cons_append, List.nil_append] at hC108
   refine wl_call cal_15 rfl (moholds_sp hC108 hDo.inv hR2 (by omega)) rfl ?_
   rintro e w108 ⟨_, rfl, rfl, hS108⟩; refine ⟨_, rfl, ?_⟩
   replace hS108 := hS108.join rfl; dsimp only [List.dropLast, List.cons_append, List.nil_append] at hS108; clear hC108
   clear hS107
   refine wl_not rfl rfl ?_
   refine wl_nil (qs_seq ?_)
   refine wc_condKF rfl rfl ?_
   refine wc_skip (qs_block_normal (qs_seq (wc_region (wl_move rfl rfl ?_))))
   refine wl_add rfl rfl (by omega) (by omega) rfl ?_
   refine wl_assign rfl rfl (wl_nil ?_)
   exact qs_round (L1 := [(3, _), (9, _), (10, _), (11, _), (12, intV ((i + 1 : Nat) : Int))]) (.cons rfl (.cons rfl (.cons rfl (.cons rfl (.cons rfl .nil))))) (k1 := l.length - (i + 1)) (by omega) ⟨i + 1, M2, S2, rfl, rfl, hS108.pick [0, 1, 3] rfl, by omega, by have := hDo.inv; rwa [show 301 * i + 301 = 301 * (i + 1) by omega] at this, hR2, by omega⟩
  refine wl_guard rfl rfl (decide_eq_false h93) ?_
  refine wl_fieldAddr rfl fo_33_0 rfl ?_
  refine wl_guard rfl rfl (decide_eq_false h93) ?_
  refine wl_load rfl ag_3 (by first | assumption | exact hS11.cell 1 rfl rfl) rfl ?_
  refine wl_guard rfl rfl (decide_eq_false h93) ?_
  refine wl_eql rfl rfl rfl ?_
  refine wl_guard rfl rfl rfl ?_
  refine wl_pickF rfl (decide_eq_false h93) rfl rfl ?_
  refine wl_guard rfl rfl rfl ?_
  refine wl_move rfl rfl ?_
  refine wl_splitD 77 rfl (fun h109 => ?_) (fun h109 => ?_)
  ·refine wl_guard rfl rfl (decide_eq_true h109) ?_
   refine wl_move rfl rfl ?_
   refine wl_guard rfl rfl (decide_eq_true h109) ?_
   refine wl_neq rfl rfl rfl ?_
   refine wl_guard rfl rfl rfl ?_
   refine wl_pickT rfl (decide_eq_true h109) rfl rfl ?_
   refine wl_guard rfl rfl rfl ?_
   refine wl_move rfl rfl ?_
   refine wl_splitD 81 rfl (fun h110 => ?_) (fun h110 => ?_)
   ·refine wl_guard rfl rfl (decide_eq_true h110) ?_
    refine wl_move rfl rfl ?_
    refine wl_guard rfl rfl (decide_eq_true h110) ?_
    refine wl_move rfl rfl ?_
    refine wl_guard rfl rfl (decide_eq_true h110) ?_
    have hC111 := hS11.split [2] [false, false, true, false] rfl; dsimp only [selF, pickA, nthA, List.cons_append, List.nil_append] at hC111
    refine wl_call cal_13 rfl (moidx_sp hC111 a (by omega)) rfl ?_
    rintro e w111 ⟨_, rfl, (⟨rfl, hno, hS111⟩ | ⟨k, rfl, hk, hS111⟩)⟩
    ·refine ⟨_, rfl, ?_⟩
     replace hS111 := hS111.join rfl; dsimp only [List.dropLast, List.cons_append, List.nil_append] at hS111; clear hC111
     clear hS11
     refine wl_guard rfl rfl (decide_eq_true h110) ?_
     refine wl_geq rfl rfl rfl ?_
     refine wl_guard rfl rfl rfl ?_
     refine wl_pickT rfl (decide_eq_true h110) rfl rfl ?_
     refine wl_pickF rfl rfl rfl rfl ?_
     refine wl_move rfl rfl ?_
     refine wl_splitD 88 rfl (fun h112 => ?_) (fun h112 => ?_)
     ·exact absurd h112 (by decide)
     refine wl_guard rfl rfl (decide_eq_false h112) ?_
     refine wl_fieldAddr rfl fo_33_0 rfl ?_
     refine wl_guard rfl rfl (decide_eq_false h112) ?_
     refine wl_load rfl ag_3 (by first | assumption | exact hS111.cell 2 rfl rfl) rfl ?_
     refine wl_guard rfl rfl (decide_eq_false h112) ?_
     refine wl_eql rfl rfl rfl ?_
     refine wl_guard rfl rfl (decide_eq_false h112) ?_
     refine wl_move rfl rfl ?_
     refine wl_splitD 92 rfl (fun h113 => ?_) (fun h113 => ?_)
     ·have hd10 : o.d = 10 := h113
      refine wl_guard rfl rfl (decide_eq_true h113) ?_
      refine wl_move rfl rfl ?_
      refine wl_guard rfl rfl (decide_eq_true h113) ?_
      refine wl_eql rfl rfl rfl ?_
      refine wl_guard rfl rfl (decide_eq_true h113) ?_
      refine wl_move rfl rfl ?_
      refine wl_guard rfl rfl (decide_eq_true h113) ?_
      refine wl_neq rfl rfl rfl ?_
      refine wl_guard rfl rfl (decide_eq_true h113) ?_
      refine wl_neqB Tryz.underlying4 rfl rfl rfl ?_
      refine wl_guard rfl rfl (decide_eq_false h112) ?_
      refine wl_pickT rfl (decide_eq_true h113) rfl rfl ?_
      refine wl_pickF rfl (decide_eq_false h112) rfl rfl ?_
      refine wl_nil (qs_seq ?_)
      refine wc_sub (L' := [(99, _), (15, _), (14, _), (13, _), (3, _), (9, _), (10, _), (11, _), (12, _)]) (.cons rfl (.cons rfl (.cons rfl (.cons rfl (.cons rfl (.cons rfl (.cons rfl (.cons rfl (.cons rfl .nil))))))))) ?_
      refine wc_cond rfl (fun h114 => ?_) (fun h114 => ?_)
      ·exact (keep3 hDo.v hd10 h114).elim
      refine wc_skip (qs_seq (wc_seq (wc_region (wl_move rfl rfl ?_))))
      refine wl_loadA rfl ag_33 sz_33 (by first | exact hS111.blk 2 rfl) (by first | decide | exact Nat.le_of_ble_eq_true rfl | (simp; done) | omega) rfl rfl ?_
      refine wl_move rfl rfl (wl_move rfl rfl ?_)
      have hC115 := hS111.split [0] [true, false, false, false] rfl; dsimp only [selF, pickA, nthA, List.cons_append, List.nil_append] at hC115
      refine wl_call cal_14 rfl (moapply_sp hC115 o a e hR hDo.v (vw_bound hI (by omega)) (by omega)) rfl ?_
      rintro e w115 ⟨_, rfl, rfl, M2, hR2, hml2, hS115⟩; refine ⟨_, rfl, ?_⟩
      replace hS115 := hS115.join rfl; dsimp only [List.dropLast, List.cons_append, List.nil_append] at hS115; clear hC115
      clear hS111
      refine wl_nil (qs_seq ?_)
      refine wc_sub (L' := [(3, _), (9, _), (10, _), (11, _), (12, _)]) (.cons rfl (.cons rfl (.cons rfl (.cons rfl (.cons rfl .nil))))) ?_
      refine wc_seq (wc_region (wl_move rfl rfl (wl_move rfl rfl ?_)))
      have hC116 := hS115.split [0, 1] [true, true, false, false] rfl; dsimp only [selF, pickA, nthA, List.cons_append, List.nil_append] at hC116
      refine wl_call cal_15 rfl (moholds_sp hC116 hDo.inv hR2 (by omega)) rfl ?_
      rintro e w116 ⟨_, rfl, rfl, hS116⟩; refine ⟨_, rfl, ?_⟩
      replace hS116 := hS116.join rfl; dsimp only [List.dropLast, List.cons_append, List.nil_append] at hS116; clear hC116
      clear hS115
      refine wl_not rfl rfl ?_
      refine wl_nil (qs_seq ?_)
      refine wc_condKF rfl rfl ?_
      refine wc_skip (qs_block_normal (qs_seq (wc_region (wl_move rfl rfl ?_))))
      refine wl_add rfl rfl (by omega) (by omega) rfl ?_
      refine wl_assign rfl rfl (wl_nil ?_)
      exact qs_round (L1 := [(3, _), (9, _), (10, _), (11, _), (12, intV ((i + 1 : Nat) : Int))]) (.cons rfl (.cons rfl (.cons rfl (.cons rfl (.cons rfl .nil))))) (k1 := l.length - (i + 1)) (by omega) ⟨i + 1, M2, S2, rfl, rfl, hS116.pick [0, 1, 3] rfl, by omega, by have := hDo.inv; rwa [show 301 * i + 301 = 301 * (i + 1) by omega] at this, hR2, by omega⟩
     refine wl_unwanted rfl rfl (decide_eq_false h113) rfl ?_
     refine wl_unwanted rfl rfl (decide_eq_false h113) rfl ?_
     refine wl_unwanted rfl rfl (decide_eq_false h113) rfl ?_
     refine wl_unwanted rfl rfl (decide_eq_false h113) rfl ?_
     refine wl_unwanted rfl rfl (decide_eq_false h113) rfl ?_
     refine wl_guard rfl rfl (decide_eq_false h112) ?_
     refine wl_pickF rfl (decide_eq_false h113) rfl rfl ?_
     refine wl_pickF rfl (decide_eq_false h112) rfl rfl ?_
     refine wl_nil (qs_seq ?_)
     refine wc_sub (L' := [(99, _), (15, _), (14, _), (13, _), (3, _), (9, _), (10, _), (11, _), (12, _)]) (.cons rfl (.cons rfl (.cons rfl (.cons rfl (.cons rfl (.cons rfl (.cons rfl (.cons rfl (.cons rfl .nil))))))))) ?_
     refine wc_condF rfl ?_
     refine wc_skip (qs_seq (wc_seq (wc_region (wl_move rfl rfl ?_))))
     refine wl_loadA rfl ag_33 sz_33 (by first | exact hS111.blk 2 rfl) (by first | decide | exact Nat.le_of_ble_eq_true rfl | (simp; done) | omega) rfl rfl ?_
     refine wl_move rfl rfl (wl_move rfl rfl ?_)
     have hC117 := hS111.split [0] [true, false, false, false] rfl; dsimp only [selF, pickA, nthA, List.cons_append, List.nil_append] at hC117
     refine wl_call cal_14 rfl (moapply_sp hC117 o a e hR hDo.v (vw_bound hI (by omega)) (by omega)) rfl ?_
     rintro e w117 ⟨_, rfl, rfl, M2, hR2, hml2, hS117⟩; refine ⟨_, rfl, ?_⟩
     replace hS117 := hS117.join rfl; dsimp only [List.dropLast, List.cons_append, List.nil_append] at hS117; clear hC117
     clear hS111
     refine wl_nil (qs_seq ?_)
     refine wc_sub (L' := [(3, _), (9, _), (10, _), (11, _), (12, _)]) (.cons rfl (.cons rfl (.cons rfl (.cons rfl (.cons rfl .nil))))) ?_
     refine wc_seq (wc_region (wl_move rfl rfl (wl_move rfl rfl ?_)))
     have hC118 := hS117.split [0, 1] [true, true, false, false] rfl; dsimp only [selF, pickA, nthA, List.cons_append, List.nil_append] at hC118
     refine wl_call cal_15 rfl (moholds_sp hC118 hDo.inv hR2 (by omega)) rfl ?_
     rintro e w118 ⟨_, rfl, rfl, hS118⟩; refine ⟨_, rfl, ?_⟩
     replace hS118 := hS118.join rfl; dsimp only [List.dropLast, List.cons_append, List.nil_append] at hS118; clear hC118
     clear hS117
     refine wl_not rfl rfl ?_
     refine wl_nil (qs_seq ?_)
     refine wc_condKF rfl rfl ?_
     refine wc_skip (qs_block_normal (qs_seq (wc_region (wl_move rfl rfl ?_))))
     refine wl_add rfl rfl (by omega) (by omega) rfl ?_
     refine wl_assign rfl rfl (wl_nil ?_)
     exact qs_round (L1 := [(3, _), (9, _), (10, _), (11, _), (12, intV ((i + 1 : Nat) : Int))]) (.cons rfl (.cons rfl (.cons rfl (.cons rfl (.cons rfl .nil))))) (k1 := l.length - (i + 1)) (by omega) ⟨i + 1, M2, S2, rfl, rfl, hS118.pick [0, 1, 3] rfl, by omega, by have := hDo.inv; rwa [show 301 * i + 301 = 301 * (i + 1) by omega] at this, hR2, by omega⟩
    exact (hR.no (keep2 hDo.v (by omega) (by omega)) hk).elim
   refine wl_unwanted rfl rfl (decide_eq_false h110) rfl ?_
   refine wl_unwanted rfl rfl (decide_eq_false h110) rfl ?_
   refine wl_unwanted rfl rfl (decide_eq_false h110) rfl ?_
   refine wl_unwanted rfl rfl (decide_eq_false h110) rfl ?_
   refine wl_guard rfl rfl rfl ?_
   refine wl_pickF rfl (decide_eq_false h110) rfl rfl ?_
   refine wl_pickF rfl rfl rfl rfl ?_
   refine wl_move rfl rfl ?_
   refine wl_guard rfl rfl rfl ?_
   refine wl_fieldAddr rfl fo_33_0 rfl ?_
   refine wl_guard rfl rfl rfl ?_
   refine wl_load rfl ag_3 (by first | assumption | exact hS11.cell 1 rfl rfl) rfl ?_
   refine wl_guard rfl rfl rfl ?_
   refine wl_eql rfl rfl rfl ?_
   refine wl_guard rfl rfl rfl ?_
   refine wl_move rfl rfl ?_
   refine wl_splitD 92 rfl (fun h119 => ?_) (fun h119 => ?_)
   ·have hd10 : o.d = 10 := h119
    refine wl_guard rfl rfl (decide_eq_true h119) ?_
    refine wl_move rfl rfl ?_
    refine wl_guard rfl rfl (decide_eq_true h119) ?_
    refine wl_eql rfl rfl rfl ?_
    refine wl_guard rfl rfl (decide_eq_true h119) ?_
    refine wl_move rfl rfl ?_
    refine wl_guard rfl rfl (decide_eq_true h119) ?_
    refine wl_neq rfl rfl rfl ?_
    refine wl_guard rfl rfl (decide_eq_true h119) ?_
    refine wl_neqB Tryz.underlying4 rfl rfl rfl ?_
    refine wl_guard rfl rfl rfl ?_
    refine wl_pickT rfl (decide_eq_true h119) rfl rfl ?_
    refine wl_pickF rfl rfl rfl rfl ?_
    refine wl_nil (qs_seq ?_)
    refine wc_sub (L' := [(99, _), (15, _), (14, _), (13, _), (3, _), (9, _), (10, _), (11, _), (12, _)]) (.cons rfl (.cons rfl (.cons rfl (.cons rfl (.cons rfl (.cons rfl (.cons rfl (.cons rfl (.cons rfl .nil))))))))) ?_
    refine wc_cond rfl (fun h120 => ?_) (fun h120 => ?_)
    ·exact (keep3 hDo.v hd10 h120).elim
    refine wc_skip (qs_seq (wc_seq (wc_region (wl_move rfl rfl ?_))))
    refine wl_loadA rfl ag_33 sz_33 (by first | exact hS11.blk 1 rfl) (by first | decide | exact Nat.le_of_ble_eq_true rfl | (simp; done) | omega) rfl rfl ?_
    refine wl_move rfl rfl (wl_move rfl rfl ?_)
    have hC121 := hS11.split [2] [false, false, true, false] rfl; dsimp only [selF, pickA, nthA, List.cons_append, List.nil_append] at hC121
    refine wl_call cal_14 rfl (moapply_sp hC121 o a e hR hDo.v (vw_bound hI (by omega)) (by omega)) rfl ?_
    rintro e w121 ⟨_, rfl, rfl, M2, hR2, hml2, hS121⟩; refine ⟨_, rfl, ?_⟩
    replace hS121 := hS121.join rfl; dsimp only [List.dropLast, List.cons_append, List.nil_append] at hS121; clear hC121
    clear hS11
    refine wl_nil (qs_seq ?_)
    refine wc_sub (L' := [(3, _), (9, _), (10, _), (11, _), (12, _)]) (.cons rfl (.cons rfl (.cons rfl (.cons rfl (.cons rfl .nil))))) ?_
    refine wc_seq (wc_region (wl_move rfl rfl (wl_move rfl rfl ?_)))
    have hC122 := hS121.split [0, 1] [true, true, false, false] rfl; dsimp only [selF, pickA, nthA, List.cons_append, List.nil_append] at hC122
    refine wl_call cal_15 rfl (moholds_sp hC122 hDo.inv hR2 (by omega)) rfl ?_
    rintro e w122 ⟨_, rfl, rfl, hS122⟩; refine ⟨_, rfl, ?_⟩
    replace hS122 := hS122.join rfl; dsimp only [List.dropLast, List.cons_append, List.nil_append] at hS122; clear hC122
    clear hS121
    refine wl_not rfl rfl ?_
    refine wl_nil (qs_seq ?_)
    refine wc_condKF rfl rfl ?_
    refine wc_skip (qs_block_normal (qs_seq (wc_region (wl_move rfl rfl ?_))))
    refine wl_add rfl rfl (by omega) (by omega) rfl ?_
    refine wl_assign rfl rfl (wl_nil ?_)
    exact qs_round (L1 := [(3, _), (9, _), (10, _), (11, _), (12, intV ((i + 1 : Nat) : Int))]) (.cons rfl (.cons rfl (.cons rfl (.cons rfl (.cons rfl .nil))))) (k1 := l.length - (i + 1)) (by omega) ⟨i + 1, M2, S2, rfl, rfl, hS122.pick [0, 1, 3] rfl, by omega, by have := hDo.inv; rwa [show 301 * i + 301 = 301 * (i + 1) by omega] at this, hR2, by omega⟩
   refine wl_unwanted rfl rfl (decide_eq_false h119) rfl ?_
   refine wl_unwanted rfl rfl (decide_eq_false h119) rfl ?_
   refine wl_unwanted rfl rfl (decide_eq_false h119) rfl ?_
   refine wl_unwanted rfl rfl (decide_eq_false h119) rfl ?_
   refine wl_unwanted rfl rfl (decide_eq_false h119) rfl ?_
   refine wl_guard rfl rfl rfl ?_
   refine wl_pickF rfl (decide_eq_false h119) rfl rfl ?_
   refine wl_pickF rfl rfl rfl rfl ?_
   refine wl_nil (qs_seq ?_)
   refine wc_sub (L' := [(99, _), (15, _), (14, _), (13, _), (3, _), (9, _), (10, _), (11, _), (12, _)]) (.cons rfl (.cons rfl (.cons rfl (.cons rfl (.cons rfl (.cons rfl (.cons rfl (.cons rfl (.cons rfl .nil))))))))) ?_
   refine wc_condF rfl ?_
   refine wc_skip (qs_seq (wc_seq (wc_region (wl_move rfl rfl ?_))))
   refine wl_loadA rfl ag_33 sz_33 (by first | exact hS11.blk 1 rfl) (by first | decide | exact Nat.le_of_ble_eq_true rfl | (simp; done) | omega) rfl rfl ?_
   refine wl_move rfl rfl (wl_move rfl rfl ?_)
   have hC123 := hS11.split [2] [false, false, true, false] rfl; dsimp only [selF, pickA, nthA, List.cons_append, List.nil_append] at hC123
   refine wl_call cal_14 rfl (moapply_sp hC123 o a e hR hDo.v (vw_bound hI (by omega)) (by omega)) rfl ?_
   rintro e w123 ⟨_, rfl, rfl, M2, hR2, hml2, hS123⟩; refine ⟨_, rfl, ?_⟩
   replace hS123 := hS123.join rfl; dsimp only [List.dropLast, List.cons_append, List.nil_append] at hS123; clear hC123
   clear hS11
   refine wl_nil (qs_seq ?_)
   refine wc_sub (L' := [(3, _), (9, _), (10, _), (11, _), (12, _)]) (.cons rfl (.cons rfl (.cons rfl (.cons rfl (.cons rfl .nil))))) ?_
   refine wc_seq (wc_region (wl_move rfl rfl (wl_move rfl rfl ?_)))
   have hC124 := hS123.split [0, 1] [true, true, false, false] rfl; dsimp only [selF, pickA, nthA, List.cons_append, List.nil_append] at hC124
   refine wl_call cal_15 rfl (moholds_sp hC124 hDo.inv hR2 (by omega)) rfl ?_
   rintro e w124 ⟨_, rfl, rfl, hS124⟩; refine ⟨_, rfl, ?_⟩
   replace hS124 := hS124.join rfl; dsimp only [List.dropLast, List.cons_append, List.nil_append] at hS124; clear hC124
   clear hS123
   refine wl_not rfl rfl ?_
   refine wl_nil (qs_seq ?_)
   refine wc_condKF rfl rfl ?_
   refine wc_skip (qs_block_normal (qs_seq (wc_region (wl_move rfl rfl ?_))))
   refine wl_add rfl rfl (by omega) (by omega) rfl ?_
   refine wl_assign rfl rfl (wl_nil ?_)
   exact qs_round (L1 := [(3, _), (9, _), (10, _), (11, _), (12, intV ((i + 1 : Nat) : Int))]) (.cons rfl (.cons rfl (.cons rfl (.cons rfl (.cons rfl .nil))))) (k1 := l.length - (i + 1)) (by omega) ⟨i + 1, M2, S2, rfl, rfl, hS124.pick [0, 1, 3] rfl, by omega, by have := hDo.inv; rwa [show 301 * i + 301 = 301 * (i + 1) by omega] at this, hR2, by omega⟩
  refine wl_unwanted rfl rfl (decide_eq_false h109) rfl ?_
  refine wl_unwanted rfl rfl (decide_eq_false h109) rfl ?_
  refine wl_guard rfl rfl rfl ?_
  refine wl_pickF rfl (decide_eq_false h109) rfl rfl ?_
  refine wl_guard rfl rfl rfl ?_
  refine wl_move rfl rfl ?_
  refine wl_unwanted rfl rfl rfl rfl ?_
  refine wl_unwanted rfl rfl rfl rfl ?_
  refine wl_unwanted rfl rfl rfl rfl ?_
  refine wl_unwanted rfl rfl rfl rfl ?_
  refine wl_guard rfl rfl rfl ?_
  refine wl_pickF rfl rfl rfl rfl ?_
  refine wl_pickF rfl rfl rfl rfl ?_
  refine wl_move rfl rfl ?_
  refine wl_guard rfl rfl rfl ?_
  refine wl_fieldAddr rfl fo_33_0 rfl ?_
  refine wl_guard rfl rfl rfl ?_
  refine wl_load rfl ag_3 (by first | assumption | exact hS11.cell 1 rfl rfl) rfl ?_
  refine wl_guard rfl rfl rfl ?_
  refine wl_eql rfl rfl rfl ?_
  refine wl_guard rfl rfl rfl ?_
  refine wl_move rfl rfl ?_
  refine wl_splitD 92 rfl (fun h125 => ?_) (fun h125 => ?_)
  ·have hd10 : o.d = 10 := h125
   refine wl_guard rfl rfl (decide_eq_true h125) ?_
   refine wl_move rfl rfl ?_
   refine wl_guard rfl rfl (decide_eq_true h125) ?_
   refine wl_eql rfl rfl rfl ?_
   refine wl_guard rfl rfl (decide_eq_true h125) ?_
   refine wl_move rfl rfl ?_
   refine wl_guard rfl rfl (decide_eq_true h125) ?_
   refine wl_neq rfl rfl rfl ?_
   refine wl_guard rfl rfl (decide_eq_true h125) ?_
   refine wl_neqB Tryz.underlying4 rfl rfl rfl ?_
   refine wl_guard rfl rfl rfl ?_
   refine wl_pickT rfl (decide_eq_true h125) rfl rfl ?_
   refine wl_pickF rfl rfl rfl rfl ?_
   refine wl_nil (qs_seq ?_)
   refine wc_sub (L' := [(99, _), (15, _), (14, _), (13, _), (3, _), (9, _), (10, _), (11, _), (12, _)]) (.cons rfl (.cons rfl (.cons rfl (.cons rfl (.cons rfl (.cons rfl (.cons rfl (.cons rfl (.cons rfl .nil))))))))) ?_
   refine wc_cond rfl (fun h126 => ?_) (fun h126 => ?_)
   ·exact (keep3 hDo.v hd10 h126).elim
   refine wc_skip (qs_seq (wc_seq (wc_region (wl_move rfl rfl ?_))))
   refine wl_loadA rfl ag_33 sz_33 (by first | exact hS11.blk 1 rfl) (by first | decide | exact Nat.le_of_ble_eq_true rfl | (simp; done) | omega) rfl rfl ?_
   refine wl_move rfl rfl (wl_move rfl rfl ?_)
   have hC127 := hS11.split [2] [false, false, true, false] rfl; dsimp only [selF, pickA, nthA, List.cons_append, List.nil_append] at hC127
   refine wl_call cal_14 rfl (moapply_sp hC127 o a e hR hDo.v (vw_bound hI (by omega)) (by omega)) rfl ?_
   rintro e w127 ⟨_, rfl, rfl, M2, hR2, hml2, hS127⟩; refine ⟨_, rfl, ?_⟩
   replace hS127 := hS127.join rfl; dsimp only [List.dropLast, List.cons_append, List.nil_append] at hS127; clear hC127
   clear hS11
   refine wl_nil (qs_seq ?_)
   refine wc_sub (L' := [(3, _), (9, _), (10, _), (11, _), (12, _)]) (.cons rfl (.cons rfl (.cons rfl (.cons rfl (.cons rfl .nil))))) ?_
   refine wc_seq (wc_region (wl_move rfl rfl (wl_move rfl rfl ?_)))
   have hC128 := hS127.split [0, 1] [true, true, false, false] rfl; dsimp only [selF, pickA, nthA, List.cons_append, List.nil_append] at hC128
   refine wl_call cal_15 rfl (moholds_sp hC128 hDo.inv hR2 (by omega)) rfl ?_
   rintro e w128 ⟨_, rfl, rfl, hS128⟩; refine ⟨_, rfl, ?_⟩
   replace hS128 := hS128.join rfl; dsimp only [List.dropLast, List.cons_append, List.nil_append] at hS128; clear hC128
   clear hS127
   refine wl_not rfl rfl ?_
   refine wl_nil (qs_seq ?_)
   refine wc_condKF rfl rfl ?_
   refine wc_skip (qs_block_normal (qs_seq (wc_region (wl_move rfl rfl ?_))))
   refine wl_add rfl rfl (by omega) (by omega) rfl ?_
   refine wl_assign rfl rfl (wl_nil ?_)
   exact qs_round (L1 := [(3, _), (9, _), (10, _), (11, _), (12, intV ((i + 1 : Nat) : Int))]) (.cons rfl (.cons rfl (.cons rfl (.cons rfl (.cons rfl .nil))))) (k1 := l.length - (i + 1)) (by omega) ⟨i + 1, M2, S2, rfl, rfl, hS128.pick [0, 1, 3] rfl, by omega, by have := hDo.inv; rwa [show 301 * i + 301 = 301 * (i + 1) by omega] at this, hR2, by omega⟩
  refine wl_unwanted rfl rfl (decide_eq_false h125) rfl ?_
  refine wl_unwanted rfl rfl (decide_eq_false h125) rfl ?_
  refine wl_unwanted rfl rfl (decide_eq_false h125) rfl ?_
  refine wl_unwanted rfl rfl (decide_eq_false h125) rfl ?_
  refine wl_unwanted rfl rfl (decide_eq_false h125) rfl ?_
  refine wl_guard rfl rfl rfl ?_
  refine wl_pickF rfl (decide_eq_false h125) rfl rfl ?_
  refine wl_pickF rfl rfl rfl rfl ?_
  refine wl_nil (qs_seq ?_)
  refine wc_sub (L' := [(99, _), (15, _), (14, _), (13, _), (3, _), (9, _), (10, _), (11, _), (12, _)]) (.cons rfl (.cons rfl (.cons rfl (.cons rfl (.cons rfl (.cons rfl (.cons rfl (.cons rfl (.cons rfl .nil))))))))) ?_
  refine wc_condF rfl ?_
  refine wc_skip (qs_seq (wc_seq (wc_region (wl_move rfl rfl ?_))))
  refine wl_loadA rfl ag_33 sz_33 (by first | exact hS11.blk 1 rfl) (by first | decide | exact Nat.le_of_ble_eq_true rfl | (simp; done) | omega) rfl rfl ?_
  refine wl_move rfl rfl (wl_move rfl rfl ?_)
  have hC129 := hS11.split [2] [false, false, true, false] rfl; dsimp only [selF, pickA, nthA, List.cons_append, List.nil_append] at hC129
  refine wl_call cal_14 rfl (moapply_sp hC129 o a e hR hDo.v (vw_bound hI (by omega)) (by omega)) rfl ?_
  rintro e w129 ⟨_, rfl, rfl, M2, hR2, hml2, hS129⟩; refine ⟨_, rfl, ?_⟩
  replace hS129 := hS129.join rfl; dsimp only [List.dropLast, List.cons_append, List.nil_append] at hS129; clear hC129
  clear hS11
  refine wl_nil (qs_seq ?_)
  refine wc_sub (L' := [(3, _), (9, _), (10, _), (11, _), (12, _)]) (.cons rfl (.cons rfl (.cons rfl (.cons rfl (.cons rfl .nil))))) ?_
  refine wc_seq (wc_region (wl_move rfl rfl (wl_move rfl rfl ?_)))
  have hC130 := hS129.split [0, 1] [true, true, false, false] rfl; dsimp only [selF, pickA, nthA, List.cons_append, List.nil_append] at hC130
  refine wl_call cal_15 rfl (moholds_sp hC130 hDo.inv hR2 (by omega)) rfl ?_
  rintro e w130 ⟨_, rfl, rfl, hS130⟩; refine ⟨_, rfl, ?_⟩
  replace hS130 := hS130.join rfl; dsimp only [List.dropLast, List.cons_append, List.nil_append] at hS130; clear hC130
  clear hS129
  refine wl_not rfl rfl ?_
  refine wl_nil (qs_seq ?_)
  refine wc_condKF rfl rfl ?_
  refine wc_skip (qs_block_normal (qs_seq (wc_region (wl_move rfl rfl ?_))))
  refine wl_add rfl rfl (by omega) (by omega) rfl ?_
  refine wl_assign rfl rfl (wl_nil ?_)
  exact qs_round (L1 := [(3, _), (9, _), (10, _), (11, _), (12, intV ((i + 1 : Nat) : Int))]) (.cons rfl (.cons rfl (.cons rfl (.cons rfl (.cons rfl .nil))))) (k1 := l.length - (i + 1)) (by omega) ⟨i + 1, M2, S2, rfl, rfl, hS130.pick [0, 1, 3] rfl, by omega, by have := hDo.inv; rwa [show 301 * i + 301 = 301 * (i + 1) by omega] at this, hR2, by omega⟩
 refine wc_exit (qs_then_exit (qs_then_exit (qs_block_exit (qs_seq (wc_seq (wc_region (wl_move rfl rfl (wl_assign rfl rfl (wl_nil (qs_seq ?_))))))))))
 refine wc_sub (L' := [(8, _)]) (.cons rfl .nil) ?_
 refine wc_ret ?_
 refine fin1 (.inr rfl) rfl rfl ?_
 exact ⟨_, rfl, rfl, hS6.pick [2] rfl⟩
end Go.Proofs.YtnicmcdeoimhlaaGreat
