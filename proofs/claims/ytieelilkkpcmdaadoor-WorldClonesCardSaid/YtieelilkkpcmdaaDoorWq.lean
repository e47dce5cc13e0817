/- laws of world: WorldApart -/
import Derived.Test.YtieelilkkpcmdaaDoorWp
namespace Go.Proofs.YtieelilkkpcmdaaDoor
open Go.RowKit M
set_option linter.unusedVariables false
theorem do_cells {W : WS} {o : OpD} {nm : Bs} (h : ¬ (o.k = 0 ∧ o.a = nm)) : (doS W o).cells nm = W.cells nm := by
  unfold doS
  split
  · rename_i h0
    simp only [putS, updC]; rw [if_neg (fun e => h ⟨h0, e.symm⟩)]
  split
  · unfold setByteS; split <;> rfl
  split
  · rfl
  split
  · rfl
  split
  · unfold logS; split <;> rfl
  split <;> rfl
theorem do_logs {W : WS} {o : OpD} {nm : Bs} (h : ¬ (o.k = 4 ∧ o.a = nm)) : (doS W o).logs nm = W.logs nm := by
  unfold doS
  split
  · rfl
  split
  · unfold setByteS; split <;> rfl
  split
  · rfl
  split
  · rfl
  split
  · rename_i h0
    unfold logS; split
    · rfl
    · simp only [updC]; rw [if_neg (fun e => h ⟨h0, e.symm⟩)]
  split <;> rfl
theorem do_time {W : WS} {o : OpD} (h : o.k ≠ 5) : (doS W o).time = W.time := by
  unfold doS
  split
  · rfl
  split
  · unfold setByteS; split <;> rfl
  split
  · rfl
  split
  · rfl
  split
  · unfold logS; split <;> rfl
  first | rfl | rw [if_neg h]
theorem do_objs {W : WS} {o : OpD} {nm : Bs} (h : ¬ ((o.k = 1 ∨ o.k = 3) ∧ o.a = nm ∨ o.k = 2 ∧ o.b = nm)) : (doS W o).objs nm = W.objs nm := by
  unfold doS
  split
  · rfl
  split
  · rename_i h0
    unfold setByteS; split
    · simp only [setS]; exact setO_ne nm (fun e => h (.inl ⟨.inl h0, e.symm⟩))
    · rfl
  split
  · rename_i h0
    funext q
    simp only [copyS, copyTo]; rw [if_neg (fun e => h (.inr ⟨h0, e.1.symm⟩))]
  split
  · rename_i h0
    funext q
    simp only [dropS]; rw [if_neg (fun e => h (.inl ⟨.inr h0, e.symm⟩))]
  split
  · unfold logS; split <;> rfl
  split <;> rfl
theorem byteW_congr {W W' : WS} {nm : Bs} (h : W'.objs nm = W.objs nm) (i : Int) : byteW W' nm i = byteW W nm i := by simp only [byteW, h]
theorem objB_congr {W W' : WS} {nm : Bs} (h : W'.objs nm = W.objs nm) : objB W' nm = objB W nm := by simp only [objB, pagesB, pageB, h]
set_option maxRecDepth 100000 in
theorem apart_law {w : World} {F : Th} (hS : Sat w [F]) {lv : Value} {l : List OpD} (o : OpD) (nm : Bs) (at_ : Int) (hL : Ent F (RdL opC lv l)) :
    Calls Tryd.prog 3 #[lv, .agg #[intV o.k, strV o.a, strV o.b, intV o.x, intV o.y, intV o.z], strV nm, intV at_] w (Ret fun v w' => v = .bool true ∧ Sat w' [F]) := by
  obtain ⟨ao, cap, rfl, hmax⟩ := (hL.sat hS 0 rfl).shape
  refine calls_enter Tryd.func3 rfl Tryd.ntmps3 rfl ?_
  refine wc_seq ?_
  refine wc_region ?_
  refine wl_box hS rfl rfl rfl ?_
  intro ob w1 hS1
  refine wl_assign rfl rfl ?_
  refine wl_nil ?_
  refine qs_seq ?_
  refine wc_seq ?_
  refine wc_region ?_
  have hC2 := hS1.split [] [false, false] rfl; dsimp only [selF, pickA, nthA, List.cons_append, List.nil_append] at hC2
  refine wl_call cal_9 rfl (small_sp hC2) rfl ?_
  rintro e w2 ⟨_, rfl, rfl, hS2⟩; refine ⟨_, rfl, ?_⟩
  replace hS2 := hS2.join rfl; dsimp only [List.dropLast, List.cons_append, List.nil_append] at hS2; clear hC2
  clear hS1
  refine wl_assign rfl rfl ?_
  refine wl_nil ?_
  refine qs_seq ?_
  refine wc_seq ?_
  refine wc_region ?_
  refine wl_move rfl rfl ?_
  have hC3 := hS2.split [] [false, false] rfl; dsimp only [selF, pickA, nthA, List.cons_append, List.nil_append] at hC3
  refine wl_call cal_10 rfl (played_sp hC3 (hL.starL 1 rfl)) rfl ?_
  rintro e w3 ⟨_, rfl, p, rfl, hS3⟩; refine ⟨_, rfl, ?_⟩
  replace hS3 := hS3.join rfl; dsimp only [List.dropLast, List.cons_append, List.nil_append] at hS3; clear hC3
  clear hS2
  refine wl_assign rfl rfl ?_
  refine wl_nil ?_
  refine qs_seq ?_
  refine wc_sub (L' := [(10, _), (9, _), (8, _), (5, _), (0, _), (2, _), (3, _)]) (.cons rfl (.cons rfl (.cons rfl (.cons rfl (.cons rfl (.cons rfl (.cons rfl .nil))))))) ?_
  refine wc_seq ?_
  refine wc_seq ?_
  refine wc_region ?_
  refine wl_move rfl rfl ?_
  have hC4 := hS3.split [] [false, false, false] rfl; dsimp only [selF, pickA, nthA, List.cons_append, List.nil_append] at hC4
  refine wl_call cal_11 rfl (few_sp hC4 (hL.starL 2 rfl) 40) rfl ?_
  rintro e w4 ⟨_, rfl, rfl, hS4⟩; refine ⟨_, rfl, ?_⟩
  replace hS4 := hS4.join rfl; dsimp only [List.dropLast, List.cons_append, List.nil_append] at hS4; clear hC4
  clear hS3
  refine wl_not rfl rfl ?_
  refine wl_move rfl rfl ?_
  refine wl_split 25 rfl (fun h5 => ?_) (fun h5 => ?_)
  · skip
    refine wl_unwanted rfl rfl h5 rfl ?_
    refine wl_unwanted rfl rfl h5 rfl ?_
    refine wl_unwanted rfl rfl h5 rfl ?_
    refine wl_pickT rfl h5 rfl rfl ?_
    refine wl_move rfl rfl ?_
    refine wl_unwanted rfl rfl rfl rfl ?_
    refine wl_unwanted rfl rfl rfl rfl ?_
    refine wl_unwanted rfl rfl rfl rfl ?_
    refine wl_pickT rfl rfl rfl rfl ?_
    refine wl_move rfl rfl ?_
    refine wl_unwanted rfl rfl rfl rfl ?_
    refine wl_unwanted rfl rfl rfl rfl ?_
    refine wl_pickT rfl rfl rfl rfl ?_
    refine wl_nil ?_
    refine qs_seq ?_
    refine wc_sub (L' := [(38, _), (10, _), (9, _), (8, _), (5, _), (2, _), (3, _)]) (.cons rfl (.cons rfl (.cons rfl (.cons rfl (.cons rfl (.cons rfl (.cons rfl .nil))))))) ?_
    refine wc_condT rfl ?_
    refine wc_seq ?_
    refine wc_region ?_
    refine wl_move rfl rfl ?_
    refine wl_move rfl rfl ?_
    refine wl_guard rfl rfl rfl ?_
    refine wl_move rfl rfl ?_
    refine wl_guard rfl rfl rfl ?_
    refine wl_neqNil Tryd.underlying26 rfl rfl rfl ?_
    refine wl_pickT rfl rfl rfl rfl ?_
    refine wl_assign rfl rfl ?_
    refine wl_nil ?_
    refine qs_seq ?_
    refine wc_sub (L' := [(8, _), (10, _), (9, _), (5, _), (2, _), (3, _)]) (.cons rfl (.cons rfl (.cons rfl (.cons rfl (.cons rfl (.cons rfl .nil)))))) ?_
    refine wc_ret ?_
    refine qs_then_ret ?_
    refine fin1 (.inr rfl) rfl rfl ?_
    exact ⟨_, rfl, by first | rfl | (rw [decide_eq_true (do_time (by assumption))]), hS4.pick [2] rfl⟩
  · skip
    have hfew : fewB l 40 = true := by simpa using h5
    refine wl_guard rfl rfl h5 ?_
    refine wl_loadA (cs := opV o) (vs := opV o) rfl ag_24 sz_24 (hS4.blk 1 rfl) (by first | exact Nat.le_of_ble_eq_true rfl | simp [opV]) rfl rfl ?_
    refine wl_guard rfl rfl h5 ?_
    have hC6 := hS4.split [] [false, false, false] rfl; dsimp only [selF, pickA, nthA, List.cons_append, List.nil_append] at hC6
    refine wl_call cal_12 rfl (fits_sp hC6 o) rfl ?_
    rintro e w6 ⟨_, rfl, rfl, hS6⟩; refine ⟨_, rfl, ?_⟩
    replace hS6 := hS6.join rfl; dsimp only [List.dropLast, List.cons_append, List.nil_append] at hS6; clear hC6
    clear hS4
    refine wl_guard rfl rfl h5 ?_
    refine wl_not rfl rfl ?_
    refine wl_pickF rfl h5 rfl rfl ?_
    refine wl_move rfl rfl ?_
    refine wl_split 30 rfl (fun h7 => ?_) (fun h7 => ?_)
    · skip
      refine wl_unwanted rfl rfl h7 rfl ?_
      refine wl_unwanted rfl rfl h7 rfl ?_
      refine wl_unwanted rfl rfl h7 rfl ?_
      refine wl_pickT rfl h7 rfl rfl ?_
      refine wl_move rfl rfl ?_
      refine wl_unwanted rfl rfl rfl rfl ?_
      refine wl_unwanted rfl rfl rfl rfl ?_
      refine wl_pickT rfl rfl rfl rfl ?_
      refine wl_nil ?_
      refine qs_seq ?_
      refine wc_sub (L' := [(38, _), (10, _), (9, _), (8, _), (5, _), (2, _), (3, _)]) (.cons rfl (.cons rfl (.cons rfl (.cons rfl (.cons rfl (.cons rfl (.cons rfl .nil))))))) ?_
      refine wc_condT rfl ?_
      refine wc_seq ?_
      refine wc_region ?_
      refine wl_move rfl rfl ?_
      refine wl_move rfl rfl ?_
      refine wl_guard rfl rfl rfl ?_
      refine wl_move rfl rfl ?_
      refine wl_guard rfl rfl rfl ?_
      refine wl_neqNil Tryd.underlying26 rfl rfl rfl ?_
      refine wl_pickT rfl rfl rfl rfl ?_
      refine wl_assign rfl rfl ?_
      refine wl_nil ?_
      refine qs_seq ?_
      refine wc_sub (L' := [(8, _), (10, _), (9, _), (5, _), (2, _), (3, _)]) (.cons rfl (.cons rfl (.cons rfl (.cons rfl (.cons rfl (.cons rfl .nil)))))) ?_
      refine wc_ret ?_
      refine qs_then_ret ?_
      refine fin1 (.inr rfl) rfl rfl ?_
      exact ⟨_, rfl, by first | rfl | (rw [decide_eq_true (do_time (by assumption))]), hS6.pick [2] rfl⟩
    · skip
      have hfit : fitsB o = true := by simpa using h7
      refine wl_guard rfl rfl h7 ?_
      refine wl_move rfl rfl ?_
      refine wl_guard rfl rfl h7 ?_
      refine wl_lenS Tryd.underlying9 rfl rfl ?_
      refine wl_guard rfl rfl h7 ?_
      refine wl_gtr rfl rfl rfl ?_
      refine wl_pickF rfl h7 rfl rfl ?_
      refine wl_move rfl rfl ?_
      refine wl_splitD 35 rfl (fun h8 => ?_) (fun h8 => ?_)
      · skip
        refine wl_unwanted rfl rfl (decide_eq_true h8) rfl ?_
        refine wl_unwanted rfl rfl (decide_eq_true h8) rfl ?_
        refine wl_pickT rfl (decide_eq_true h8) rfl rfl ?_
        refine wl_nil ?_
        refine qs_seq ?_
        refine wc_sub (L' := [(38, _), (10, _), (9, _), (8, _), (5, _), (2, _), (3, _)]) (.cons rfl (.cons rfl (.cons rfl (.cons rfl (.cons rfl (.cons rfl (.cons rfl .nil))))))) ?_
        refine wc_condT rfl ?_
        refine wc_seq ?_
        refine wc_region ?_
        refine wl_move rfl rfl ?_
        refine wl_move rfl rfl ?_
        refine wl_guard rfl rfl rfl ?_
        refine wl_move rfl rfl ?_
        refine wl_guard rfl rfl rfl ?_
        refine wl_neqNil Tryd.underlying26 rfl rfl rfl ?_
        refine wl_pickT rfl rfl rfl rfl ?_
        refine wl_assign rfl rfl ?_
        refine wl_nil ?_
        refine qs_seq ?_
        refine wc_sub (L' := [(8, _), (10, _), (9, _), (5, _), (2, _), (3, _)]) (.cons rfl (.cons rfl (.cons rfl (.cons rfl (.cons rfl (.cons rfl .nil)))))) ?_
        refine wc_ret ?_
        refine qs_then_ret ?_
        refine fin1 (.inr rfl) rfl rfl ?_
        exact ⟨_, rfl, by first | rfl | (rw [decide_eq_true (do_time (by assumption))]), hS6.pick [2] rfl⟩
      · skip
        refine wl_guard rfl rfl (decide_eq_false h8) ?_
        refine wl_move rfl rfl ?_
        refine wl_guard rfl rfl (decide_eq_false h8) ?_
        refine wl_eqlNil Tryd.underlying26 rfl rfl rfl ?_
        refine wl_pickF rfl (decide_eq_false h8) rfl rfl ?_
        refine wl_nil ?_
        refine qs_seq ?_
        refine wc_sub (L' := [(38, _), (10, _), (9, _), (8, _), (5, _), (2, _), (3, _)]) (.cons rfl (.cons rfl (.cons rfl (.cons rfl (.cons rfl (.cons rfl (.cons rfl .nil))))))) ?_
        refine wc_condF rfl ?_
        refine wc_skip ?_
        refine qs_seq ?_
        refine wc_seq ?_
        refine wc_region ?_
        refine wl_move rfl rfl ?_
        refine wl_move rfl rfl ?_
        have hC9 := hS6.split [0] [true, false, false] rfl; dsimp only [selF, pickA, nthA, List.cons_append, List.nil_append] at hC9
        refine wl_call cal_13 rfl (get_sp hC9 nm) rfl ?_
        rintro e w9 ⟨_, rfl, rfl, hS9⟩; refine ⟨_, rfl, ?_⟩
        replace hS9 := hS9.join rfl; dsimp only [List.dropLast, List.cons_append, List.nil_append] at hS9; clear hC9
        clear hS6
        refine wl_assign rfl rfl ?_
        refine wl_nil ?_
        refine qs_seq ?_
        refine wc_sub (L' := [(11, _), (10, _), (9, _), (8, _), (5, _), (2, _), (3, _)]) (.cons rfl (.cons rfl (.cons rfl (.cons rfl (.cons rfl (.cons rfl (.cons rfl .nil))))))) ?_
        refine wc_seq ?_
        refine wc_region ?_
        refine wl_move rfl rfl ?_
        refine wl_move rfl rfl ?_
        refine wl_move rfl rfl ?_
        have hC10 := hS9.split [0] [true, false, false] rfl; dsimp only [selF, pickA, nthA, List.cons_append, List.nil_append] at hC10
        refine wl_call cal_14 rfl (byte_sp hC10 nm at_) rfl ?_
        rintro e w10 ⟨_, rfl, rfl, hS10⟩; refine ⟨_, rfl, ?_⟩
        replace hS10 := hS10.join rfl; dsimp only [List.dropLast, List.cons_append, List.nil_append] at hS10; clear hC10
        clear hS9
        refine wl_assign rfl rfl ?_
        refine wl_nil ?_
        refine qs_seq ?_
        refine wc_sub (L' := [(12, _), (11, _), (10, _), (9, _), (8, _), (5, _), (2, _), (3, _)]) (.cons rfl (.cons rfl (.cons rfl (.cons rfl (.cons rfl (.cons rfl (.cons rfl (.cons rfl .nil)))))))) ?_
        refine wc_seq ?_
        refine wc_region ?_
        refine wl_move rfl rfl ?_
        refine wl_move rfl rfl ?_
        have hC11 := hS10.split [0] [true, false, false] rfl; dsimp only [selF, pickA, nthA, List.cons_append, List.nil_append] at hC11
        refine wl_call cal_15 rfl (logs_sp hC11 nm) rfl ?_
        rintro e w11 ⟨_, rfl, rfl, hS11⟩; refine ⟨_, rfl, ?_⟩
        replace hS11 := hS11.join rfl; dsimp only [List.dropLast, List.cons_append, List.nil_append] at hS11; clear hC11
        clear hS10
        refine wl_assign rfl rfl ?_
        refine wl_nil ?_
        refine qs_seq ?_
        refine wc_sub (L' := [(13, _), (12, _), (11, _), (10, _), (9, _), (8, _), (5, _), (2, _), (3, _)]) (.cons rfl (.cons rfl (.cons rfl (.cons rfl (.cons rfl (.cons rfl (.cons rfl (.cons rfl (.cons rfl .nil))))))))) ?_
        refine wc_seq ?_
        refine wc_region ?_
        refine wl_move rfl rfl ?_
        refine wl_move rfl rfl ?_
        have hC12 := hS11.split [0] [true, false, false] rfl; dsimp only [selF, pickA, nthA, List.cons_append, List.nil_append] at hC12
        refine wl_call cal_16 rfl (object_sp hC12 nm) rfl ?_
        rintro e w12 ⟨_, rfl, rfl, hS12⟩; refine ⟨_, rfl, ?_⟩
        replace hS12 := hS12.join rfl; dsimp only [List.dropLast, List.cons_append, List.nil_append] at hS12; clear hC12
        clear hS11
        refine wl_assign rfl rfl ?_
        refine wl_nil ?_
        refine qs_seq ?_
        refine wc_sub (L' := [(14, _), (13, _), (12, _), (11, _), (10, _), (9, _), (8, _), (5, _), (2, _), (3, _)]) (.cons rfl (.cons rfl (.cons rfl (.cons rfl (.cons rfl (.cons rfl (.cons rfl (.cons rfl (.cons rfl (.cons rfl .nil)))))))))) ?_
        refine wc_seq ?_
        refine wc_region ?_
        refine wl_move rfl rfl ?_
        have hC13 := hS12.split [0] [true, false, false] rfl; dsimp only [selF, pickA, nthA, List.cons_append, List.nil_append] at hC13
        refine wl_call cal_17 rfl (start_sp hC13) rfl ?_
        rintro e w13 ⟨_, rfl, rfl, hS13⟩; refine ⟨_, rfl, ?_⟩
        replace hS13 := hS13.join rfl; dsimp only [List.dropLast, List.cons_append, List.nil_append] at hS13; clear hC13
        clear hS12
        refine wl_assign rfl rfl ?_
        refine wl_nil ?_
        refine qs_seq ?_
        refine wc_seq ?_
        refine wc_region ?_
        refine wl_move rfl rfl ?_
        refine wl_loadA (cs := opV o) (vs := opV o) rfl ag_24 sz_24 (hS13.blk 1 rfl) (by first | exact Nat.le_of_ble_eq_true rfl | simp [opV]) rfl rfl ?_
        have hC14 := hS13.split [0] [true, false, false] rfl; dsimp only [selF, pickA, nthA, List.cons_append, List.nil_append] at hC14
        refine wl_call cal_18 rfl (do_sp hC14 o (fit_of hfit) (played_inv l) (by omega)) rfl ?_
        rintro e w14 ⟨_, rfl, rfl, hS14⟩; refine ⟨_, rfl, ?_⟩
        replace hS14 := hS14.join rfl; dsimp only [List.dropLast, List.cons_append, List.nil_append] at hS14; clear hC14
        clear hS13
        refine wl_nil ?_
        refine qs_seq ?_
        refine wc_sub (L' := [(15, _), (14, _), (13, _), (12, _), (11, _), (10, _), (9, _), (8, _), (5, _), (2, _), (3, _)]) (.cons rfl (.cons rfl (.cons rfl (.cons rfl (.cons rfl (.cons rfl (.cons rfl (.cons rfl (.cons rfl (.cons rfl (.cons rfl .nil))))))))))) ?_
        refine wc_mid (fun E0 W0 => ∃ (c1 : Bool), E0 = [(2, strV nm), (3, intV at_), (5, ptrV ob 0), (9, .bool true), (10, ptrV p 0), (11, strV ((playedW l).cells nm)), (12, byteV (byteW (playedW l) nm at_)), (13, strV ((playedW l).logs nm)), (14, strV (objB (playedW l) nm)), (15, intV (playedW l).time), (16, .bool c1)] ∧ Sat W0 [blkT ob (opV o), worldT p (doS (playedW l) o), F] ∧ (c1 = false → ¬ (o.k = 0 ∧ o.a = nm))) ?_ ?_
        · skip
          refine wc_region ?_
          refine wl_fieldAddr rfl fo_24_0 rfl ?_
          refine wl_load rfl ag_3 (by first | assumption | exact hS14.cell 1 rfl rfl) rfl ?_
          refine wl_eql rfl rfl rfl ?_
          refine wl_move rfl rfl ?_
          refine wl_splitD 65 rfl (fun h16 => ?_) (fun h16 => ?_)
          · skip
            refine wl_guard rfl rfl (decide_eq_true h16) ?_
            refine wl_fieldAddr rfl fo_24_1 rfl ?_
            refine wl_guard rfl rfl (decide_eq_true h16) ?_
            refine wl_load rfl ag_9 (by first | assumption | exact hS14.cell 1 rfl rfl) rfl ?_
            refine wl_guard rfl rfl (decide_eq_true h16) ?_
            refine wl_move rfl rfl ?_
            refine wl_guard rfl rfl (decide_eq_true h16) ?_
            refine wl_eqlS rfl rfl rfl ?_
            refine wl_pickT rfl (decide_eq_true h16) rfl rfl ?_
            refine wl_assign rfl rfl ?_
            refine wl_nil ?_
            exact qs_mid (.cons rfl (.cons rfl (.cons rfl (.cons rfl (.cons rfl (.cons rfl (.cons rfl (.cons rfl (.cons rfl (.cons rfl (.cons rfl .nil))))))))))) ⟨_, rfl, hS14.pick [1, 0, 2] rfl, by intro hq; first | (simp at hq; simp_all; done) | (simp_all; done) | (simp at hq; omega)⟩
          · skip
            refine wl_unwanted rfl rfl (decide_eq_false h16) rfl ?_
            refine wl_unwanted rfl rfl (decide_eq_false h16) rfl ?_
            refine wl_unwanted rfl rfl (decide_eq_false h16) rfl ?_
            refine wl_unwanted rfl rfl (decide_eq_false h16) rfl ?_
            refine wl_pickF rfl (decide_eq_false h16) rfl rfl ?_
            refine wl_assign rfl rfl ?_
            refine wl_nil ?_
            exact qs_mid (.cons rfl (.cons rfl (.cons rfl (.cons rfl (.cons rfl (.cons rfl (.cons rfl (.cons rfl (.cons rfl (.cons rfl (.cons rfl .nil))))))))))) ⟨_, rfl, hS14.pick [1, 0, 2] rfl, by intro hq; first | (simp at hq; simp_all; done) | (simp_all; done) | (simp at hq; omega)⟩
        rintro _ w15 ⟨c1, rfl, hS15, hc1⟩
        refine wc_mid (fun E0 W0 => ∃ (c1 : Bool) (c2 : Bool), E0 = [(2, strV nm), (3, intV at_), (5, ptrV ob 0), (9, .bool true), (10, ptrV p 0), (11, strV ((playedW l).cells nm)), (12, byteV (byteW (playedW l) nm at_)), (13, strV ((playedW l).logs nm)), (14, strV (objB (playedW l) nm)), (15, intV (playedW l).time), (16, .bool c1), (17, .bool c2)] ∧ Sat W0 [blkT ob (opV o), worldT p (doS (playedW l) o), F] ∧ (c1 = false → ¬ (o.k = 0 ∧ o.a = nm)) ∧ (c2 = false → ¬ ((o.k = 1 ∨ o.k = 3) ∧ o.a = nm ∨ o.k = 2 ∧ o.b = nm))) ?_ ?_
        · skip
          refine wc_region ?_
          refine wl_fieldAddr rfl fo_24_0 rfl ?_
          refine wl_load rfl ag_3 (by first | assumption | exact hS15.cell 0 rfl rfl) rfl ?_
          refine wl_eql rfl rfl rfl ?_
          refine wl_move rfl rfl ?_
          refine wl_splitD 74 rfl (fun h18 => ?_) (fun h18 => ?_)
          · skip
            refine wl_unwanted rfl rfl (decide_eq_true h18) rfl ?_
            refine wl_unwanted rfl rfl (decide_eq_true h18) rfl ?_
            refine wl_unwanted rfl rfl (decide_eq_true h18) rfl ?_
            refine wl_pickT rfl (decide_eq_true h18) rfl rfl ?_
            refine wl_move rfl rfl ?_
            refine wl_guard rfl rfl rfl ?_
            refine wl_fieldAddr rfl fo_24_1 rfl ?_
            refine wl_guard rfl rfl rfl ?_
            refine wl_load rfl ag_9 (by first | assumption | exact hS15.cell 0 rfl rfl) rfl ?_
            refine wl_guard rfl rfl rfl ?_
            refine wl_move rfl rfl ?_
            refine wl_guard rfl rfl rfl ?_
            refine wl_eqlS rfl rfl rfl ?_
            refine wl_pickT rfl rfl rfl rfl ?_
            refine wl_move rfl rfl ?_
            refine wl_splitD 85 rfl (fun h19 => ?_) (fun h19 => ?_)
            · skip
              refine wl_unwanted rfl rfl (decide_eq_true h19) rfl ?_
              refine wl_unwanted rfl rfl (decide_eq_true h19) rfl ?_
              refine wl_unwanted rfl rfl (decide_eq_true h19) rfl ?_
              refine wl_unwanted rfl rfl (decide_eq_true h19) rfl ?_
              refine wl_unguarded rfl rfl rfl ?_
              refine wl_unguarded rfl rfl rfl ?_
              refine wl_unguarded rfl rfl rfl ?_
              refine wl_unguarded rfl rfl rfl ?_
              refine wl_unwanted rfl rfl (decide_eq_true h19) rfl ?_
              refine wl_pickT rfl (decide_eq_true h19) rfl rfl ?_
              refine wl_assign rfl rfl ?_
              refine wl_nil ?_
              exact qs_mid (.cons rfl (.cons rfl (.cons rfl (.cons rfl (.cons rfl (.cons rfl (.cons rfl (.cons rfl (.cons rfl (.cons rfl (.cons rfl (.cons rfl .nil)))))))))))) ⟨c1, _, rfl, hS15.pick [0, 1, 2] rfl, hc1, by intro hq; first | (simp at hq; simp_all; done) | (simp_all; done) | (simp at hq; omega)⟩
            · skip
              refine wl_guard rfl rfl (decide_eq_false h19) ?_
              refine wl_fieldAddr rfl fo_24_0 rfl ?_
              refine wl_guard rfl rfl (decide_eq_false h19) ?_
              refine wl_load rfl ag_3 (by first | assumption | exact hS15.cell 0 rfl rfl) rfl ?_
              refine wl_guard rfl rfl (decide_eq_false h19) ?_
              refine wl_eql rfl rfl rfl ?_
              refine wl_guard rfl rfl (decide_eq_false h19) ?_
              refine wl_move rfl rfl ?_
              refine wl_splitD 89 rfl (fun h20 => ?_) (fun h20 => ?_)
              · skip
                refine wl_guard rfl rfl (decide_eq_true h20) ?_
                refine wl_fieldAddr rfl fo_24_2 rfl ?_
                refine wl_guard rfl rfl (decide_eq_true h20) ?_
                refine wl_load rfl ag_9 (by first | assumption | exact hS15.cell 0 rfl rfl) rfl ?_
                refine wl_guard rfl rfl (decide_eq_true h20) ?_
                refine wl_move rfl rfl ?_
                refine wl_guard rfl rfl (decide_eq_true h20) ?_
                refine wl_eqlS rfl rfl rfl ?_
                refine wl_guard rfl rfl (decide_eq_false h19) ?_
                refine wl_pickT rfl (decide_eq_true h20) rfl rfl ?_
                refine wl_pickF rfl (decide_eq_false h19) rfl rfl ?_
                refine wl_assign rfl rfl ?_
                refine wl_nil ?_
                exact qs_mid (.cons rfl (.cons rfl (.cons rfl (.cons rfl (.cons rfl (.cons rfl (.cons rfl (.cons rfl (.cons rfl (.cons rfl (.cons rfl (.cons rfl .nil)))))))))))) ⟨c1, _, rfl, hS15.pick [0, 1, 2] rfl, hc1, by intro hq; first | (simp at hq; simp_all; done) | (simp_all; done) | (simp at hq; omega)⟩
              · skip
                refine wl_unwanted rfl rfl (decide_eq_false h20) rfl ?_
                refine wl_unwanted rfl rfl (decide_eq_false h20) rfl ?_
                refine wl_unwanted rfl rfl (decide_eq_false h20) rfl ?_
                refine wl_unwanted rfl rfl (decide_eq_false h20) rfl ?_
                refine wl_guard rfl rfl (decide_eq_false h19) ?_
                refine wl_pickF rfl (decide_eq_false h20) rfl rfl ?_
                refine wl_pickF rfl (decide_eq_false h19) rfl rfl ?_
                refine wl_assign rfl rfl ?_
                refine wl_nil ?_
                exact qs_mid (.cons rfl (.cons rfl (.cons rfl (.cons rfl (.cons rfl (.cons rfl (.cons rfl (.cons rfl (.cons rfl (.cons rfl (.cons rfl (.cons rfl .nil)))))))))))) ⟨c1, _, rfl, hS15.pick [0, 1, 2] rfl, hc1, by intro hq; first | (simp at hq; simp_all; done) | (simp_all; done) | (simp at hq; omega)⟩
          · skip
            refine wl_guard rfl rfl (decide_eq_false h18) ?_
            refine wl_fieldAddr rfl fo_24_0 rfl ?_
            refine wl_guard rfl rfl (decide_eq_false h18) ?_
            refine wl_load rfl ag_3 (by first | assumption | exact hS15.cell 0 rfl rfl) rfl ?_
            refine wl_guard rfl rfl (decide_eq_false h18) ?_
            refine wl_eql rfl rfl rfl ?_
            refine wl_pickF rfl (decide_eq_false h18) rfl rfl ?_
            refine wl_move rfl rfl ?_
            refine wl_splitD 79 rfl (fun h21 => ?_) (fun h21 => ?_)
            · skip
              refine wl_guard rfl rfl (decide_eq_true h21) ?_
              refine wl_fieldAddr rfl fo_24_1 rfl ?_
              refine wl_guard rfl rfl (decide_eq_true h21) ?_
              refine wl_load rfl ag_9 (by first | assumption | exact hS15.cell 0 rfl rfl) rfl ?_
              refine wl_guard rfl rfl (decide_eq_true h21) ?_
              refine wl_move rfl rfl ?_
              refine wl_guard rfl rfl (decide_eq_true h21) ?_
              refine wl_eqlS rfl rfl rfl ?_
              refine wl_pickT rfl (decide_eq_true h21) rfl rfl ?_
              refine wl_move rfl rfl ?_
              refine wl_splitD 85 rfl (fun h22 => ?_) (fun h22 => ?_)
              · skip
                refine wl_unwanted rfl rfl (decide_eq_true h22) rfl ?_
                refine wl_unwanted rfl rfl (decide_eq_true h22) rfl ?_
                refine wl_unwanted rfl rfl (decide_eq_true h22) rfl ?_
                refine wl_unwanted rfl rfl (decide_eq_true h22) rfl ?_
                refine wl_unguarded rfl rfl rfl ?_
                refine wl_unguarded rfl rfl rfl ?_
                refine wl_unguarded rfl rfl rfl ?_
                refine wl_unguarded rfl rfl rfl ?_
                refine wl_unwanted rfl rfl (decide_eq_true h22) rfl ?_
                refine wl_pickT rfl (decide_eq_true h22) rfl rfl ?_
                refine wl_assign rfl rfl ?_
                refine wl_nil ?_
                exact qs_mid (.cons rfl (.cons rfl (.cons rfl (.cons rfl (.cons rfl (.cons rfl (.cons rfl (.cons rfl (.cons rfl (.cons rfl (.cons rfl (.cons rfl .nil)))))))))))) ⟨c1, _, rfl, hS15.pick [0, 1, 2] rfl, hc1, by intro hq; first | (simp at hq; simp_all; done) | (simp_all; done) | (simp at hq; omega)⟩
              · skip
                refine wl_guard rfl rfl (decide_eq_false h22) ?_
                refine wl_fieldAddr rfl fo_24_0 rfl ?_
                refine wl_guard rfl rfl (decide_eq_false h22) ?_
                refine wl_load rfl ag_3 (by first | assumption | exact hS15.cell 0 rfl rfl) rfl ?_
                refine wl_guard rfl rfl (decide_eq_false h22) ?_
                refine wl_eql rfl rfl rfl ?_
                refine wl_guard rfl rfl (decide_eq_false h22) ?_
                refine wl_move rfl rfl ?_
                refine wl_splitD 89 rfl (fun h23 => ?_) (fun h23 => ?_)
                · skip
                  refine wl_guard rfl rfl (decide_eq_true h23) ?_
                  refine wl_fieldAddr rfl fo_24_2 rfl ?_
                  refine wl_guard rfl rfl (decide_eq_true h23) ?_
                  refine wl_load rfl ag_9 (by first | assumption | exact hS15.cell 0 rfl rfl) rfl ?_
                  refine wl_guard rfl rfl (decide_eq_true h23) ?_
                  refine wl_move rfl rfl ?_
                  refine wl_guard rfl rfl (decide_eq_true h23) ?_
                  refine wl_eqlS rfl rfl rfl ?_
                  refine wl_guard rfl rfl (decide_eq_false h22) ?_
                  refine wl_pickT rfl (decide_eq_true h23) rfl rfl ?_
                  refine wl_pickF rfl (decide_eq_false h22) rfl rfl ?_
                  refine wl_assign rfl rfl ?_
                  refine wl_nil ?_
                  exact qs_mid (.cons rfl (.cons rfl (.cons rfl (.cons rfl (.cons rfl (.cons rfl (.cons rfl (.cons rfl (.cons rfl (.cons rfl (.cons rfl (.cons rfl .nil)))))))))))) ⟨c1, _, rfl, hS15.pick [0, 1, 2] rfl, hc1, by intro hq; first | (simp at hq; simp_all; done) | (simp_all; done) | (simp at hq; omega)⟩
                · skip
                  refine wl_unwanted rfl rfl (decide_eq_false h23) rfl ?_
                  refine wl_unwanted rfl rfl (decide_eq_false h23) rfl ?_
                  refine wl_unwanted rfl rfl (decide_eq_false h23) rfl ?_
                  refine wl_unwanted rfl rfl (decide_eq_false h23) rfl ?_
                  refine wl_guard rfl rfl (decide_eq_false h22) ?_
                  refine wl_pickF rfl (decide_eq_false h23) rfl rfl ?_
                  refine wl_pickF rfl (decide_eq_false h22) rfl rfl ?_
                  refine wl_assign rfl rfl ?_
                  refine wl_nil ?_
                  exact qs_mid (.cons rfl (.cons rfl (.cons rfl (.cons rfl (.cons rfl (.cons rfl (.cons rfl (.cons rfl (.cons rfl (.cons rfl (.cons rfl (.cons rfl .nil)))))))))))) ⟨c1, _, rfl, hS15.pick [0, 1, 2] rfl, hc1, by intro hq; first | (simp at hq; simp_all; done) | (simp_all; done) | (simp at hq; omega)⟩
            · skip
              refine wl_unwanted rfl rfl (decide_eq_false h21) rfl ?_
              refine wl_unwanted rfl rfl (decide_eq_false h21) rfl ?_
              refine wl_unwanted rfl rfl (decide_eq_false h21) rfl ?_
              refine wl_unwanted rfl rfl (decide_eq_false h21) rfl ?_
              refine wl_pickF rfl (decide_eq_false h21) rfl rfl ?_
              refine wl_move rfl rfl ?_
              refine wl_guard rfl rfl rfl ?_
              refine wl_fieldAddr rfl fo_24_0 rfl ?_
              refine wl_guard rfl rfl rfl ?_
              refine wl_load rfl ag_3 (by first | assumption | exact hS15.cell 0 rfl rfl) rfl ?_
              refine wl_guard rfl rfl rfl ?_
              refine wl_eql rfl rfl rfl ?_
              refine wl_guard rfl rfl rfl ?_
              refine wl_move rfl rfl ?_
              refine wl_splitD 89 rfl (fun h24 => ?_) (fun h24 => ?_)
              · skip
                refine wl_guard rfl rfl (decide_eq_true h24) ?_
                refine wl_fieldAddr rfl fo_24_2 rfl ?_
                refine wl_guard rfl rfl (decide_eq_true h24) ?_
                refine wl_load rfl ag_9 (by first | assumption | exact hS15.cell 0 rfl rfl) rfl ?_
                refine wl_guard rfl rfl (decide_eq_true h24) ?_
                refine wl_move rfl rfl ?_
                refine wl_guard rfl rfl (decide_eq_true h24) ?_
                refine wl_eqlS rfl rfl rfl ?_
                refine wl_guard rfl rfl rfl ?_
                refine wl_pickT rfl (decide_eq_true h24) rfl rfl ?_
                refine wl_pickF rfl rfl rfl rfl ?_
                refine wl_assign rfl rfl ?_
                refine wl_nil ?_
                exact qs_mid (.cons rfl (.cons rfl (.cons rfl (.cons rfl (.cons rfl (.cons rfl (.cons rfl (.cons rfl (.cons rfl (.cons rfl (.cons rfl (.cons rfl .nil)))))))))))) ⟨c1, _, rfl, hS15.pick [0, 1, 2] rfl, hc1, by intro hq; first | (simp at hq; simp_all; done) | (simp_all; done) | (simp at hq; omega)⟩
              · skip
                refine wl_unwanted rfl rfl (decide_eq_false h24) rfl ?_
                refine wl_unwanted rfl rfl (decide_eq_false h24) rfl ?_
                refine wl_unwanted rfl rfl (decide_eq_false h24) rfl ?_
                refine wl_unwanted rfl rfl (decide_eq_false h24) rfl ?_
                refine wl_guard rfl rfl rfl ?_
                refine wl_pickF rfl (decide_eq_false h24) rfl rfl ?_
                refine wl_pickF rfl rfl rfl rfl ?_
                refine wl_assign rfl rfl ?_
                refine wl_nil ?_
                exact qs_mid (.cons rfl (.cons rfl (.cons rfl (.cons rfl (.cons rfl (.cons rfl (.cons rfl (.cons rfl (.cons rfl (.cons rfl (.cons rfl (.cons rfl .nil)))))))))))) ⟨c1, _, rfl, hS15.pick [0, 1, 2] rfl, hc1, by intro hq; first | (simp at hq; simp_all; done) | (simp_all; done) | (simp at hq; omega)⟩
        rintro _ w17 ⟨c1, c2, rfl, hS17, hc1, hc2⟩
        refine wc_mid (fun E0 W0 => ∃ (c1 : Bool) (c2 : Bool) (c3 : Bool), E0 = [(2, strV nm), (3, intV at_), (5, ptrV ob 0), (9, .bool true), (10, ptrV p 0), (11, strV ((playedW l).cells nm)), (12, byteV (byteW (playedW l) nm at_)), (13, strV ((playedW l).logs nm)), (14, strV (objB (playedW l) nm)), (15, intV (playedW l).time), (16, .bool c1), (17, .bool c2), (18, .bool c3)] ∧ Sat W0 [blkT ob (opV o), worldT p (doS (playedW l) o), F] ∧ (c1 = false → ¬ (o.k = 0 ∧ o.a = nm)) ∧ (c2 = false → ¬ ((o.k = 1 ∨ o.k = 3) ∧ o.a = nm ∨ o.k = 2 ∧ o.b = nm)) ∧ (c3 = false → ¬ (o.k = 4 ∧ o.a = nm))) ?_ ?_
        · skip
          refine wc_region ?_
          refine wl_fieldAddr rfl fo_24_0 rfl ?_
          refine wl_load rfl ag_3 (by first | assumption | exact hS17.cell 0 rfl rfl) rfl ?_
          refine wl_eql rfl rfl rfl ?_
          refine wl_move rfl rfl ?_
          refine wl_splitD 99 rfl (fun h26 => ?_) (fun h26 => ?_)
          · skip
            refine wl_guard rfl rfl (decide_eq_true h26) ?_
            refine wl_fieldAddr rfl fo_24_1 rfl ?_
            refine wl_guard rfl rfl (decide_eq_true h26) ?_
            refine wl_load rfl ag_9 (by first | assumption | exact hS17.cell 0 rfl rfl) rfl ?_
            refine wl_guard rfl rfl (decide_eq_true h26) ?_
            refine wl_move rfl rfl ?_
            refine wl_guard rfl rfl (decide_eq_true h26) ?_
            refine wl_eqlS rfl rfl rfl ?_
            refine wl_pickT rfl (decide_eq_true h26) rfl rfl ?_
            refine wl_assign rfl rfl ?_
            refine wl_nil ?_
            exact qs_mid (.cons rfl (.cons rfl (.cons rfl (.cons rfl (.cons rfl (.cons rfl (.cons rfl (.cons rfl (.cons rfl (.cons rfl (.cons rfl (.cons rfl (.cons rfl .nil))))))))))))) ⟨c1, c2, _, rfl, hS17.pick [0, 1, 2] rfl, hc1, hc2, by intro hq; first | (simp at hq; simp_all; done) | (simp_all; done) | (simp at hq; omega)⟩
          · skip
            refine wl_unwanted rfl rfl (decide_eq_false h26) rfl ?_
            refine wl_unwanted rfl rfl (decide_eq_false h26) rfl ?_
            refine wl_unwanted rfl rfl (decide_eq_false h26) rfl ?_
            refine wl_unwanted rfl rfl (decide_eq_false h26) rfl ?_
            refine wl_pickF rfl (decide_eq_false h26) rfl rfl ?_
            refine wl_assign rfl rfl ?_
            refine wl_nil ?_
            exact qs_mid (.cons rfl (.cons rfl (.cons rfl (.cons rfl (.cons rfl (.cons rfl (.cons rfl (.cons rfl (.cons rfl (.cons rfl (.cons rfl (.cons rfl (.cons rfl .nil))))))))))))) ⟨c1, c2, _, rfl, hS17.pick [0, 1, 2] rfl, hc1, hc2, by intro hq; first | (simp at hq; simp_all; done) | (simp_all; done) | (simp at hq; omega)⟩
        rintro _ w25 ⟨c1, c2, c3, rfl, hS25, hc1, hc2, hc3⟩
        refine wc_seq ?_
        refine wc_seq ?_
        refine wc_region ?_
        refine wl_move rfl rfl ?_
        refine wl_not rfl rfl ?_
        refine wl_move rfl rfl ?_
        refine wl_split 107 rfl (fun h27 => ?_) (fun h27 => ?_)
        · skip
          have e1 := do_cells (W := playedW l) (hc1 (by simpa using h27))
          refine wl_guard rfl rfl h27 ?_
          refine wl_move rfl rfl ?_
          refine wl_guard rfl rfl h27 ?_
          refine wl_move rfl rfl ?_
          refine wl_guard rfl rfl h27 ?_
          have hC28 := hS25.split [1] [false, true, false] rfl; dsimp only [selF, pickA, nthA, List.cons_append, List.nil_append] at hC28
          refine wl_call cal_13 rfl (get_sp hC28 nm) rfl ?_
          rintro e w28 ⟨_, rfl, rfl, hS28⟩; refine ⟨_, rfl, ?_⟩
          replace hS28 := hS28.join rfl; dsimp only [List.dropLast, List.cons_append, List.nil_append] at hS28; clear hC28
          clear hS25
          refine wl_guard rfl rfl h27 ?_
          refine wl_move rfl rfl ?_
          refine wl_guard rfl rfl h27 ?_
          refine wl_neqS rfl rfl rfl ?_
          refine wl_pickT rfl h27 rfl rfl ?_
          refine wl_move rfl rfl ?_
          refine wl_splitD 114 rfl (fun h29 => ?_) (fun h29 => ?_)
          · skip
            exact absurd e1 h29
          · skip
            refine wl_guard rfl rfl (decide_eq_false h29) ?_
            refine wl_move rfl rfl ?_
            refine wl_guard rfl rfl (decide_eq_false h29) ?_
            refine wl_not rfl rfl ?_
            refine wl_guard rfl rfl (decide_eq_false h29) ?_
            refine wl_move rfl rfl ?_
            refine wl_split 117 rfl (fun h30 => ?_) (fun h30 => ?_)
            · skip
              have eo := do_objs (W := playedW l) (hc2 (by simpa using h30))
              have e2 := byteW_congr eo at_
              have e3 := objB_congr eo
              refine wl_guard rfl rfl h30 ?_
              refine wl_move rfl rfl ?_
              refine wl_guard rfl rfl h30 ?_
              refine wl_move rfl rfl ?_
              refine wl_guard rfl rfl h30 ?_
              refine wl_move rfl rfl ?_
              refine wl_guard rfl rfl h30 ?_
              have hC31 := hS28.split [0] [true, false, false] rfl; dsimp only [selF, pickA, nthA, List.cons_append, List.nil_append] at hC31
              refine wl_call cal_14 rfl (byte_sp hC31 nm at_) rfl ?_
              rintro e w31 ⟨_, rfl, rfl, hS31⟩; refine ⟨_, rfl, ?_⟩
              replace hS31 := hS31.join rfl; dsimp only [List.dropLast, List.cons_append, List.nil_append] at hS31; clear hC31
              clear hS28
              refine wl_guard rfl rfl h30 ?_
              refine wl_move rfl rfl ?_
              refine wl_guard rfl rfl h30 ?_
              refine wl_neq rfl rfl rfl ?_
              refine wl_guard rfl rfl h30 ?_
              refine wl_move rfl rfl ?_
              refine wl_splitD 124 rfl (fun h32 => ?_) (fun h32 => ?_)
              · skip
                exact absurd (by rw [e2]) h32
              · skip
                refine wl_guard rfl rfl (decide_eq_false h32) ?_
                refine wl_move rfl rfl ?_
                refine wl_guard rfl rfl (decide_eq_false h32) ?_
                refine wl_move rfl rfl ?_
                refine wl_guard rfl rfl (decide_eq_false h32) ?_
                have hC33 := hS31.split [0] [true, false, false] rfl; dsimp only [selF, pickA, nthA, List.cons_append, List.nil_append] at hC33
                refine wl_call cal_16 rfl (object_sp hC33 nm) rfl ?_
                rintro e w33 ⟨_, rfl, rfl, hS33⟩; refine ⟨_, rfl, ?_⟩
                replace hS33 := hS33.join rfl; dsimp only [List.dropLast, List.cons_append, List.nil_append] at hS33; clear hC33
                clear hS31
                refine wl_guard rfl rfl (decide_eq_false h32) ?_
                refine wl_move rfl rfl ?_
                refine wl_guard rfl rfl (decide_eq_false h32) ?_
                refine wl_neqS rfl rfl rfl ?_
                refine wl_guard rfl rfl h30 ?_
                refine wl_pickF rfl (decide_eq_false h32) rfl rfl ?_
                refine wl_guard rfl rfl (decide_eq_false h29) ?_
                refine wl_pickT rfl h30 rfl rfl ?_
                refine wl_pickF rfl (decide_eq_false h29) rfl rfl ?_
                refine wl_move rfl rfl ?_
                refine wl_splitD 133 rfl (fun h34 => ?_) (fun h34 => ?_)
                · skip
                  exact absurd e3 h34
                · skip
                  refine wl_guard rfl rfl (decide_eq_false h34) ?_
                  refine wl_move rfl rfl ?_
                  refine wl_guard rfl rfl (decide_eq_false h34) ?_
                  refine wl_not rfl rfl ?_
                  refine wl_guard rfl rfl (decide_eq_false h34) ?_
                  refine wl_move rfl rfl ?_
                  refine wl_split 136 rfl (fun h35 => ?_) (fun h35 => ?_)
                  · skip
                    have e4 := do_logs (W := playedW l) (hc3 (by simpa using h35))
                    refine wl_guard rfl rfl h35 ?_
                    refine wl_move rfl rfl ?_
                    refine wl_guard rfl rfl h35 ?_
                    refine wl_move rfl rfl ?_
                    refine wl_guard rfl rfl h35 ?_
                    have hC36 := hS33.split [0] [true, false, false] rfl; dsimp only [selF, pickA, nthA, List.cons_append, List.nil_append] at hC36
                    refine wl_call cal_15 rfl (logs_sp hC36 nm) rfl ?_
                    rintro e w36 ⟨_, rfl, rfl, hS36⟩; refine ⟨_, rfl, ?_⟩
                    replace hS36 := hS36.join rfl; dsimp only [List.dropLast, List.cons_append, List.nil_append] at hS36; clear hC36
                    clear hS33
                    refine wl_guard rfl rfl h35 ?_
                    refine wl_move rfl rfl ?_
                    refine wl_guard rfl rfl h35 ?_
                    refine wl_neqS rfl rfl rfl ?_
                    refine wl_guard rfl rfl (decide_eq_false h34) ?_
                    refine wl_pickT rfl h35 rfl rfl ?_
                    refine wl_pickF rfl (decide_eq_false h34) rfl rfl ?_
                    refine wl_nil ?_
                    refine qs_seq ?_
                    refine wc_sub (L' := [(143, _), (5, _), (9, _), (10, _), (15, _)]) (.cons rfl (.cons rfl (.cons rfl (.cons rfl (.cons rfl .nil))))) ?_
                    refine wc_condD rfl (fun h37 => ?_) (fun h37 => ?_)
                    · skip
                      exact absurd e4 h37
                    · skip
                      refine wc_skip ?_
                      refine qs_seq ?_
                      refine wc_seq ?_
                      refine wc_region ?_
                      refine wl_move rfl rfl ?_
                      refine wl_move rfl rfl ?_
                      refine wl_guard rfl rfl rfl ?_
                      refine wl_fieldAddr rfl fo_24_0 rfl ?_
                      refine wl_guard rfl rfl rfl ?_
                      refine wl_load rfl ag_3 (by first | assumption | exact hS36.cell 1 rfl rfl) rfl ?_
                      refine wl_guard rfl rfl rfl ?_
                      refine wl_eql rfl rfl rfl ?_
                      refine wl_guard rfl rfl rfl ?_
                      refine wl_move rfl rfl ?_
                      refine wl_splitD 149 rfl (fun h38 => ?_) (fun h38 => ?_)
                      · skip
                        refine wl_unwanted rfl rfl (decide_eq_true h38) rfl ?_
                        refine wl_unwanted rfl rfl (decide_eq_true h38) rfl ?_
                        refine wl_unwanted rfl rfl (decide_eq_true h38) rfl ?_
                        refine wl_unwanted rfl rfl (decide_eq_true h38) rfl ?_
                        refine wl_guard rfl rfl rfl ?_
                        refine wl_pickT rfl (decide_eq_true h38) rfl rfl ?_
                        refine wl_pickT rfl rfl rfl rfl ?_
                        refine wl_assign rfl rfl ?_
                        refine wl_nil ?_
                        refine qs_seq ?_
                        refine wc_sub (L' := [(8, _)]) (.cons rfl .nil) ?_
                        refine wc_ret ?_
                        refine fin1 (.inr rfl) rfl rfl ?_
                        exact ⟨_, rfl, by first | rfl | (rw [decide_eq_true (do_time (by assumption))]), hS36.pick [2] rfl⟩
                      · skip
                        refine wl_guard rfl rfl (decide_eq_false h38) ?_
                        refine wl_move rfl rfl ?_
                        refine wl_guard rfl rfl (decide_eq_false h38) ?_
                        have hC39 := hS36.split [0] [true, false, false] rfl; dsimp only [selF, pickA, nthA, List.cons_append, List.nil_append] at hC39
                        refine wl_call cal_17 rfl (start_sp hC39) rfl ?_
                        rintro e w39 ⟨_, rfl, rfl, hS39⟩; refine ⟨_, rfl, ?_⟩
                        replace hS39 := hS39.join rfl; dsimp only [List.dropLast, List.cons_append, List.nil_append] at hS39; clear hC39
                        clear hS36
                        refine wl_guard rfl rfl (decide_eq_false h38) ?_
                        refine wl_move rfl rfl ?_
                        refine wl_guard rfl rfl (decide_eq_false h38) ?_
                        refine wl_eql rfl rfl rfl ?_
                        refine wl_guard rfl rfl rfl ?_
                        refine wl_pickF rfl (decide_eq_false h38) rfl rfl ?_
                        refine wl_pickT rfl rfl rfl rfl ?_
                        refine wl_assign rfl rfl ?_
                        refine wl_nil ?_
                        refine qs_seq ?_
                        refine wc_sub (L' := [(8, _)]) (.cons rfl .nil) ?_
                        refine wc_ret ?_
                        refine fin1 (.inr rfl) rfl rfl ?_
                        exact ⟨_, rfl, by first | rfl | (rw [decide_eq_true (do_time (by assumption))]), hS39.pick [2] rfl⟩
                  · skip
                    refine wl_unwanted rfl rfl h35 rfl ?_
                    refine wl_unwanted rfl rfl h35 rfl ?_
                    refine wl_unwanted rfl rfl h35 rfl ?_
                    refine wl_unwanted rfl rfl h35 rfl ?_
                    refine wl_unwanted rfl rfl h35 rfl ?_
                    refine wl_guard rfl rfl (decide_eq_false h34) ?_
                    refine wl_pickF rfl h35 rfl rfl ?_
                    refine wl_pickF rfl (decide_eq_false h34) rfl rfl ?_
                    refine wl_nil ?_
                    refine qs_seq ?_
                    refine wc_sub (L' := [(143, _), (5, _), (9, _), (10, _), (15, _)]) (.cons rfl (.cons rfl (.cons rfl (.cons rfl (.cons rfl .nil))))) ?_
                    refine wc_condF rfl ?_
                    refine wc_skip ?_
                    refine qs_seq ?_
                    refine wc_seq ?_
                    refine wc_region ?_
                    refine wl_move rfl rfl ?_
                    refine wl_move rfl rfl ?_
                    refine wl_guard rfl rfl rfl ?_
                    refine wl_fieldAddr rfl fo_24_0 rfl ?_
                    refine wl_guard rfl rfl rfl ?_
                    refine wl_load rfl ag_3 (by first | assumption | exact hS33.cell 1 rfl rfl) rfl ?_
                    refine wl_guard rfl rfl rfl ?_
                    refine wl_eql rfl rfl rfl ?_
                    refine wl_guard rfl rfl rfl ?_
                    refine wl_move rfl rfl ?_
                    refine wl_splitD 149 rfl (fun h40 => ?_) (fun h40 => ?_)
                    · skip
                      refine wl_unwanted rfl rfl (decide_eq_true h40) rfl ?_
                      refine wl_unwanted rfl rfl (decide_eq_true h40) rfl ?_
                      refine wl_unwanted rfl rfl (decide_eq_true h40) rfl ?_
                      refine wl_unwanted rfl rfl (decide_eq_true h40) rfl ?_
                      refine wl_guard rfl rfl rfl ?_
                      refine wl_pickT rfl (decide_eq_true h40) rfl rfl ?_
                      refine wl_pickT rfl rfl rfl rfl ?_
                      refine wl_assign rfl rfl ?_
                      refine wl_nil ?_
                      refine qs_seq ?_
                      refine wc_sub (L' := [(8, _)]) (.cons rfl .nil) ?_
                      refine wc_ret ?_
                      refine fin1 (.inr rfl) rfl rfl ?_
                      exact ⟨_, rfl, by first | rfl | (rw [decide_eq_true (do_time (by assumption))]), hS33.pick [2] rfl⟩
                    · skip
                      refine wl_guard rfl rfl (decide_eq_false h40) ?_
                      refine wl_move rfl rfl ?_
                      refine wl_guard rfl rfl (decide_eq_false h40) ?_
                      have hC41 := hS33.split [0] [true, false, false] rfl; dsimp only [selF, pickA, nthA, List.cons_append, List.nil_append] at hC41
                      refine wl_call cal_17 rfl (start_sp hC41) rfl ?_
                      rintro e w41 ⟨_, rfl, rfl, hS41⟩; refine ⟨_, rfl, ?_⟩
                      replace hS41 := hS41.join rfl; dsimp only [List.dropLast, List.cons_append, List.nil_append] at hS41; clear hC41
                      clear hS33
                      refine wl_guard rfl rfl (decide_eq_false h40) ?_
                      refine wl_move rfl rfl ?_
                      refine wl_guard rfl rfl (decide_eq_false h40) ?_
                      refine wl_eql rfl rfl rfl ?_
                      refine wl_guard rfl rfl rfl ?_
                      refine wl_pickF rfl (decide_eq_false h40) rfl rfl ?_
                      refine wl_pickT rfl rfl rfl rfl ?_
                      refine wl_assign rfl rfl ?_
                      refine wl_nil ?_
                      refine qs_seq ?_
                      refine wc_sub (L' := [(8, _)]) (.cons rfl .nil) ?_
                      refine wc_ret ?_
                      refine fin1 (.inr rfl) rfl rfl ?_
                      exact ⟨_, rfl, by first | rfl | (rw [decide_eq_true (do_time (by assumption))]), hS41.pick [2] rfl⟩
            · skip
              refine wl_unwanted rfl rfl h30 rfl ?_
              refine wl_unwanted rfl rfl h30 rfl ?_
              refine wl_unwanted rfl rfl h30 rfl ?_
              refine wl_unwanted rfl rfl h30 rfl ?_
              refine wl_unwanted rfl rfl h30 rfl ?_
              refine wl_unwanted rfl rfl h30 rfl ?_
              refine wl_unwanted rfl rfl h30 rfl ?_
              refine wl_unguarded rfl rfl rfl ?_
              refine wl_unguarded rfl rfl rfl ?_
              refine wl_unguarded rfl rfl rfl ?_
              refine wl_unguarded rfl rfl rfl ?_
              refine wl_unguarded rfl rfl rfl ?_
              refine wl_unwanted rfl rfl h30 rfl ?_
              refine wl_guard rfl rfl (decide_eq_false h29) ?_
              refine wl_pickF rfl h30 rfl rfl ?_
              refine wl_pickF rfl (decide_eq_false h29) rfl rfl ?_
              refine wl_move rfl rfl ?_
              refine wl_guard rfl rfl rfl ?_
              refine wl_move rfl rfl ?_
              refine wl_guard rfl rfl rfl ?_
              refine wl_not rfl rfl ?_
              refine wl_guard rfl rfl rfl ?_
              refine wl_move rfl rfl ?_
              refine wl_split 136 rfl (fun h42 => ?_) (fun h42 => ?_)
              · skip
                have e4 := do_logs (W := playedW l) (hc3 (by simpa using h42))
                refine wl_guard rfl rfl h42 ?_
                refine wl_move rfl rfl ?_
                refine wl_guard rfl rfl h42 ?_
                refine wl_move rfl rfl ?_
                refine wl_guard rfl rfl h42 ?_
                have hC43 := hS28.split [0] [true, false, false] rfl; dsimp only [selF, pickA, nthA, List.cons_append, List.nil_append] at hC43
                refine wl_call cal_15 rfl (logs_sp hC43 nm) rfl ?_
                rintro e w43 ⟨_, rfl, rfl, hS43⟩; refine ⟨_, rfl, ?_⟩
                replace hS43 := hS43.join rfl; dsimp only [List.dropLast, List.cons_append, List.nil_append] at hS43; clear hC43
                clear hS28
                refine wl_guard rfl rfl h42 ?_
                refine wl_move rfl rfl ?_
                refine wl_guard rfl rfl h42 ?_
                refine wl_neqS rfl rfl rfl ?_
                refine wl_guard rfl rfl rfl ?_
                refine wl_pickT rfl h42 rfl rfl ?_
                refine wl_pickF rfl rfl rfl rfl ?_
                refine wl_nil ?_
                refine qs_seq ?_
                refine wc_sub (L' := [(143, _), (5, _), (9, _), (10, _), (15, _)]) (.cons rfl (.cons rfl (.cons rfl (.cons rfl (.cons rfl .nil))))) ?_
                refine wc_condD rfl (fun h44 => ?_) (fun h44 => ?_)
                · skip
                  exact absurd e4 h44
                · skip
                  refine wc_skip ?_
                  refine qs_seq ?_
                  refine wc_seq ?_
                  refine wc_region ?_
                  refine wl_move rfl rfl ?_
                  refine wl_move rfl rfl ?_
                  refine wl_guard rfl rfl rfl ?_
                  refine wl_fieldAddr rfl fo_24_0 rfl ?_
                  refine wl_guard rfl rfl rfl ?_
                  refine wl_load rfl ag_3 (by first | assumption | exact hS43.cell 1 rfl rfl) rfl ?_
                  refine wl_guard rfl rfl rfl ?_
                  refine wl_eql rfl rfl rfl ?_
                  refine wl_guard rfl rfl rfl ?_
                  refine wl_move rfl rfl ?_
                  refine wl_splitD 149 rfl (fun h45 => ?_) (fun h45 => ?_)
                  · skip
                    refine wl_unwanted rfl rfl (decide_eq_true h45) rfl ?_
                    refine wl_unwanted rfl rfl (decide_eq_true h45) rfl ?_
                    refine wl_unwanted rfl rfl (decide_eq_true h45) rfl ?_
                    refine wl_unwanted rfl rfl (decide_eq_true h45) rfl ?_
                    refine wl_guard rfl rfl rfl ?_
                    refine wl_pickT rfl (decide_eq_true h45) rfl rfl ?_
                    refine wl_pickT rfl rfl rfl rfl ?_
                    refine wl_assign rfl rfl ?_
                    refine wl_nil ?_
                    refine qs_seq ?_
                    refine wc_sub (L' := [(8, _)]) (.cons rfl .nil) ?_
                    refine wc_ret ?_
                    refine fin1 (.inr rfl) rfl rfl ?_
                    exact ⟨_, rfl, by first | rfl | (rw [decide_eq_true (do_time (by assumption))]), hS43.pick [2] rfl⟩
                  · skip
                    refine wl_guard rfl rfl (decide_eq_false h45) ?_
                    refine wl_move rfl rfl ?_
                    refine wl_guard rfl rfl (decide_eq_false h45) ?_
                    have hC46 := hS43.split [0] [true, false, false] rfl; dsimp only [selF, pickA, nthA, List.cons_append, List.nil_append] at hC46
                    refine wl_call cal_17 rfl (start_sp hC46) rfl ?_
                    rintro e w46 ⟨_, rfl, rfl, hS46⟩; refine ⟨_, rfl, ?_⟩
                    replace hS46 := hS46.join rfl; dsimp only [List.dropLast, List.cons_append, List.nil_append] at hS46; clear hC46
                    clear hS43
                    refine wl_guard rfl rfl (decide_eq_false h45) ?_
                    refine wl_move rfl rfl ?_
                    refine wl_guard rfl rfl (decide_eq_false h45) ?_
                    refine wl_eql rfl rfl rfl ?_
                    refine wl_guard rfl rfl rfl ?_
                    refine wl_pickF rfl (decide_eq_false h45) rfl rfl ?_
                    refine wl_pickT rfl rfl rfl rfl ?_
                    refine wl_assign rfl rfl ?_
                    refine wl_nil ?_
                    refine qs_seq ?_
                    refine wc_sub (L' := [(8, _)]) (.cons rfl .nil) ?_
                    refine wc_ret ?_
                    refine fin1 (.inr rfl) rfl rfl ?_
                    exact ⟨_, rfl, by first | rfl | (rw [decide_eq_true (do_time (by assumption))]), hS46.pick [2] rfl⟩
              · skip
                refine wl_unwanted rfl rfl h42 rfl ?_
                refine wl_unwanted rfl rfl h42 rfl ?_
                refine wl_unwanted rfl rfl h42 rfl ?_
                refine wl_unwanted rfl rfl h42 rfl ?_
                refine wl_unwanted rfl rfl h42 rfl ?_
                refine wl_guard rfl rfl rfl ?_
                refine wl_pickF rfl h42 rfl rfl ?_
                refine wl_pickF rfl rfl rfl rfl ?_
                refine wl_nil ?_
                refine qs_seq ?_
                refine wc_sub (L' := [(143, _), (5, _), (9, _), (10, _), (15, _)]) (.cons rfl (.cons rfl (.cons rfl (.cons rfl (.cons rfl .nil))))) ?_
                refine wc_condF rfl ?_
                refine wc_skip ?_
                refine qs_seq ?_
                refine wc_seq ?_
                refine wc_region ?_
                refine wl_move rfl rfl ?_
                refine wl_move rfl rfl ?_
                refine wl_guard rfl rfl rfl ?_
                refine wl_fieldAddr rfl fo_24_0 rfl ?_
                refine wl_guard rfl rfl rfl ?_
                refine wl_load rfl ag_3 (by first | assumption | exact hS28.cell 1 rfl rfl) rfl ?_
                refine wl_guard rfl rfl rfl ?_
                refine wl_eql rfl rfl rfl ?_
                refine wl_guard rfl rfl rfl ?_
                refine wl_move rfl rfl ?_
                refine wl_splitD 149 rfl (fun h47 => ?_) (fun h47 => ?_)
                · skip
                  refine wl_unwanted rfl rfl (decide_eq_true h47) rfl ?_
                  refine wl_unwanted rfl rfl (decide_eq_true h47) rfl ?_
                  refine wl_unwanted rfl rfl (decide_eq_true h47) rfl ?_
                  refine wl_unwanted rfl rfl (decide_eq_true h47) rfl ?_
                  refine wl_guard rfl rfl rfl ?_
                  refine wl_pickT rfl (decide_eq_true h47) rfl rfl ?_
                  refine wl_pickT rfl rfl rfl rfl ?_
                  refine wl_assign rfl rfl ?_
                  refine wl_nil ?_
                  refine qs_seq ?_
                  refine wc_sub (L' := [(8, _)]) (.cons rfl .nil) ?_
                  refine wc_ret ?_
                  refine fin1 (.inr rfl) rfl rfl ?_
                  exact ⟨_, rfl, by first | rfl | (rw [decide_eq_true (do_time (by assumption))]), hS28.pick [2] rfl⟩
                · skip
                  refine wl_guard rfl rfl (decide_eq_false h47) ?_
                  refine wl_move rfl rfl ?_
                  refine wl_guard rfl rfl (decide_eq_false h47) ?_
                  have hC48 := hS28.split [0] [true, false, false] rfl; dsimp only [selF, pickA, nthA, List.cons_append, List.nil_append] at hC48
                  refine wl_call cal_17 rfl (start_sp hC48) rfl ?_
                  rintro e w48 ⟨_, rfl, rfl, hS48⟩; refine ⟨_, rfl, ?_⟩
                  replace hS48 := hS48.join rfl; dsimp only [List.dropLast, List.cons_append, List.nil_append] at hS48; clear hC48
                  clear hS28
                  refine wl_guard rfl rfl (decide_eq_false h47) ?_
                  refine wl_move rfl rfl ?_
                  refine wl_guard rfl rfl (decide_eq_false h47) ?_
                  refine wl_eql rfl rfl rfl ?_
                  refine wl_guard rfl rfl rfl ?_
                  refine wl_pickF rfl (decide_eq_false h47) rfl rfl ?_
                  refine wl_pickT rfl rfl rfl rfl ?_
                  refine wl_assign rfl rfl ?_
                  refine wl_nil ?_
                  refine qs_seq ?_
                  refine wc_sub (L' := [(8, _)]) (.cons rfl .nil) ?_
                  refine wc_ret ?_
                  refine fin1 (.inr rfl) rfl rfl ?_
                  exact ⟨_, rfl, by first | rfl | (rw [decide_eq_true (do_time (by assumption))]), hS48.pick [2] rfl⟩
        · skip
          refine wl_unwanted rfl rfl h27 rfl ?_
          refine wl_unwanted rfl rfl h27 rfl ?_
          refine wl_unwanted rfl rfl h27 rfl ?_
          refine wl_unwanted rfl rfl h27 rfl ?_
          refine wl_unwanted rfl rfl h27 rfl ?_
          refine wl_pickF rfl h27 rfl rfl ?_
          refine wl_move rfl rfl ?_
          refine wl_guard rfl rfl rfl ?_
          refine wl_move rfl rfl ?_
          refine wl_guard rfl rfl rfl ?_
          refine wl_not rfl rfl ?_
          refine wl_guard rfl rfl rfl ?_
          refine wl_move rfl rfl ?_
          refine wl_split 117 rfl (fun h49 => ?_) (fun h49 => ?_)
          · skip
            have eo := do_objs (W := playedW l) (hc2 (by simpa using h49))
            have e2 := byteW_congr eo at_
            have e3 := objB_congr eo
            refine wl_guard rfl rfl h49 ?_
            refine wl_move rfl rfl ?_
            refine wl_guard rfl rfl h49 ?_
            refine wl_move rfl rfl ?_
            refine wl_guard rfl rfl h49 ?_
            refine wl_move rfl rfl ?_
            refine wl_guard rfl rfl h49 ?_
            have hC50 := hS25.split [1] [false, true, false] rfl; dsimp only [selF, pickA, nthA, List.cons_append, List.nil_append] at hC50
            refine wl_call cal_14 rfl (byte_sp hC50 nm at_) rfl ?_
            rintro e w50 ⟨_, rfl, rfl, hS50⟩; refine ⟨_, rfl, ?_⟩
            replace hS50 := hS50.join rfl; dsimp only [List.dropLast, List.cons_append, List.nil_append] at hS50; clear hC50
            clear hS25
            refine wl_guard rfl rfl h49 ?_
            refine wl_move rfl rfl ?_
            refine wl_guard rfl rfl h49 ?_
            refine wl_neq rfl rfl rfl ?_
            refine wl_guard rfl rfl h49 ?_
            refine wl_move rfl rfl ?_
            refine wl_splitD 124 rfl (fun h51 => ?_) (fun h51 => ?_)
            · skip
              exact absurd (by rw [e2]) h51
            · skip
              refine wl_guard rfl rfl (decide_eq_false h51) ?_
              refine wl_move rfl rfl ?_
              refine wl_guard rfl rfl (decide_eq_false h51) ?_
              refine wl_move rfl rfl ?_
              refine wl_guard rfl rfl (decide_eq_false h51) ?_
              have hC52 := hS50.split [0] [true, false, false] rfl; dsimp only [selF, pickA, nthA, List.cons_append, List.nil_append] at hC52
              refine wl_call cal_16 rfl (object_sp hC52 nm) rfl ?_
              rintro e w52 ⟨_, rfl, rfl, hS52⟩; refine ⟨_, rfl, ?_⟩
              replace hS52 := hS52.join rfl; dsimp only [List.dropLast, List.cons_append, List.nil_append] at hS52; clear hC52
              clear hS50
              refine wl_guard rfl rfl (decide_eq_false h51) ?_
              refine wl_move rfl rfl ?_
              refine wl_guard rfl rfl (decide_eq_false h51) ?_
              refine wl_neqS rfl rfl rfl ?_
              refine wl_guard rfl rfl h49 ?_
              refine wl_pickF rfl (decide_eq_false h51) rfl rfl ?_
              refine wl_guard rfl rfl rfl ?_
              refine wl_pickT rfl h49 rfl rfl ?_
              refine wl_pickF rfl rfl rfl rfl ?_
              refine wl_move rfl rfl ?_
              refine wl_splitD 133 rfl (fun h53 => ?_) (fun h53 => ?_)
              · skip
                exact absurd e3 h53
              · skip
                refine wl_guard rfl rfl (decide_eq_false h53) ?_
                refine wl_move rfl rfl ?_
                refine wl_guard rfl rfl (decide_eq_false h53) ?_
                refine wl_not rfl rfl ?_
                refine wl_guard rfl rfl (decide_eq_false h53) ?_
                refine wl_move rfl rfl ?_
                refine wl_split 136 rfl (fun h54 => ?_) (fun h54 => ?_)
                · skip
                  have e4 := do_logs (W := playedW l) (hc3 (by simpa using h54))
                  refine wl_guard rfl rfl h54 ?_
                  refine wl_move rfl rfl ?_
                  refine wl_guard rfl rfl h54 ?_
                  refine wl_move rfl rfl ?_
                  refine wl_guard rfl rfl h54 ?_
                  have hC55 := hS52.split [0] [true, false, false] rfl; dsimp only [selF, pickA, nthA, List.cons_append, List.nil_append] at hC55
                  refine wl_call cal_15 rfl (logs_sp hC55 nm) rfl ?_
                  rintro e w55 ⟨_, rfl, rfl, hS55⟩; refine ⟨_, rfl, ?_⟩
                  replace hS55 := hS55.join rfl; dsimp only [List.dropLast, List.cons_append, List.nil_append] at hS55; clear hC55
                  clear hS52
                  refine wl_guard rfl rfl h54 ?_
                  refine wl_move rfl rfl ?_
                  refine wl_guard rfl rfl h54 ?_
                  refine wl_neqS rfl rfl rfl ?_
                  refine wl_guard rfl rfl (decide_eq_false h53) ?_
                  refine wl_pickT rfl h54 rfl rfl ?_
                  refine wl_pickF rfl (decide_eq_false h53) rfl rfl ?_
                  refine wl_nil ?_
                  refine qs_seq ?_
                  refine wc_sub (L' := [(143, _), (5, _), (9, _), (10, _), (15, _)]) (.cons rfl (.cons rfl (.cons rfl (.cons rfl (.cons rfl .nil))))) ?_
                  refine wc_condD rfl (fun h56 => ?_) (fun h56 => ?_)
                  · skip
                    exact absurd e4 h56
                  · skip
                    refine wc_skip ?_
                    refine qs_seq ?_
                    refine wc_seq ?_
                    refine wc_region ?_
                    refine wl_move rfl rfl ?_
                    refine wl_move rfl rfl ?_
                    refine wl_guard rfl rfl rfl ?_
                    refine wl_fieldAddr rfl fo_24_0 rfl ?_
                    refine wl_guard rfl rfl rfl ?_
                    refine wl_load rfl ag_3 (by first | assumption | exact hS55.cell 1 rfl rfl) rfl ?_
                    refine wl_guard rfl rfl rfl ?_
                    refine wl_eql rfl rfl rfl ?_
                    refine wl_guard rfl rfl rfl ?_
                    refine wl_move rfl rfl ?_
                    refine wl_splitD 149 rfl (fun h57 => ?_) (fun h57 => ?_)
                    · skip
                      refine wl_unwanted rfl rfl (decide_eq_true h57) rfl ?_
                      refine wl_unwanted rfl rfl (decide_eq_true h57) rfl ?_
                      refine wl_unwanted rfl rfl (decide_eq_true h57) rfl ?_
                      refine wl_unwanted rfl rfl (decide_eq_true h57) rfl ?_
                      refine wl_guard rfl rfl rfl ?_
                      refine wl_pickT rfl (decide_eq_true h57) rfl rfl ?_
                      refine wl_pickT rfl rfl rfl rfl ?_
                      refine wl_assign rfl rfl ?_
                      refine wl_nil ?_
                      refine qs_seq ?_
                      refine wc_sub (L' := [(8, _)]) (.cons rfl .nil) ?_
                      refine wc_ret ?_
                      refine fin1 (.inr rfl) rfl rfl ?_
                      exact ⟨_, rfl, by first | rfl | (rw [decide_eq_true (do_time (by assumption))]), hS55.pick [2] rfl⟩
                    · skip
                      refine wl_guard rfl rfl (decide_eq_false h57) ?_
                      refine wl_move rfl rfl ?_
                      refine wl_guard rfl rfl (decide_eq_false h57) ?_
                      have hC58 := hS55.split [0] [true, false, false] rfl; dsimp only [selF, pickA, nthA, List.cons_append, List.nil_append] at hC58
                      refine wl_call cal_17 rfl (start_sp hC58) rfl ?_
                      rintro e w58 ⟨_, rfl, rfl, hS58⟩; refine ⟨_, rfl, ?_⟩
                      replace hS58 := hS58.join rfl; dsimp only [List.dropLast, List.cons_append, List.nil_append] at hS58; clear hC58
                      clear hS55
                      refine wl_guard rfl rfl (decide_eq_false h57) ?_
                      refine wl_move rfl rfl ?_
                      refine wl_guard rfl rfl (decide_eq_false h57) ?_
                      refine wl_eql rfl rfl rfl ?_
                      refine wl_guard rfl rfl rfl ?_
                      refine wl_pickF rfl (decide_eq_false h57) rfl rfl ?_
                      refine wl_pickT rfl rfl rfl rfl ?_
                      refine wl_assign rfl rfl ?_
                      refine wl_nil ?_
                      refine qs_seq ?_
                      refine wc_sub (L' := [(8, _)]) (.cons rfl .nil) ?_
                      refine wc_ret ?_
                      refine fin1 (.inr rfl) rfl rfl ?_
                      exact ⟨_, rfl, by first | rfl | (rw [decide_eq_true (do_time (by assumption))]), hS58.pick [2] rfl⟩
                · skip
                  refine wl_unwanted rfl rfl h54 rfl ?_
                  refine wl_unwanted rfl rfl h54 rfl ?_
                  refine wl_unwanted rfl rfl h54 rfl ?_
                  refine wl_unwanted rfl rfl h54 rfl ?_
                  refine wl_unwanted rfl rfl h54 rfl ?_
                  refine wl_guard rfl rfl (decide_eq_false h53) ?_
                  refine wl_pickF rfl h54 rfl rfl ?_
                  refine wl_pickF rfl (decide_eq_false h53) rfl rfl ?_
                  refine wl_nil ?_
                  refine qs_seq ?_
                  refine wc_sub (L' := [(143, _), (5, _), (9, _), (10, _), (15, _)]) (.cons rfl (.cons rfl (.cons rfl (.cons rfl (.cons rfl .nil))))) ?_
                  refine wc_condF rfl ?_
                  refine wc_skip ?_
                  refine qs_seq ?_
                  refine wc_seq ?_
                  refine wc_region ?_
                  refine wl_move rfl rfl ?_
                  refine wl_move rfl rfl ?_
                  refine wl_guard rfl rfl rfl ?_
                  refine wl_fieldAddr rfl fo_24_0 rfl ?_
                  refine wl_guard rfl rfl rfl ?_
                  refine wl_load rfl ag_3 (by first | assumption | exact hS52.cell 1 rfl rfl) rfl ?_
                  refine wl_guard rfl rfl rfl ?_
                  refine wl_eql rfl rfl rfl ?_
                  refine wl_guard rfl rfl rfl ?_
                  refine wl_move rfl rfl ?_
                  refine wl_splitD 149 rfl (fun h59 => ?_) (fun h59 => ?_)
                  · skip
                    refine wl_unwanted rfl rfl (decide_eq_true h59) rfl ?_
                    refine wl_unwanted rfl rfl (decide_eq_true h59) rfl ?_
                    refine wl_unwanted rfl rfl (decide_eq_true h59) rfl ?_
                    refine wl_unwanted rfl rfl (decide_eq_true h59) rfl ?_
                    refine wl_guard rfl rfl rfl ?_
                    refine wl_pickT rfl (decide_eq_true h59) rfl rfl ?_
                    refine wl_pickT rfl rfl rfl rfl ?_
                    refine wl_assign rfl rfl ?_
                    refine wl_nil ?_
                    refine qs_seq ?_
                    refine wc_sub (L' := [(8, _)]) (.cons rfl .nil) ?_
                    refine wc_ret ?_
                    refine fin1 (.inr rfl) rfl rfl ?_
                    exact ⟨_, rfl, by first | rfl | (rw [decide_eq_true (do_time (by assumption))]), hS52.pick [2] rfl⟩
                  · skip
                    refine wl_guard rfl rfl (decide_eq_false h59) ?_
                    refine wl_move rfl rfl ?_
                    refine wl_guard rfl rfl (decide_eq_false h59) ?_
                    have hC60 := hS52.split [0] [true, false, false] rfl; dsimp only [selF, pickA, nthA, List.cons_append, List.nil_append] at hC60
                    refine wl_call cal_17 rfl (start_sp hC60) rfl ?_
                    rintro e w60 ⟨_, rfl, rfl, hS60⟩; refine ⟨_, rfl, ?_⟩
                    replace hS60 := hS60.join rfl; dsimp only [List.dropLast, List.cons_append, List.nil_append] at hS60; clear hC60
                    clear hS52
                    refine wl_guard rfl rfl (decide_eq_false h59) ?_
                    refine wl_move rfl rfl ?_
                    refine wl_guard rfl rfl (decide_eq_false h59) ?_
                    refine wl_eql rfl rfl rfl ?_
                    refine wl_guard rfl rfl rfl ?_
                    refine wl_pickF rfl (decide_eq_false h59) rfl rfl ?_
                    refine wl_pickT rfl rfl rfl rfl ?_
                    refine wl_assign rfl rfl ?_
                    refine wl_nil ?_
                    refine qs_seq ?_
                    refine wc_sub (L' := [(8, _)]) (.cons rfl .nil) ?_
                    refine wc_ret ?_
                    refine fin1 (.inr rfl) rfl rfl ?_
                    exact ⟨_, rfl, by first | rfl | (rw [decide_eq_true (do_time (by assumption))]), hS60.pick [2] rfl⟩
          · skip
            refine wl_unwanted rfl rfl h49 rfl ?_
            refine wl_unwanted rfl rfl h49 rfl ?_
            refine wl_unwanted rfl rfl h49 rfl ?_
            refine wl_unwanted rfl rfl h49 rfl ?_
            refine wl_unwanted rfl rfl h49 rfl ?_
            refine wl_unwanted rfl rfl h49 rfl ?_
            refine wl_unwanted rfl rfl h49 rfl ?_
            refine wl_unguarded rfl rfl rfl ?_
            refine wl_unguarded rfl rfl rfl ?_
            refine wl_unguarded rfl rfl rfl ?_
            refine wl_unguarded rfl rfl rfl ?_
            refine wl_unguarded rfl rfl rfl ?_
            refine wl_unwanted rfl rfl h49 rfl ?_
            refine wl_guard rfl rfl rfl ?_
            refine wl_pickF rfl h49 rfl rfl ?_
            refine wl_pickF rfl rfl rfl rfl ?_
            refine wl_move rfl rfl ?_
            refine wl_guard rfl rfl rfl ?_
            refine wl_move rfl rfl ?_
            refine wl_guard rfl rfl rfl ?_
            refine wl_not rfl rfl ?_
            refine wl_guard rfl rfl rfl ?_
            refine wl_move rfl rfl ?_
            refine wl_split 136 rfl (fun h61 => ?_) (fun h61 => ?_)
            · skip
              have e4 := do_logs (W := playedW l) (hc3 (by simpa using h61))
              refine wl_guard rfl rfl h61 ?_
              refine wl_move rfl rfl ?_
              refine wl_guard rfl rfl h61 ?_
              refine wl_move rfl rfl ?_
              refine wl_guard rfl rfl h61 ?_
              have hC62 := hS25.split [1] [false, true, false] rfl; dsimp only [selF, pickA, nthA, List.cons_append, List.nil_append] at hC62
              refine wl_call cal_15 rfl (logs_sp hC62 nm) rfl ?_
              rintro e w62 ⟨_, rfl, rfl, hS62⟩; refine ⟨_, rfl, ?_⟩
              replace hS62 := hS62.join rfl; dsimp only [List.dropLast, List.cons_append, List.nil_append] at hS62; clear hC62
              clear hS25
              refine wl_guard rfl rfl h61 ?_
              refine wl_move rfl rfl ?_
              refine wl_guard rfl rfl h61 ?_
              refine wl_neqS rfl rfl rfl ?_
              refine wl_guard rfl rfl rfl ?_
              refine wl_pickT rfl h61 rfl rfl ?_
              refine wl_pickF rfl rfl rfl rfl ?_
              refine wl_nil ?_
              refine qs_seq ?_
              refine wc_sub (L' := [(143, _), (5, _), (9, _), (10, _), (15, _)]) (.cons rfl (.cons rfl (.cons rfl (.cons rfl (.cons rfl .nil))))) ?_
              refine wc_condD rfl (fun h63 => ?_) (fun h63 => ?_)
              · skip
                exact absurd e4 h63
              · skip
                refine wc_skip ?_
                refine qs_seq ?_
                refine wc_seq ?_
                refine wc_region ?_
                refine wl_move rfl rfl ?_
                refine wl_move rfl rfl ?_
                refine wl_guard rfl rfl rfl ?_
                refine wl_fieldAddr rfl fo_24_0 rfl ?_
                refine wl_guard rfl rfl rfl ?_
                refine wl_load rfl ag_3 (by first | assumption | exact hS62.cell 1 rfl rfl) rfl ?_
                refine wl_guard rfl rfl rfl ?_
                refine wl_eql rfl rfl rfl ?_
                refine wl_guard rfl rfl rfl ?_
                refine wl_move rfl rfl ?_
                refine wl_splitD 149 rfl (fun h64 => ?_) (fun h64 => ?_)
                · skip
                  refine wl_unwanted rfl rfl (decide_eq_true h64) rfl ?_
                  refine wl_unwanted rfl rfl (decide_eq_true h64) rfl ?_
                  refine wl_unwanted rfl rfl (decide_eq_true h64) rfl ?_
                  refine wl_unwanted rfl rfl (decide_eq_true h64) rfl ?_
                  refine wl_guard rfl rfl rfl ?_
                  refine wl_pickT rfl (decide_eq_true h64) rfl rfl ?_
                  refine wl_pickT rfl rfl rfl rfl ?_
                  refine wl_assign rfl rfl ?_
                  refine wl_nil ?_
                  refine qs_seq ?_
                  refine wc_sub (L' := [(8, _)]) (.cons rfl .nil) ?_
                  refine wc_ret ?_
                  refine fin1 (.inr rfl) rfl rfl ?_
                  exact ⟨_, rfl, by first | rfl | (rw [decide_eq_true (do_time (by assumption))]), hS62.pick [2] rfl⟩
                · skip
                  refine wl_guard rfl rfl (decide_eq_false h64) ?_
                  refine wl_move rfl rfl ?_
                  refine wl_guard rfl rfl (decide_eq_false h64) ?_
                  have hC65 := hS62.split [0] [true, false, false] rfl; dsimp only [selF, pickA, nthA, List.cons_append, List.nil_append] at hC65
                  refine wl_call cal_17 rfl (start_sp hC65) rfl ?_
                  rintro e w65 ⟨_, rfl, rfl, hS65⟩; refine ⟨_, rfl, ?_⟩
                  replace hS65 := hS65.join rfl; dsimp only [List.dropLast, List.cons_append, List.nil_append] at hS65; clear hC65
                  clear hS62
                  refine wl_guard rfl rfl (decide_eq_false h64) ?_
                  refine wl_move rfl rfl ?_
                  refine wl_guard rfl rfl (decide_eq_false h64) ?_
                  refine wl_eql rfl rfl rfl ?_
                  refine wl_guard rfl rfl rfl ?_
                  refine wl_pickF rfl (decide_eq_false h64) rfl rfl ?_
                  refine wl_pickT rfl rfl rfl rfl ?_
                  refine wl_assign rfl rfl ?_
                  refine wl_nil ?_
                  refine qs_seq ?_
                  refine wc_sub (L' := [(8, _)]) (.cons rfl .nil) ?_
                  refine wc_ret ?_
                  refine fin1 (.inr rfl) rfl rfl ?_
                  exact ⟨_, rfl, by first | rfl | (rw [decide_eq_true (do_time (by assumption))]), hS65.pick [2] rfl⟩
            · skip
              refine wl_unwanted rfl rfl h61 rfl ?_
              refine wl_unwanted rfl rfl h61 rfl ?_
              refine wl_unwanted rfl rfl h61 rfl ?_
              refine wl_unwanted rfl rfl h61 rfl ?_
              refine wl_unwanted rfl rfl h61 rfl ?_
              refine wl_guard rfl rfl rfl ?_
              refine wl_pickF rfl h61 rfl rfl ?_
              refine wl_pickF rfl rfl rfl rfl ?_
              refine wl_nil ?_
              refine qs_seq ?_
              refine wc_sub (L' := [(143, _), (5, _), (9, _), (10, _), (15, _)]) (.cons rfl (.cons rfl (.cons rfl (.cons rfl (.cons rfl .nil))))) ?_
              refine wc_condF rfl ?_
              refine wc_skip ?_
              refine qs_seq ?_
              refine wc_seq ?_
              refine wc_region ?_
              refine wl_move rfl rfl ?_
              refine wl_move rfl rfl ?_
              refine wl_guard rfl rfl rfl ?_
              refine wl_fieldAddr rfl fo_24_0 rfl ?_
              refine wl_guard rfl rfl rfl ?_
              refine wl_load rfl ag_3 (by first | assumption | exact hS25.cell 0 rfl rfl) rfl ?_
              refine wl_guard rfl rfl rfl ?_
              refine wl_eql rfl rfl rfl ?_
              refine wl_guard rfl rfl rfl ?_
              refine wl_move rfl rfl ?_
              refine wl_splitD 149 rfl (fun h66 => ?_) (fun h66 => ?_)
              · skip
                refine wl_unwanted rfl rfl (decide_eq_true h66) rfl ?_
                refine wl_unwanted rfl rfl (decide_eq_true h66) rfl ?_
                refine wl_unwanted rfl rfl (decide_eq_true h66) rfl ?_
                refine wl_unwanted rfl rfl (decide_eq_true h66) rfl ?_
                refine wl_guard rfl rfl rfl ?_
                refine wl_pickT rfl (decide_eq_true h66) rfl rfl ?_
                refine wl_pickT rfl rfl rfl rfl ?_
                refine wl_assign rfl rfl ?_
                refine wl_nil ?_
                refine qs_seq ?_
                refine wc_sub (L' := [(8, _)]) (.cons rfl .nil) ?_
                refine wc_ret ?_
                refine fin1 (.inr rfl) rfl rfl ?_
                exact ⟨_, rfl, by first | rfl | (rw [decide_eq_true (do_time (by assumption))]), hS25.pick [2] rfl⟩
              · skip
                refine wl_guard rfl rfl (decide_eq_false h66) ?_
                refine wl_move rfl rfl ?_
                refine wl_guard rfl rfl (decide_eq_false h66) ?_
                have hC67 := hS25.split [1] [false, true, false] rfl; dsimp only [selF, pickA, nthA, List.cons_append, List.nil_append] at hC67
                refine wl_call cal_17 rfl (start_sp hC67) rfl ?_
                rintro e w67 ⟨_, rfl, rfl, hS67⟩; refine ⟨_, rfl, ?_⟩
                replace hS67 := hS67.join rfl; dsimp only [List.dropLast, List.cons_append, List.nil_append] at hS67; clear hC67
                clear hS25
                refine wl_guard rfl rfl (decide_eq_false h66) ?_
                refine wl_move rfl rfl ?_
                refine wl_guard rfl rfl (decide_eq_false h66) ?_
                refine wl_eql rfl rfl rfl ?_
                refine wl_guard rfl rfl rfl ?_
                refine wl_pickF rfl (decide_eq_false h66) rfl rfl ?_
                refine wl_pickT rfl rfl rfl rfl ?_
                refine wl_assign rfl rfl ?_
                refine wl_nil ?_
                refine qs_seq ?_
                refine wc_sub (L' := [(8, _)]) (.cons rfl .nil) ?_
                refine wc_ret ?_
                refine fin1 (.inr rfl) rfl rfl ?_
                exact ⟨_, rfl, by first | rfl | (rw [decide_eq_true (do_time (by assumption))]), hS67.pick [2] rfl⟩

end Go.Proofs.YtieelilkkpcmdaaDoor
