/- reference 15: Do -/
import Derived.Test.YtieelilkkpcmdaaGreatDoorRx5
namespace Go.Proofs.YtieelilkkpcmdaaGreatDoor
open Go.RowKit M
set_option linter.unusedVariables false
set_option maxRecDepth 100000 in
theorem rDo {w : World} {F : Th} {p n : Nat} {W : WS} (hS : Sat w [refW p W n, F]) (hn : n ≤ 1000) (hI : PagesOk W.objs) (o : OpD) (hf : Fit o) {i : Nat} (hP : PInv W i) (hi : i ≤ 1000) :
    Calls Tryz.prog 9 #[ptrV p 0, .agg #[intV o.k, strV o.a, strV o.b, intV o.x, intV o.y, intV o.z]] w (Ret fun v w' => v = .tuple #[] ∧ Sat w' [refW p (doS W o) (n + 1), F]) := by
  have hfa := hf.a; have hfb := hf.b; have hfx := hf.x; have hf0 := hf.x0; have hf5 := hf.x5; have hfy := hf.y; have hfz := hf.z; have htm := hP.time; have hlg := hP.logs o.a
  refine calls_enter Tryz.func9 rfl Tryz.ntmps9 rfl ?_
  refine wc_seq ?_
  refine wc_region ?_
  refine wl_box hS rfl rfl rfl ?_
  intro b1 w1 hS1
  refine wl_nil ?_
  refine qs_seq ?_
  refine wc_seq ?_
  refine wc_region ?_
  refine wl_fieldAddr rfl fo_34_0 rfl ?_
  refine wl_load rfl ag_3 (by first | assumption | exact hS1.cell 0 rfl rfl) rfl ?_
  refine wl_nil ?_
  refine qs_seq ?_
  refine wc_block ?_
  refine wc_seq ?_
  refine wc_region ?_
  refine wl_eql rfl rfl rfl ?_
  refine wl_assign rfl rfl ?_
  refine wl_nil ?_
  refine qs_seq ?_
  refine wc_condD rfl (fun h2 => ?_) (fun h2 => ?_)
  · skip
    have hT0 : o.k = 0 := h2
    refine wc_region ?_
    refine wl_move rfl rfl ?_
    refine wl_fieldAddr rfl fo_34_1 rfl ?_
    refine wl_load rfl ag_9 (by first | assumption | exact hS1.cell 0 rfl rfl) rfl ?_
    refine wl_fieldAddr rfl fo_34_2 rfl ?_
    refine wl_load rfl ag_9 (by first | assumption | exact hS1.cell 0 rfl rfl) rfl ?_
    have hC3 := hS1.split [1] [false, true, false] rfl; dsimp only [selF, pickA, nthA, List.cons_append, List.nil_append] at hC3
    refine wl_call cal_29 rfl (rPut hC3 hn o.a o.b) rfl ?_
    rintro e w3 ⟨_, rfl, rfl, hS3⟩; refine ⟨_, rfl, ?_⟩
    replace hS3 := hS3.join rfl; dsimp only [List.dropLast, List.cons_append, List.nil_append] at hS3; clear hC3
    clear hS1
    refine wl_nil ?_
    refine qs_block_normal ?_
    refine fin0 (.inl rfl) rfl ?_
    exact ⟨_, rfl, rfl, by have e : doS W o = _ := (by simp only [doS]; simp only [*, if_true, if_false, reduceIte, Int.reduceEq]; rfl); rw [e]; exact hS3.pick [0, 2] rfl⟩
  · skip
    have hF0 : ¬ o.k = 0 := h2
    refine wc_seq ?_
    refine wc_region ?_
    refine wl_eql rfl rfl rfl ?_
    refine wl_assign rfl rfl ?_
    refine wl_nil ?_
    refine qs_seq ?_
    refine wc_condD rfl (fun h4 => ?_) (fun h4 => ?_)
    · skip
      have hT1 : o.k = 1 := h4
      refine wc_region ?_
      refine wl_move rfl rfl ?_
      refine wl_fieldAddr rfl fo_34_1 rfl ?_
      refine wl_load rfl ag_9 (by first | assumption | exact hS1.cell 0 rfl rfl) rfl ?_
      refine wl_fieldAddr rfl fo_34_3 rfl ?_
      refine wl_load rfl ag_3 (by first | assumption | exact hS1.cell 0 rfl rfl) rfl ?_
      refine wl_fieldAddr rfl fo_34_4 rfl ?_
      refine wl_load rfl ag_3 (by first | assumption | exact hS1.cell 0 rfl rfl) rfl ?_
      refine wl_convII Tryz.underlying3 Tryz.underlying5 rfl (c := ((u8 o.y).toNat : Int)) (wrapU8 o.y) rfl ?_
      have hC5 := hS1.split [1] [false, true, false] rfl; dsimp only [selF, pickA, nthA, List.cons_append, List.nil_append] at hC5
      refine wl_call cal_12 rfl (rSetByte hC5 hn hI o.a o.x (u8 o.y)) rfl ?_
      rintro e w5 ⟨_, rfl, rfl, hS5⟩; refine ⟨_, rfl, ?_⟩
      replace hS5 := hS5.join rfl; dsimp only [List.dropLast, List.cons_append, List.nil_append] at hS5; clear hC5
      clear hS1
      refine wl_nil ?_
      refine qs_block_normal ?_
      refine fin0 (.inl rfl) rfl ?_
      exact ⟨_, rfl, rfl, by have e : doS W o = _ := (by simp only [doS]; simp only [*, if_true, if_false, reduceIte, Int.reduceEq]; rfl); rw [e]; exact hS5.pick [0, 2] rfl⟩
    · skip
      have hF1 : ¬ o.k = 1 := h4
      refine wc_seq ?_
      refine wc_region ?_
      refine wl_eql rfl rfl rfl ?_
      refine wl_assign rfl rfl ?_
      refine wl_nil ?_
      refine qs_seq ?_
      refine wc_sub (L' := [(25, _), (5, _), (3, _), (0, _)]) (.cons rfl (.cons rfl (.cons rfl (.cons rfl .nil)))) ?_
      refine wc_condD rfl (fun h6 => ?_) (fun h6 => ?_)
      · skip
        have hT2 : o.k = 2 := h6
        refine wc_region ?_
        refine wl_move rfl rfl ?_
        refine wl_fieldAddr rfl fo_34_1 rfl ?_
        refine wl_load rfl ag_9 (by first | assumption | exact hS1.cell 0 rfl rfl) rfl ?_
        refine wl_fieldAddr rfl fo_34_3 rfl ?_
        refine wl_load rfl ag_3 (by first | assumption | exact hS1.cell 0 rfl rfl) rfl ?_
        refine wl_fieldAddr rfl fo_34_5 rfl ?_
        refine wl_load rfl ag_3 (by first | assumption | exact hS1.cell 0 rfl rfl) rfl ?_
        refine wl_fieldAddr rfl fo_34_2 rfl ?_
        refine wl_load rfl ag_9 (by first | assumption | exact hS1.cell 0 rfl rfl) rfl ?_
        refine wl_fieldAddr rfl fo_34_4 rfl ?_
        refine wl_load rfl ag_3 (by first | assumption | exact hS1.cell 0 rfl rfl) rfl ?_
        have hC7 := hS1.split [1] [false, true, false] rfl; dsimp only [selF, pickA, nthA, List.cons_append, List.nil_append] at hC7
        refine wl_call cal_41 rfl (rCopy hC7 hn hI o.a o.x o.z o.b o.y (by omega) (by omega) (by omega)) rfl ?_
        rintro e w7 ⟨_, rfl, rfl, hS7⟩; refine ⟨_, rfl, ?_⟩
        replace hS7 := hS7.join rfl; dsimp only [List.dropLast, List.cons_append, List.nil_append] at hS7; clear hC7
        clear hS1
        refine wl_nil ?_
        refine qs_block_normal ?_
        refine fin0 (.inl rfl) rfl ?_
        exact ⟨_, rfl, rfl, by have e : doS W o = _ := (by simp only [doS]; simp only [*, if_true, if_false, reduceIte, Int.reduceEq]; rfl); rw [e]; exact hS7.pick [0, 2] rfl⟩
      · skip
        have hF2 : ¬ o.k = 2 := h6
        refine wc_seq ?_
        refine wc_region ?_
        refine wl_eql rfl rfl rfl ?_
        refine wl_assign rfl rfl ?_
        refine wl_nil ?_
        refine qs_seq ?_
        refine wc_condD rfl (fun h8 => ?_) (fun h8 => ?_)
        · skip
          have hT3 : o.k = 3 := h8
          refine wc_region ?_
          refine wl_move rfl rfl ?_
          refine wl_fieldAddr rfl fo_34_1 rfl ?_
          refine wl_load rfl ag_9 (by first | assumption | exact hS1.cell 0 rfl rfl) rfl ?_
          have hC9 := hS1.split [1] [false, true, false] rfl; dsimp only [selF, pickA, nthA, List.cons_append, List.nil_append] at hC9
          refine wl_call cal_42 rfl (rDrop hC9 hn o.a) rfl ?_
          rintro e w9 ⟨_, rfl, rfl, hS9⟩; refine ⟨_, rfl, ?_⟩
          replace hS9 := hS9.join rfl; dsimp only [List.dropLast, List.cons_append, List.nil_append] at hS9; clear hC9
          clear hS1
          refine wl_nil ?_
          refine qs_block_normal ?_
          refine fin0 (.inl rfl) rfl ?_
          exact ⟨_, rfl, rfl, by have e : doS W o = _ := (by simp only [doS]; simp only [*, if_true, if_false, reduceIte, Int.reduceEq]; rfl); rw [e]; exact hS9.pick [0, 2] rfl⟩
        · skip
          have hF3 : ¬ o.k = 3 := h8
          refine wc_seq ?_
          refine wc_region ?_
          refine wl_eql rfl rfl rfl ?_
          refine wl_assign rfl rfl ?_
          refine wl_nil ?_
          refine qs_seq ?_
          refine wc_condD rfl (fun h10 => ?_) (fun h10 => ?_)
          · skip
            have hT4 : o.k = 4 := h10
            refine wc_region ?_
            refine wl_move rfl rfl ?_
            refine wl_fieldAddr rfl fo_34_1 rfl ?_
            refine wl_load rfl ag_9 (by first | assumption | exact hS1.cell 0 rfl rfl) rfl ?_
            refine wl_fieldAddr rfl fo_34_2 rfl ?_
            refine wl_load rfl ag_9 (by first | assumption | exact hS1.cell 0 rfl rfl) rfl ?_
            have hC11 := hS1.split [1] [false, true, false] rfl; dsimp only [selF, pickA, nthA, List.cons_append, List.nil_append] at hC11
            refine wl_call cal_43 rfl (rLog hC11 hn o.a o.b (by omega) (by omega)) rfl ?_
            rintro e w11 ⟨_, rfl, rfl, hS11⟩; refine ⟨_, rfl, ?_⟩
            replace hS11 := hS11.join rfl; dsimp only [List.dropLast, List.cons_append, List.nil_append] at hS11; clear hC11
            clear hS1
            refine wl_nil ?_
            refine qs_block_normal ?_
            refine fin0 (.inl rfl) rfl ?_
            exact ⟨_, rfl, rfl, by have e : doS W o = _ := (by simp only [doS]; simp only [*, if_true, if_false, reduceIte, Int.reduceEq]; rfl); rw [e]; exact hS11.pick [0, 2] rfl⟩
          · skip
            have hF4 : ¬ o.k = 4 := h10
            refine wc_seq ?_
            refine wc_region ?_
            refine wl_eql rfl rfl rfl ?_
            refine wl_assign rfl rfl ?_
            refine wl_nil ?_
            refine qs_seq ?_
            refine wc_condD rfl (fun h12 => ?_) (fun h12 => ?_)
            · skip
              have hT5 : o.k = 5 := h12
              obtain ⟨Z, O, G, hR, hS13a⟩ := refW_open (hS1.pull 1 rfl); dsimp only [List.eraseIdx] at hS13a
              obtain ⟨kv, vv, nv, sv, lv, tv, hS13⟩ := full_open hS13a
              clear hS1
              have hS14 := hS13.drew
              refine wc_draw [0, 1, 2, 3, 4, 5, 6, 7, 8, 9, 10, 11] [11] mix (by kernel_rfl) ?_
              refine vc_p rfl rfl rfl (fun _ => (ev_move rfl)) ?_
              refine vc_p rfl rfl rfl (fun _ => (ev_move rfl)) ?_
              refine vc_p rfl rfl rfl (fun _ => (ev_nilCheck rfl)) ?_
              refine vc_p rfl rfl rfl (fun _ => (ev_fieldAddr rfl fo_31_6)) ?_
              refine vc_q rfl rfl rfl (ev_load rfl ag_3 (by first | assumption | exact hS14.cell 0 rfl rfl | exact hS14.cell 5 rfl rfl | exact hS14.cell 8 rfl rfl)) ?_
              refine vc_p rfl rfl rfl (fun _ => (ev_fieldAddr rfl fo_34_3)) ?_
              refine vc_q rfl rfl rfl (ev_load rfl ag_3 (by first | assumption | exact hS14.cell 0 rfl rfl | exact hS14.cell 5 rfl rfl | exact hS14.cell 8 rfl rfl)) ?_
              refine vc_p rfl rfl rfl (fun _ => (ev_maxI rfl rfl)) ?_
              refine vc_p rfl rfl rfl (fun _ => (ev_add rfl rfl (by omega) (by omega))) ?_
              refine vc_p rfl rfl rfl (fun _ => (ev_nilCheck rfl)) ?_
              refine vc_p rfl rfl rfl (fun _ => (ev_fieldAddr rfl fo_31_6)) ?_
              refine vc_s rfl rfl rfl rfl rfl rfl ?_
              refine wl_store hS14 rfl rfl sz_3 (by first | rfl | assumption) (i := 0) rfl (by simp) ?_
              intro w15 hS15; dsimp only [List.set] at hS15
              clear hS14
              refine vc_e0 (.skip (by kernel_rfl) (.skip (by kernel_rfl) .nil)) ?_
              refine VC.nil ?_
              refine qs_block_normal ?_
              refine fin0 (.inl rfl) rfl ?_
              exact ⟨_, rfl, rfl, by have e : doS W o = _ := (by simp only [doS]; simp only [*, if_true, if_false, reduceIte, Int.reduceEq]; rfl); rw [e]; exact refW_shut (W := { W with time := W.time + max o.x 0 }) ⟨hR.cells, hR.objs, hR.logs, by have := hR.zl; omega, by have := hR.ol; omega, by have := hR.gl; omega⟩ (full_shut (hS15.pick [0, 1, 2, 3, 4, 5, 6, 7, 9] rfl))⟩
            · skip
              have hF5 : ¬ o.k = 5 := h12
              refine wc_skip ?_
              refine qs_block_normal ?_
              refine fin0 (.inl rfl) rfl ?_
              exact ⟨_, rfl, rfl, by have e : doS W o = _ := (by simp only [doS]; simp only [*, if_true, if_false, reduceIte, Int.reduceEq]; rfl); rw [e]; exact refW_up (by omega) (hS1.pick [1, 2] rfl)⟩

end Go.Proofs.YtieelilkkpcmdaaGreatDoor
