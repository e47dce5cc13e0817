/- laws of world: agree -/
import Derived.Test.YtieelilkkpcmdaaGreatDoorRx6
namespace Go.Proofs.YtieelilkkpcmdaaGreatDoor
open Go.RowKit M
set_option linter.unusedVariables false
theorem withZ_len (Z : List (Bs × Bs)) (q : Bs) : (withZ Z q).length ≤ Z.length := by
  unfold withZ; exact Nat.le_trans (List.length_filter_le _ _) (by simp)
theorem PInv.kin {W : WS} {i : Nat} (hP : PInv W i) (hi : i ≤ 1000) : KeysIn W.cells 1000000 := by
  obtain ⟨ks, h1, h2⟩ := hP.keys.few
  exact ⟨⟨ks, by omega, h2⟩, hP.keys.short⟩
set_option maxRecDepth 100000 in
set_option maxHeartbeats 1000000 in
theorem agree_sp {w : World} {F : Th} {p q n : Nat} {W : WS} (hS : Sat w [worldT p W, refW q W n, F]) (hn : n ≤ 1000) (o : OpD) {i : Nat} (hP : PInv W i) (hi : i ≤ 1000) :
    Calls Tryz.prog 10 #[ptrV p 0, ptrV q 0, .agg #[intV o.k, strV o.a, strV o.b, intV o.x, intV o.y, intV o.z]] w (Ret fun v w' => v = .bool true ∧ Sat w' [worldT p W, refW q W n, F]) := by
  refine calls_enter Tryz.func10 rfl Tryz.ntmps10 rfl ?_
  refine wc_seq ?_
  refine wc_region ?_
  refine wl_box hS rfl rfl rfl ?_
  intro b1 w1 hS1
  refine wl_assign rfl rfl ?_
  refine wl_nil ?_
  refine qs_seq ?_
  refine wc_seq ?_
  have hS2 := hS1.drew
  refine wc_draw [0, 1, 2, 4, 5, 6, 3, 7, 8, 9, 10, 11, 12, 13, 14, 16, 17, 18, 19, 20, 15, 21, 22, 23, 24, 25, 26, 27, 28, 29, 31, 32, 33, 34, 35, 30, 36, 37, 38, 39, 40, 41, 42, 44, 45, 46, 43, 47, 48, 49, 50] [3, 7, 15, 21, 30, 36, 43, 47] mix (by kernel_rfl) ?_
  refine vc_p rfl rfl rfl (fun _ => (ev_move rfl)) ?_
  refine vc_p rfl rfl rfl (fun _ => (ev_fieldAddr rfl fo_34_1)) ?_
  refine vc_q rfl rfl rfl (ev_load rfl ag_9 (by first | assumption | exact hS2.cell 0 rfl rfl)) ?_
  refine vc_p rfl rfl rfl (fun _ => (ev_move rfl)) ?_
  refine vc_p rfl rfl rfl (fun _ => (ev_fieldAddr rfl fo_34_1)) ?_
  refine vc_q rfl rfl rfl (ev_load rfl ag_9 (by first | assumption | exact hS2.cell 0 rfl rfl)) ?_
  refine vc_s rfl rfl rfl rfl rfl rfl ?_
  have hC3 := hS2.split [1] [false, true, false, false] rfl; dsimp only [selF, pickA, nthA, List.cons_append, List.nil_append] at hC3
  refine wl_call cal_32 rfl (get_sp hC3 o.a) rfl ?_
  rintro e w3 ⟨_, rfl, rfl, hS3⟩; refine ⟨_, rfl, ?_⟩
  replace hS3 := hS3.join rfl; dsimp only [List.dropLast, List.cons_append, List.nil_append] at hS3; clear hC3
  clear hS2
  refine vc_e (.cons (.inl ⟨rfl, (ev_load rfl ag_9 (by first | assumption | exact hS3.cell 1 rfl rfl))⟩) (.skip (by kernel_rfl) .nil)) ?_
  refine vc_s rfl rfl rfl rfl rfl rfl ?_
  have hC4 := hS3.split [2] [false, false, true, false] rfl; dsimp only [selF, pickA, nthA, List.cons_append, List.nil_append] at hC4
  refine wl_call cal_33 rfl (rGet hC4 hn o.a) rfl ?_
  rintro e w4 ⟨_, rfl, rfl, hS4⟩; refine ⟨_, rfl, ?_⟩
  replace hS4 := hS4.join rfl; dsimp only [List.dropLast, List.cons_append, List.nil_append] at hS4; clear hC4
  clear hS3
  refine vc_e (.skip (by kernel_rfl) (.skip (by kernel_rfl) .nil)) ?_
  refine vc_p rfl rfl rfl (fun _ => (ev_eqlS rfl rfl)) ?_
  refine vc_p rfl rfl rfl (fun _ => (ev_move rfl)) ?_
  refine vc_splitD 17 rfl (fun h5 => ?_) (fun h5 => ?_)
  · skip
    refine vc_p rfl rfl (guard_yes rfl rfl (decide_eq_true h5)) (fun _ => (Ev.gd (ev_move rfl))) ?_
    refine vc_p rfl rfl (guard_yes rfl rfl (decide_eq_true h5)) (fun _ => (Ev.gd (ev_fieldAddr rfl fo_34_1))) ?_
    refine vc_q rfl rfl (guard_yes rfl rfl (decide_eq_true h5)) (Ev.gd (ev_load rfl ag_9 (by first | assumption | exact hS4.cell 2 rfl rfl))) ?_
    refine vc_p rfl rfl (guard_yes rfl rfl (decide_eq_true h5)) (fun _ => (Ev.gd (ev_fieldAddr rfl fo_34_3))) ?_
    refine vc_q rfl rfl (guard_yes rfl rfl (decide_eq_true h5)) (Ev.gd (ev_load rfl ag_3 (by first | assumption | exact hS4.cell 2 rfl rfl))) ?_
    refine vc_p rfl rfl (guard_yes rfl rfl (decide_eq_true h5)) (fun _ => (Ev.gd (ev_move rfl))) ?_
    refine vc_p rfl rfl (guard_yes rfl rfl (decide_eq_true h5)) (fun _ => (Ev.gd (ev_fieldAddr rfl fo_34_1))) ?_
    refine vc_q rfl rfl (guard_yes rfl rfl (decide_eq_true h5)) (Ev.gd (ev_load rfl ag_9 (by first | assumption | exact hS4.cell 2 rfl rfl))) ?_
    refine vc_p rfl rfl (guard_yes rfl rfl (decide_eq_true h5)) (fun _ => (Ev.gd (ev_fieldAddr rfl fo_34_3))) ?_
    refine vc_q rfl rfl (guard_yes rfl rfl (decide_eq_true h5)) (Ev.gd (ev_load rfl ag_3 (by first | assumption | exact hS4.cell 2 rfl rfl))) ?_
    refine vc_s rfl rfl (guard_yes rfl rfl (decide_eq_true h5)) rfl rfl rfl ?_
    have hC6 := hS4.split [1] [false, true, false, false] rfl; dsimp only [selF, pickA, nthA, List.cons_append, List.nil_append] at hC6
    refine wl_call cal_36 rfl (byte_sp hC6 o.a o.x) rfl ?_
    rintro e w6 ⟨_, rfl, rfl, hS6⟩; refine ⟨_, rfl, ?_⟩
    replace hS6 := hS6.join rfl; dsimp only [List.dropLast, List.cons_append, List.nil_append] at hS6; clear hC6
    clear hS4
    refine vc_e (.cons (.inl ⟨(guard_yes rfl rfl (decide_eq_true h5)), (Ev.gd (ev_load rfl ag_3 (by first | assumption | exact hS6.cell 2 rfl rfl)))⟩) (.cons (.inl ⟨(guard_yes rfl rfl (decide_eq_true h5)), (Ev.gd (ev_load rfl ag_9 (by first | assumption | exact hS6.cell 2 rfl rfl)))⟩) (.skip (by kernel_rfl) (.skip (by kernel_rfl) (.skip (by kernel_rfl) (.skip (by kernel_rfl) .nil)))))) ?_
    refine vc_s rfl rfl (guard_yes rfl rfl (decide_eq_true h5)) rfl rfl rfl ?_
    have hC7 := hS6.split [1] [false, true, false, false] rfl; dsimp only [selF, pickA, nthA, List.cons_append, List.nil_append] at hC7
    refine wl_call cal_14 rfl (rByte hC7 hn o.a o.x) rfl ?_
    rintro e w7 ⟨_, rfl, rfl, hS7⟩; refine ⟨_, rfl, ?_⟩
    replace hS7 := hS7.join rfl; dsimp only [List.dropLast, List.cons_append, List.nil_append] at hS7; clear hC7
    clear hS6
    refine vc_e (.skip (by kernel_rfl) (.skip (by kernel_rfl) (.skip (by kernel_rfl) (.skip (by kernel_rfl) (.skip (by kernel_rfl) (.skip (by kernel_rfl) .nil)))))) ?_
    refine vc_p rfl rfl (guard_yes rfl rfl (decide_eq_true h5)) (fun _ => (Ev.gd (ev_eql rfl rfl))) ?_
    refine vc_p rfl rfl rfl (fun _ => (ev_pickT rfl (decide_eq_true h5) rfl)) ?_
    refine vc_p rfl rfl rfl (fun _ => (ev_move rfl)) ?_
    refine vc_splitD 32 rfl (fun h8 => ?_) (fun h8 => ?_)
    · skip
      refine vc_p rfl rfl (guard_yes rfl rfl (decide_eq_true h8)) (fun _ => (Ev.gd (ev_move rfl))) ?_
      refine vc_p rfl rfl (guard_yes rfl rfl (decide_eq_true h8)) (fun _ => (Ev.gd (ev_fieldAddr rfl fo_34_2))) ?_
      refine vc_q rfl rfl (guard_yes rfl rfl (decide_eq_true h8)) (Ev.gd (ev_load rfl ag_9 (by first | assumption | exact hS7.cell 2 rfl rfl))) ?_
      refine vc_p rfl rfl (guard_yes rfl rfl (decide_eq_true h8)) (fun _ => (Ev.gd (ev_fieldAddr rfl fo_34_4))) ?_
      refine vc_q rfl rfl (guard_yes rfl rfl (decide_eq_true h8)) (Ev.gd (ev_load rfl ag_3 (by first | assumption | exact hS7.cell 2 rfl rfl))) ?_
      refine vc_p rfl rfl (guard_yes rfl rfl (decide_eq_true h8)) (fun _ => (Ev.gd (ev_move rfl))) ?_
      refine vc_p rfl rfl (guard_yes rfl rfl (decide_eq_true h8)) (fun _ => (Ev.gd (ev_fieldAddr rfl fo_34_2))) ?_
      refine vc_q rfl rfl (guard_yes rfl rfl (decide_eq_true h8)) (Ev.gd (ev_load rfl ag_9 (by first | assumption | exact hS7.cell 2 rfl rfl))) ?_
      refine vc_p rfl rfl (guard_yes rfl rfl (decide_eq_true h8)) (fun _ => (Ev.gd (ev_fieldAddr rfl fo_34_4))) ?_
      refine vc_q rfl rfl (guard_yes rfl rfl (decide_eq_true h8)) (Ev.gd (ev_load rfl ag_3 (by first | assumption | exact hS7.cell 2 rfl rfl))) ?_
      refine vc_s rfl rfl (guard_yes rfl rfl (decide_eq_true h8)) rfl rfl rfl ?_
      have hC9 := hS7.split [1] [false, true, false, false] rfl; dsimp only [selF, pickA, nthA, List.cons_append, List.nil_append] at hC9
      refine wl_call cal_36 rfl (byte_sp hC9 o.b o.y) rfl ?_
      rintro e w9 ⟨_, rfl, rfl, hS9⟩; refine ⟨_, rfl, ?_⟩
      replace hS9 := hS9.join rfl; dsimp only [List.dropLast, List.cons_append, List.nil_append] at hS9; clear hC9
      clear hS7
      refine vc_e (.cons (.inl ⟨(guard_yes rfl rfl (decide_eq_true h8)), (Ev.gd (ev_load rfl ag_3 (by first | assumption | exact hS9.cell 2 rfl rfl)))⟩) (.cons (.inl ⟨(guard_yes rfl rfl (decide_eq_true h8)), (Ev.gd (ev_load rfl ag_9 (by first | assumption | exact hS9.cell 2 rfl rfl)))⟩) (.skip (by kernel_rfl) (.skip (by kernel_rfl) (.skip (by kernel_rfl) (.skip (by kernel_rfl) (.skip (by kernel_rfl) (.skip (by kernel_rfl) (.skip (by kernel_rfl) (.skip (by kernel_rfl) .nil)))))))))) ?_
      refine vc_s rfl rfl (guard_yes rfl rfl (decide_eq_true h8)) rfl rfl rfl ?_
      have hC10 := hS9.split [1] [false, true, false, false] rfl; dsimp only [selF, pickA, nthA, List.cons_append, List.nil_append] at hC10
      refine wl_call cal_14 rfl (rByte hC10 hn o.b o.y) rfl ?_
      rintro e w10 ⟨_, rfl, rfl, hS10⟩; refine ⟨_, rfl, ?_⟩
      replace hS10 := hS10.join rfl; dsimp only [List.dropLast, List.cons_append, List.nil_append] at hS10; clear hC10
      clear hS9
      refine vc_e (.skip (by kernel_rfl) (.skip (by kernel_rfl) (.skip (by kernel_rfl) (.skip (by kernel_rfl) (.skip (by kernel_rfl) (.skip (by kernel_rfl) (.skip (by kernel_rfl) (.skip (by kernel_rfl) (.skip (by kernel_rfl) (.skip (by kernel_rfl) .nil)))))))))) ?_
      refine vc_p rfl rfl (guard_yes rfl rfl (decide_eq_true h8)) (fun _ => (Ev.gd (ev_eql rfl rfl))) ?_
      refine vc_p rfl rfl rfl (fun _ => (ev_pickT rfl (decide_eq_true h8) rfl)) ?_
      refine vc_p rfl rfl rfl (fun _ => (ev_move rfl)) ?_
      refine vc_splitD 47 rfl (fun h11 => ?_) (fun h11 => ?_)
      · skip
        refine vc_p rfl rfl (guard_yes rfl rfl (decide_eq_true h11)) (fun _ => (Ev.gd (ev_move rfl))) ?_
        refine vc_p rfl rfl (guard_yes rfl rfl (decide_eq_true h11)) (fun _ => (Ev.gd (ev_fieldAddr rfl fo_34_1))) ?_
        refine vc_q rfl rfl (guard_yes rfl rfl (decide_eq_true h11)) (Ev.gd (ev_load rfl ag_9 (by first | assumption | exact hS10.cell 2 rfl rfl))) ?_
        refine vc_p rfl rfl (guard_yes rfl rfl (decide_eq_true h11)) (fun _ => (Ev.gd (ev_move rfl))) ?_
        refine vc_p rfl rfl (guard_yes rfl rfl (decide_eq_true h11)) (fun _ => (Ev.gd (ev_fieldAddr rfl fo_34_1))) ?_
        refine vc_q rfl rfl (guard_yes rfl rfl (decide_eq_true h11)) (Ev.gd (ev_load rfl ag_9 (by first | assumption | exact hS10.cell 2 rfl rfl))) ?_
        refine vc_s rfl rfl (guard_yes rfl rfl (decide_eq_true h11)) rfl rfl rfl ?_
        have hC12 := hS10.split [1] [false, true, false, false] rfl; dsimp only [selF, pickA, nthA, List.cons_append, List.nil_append] at hC12
        refine wl_call cal_44 rfl (logs_sp hC12 o.a) rfl ?_
        rintro e w12 ⟨_, rfl, rfl, hS12⟩; refine ⟨_, rfl, ?_⟩
        replace hS12 := hS12.join rfl; dsimp only [List.dropLast, List.cons_append, List.nil_append] at hS12; clear hC12
        clear hS10
        refine vc_e (.cons (.inl ⟨(guard_yes rfl rfl (decide_eq_true h11)), (Ev.gd (ev_load rfl ag_9 (by first | assumption | exact hS12.cell 2 rfl rfl)))⟩) (.skip (by kernel_rfl) (.skip (by kernel_rfl) (.skip (by kernel_rfl) (.skip (by kernel_rfl) (.skip (by kernel_rfl) (.skip (by kernel_rfl) (.skip (by kernel_rfl) (.skip (by kernel_rfl) (.skip (by kernel_rfl) (.skip (by kernel_rfl) (.skip (by kernel_rfl) .nil)))))))))))) ?_
        refine vc_s rfl rfl (guard_yes rfl rfl (decide_eq_true h11)) rfl rfl rfl ?_
        have hC13 := hS12.split [1] [false, true, false, false] rfl; dsimp only [selF, pickA, nthA, List.cons_append, List.nil_append] at hC13
        refine wl_call cal_45 rfl (rText hC13 hn o.a) rfl ?_
        rintro e w13 ⟨_, rfl, rfl, hS13⟩; refine ⟨_, rfl, ?_⟩
        replace hS13 := hS13.join rfl; dsimp only [List.dropLast, List.cons_append, List.nil_append] at hS13; clear hC13
        clear hS12
        refine vc_e (.skip (by kernel_rfl) (.skip (by kernel_rfl) (.skip (by kernel_rfl) (.skip (by kernel_rfl) (.skip (by kernel_rfl) (.skip (by kernel_rfl) (.skip (by kernel_rfl) (.skip (by kernel_rfl) (.skip (by kernel_rfl) (.skip (by kernel_rfl) (.skip (by kernel_rfl) (.skip (by kernel_rfl) .nil)))))))))))) ?_
        refine vc_p rfl rfl (guard_yes rfl rfl (decide_eq_true h11)) (fun _ => (Ev.gd (ev_eqlS rfl rfl))) ?_
        refine vc_p rfl rfl rfl (fun _ => (ev_pickT rfl (decide_eq_true h11) rfl)) ?_
        refine vc_p rfl rfl rfl (fun _ => (ev_assign rfl)) ?_
        refine VC.nil ?_
        refine qs_seq ?_
        refine wc_sub (L' := [(7, _), (6, _), (5, _), (0, _), (1, _)]) (.cons rfl (.cons rfl (.cons rfl (.cons rfl (.cons rfl .nil))))) ?_
        refine wc_seq ?_
        have hS14 := hS13.drew
        refine wc_draw [0, 1, 2, 4, 5, 6, 7, 3, 8, 9, 10, 11, 13, 14, 15, 16, 12, 17, 18, 19, 20, 21, 22, 24, 25, 26, 23, 27, 28, 29, 30] [3, 12, 23, 27, 28] mix (by kernel_rfl) ?_
        refine vc_p rfl rfl rfl (fun _ => (ev_move rfl)) ?_
        refine vc_p rfl rfl rfl (fun _ => (ev_move rfl)) ?_
        refine vc_splitD 59 rfl (fun h15 => ?_) (fun h15 => ?_)
        · skip
          refine vc_p rfl rfl (guard_yes rfl rfl (decide_eq_true h15)) (fun _ => (Ev.gd (ev_move rfl))) ?_
          refine vc_p rfl rfl (guard_yes rfl rfl (decide_eq_true h15)) (fun _ => (Ev.gd (ev_move rfl))) ?_
          refine vc_p rfl rfl (guard_yes rfl rfl (decide_eq_true h15)) (fun _ => (Ev.gd (ev_nilCheck rfl))) ?_
          refine vc_p rfl rfl (guard_yes rfl rfl (decide_eq_true h15)) (fun _ => (Ev.gd (ev_fieldAddr rfl fo_31_6))) ?_
          refine vc_q rfl rfl (guard_yes rfl rfl (decide_eq_true h15)) (Ev.gd (ev_load rfl ag_3 (ref_time (hS14.pull 0 rfl)))) ?_
          refine vc_s rfl rfl (guard_yes rfl rfl (decide_eq_true h15)) rfl rfl rfl ?_
          have hC16 := hS14.split [1] [false, true, false, false] rfl; dsimp only [selF, pickA, nthA, List.cons_append, List.nil_append] at hC16
          refine wl_call cal_46 rfl (start_sp hC16) rfl ?_
          rintro e w16 ⟨_, rfl, rfl, hS16⟩; refine ⟨_, rfl, ?_⟩
          replace hS16 := hS16.join rfl; dsimp only [List.dropLast, List.cons_append, List.nil_append] at hS16; clear hC16
          clear hS14
          refine vc_e (.cons (.inl ⟨(guard_yes rfl rfl (decide_eq_true h15)), (Ev.gd (ev_load rfl ag_3 (ref_time (hS16.pull 1 rfl))))⟩) .nil) ?_
          refine vc_p rfl rfl (guard_yes rfl rfl (decide_eq_true h15)) (fun _ => (Ev.gd (ev_eql rfl rfl))) ?_
          refine vc_p rfl rfl rfl (fun _ => (ev_pickT rfl (decide_eq_true h15) rfl)) ?_
          refine vc_p rfl rfl rfl (fun _ => (ev_move rfl)) ?_
          refine vc_splitD 68 rfl (fun h17 => ?_) (fun h17 => ?_)
          · skip
            refine vc_p rfl rfl (guard_yes rfl rfl (decide_eq_true h17)) (fun _ => (Ev.gd (ev_move rfl))) ?_
            refine vc_p rfl rfl (guard_yes rfl rfl (decide_eq_true h17)) (fun _ => (Ev.gd (ev_move rfl))) ?_
            refine vc_p rfl rfl (guard_yes rfl rfl (decide_eq_true h17)) (fun _ => (Ev.gd (ev_nilCheck rfl))) ?_
            refine vc_p rfl rfl (guard_yes rfl rfl (decide_eq_true h17)) (fun _ => (Ev.gd (ev_fieldAddr rfl fo_31_6))) ?_
            refine vc_q rfl rfl (guard_yes rfl rfl (decide_eq_true h17)) (Ev.gd (ev_load rfl ag_3 (ref_time (hS16.pull 1 rfl)))) ?_
            refine vc_s rfl rfl (guard_yes rfl rfl (decide_eq_true h17)) rfl rfl rfl ?_
            have hC18 := hS16.split [0] [true, false, false, false] rfl; dsimp only [selF, pickA, nthA, List.cons_append, List.nil_append] at hC18
            refine wl_call cal_47 rfl (guess_sp hC18) rfl ?_
            rintro e w18 ⟨_, rfl, rfl, hS18⟩; refine ⟨_, rfl, ?_⟩
            replace hS18 := hS18.join rfl; dsimp only [List.dropLast, List.cons_append, List.nil_append] at hS18; clear hC18
            clear hS16
            refine vc_e (.cons (.inl ⟨(guard_yes rfl rfl (decide_eq_true h17)), (Ev.gd (ev_load rfl ag_3 (ref_time (hS18.pull 1 rfl))))⟩) (.skip (by kernel_rfl) .nil)) ?_
            refine vc_p rfl rfl (guard_yes rfl rfl (decide_eq_true h17)) (fun _ => (Ev.gd (ev_eql rfl rfl))) ?_
            refine vc_p rfl rfl rfl (fun _ => (ev_pickT rfl (decide_eq_true h17) rfl)) ?_
            refine vc_p rfl rfl rfl (fun _ => (ev_move rfl)) ?_
            refine vc_splitD 77 rfl (fun h19 => ?_) (fun h19 => ?_)
            · skip
              refine vc_p rfl rfl (guard_yes rfl rfl (decide_eq_true h19)) (fun _ => (Ev.gd (ev_move rfl))) ?_
              refine vc_p rfl rfl (guard_yes rfl rfl (decide_eq_true h19)) (fun _ => (Ev.gd (ev_fieldAddr rfl fo_34_1))) ?_
              refine vc_q rfl rfl (guard_yes rfl rfl (decide_eq_true h19)) (Ev.gd (ev_load rfl ag_9 (by first | assumption | exact hS18.cell 2 rfl rfl))) ?_
              refine vc_p rfl rfl (guard_yes rfl rfl (decide_eq_true h19)) (fun _ => (Ev.gd (ev_move rfl))) ?_
              refine vc_p rfl rfl (guard_yes rfl rfl (decide_eq_true h19)) (fun _ => (Ev.gd (ev_fieldAddr rfl fo_34_1))) ?_
              refine vc_q rfl rfl (guard_yes rfl rfl (decide_eq_true h19)) (Ev.gd (ev_load rfl ag_9 (by first | assumption | exact hS18.cell 2 rfl rfl))) ?_
              refine vc_s rfl rfl (guard_yes rfl rfl (decide_eq_true h19)) rfl rfl rfl ?_
              have hC20 := hS18.split [0] [true, false, false, false] rfl; dsimp only [selF, pickA, nthA, List.cons_append, List.nil_append] at hC20
              refine wl_call cal_20 rfl (keys_sp hC20 o.a (hP.kin hi)) rfl ?_
              rintro e w20 ⟨_, rfl, lk, hlk, hS20⟩; refine ⟨_, rfl, ?_⟩
              replace hS20 := hS20.join rfl; dsimp only [List.dropLast, List.cons_append, List.nil_append] at hS20; clear hC20
              clear hS18
              refine vc_e (.cons (.inl ⟨(guard_yes rfl rfl (decide_eq_true h19)), (Ev.gd (ev_load rfl ag_9 (by first | assumption | exact hS20.cell 3 rfl rfl)))⟩) (.skip (by kernel_rfl) (.skip (by kernel_rfl) (.skip (by kernel_rfl) .nil)))) ?_
              refine vc_s rfl rfl (guard_yes rfl rfl (decide_eq_true h19)) rfl rfl rfl ?_
              have hC21 := hS20.split [2] [false, false, true, false, false] rfl; dsimp only [selF, pickA, nthA, List.cons_append, List.nil_append] at hC21
              refine wl_call cal_21 rfl (rWith hC21 hn o.a) rfl ?_
              rintro e w21 ⟨_, rfl, Z, hZ, hZl, hS21⟩; refine ⟨_, rfl, ?_⟩
              replace hS21 := hS21.join rfl; dsimp only [List.dropLast, List.cons_append, List.nil_append] at hS21; clear hC21
              clear hS20
              obtain rfl := withZ_keys hZ hlk
              refine vc_e (.skip (by kernel_rfl) (.skip (by kernel_rfl) (.skip (by kernel_rfl) (.skip (by kernel_rfl) .nil)))) ?_
              refine vc_s rfl rfl (guard_yes rfl rfl (decide_eq_true h19)) rfl rfl rfl ?_
              have hC22 := hS21.split [] [false, false, false, false, false, false] rfl; dsimp only [selF, pickA, nthA, List.cons_append, List.nil_append] at hC22
              refine wl_call cal_18 rfl (same_sp hC22 (Ent.starL (ent_row (C := stC) (l := withZ Z o.a) (by have := withZ_len Z o.a; omega)) 2 rfl) (Ent.starL (ent_row (C := stC) (l := withZ Z o.a) (by have := withZ_len Z o.a; omega)) 0 rfl)) rfl ?_
              rintro e w22 ⟨_, rfl, rfl, hS22⟩; refine ⟨_, rfl, ?_⟩
              replace hS22 := hS22.join rfl; dsimp only [List.dropLast, List.cons_append, List.nil_append] at hS22; clear hC22
              clear hS21
              refine vc_e (.skip (by kernel_rfl) (.skip (by kernel_rfl) (.skip (by kernel_rfl) (.skip (by kernel_rfl) .nil)))) ?_
              refine vc_p rfl rfl rfl (fun _ => (ev_pickT rfl (decide_eq_true h19) rfl)) ?_
              refine vc_p rfl rfl rfl (fun _ => (ev_assign rfl)) ?_
              refine VC.nil ?_
              refine qs_seq ?_
              refine wc_sub (L' := [(6, _)]) (.cons rfl .nil) ?_
              refine wc_ret ?_
              refine fin1 (.inr rfl) rfl rfl ?_
              exact ⟨_, rfl, by first | rfl | simp, hS22.pick [3, 1, 5] rfl⟩
            · skip
              exact absurd rfl h19
          · skip
            exact absurd rfl h17
        · skip
          exact absurd rfl h15
      · skip
        exact absurd rfl h11
    · skip
      exact absurd rfl h8
  · skip
    exact absurd rfl h5

end Go.Proofs.YtieelilkkpcmdaaGreatDoor
