/- pipes: Read, Write, Can; do -/
import Derived.Test.YtgnhfhhmipcgcaaGreatDoorPx
namespace Go.Proofs.YtgnhfhhmipcgcaaGreatDoor
open Go.RowKit M
set_option linter.unusedVariables false
set_option maxRecDepth 100000 in
theorem pRead_sp {w : World} {p : Nat} {W : WS} {m : Nat} {F : Th} (hS : Sat w [worldT p W, F]) (hG : Ent F WireG) (hP : PI W m) (hn : m ≤ 1000) (id : Bs) (hid : id.length ≤ 200) (n : Int) :
    Calls Tryz.prog 24 #[.iface 25 (ptrV p 0), strV id, intV n] w (Ret fun v w' => v = .tuple #[strV (readV W id n).1, intV (readV W id n).2] ∧ Sat w' [worldT p (readP W id n), F]) := by
  refine calls_enter Tryz.func24 rfl Tryz.ntmps24 rfl ?_
  refine wc_seq ?_
  refine wc_region ?_
  refine wl_assign rfl rfl ?_
  refine wl_assign rfl rfl ?_
  refine wl_nil ?_
  refine qs_seq ?_
  refine wc_seq ?_
  refine wc_region ?_
  refine wl_move rfl rfl ?_
  refine wl_move rfl rfl ?_
  have hC1 := hS.split [0] [true, false] rfl; dsimp only [selF, pickA, nthA, List.cons_append, List.nil_append] at hC1
  refine wl_call cal_12 rfl (pGet_sp hC1 (hG.starL 0 rfl) id (by omega) (hP.len _)) rfl ?_
  rintro e w1 ⟨_, rfl, rfl, hS1⟩; refine ⟨_, rfl, ?_⟩
  replace hS1 := hS1.join rfl; dsimp only [List.dropLast, List.cons_append, List.nil_append] at hS1; clear hC1
  refine wl_move rfl rfl ?_
  refine wl_extract rfl rfl rfl ?_
  refine wl_extract rfl rfl rfl ?_
  refine wl_alloc hS1 zr_39 rfl rfl ?_
  intro b2 w2 hS2
  clear hS1
  first | (refine wl_storeA hS2 rfl rfl sz_39 rfl (by first | rfl | (simp [allOne, Value.oneCell']; done) | assumption | exact hone) (i := 0) rfl (by first | decide | exact Nat.le_of_ble_eq_true rfl | (simp; done) | omega) ?_)
  intro w3 hS4; dsimp only [List.set] at hS4
  clear hS2
  refine wl_assign rfl rfl ?_
  refine wl_nil ?_
  refine qs_seq ?_
  refine wc_sub (L' := [(9, _), (8, _), (7, _), (6, _), (0, _), (1, _), (2, _)]) (.cons rfl (.cons rfl (.cons rfl (.cons rfl (.cons rfl (.cons rfl (.cons rfl .nil))))))) ?_
  refine wc_seq ?_
  refine wc_block ?_
  refine wc_seq ?_
  refine wc_region ?_
  refine wl_move rfl rfl ?_
  refine wl_not rfl rfl ?_
  refine wl_assign rfl rfl ?_
  refine wl_nil ?_
  refine qs_seq ?_
  refine wc_cond rfl (fun h5 => ?_) (fun h5 => ?_)
  · skip
    have hx := gB_none (W := W) (id := id) (by simpa using h5)
    refine wc_seq ?_
    refine wc_region ?_
    refine wl_assign rfl rfl ?_
    refine wl_assign rfl rfl ?_
    refine wl_nil ?_
    refine qs_seq ?_
    refine wc_ret ?_
    refine qs_block_ret ?_
    refine qs_then_ret ?_
    refine fin2 (.inr rfl) rfl rfl rfl ?_
    exact ⟨_, rfl, by unfold readV; rw [hx], by unfold readP; rw [hx]; exact hS4.pick [1, 2] rfl⟩
  · skip
    obtain ⟨x, hx, hxd⟩ := gB_some (W := W) (id := id) (by simpa using h5)
    rw [hxd] at hS4
    have ho := gP_ok hx
    have hod := ho.d
    have hor := ho.r
    have how := ho.w
    refine wc_seq ?_
    refine wc_region ?_
    refine wl_move rfl rfl ?_
    refine wl_lss rfl rfl rfl ?_
    refine wl_assign rfl rfl ?_
    refine wl_nil ?_
    refine qs_seq ?_
    refine wc_sub (L' := [(20, _), (8, _), (7, _), (6, _), (0, _), (1, _), (2, _)]) (.cons rfl (.cons rfl (.cons rfl (.cons rfl (.cons rfl (.cons rfl (.cons rfl .nil))))))) ?_
    refine wc_condD rfl (fun h6 => ?_) (fun h6 => ?_)
    · skip
      refine wc_seq ?_
      refine wc_region ?_
      refine wl_assign rfl rfl ?_
      refine wl_assign rfl rfl ?_
      refine wl_nil ?_
      refine qs_seq ?_
      refine wc_ret ?_
      refine qs_block_ret ?_
      refine qs_then_ret ?_
      refine fin2 (.inr rfl) rfl rfl rfl ?_
      exact ⟨_, rfl, by unfold readV; rw [hx]; dsimp only; rw [if_pos (by omega)], by unfold readP; rw [hx]; dsimp only; rw [if_pos (.inl (by omega))]; exact hS4.pick [1, 2] rfl⟩
    · skip
      refine wc_seq ?_
      refine wc_region ?_
      refine wl_fieldAddr rfl fo_39_0 rfl ?_
      refine wl_load rfl ag_9 (by first | assumption | exact hS4.cell 0 rfl rfl) rfl ?_
      refine wl_eqlS rfl rfl rfl ?_
      refine wl_move rfl rfl ?_
      refine wl_splitD 27 rfl (fun h7 => ?_) (fun h7 => ?_)
      · skip
        refine wl_guard rfl rfl (decide_eq_true h7) ?_
        refine wl_fieldAddr rfl fo_39_2 rfl ?_
        refine wl_guard rfl rfl (decide_eq_true h7) ?_
        refine wl_load rfl ag_3 (by first | assumption | exact hS4.cell 0 rfl rfl) rfl ?_
        refine wl_guard rfl rfl (decide_eq_true h7) ?_
        refine wl_eql rfl rfl rfl ?_
        refine wl_pickT rfl (decide_eq_true h7) rfl rfl ?_
        refine wl_assign rfl rfl ?_
        refine wl_nil ?_
        refine qs_seq ?_
        refine wc_sub (L' := [(23, _), (8, _), (7, _), (6, _), (0, _), (1, _), (2, _)]) (.cons rfl (.cons rfl (.cons rfl (.cons rfl (.cons rfl (.cons rfl (.cons rfl .nil))))))) ?_
        refine wc_condD rfl (fun h8 => ?_) (fun h8 => ?_)
        · skip
          refine wc_seq ?_
          refine wc_region ?_
          refine wl_assign rfl rfl ?_
          refine wl_assign rfl rfl ?_
          refine wl_nil ?_
          refine qs_seq ?_
          refine wc_ret ?_
          refine qs_block_ret ?_
          refine qs_then_ret ?_
          refine fin2 (.inr rfl) rfl rfl rfl ?_
          exact ⟨_, rfl, by unfold readV; rw [hx]; dsimp only; rw [if_neg (by omega), if_pos ⟨by assumption, by assumption⟩], by unfold readP; rw [hx]; dsimp only; rw [if_pos (.inr (by assumption))]; exact hS4.pick [1, 2] rfl⟩
        · skip
          refine wc_seq ?_
          refine wc_region ?_
          refine wl_fieldAddr rfl fo_39_0 rfl ?_
          refine wl_load rfl ag_9 (by first | assumption | exact hS4.cell 0 rfl rfl) rfl ?_
          refine wl_eqlS rfl rfl rfl ?_
          refine wl_assign rfl rfl ?_
          refine wl_nil ?_
          refine qs_seq ?_
          refine wc_sub (L' := [(32, _), (8, _), (7, _), (6, _), (0, _), (1, _), (2, _)]) (.cons rfl (.cons rfl (.cons rfl (.cons rfl (.cons rfl (.cons rfl (.cons rfl .nil))))))) ?_
          refine wc_condD rfl (fun h9 => ?_) (fun h9 => ?_)
          · skip
            refine wc_seq ?_
            refine wc_region ?_
            refine wl_assign rfl rfl ?_
            refine wl_assign rfl rfl ?_
            refine wl_nil ?_
            refine qs_seq ?_
            refine wc_ret ?_
            refine qs_block_ret ?_
            refine qs_then_ret ?_
            refine fin2 (.inr rfl) rfl rfl rfl ?_
            exact ⟨_, rfl, by unfold readV; rw [hx]; dsimp only; rw [if_neg (by omega), if_neg (by rintro ⟨q1, q2⟩; contradiction), if_pos (by assumption)], by unfold readP; rw [hx]; dsimp only; rw [if_pos (.inr (by assumption))]; exact hS4.pick [1, 2] rfl⟩
          · skip
            refine wc_skip ?_
            refine qs_block_normal ?_
            refine qs_seq ?_
            refine wc_seq ?_
            refine wc_region ?_
            refine wl_move rfl rfl ?_
            refine wl_fieldAddr rfl fo_39_0 rfl ?_
            refine wl_load rfl ag_9 (by first | assumption | exact hS4.cell 0 rfl rfl) rfl ?_
            refine wl_lenS Tryz.underlying9 rfl rfl ?_
            refine wl_minI rfl rfl rfl ?_
            refine wl_assign rfl rfl ?_
            refine wl_nil ?_
            refine qs_seq ?_
            refine wc_sub (L' := [(2, _), (8, _), (7, _), (6, _), (0, _), (1, _)]) (.cons rfl (.cons rfl (.cons rfl (.cons rfl (.cons rfl (.cons rfl .nil)))))) ?_
            refine wc_seq ?_
            refine wc_region ?_
            refine wl_fieldAddr rfl fo_39_0 rfl ?_
            refine wl_load rfl ag_9 (by first | assumption | exact hS4.cell 0 rfl rfl) rfl ?_
            refine wl_move rfl rfl ?_
            refine wl_sliceS 0 (min n x.d.length).toNat Tryz.underlying9 rfl (bndN _) (bndS (min n x.d.length).toNat _ rfl (by omega)) (by omega) (by omega) rfl ?_
            rw [List.drop_zero]
            refine wl_assign rfl rfl ?_
            refine wl_nil ?_
            refine qs_seq ?_
            refine wc_sub (L' := [(10, _), (2, _), (8, _), (7, _), (6, _), (0, _), (1, _)]) (.cons rfl (.cons rfl (.cons rfl (.cons rfl (.cons rfl (.cons rfl (.cons rfl .nil))))))) ?_
            refine wc_seq ?_
            refine wc_region ?_
            refine wl_fieldAddr rfl fo_39_0 rfl ?_
            refine wl_load rfl ag_9 (by first | assumption | exact hS4.cell 0 rfl rfl) rfl ?_
            refine wl_move rfl rfl ?_
            refine wl_sliceS (min n x.d.length).toNat x.d.length Tryz.underlying9 rfl (bndS (min n x.d.length).toNat _ rfl (by omega)) (bndN _) (by omega) (by omega) rfl ?_
            rw [List.take_length]
            refine wl_fieldAddr rfl fo_39_0 rfl ?_
            first | (refine wl_store hS4 rfl rfl sz_9 (by first | rfl | assumption) (i := 0) rfl (by first | decide | exact Nat.le_of_ble_eq_true rfl | (simp; done) | omega) ?_)
            intro w10 hS11; dsimp only [List.set] at hS11
            clear hS4
            refine wl_nil ?_
            refine qs_seq ?_
            refine wc_sub (L' := [(10, _), (8, _), (7, _), (6, _), (0, _), (1, _)]) (.cons rfl (.cons rfl (.cons rfl (.cons rfl (.cons rfl (.cons rfl .nil)))))) ?_
            refine wc_seq ?_
            refine wc_region ?_
            refine wl_move rfl rfl ?_
            refine wl_move rfl rfl ?_
            refine wl_loadA rfl ag_39 sz_39 (by first | exact hS11.blk 0 rfl) (by first | decide | exact Nat.le_of_ble_eq_true rfl | (simp; done) | omega) rfl rfl ?_
            have hC12 := hS11.split [1] [false, true, false] rfl; dsimp only [selF, pickA, nthA, List.cons_append, List.nil_append] at hC12
            refine wl_call cal_47 rfl (pPut_sp hC12 (hG.starL 1 rfl) id (by omega) { x with d := x.d.drop (min n x.d.length).toNat } (by simp only [List.length_drop, List.length_append, List.length_take]; omega) ho.ri ho.wi) rfl ?_
            rintro e w12 ⟨_, rfl, rfl, hS12⟩; refine ⟨_, rfl, ?_⟩
            replace hS12 := hS12.join rfl; dsimp only [List.dropLast, List.cons_append, List.nil_append] at hS12; clear hC12
            clear hS11
            refine wl_nil ?_
            refine qs_seq ?_
            refine wc_seq ?_
            refine wc_region ?_
            refine wl_move rfl rfl ?_
            refine wl_assign rfl rfl ?_
            refine wl_assign rfl rfl ?_
            refine wl_nil ?_
            refine qs_seq ?_
            refine wc_sub (L' := [(7, _), (6, _)]) (.cons rfl (.cons rfl .nil)) ?_
            refine wc_ret ?_
            refine fin2 (.inr rfl) rfl rfl rfl ?_
            exact ⟨_, rfl, by unfold readV; rw [hx]; dsimp only; rw [if_neg (by omega), if_neg (by rintro ⟨q1, q2⟩; contradiction), if_neg (by assumption)], by unfold readP; rw [hx]; dsimp only; rw [if_neg (by rintro (q | q); omega; contradiction)]; exact hS12.pick [0, 2] rfl⟩
      · skip
        refine wl_unwanted rfl rfl (decide_eq_false h7) rfl ?_
        refine wl_unwanted rfl rfl (decide_eq_false h7) rfl ?_
        refine wl_unwanted rfl rfl (decide_eq_false h7) rfl ?_
        refine wl_pickF rfl (decide_eq_false h7) rfl rfl ?_
        refine wl_assign rfl rfl ?_
        refine wl_nil ?_
        refine qs_seq ?_
        refine wc_sub (L' := [(23, _), (8, _), (7, _), (6, _), (0, _), (1, _), (2, _)]) (.cons rfl (.cons rfl (.cons rfl (.cons rfl (.cons rfl (.cons rfl (.cons rfl .nil))))))) ?_
        refine wc_condF rfl ?_
        refine wc_seq ?_
        refine wc_region ?_
        refine wl_fieldAddr rfl fo_39_0 rfl ?_
        refine wl_load rfl ag_9 (by first | assumption | exact hS4.cell 0 rfl rfl) rfl ?_
        refine wl_eqlS rfl rfl rfl ?_
        refine wl_assign rfl rfl ?_
        refine wl_nil ?_
        refine qs_seq ?_
        refine wc_sub (L' := [(32, _), (8, _), (7, _), (6, _), (0, _), (1, _), (2, _)]) (.cons rfl (.cons rfl (.cons rfl (.cons rfl (.cons rfl (.cons rfl (.cons rfl .nil))))))) ?_
        refine wc_condD rfl (fun h13 => ?_) (fun h13 => ?_)
        · skip
          refine wc_seq ?_
          refine wc_region ?_
          refine wl_assign rfl rfl ?_
          refine wl_assign rfl rfl ?_
          refine wl_nil ?_
          refine qs_seq ?_
          refine wc_ret ?_
          refine qs_block_ret ?_
          refine qs_then_ret ?_
          refine fin2 (.inr rfl) rfl rfl rfl ?_
          exact ⟨_, rfl, by unfold readV; rw [hx]; dsimp only; rw [if_neg (by omega), if_neg (by rintro ⟨q1, q2⟩; contradiction), if_pos (by assumption)], by unfold readP; rw [hx]; dsimp only; rw [if_pos (.inr (by assumption))]; exact hS4.pick [1, 2] rfl⟩
        · skip
          refine wc_skip ?_
          refine qs_block_normal ?_
          refine qs_seq ?_
          refine wc_seq ?_
          refine wc_region ?_
          refine wl_move rfl rfl ?_
          refine wl_fieldAddr rfl fo_39_0 rfl ?_
          refine wl_load rfl ag_9 (by first | assumption | exact hS4.cell 0 rfl rfl) rfl ?_
          refine wl_lenS Tryz.underlying9 rfl rfl ?_
          refine wl_minI rfl rfl rfl ?_
          refine wl_assign rfl rfl ?_
          refine wl_nil ?_
          refine qs_seq ?_
          refine wc_sub (L' := [(2, _), (8, _), (7, _), (6, _), (0, _), (1, _)]) (.cons rfl (.cons rfl (.cons rfl (.cons rfl (.cons rfl (.cons rfl .nil)))))) ?_
          refine wc_seq ?_
          refine wc_region ?_
          refine wl_fieldAddr rfl fo_39_0 rfl ?_
          refine wl_load rfl ag_9 (by first | assumption | exact hS4.cell 0 rfl rfl) rfl ?_
          refine wl_move rfl rfl ?_
          refine wl_sliceS 0 (min n x.d.length).toNat Tryz.underlying9 rfl (bndN _) (bndS (min n x.d.length).toNat _ rfl (by omega)) (by omega) (by omega) rfl ?_
          rw [List.drop_zero]
          refine wl_assign rfl rfl ?_
          refine wl_nil ?_
          refine qs_seq ?_
          refine wc_sub (L' := [(10, _), (2, _), (8, _), (7, _), (6, _), (0, _), (1, _)]) (.cons rfl (.cons rfl (.cons rfl (.cons rfl (.cons rfl (.cons rfl (.cons rfl .nil))))))) ?_
          refine wc_seq ?_
          refine wc_region ?_
          refine wl_fieldAddr rfl fo_39_0 rfl ?_
          refine wl_load rfl ag_9 (by first | assumption | exact hS4.cell 0 rfl rfl) rfl ?_
          refine wl_move rfl rfl ?_
          refine wl_sliceS (min n x.d.length).toNat x.d.length Tryz.underlying9 rfl (bndS (min n x.d.length).toNat _ rfl (by omega)) (bndN _) (by omega) (by omega) rfl ?_
          rw [List.take_length]
          refine wl_fieldAddr rfl fo_39_0 rfl ?_
          first | (refine wl_store hS4 rfl rfl sz_9 (by first | rfl | assumption) (i := 0) rfl (by first | decide | exact Nat.le_of_ble_eq_true rfl | (simp; done) | omega) ?_)
          intro w14 hS15; dsimp only [List.set] at hS15
          clear hS4
          refine wl_nil ?_
          refine qs_seq ?_
          refine wc_sub (L' := [(10, _), (8, _), (7, _), (6, _), (0, _), (1, _)]) (.cons rfl (.cons rfl (.cons rfl (.cons rfl (.cons rfl (.cons rfl .nil)))))) ?_
          refine wc_seq ?_
          refine wc_region ?_
          refine wl_move rfl rfl ?_
          refine wl_move rfl rfl ?_
          refine wl_loadA rfl ag_39 sz_39 (by first | exact hS15.blk 0 rfl) (by first | decide | exact Nat.le_of_ble_eq_true rfl | (simp; done) | omega) rfl rfl ?_
          have hC16 := hS15.split [1] [false, true, false] rfl; dsimp only [selF, pickA, nthA, List.cons_append, List.nil_append] at hC16
          refine wl_call cal_47 rfl (pPut_sp hC16 (hG.starL 1 rfl) id (by omega) { x with d := x.d.drop (min n x.d.length).toNat } (by simp only [List.length_drop, List.length_append, List.length_take]; omega) ho.ri ho.wi) rfl ?_
          rintro e w16 ⟨_, rfl, rfl, hS16⟩; refine ⟨_, rfl, ?_⟩
          replace hS16 := hS16.join rfl; dsimp only [List.dropLast, List.cons_append, List.nil_append] at hS16; clear hC16
          clear hS15
          refine wl_nil ?_
          refine qs_seq ?_
          refine wc_seq ?_
          refine wc_region ?_
          refine wl_move rfl rfl ?_
          refine wl_assign rfl rfl ?_
          refine wl_assign rfl rfl ?_
          refine wl_nil ?_
          refine qs_seq ?_
          refine wc_sub (L' := [(7, _), (6, _)]) (.cons rfl (.cons rfl .nil)) ?_
          refine wc_ret ?_
          refine fin2 (.inr rfl) rfl rfl rfl ?_
          exact ⟨_, rfl, by unfold readV; rw [hx]; dsimp only; rw [if_neg (by omega), if_neg (by rintro ⟨q1, q2⟩; contradiction), if_neg (by assumption)], by unfold readP; rw [hx]; dsimp only; rw [if_neg (by rintro (q | q); omega; contradiction)]; exact hS16.pick [0, 2] rfl⟩

theorem gD_len (W : WS) (id : Bs) : (gD W id).d.length ≤ 64 := by
  unfold gD
  cases hq : gP W id with
  | none => simp [zeroP]
  | some x => exact (gP_ok hq).d
set_option maxRecDepth 100000 in
theorem pWrite_sp {w : World} {p : Nat} {W : WS} {n : Nat} {F : Th} (hS : Sat w [worldT p W, F]) (hG : Ent F WireG) (hP : PI W n) (hn : n ≤ 1000) (id : Bs) (hid : id.length ≤ 200) (s : Bs) (hs : s.length ≤ 1000000) :
    Calls Tryz.prog 21 #[.iface 25 (ptrV p 0), strV id, strV s] w (Ret fun v w' => v = .tuple #[intV (writeV W id s).1, intV (writeV W id s).2] ∧ Sat w' [worldT p (writeP W id s), F]) := by
  refine calls_enter Tryz.func21 rfl Tryz.ntmps21 rfl ?_
  refine wc_seq ?_
  refine wc_region ?_
  refine wl_assign rfl rfl ?_
  refine wl_assign rfl rfl ?_
  refine wl_nil ?_
  refine qs_seq ?_
  refine wc_seq ?_
  refine wc_region ?_
  refine wl_move rfl rfl ?_
  refine wl_move rfl rfl ?_
  have hC1 := hS.split [0] [true, false] rfl; dsimp only [selF, pickA, nthA, List.cons_append, List.nil_append] at hC1
  refine wl_call cal_12 rfl (pGet_sp hC1 (hG.starL 0 rfl) id (by omega) (hP.len _)) rfl ?_
  rintro e w1 ⟨_, rfl, rfl, hS1⟩; refine ⟨_, rfl, ?_⟩
  replace hS1 := hS1.join rfl; dsimp only [List.dropLast, List.cons_append, List.nil_append] at hS1; clear hC1
  refine wl_move rfl rfl ?_
  refine wl_extract rfl rfl rfl ?_
  refine wl_extract rfl rfl rfl ?_
  refine wl_alloc hS1 zr_39 rfl rfl ?_
  intro b2 w2 hS2
  clear hS1
  first | (refine wl_storeA hS2 rfl rfl sz_39 rfl (by first | rfl | (simp [allOne, Value.oneCell']; done) | assumption | exact hone) (i := 0) rfl (by first | decide | exact Nat.le_of_ble_eq_true rfl | (simp; done) | omega) ?_)
  intro w3 hS4; dsimp only [List.set] at hS4
  clear hS2
  refine wl_assign rfl rfl ?_
  refine wl_nil ?_
  refine qs_seq ?_
  refine wc_sub (L' := [(9, _), (8, _), (7, _), (6, _), (0, _), (1, _), (2, _)]) (.cons rfl (.cons rfl (.cons rfl (.cons rfl (.cons rfl (.cons rfl (.cons rfl .nil))))))) ?_
  refine wc_seq ?_
  have hgd : (gD W id).d.length ≤ 64 := gD_len W id
  refine wc_region ?_
  refine wl_fieldAddr rfl fo_39_0 rfl ?_
  refine wl_load rfl ag_9 (by first | assumption | exact hS4.cell 0 rfl rfl) rfl ?_
  refine wl_lenS Tryz.underlying9 rfl rfl ?_
  refine wl_sub' rfl rfl (by first | omega | (simp; omega)) (by first | omega | (simp; omega)) rfl ?_
  refine wl_assign rfl rfl ?_
  refine wl_nil ?_
  refine qs_seq ?_
  refine wc_sub (L' := [(10, _), (9, _), (8, _), (7, _), (6, _), (0, _), (1, _), (2, _)]) (.cons rfl (.cons rfl (.cons rfl (.cons rfl (.cons rfl (.cons rfl (.cons rfl (.cons rfl .nil)))))))) ?_
  refine wc_seq ?_
  refine wc_block ?_
  refine wc_seq ?_
  refine wc_region ?_
  refine wl_move rfl rfl ?_
  refine wl_not rfl rfl ?_
  refine wl_move rfl rfl ?_
  refine wl_split 25 rfl (fun h5 => ?_) (fun h5 => ?_)
  · skip
    have hx := gB_none (W := W) (id := id) (by simpa using h5)
    refine wl_unwanted rfl rfl h5 rfl ?_
    refine wl_unwanted rfl rfl h5 rfl ?_
    refine wl_unwanted rfl rfl h5 rfl ?_
    refine wl_pickT rfl h5 rfl rfl ?_
    refine wl_assign rfl rfl ?_
    refine wl_nil ?_
    refine qs_seq ?_
    refine wc_sub (L' := [(22, _), (10, _), (8, _), (7, _), (6, _), (0, _), (1, _), (2, _)]) (.cons rfl (.cons rfl (.cons rfl (.cons rfl (.cons rfl (.cons rfl (.cons rfl (.cons rfl .nil)))))))) ?_
    refine wc_condT rfl ?_
    refine wc_seq ?_
    refine wc_region ?_
    refine wl_assign rfl rfl ?_
    refine wl_assign rfl rfl ?_
    refine wl_nil ?_
    refine qs_seq ?_
    refine wc_ret ?_
    refine qs_block_ret ?_
    refine qs_then_ret ?_
    refine fin2 (.inr rfl) rfl rfl rfl ?_
    exact ⟨_, rfl, by unfold writeV; rw [hx], by unfold writeP; rw [hx]; exact hS4.pick [1, 2] rfl⟩
  · skip
    obtain ⟨x, hx, hxd⟩ := gB_some (W := W) (id := id) (by simpa using h5)
    rw [hxd] at hS4 ⊢
    have ho := gP_ok hx
    have hod := ho.d
    have hor := ho.r
    have how := ho.w
    refine wl_guard rfl rfl h5 ?_
    refine wl_fieldAddr rfl fo_39_1 rfl ?_
    refine wl_guard rfl rfl h5 ?_
    refine wl_load rfl ag_3 (by first | assumption | exact hS4.cell 0 rfl rfl) rfl ?_
    refine wl_guard rfl rfl h5 ?_
    refine wl_eql rfl rfl rfl ?_
    refine wl_pickF rfl h5 rfl rfl ?_
    refine wl_assign rfl rfl ?_
    refine wl_nil ?_
    refine qs_seq ?_
    refine wc_sub (L' := [(22, _), (10, _), (8, _), (7, _), (6, _), (0, _), (1, _), (2, _)]) (.cons rfl (.cons rfl (.cons rfl (.cons rfl (.cons rfl (.cons rfl (.cons rfl (.cons rfl .nil)))))))) ?_
    refine wc_condD rfl (fun h6 => ?_) (fun h6 => ?_)
    · skip
      refine wc_seq ?_
      refine wc_region ?_
      refine wl_assign rfl rfl ?_
      refine wl_assign rfl rfl ?_
      refine wl_nil ?_
      refine qs_seq ?_
      refine wc_ret ?_
      refine qs_block_ret ?_
      refine qs_then_ret ?_
      refine fin2 (.inr rfl) rfl rfl rfl ?_
      exact ⟨_, rfl, by unfold writeV; rw [hx]; dsimp only; rw [if_pos (by assumption)], by unfold writeP; rw [hx]; dsimp only; rw [if_pos (.inl (by assumption))]; exact hS4.pick [1, 2] rfl⟩
    · skip
      refine wc_seq ?_
      refine wc_region ?_
      refine wl_move rfl rfl ?_
      refine wl_eqlS rfl rfl rfl ?_
      refine wl_assign rfl rfl ?_
      refine wl_nil ?_
      refine qs_seq ?_
      refine wc_sub (L' := [(30, _), (10, _), (8, _), (7, _), (6, _), (0, _), (1, _), (2, _)]) (.cons rfl (.cons rfl (.cons rfl (.cons rfl (.cons rfl (.cons rfl (.cons rfl (.cons rfl .nil)))))))) ?_
      refine wc_condD rfl (fun h7 => ?_) (fun h7 => ?_)
      · skip
        refine wc_seq ?_
        refine wc_region ?_
        refine wl_assign rfl rfl ?_
        refine wl_assign rfl rfl ?_
        refine wl_nil ?_
        refine qs_seq ?_
        refine wc_ret ?_
        refine qs_block_ret ?_
        refine qs_then_ret ?_
        refine fin2 (.inr rfl) rfl rfl rfl ?_
        exact ⟨_, rfl, by unfold writeV; rw [hx]; dsimp only; rw [if_neg (by assumption), if_pos (by assumption)], by unfold writeP; rw [hx]; dsimp only; rw [if_pos (.inr (.inl (by assumption)))]; exact hS4.pick [1, 2] rfl⟩
      · skip
        refine wc_seq ?_
        refine wc_region ?_
        refine wl_move rfl rfl ?_
        refine wl_eql rfl rfl rfl ?_
        refine wl_move rfl rfl ?_
        refine wl_splitD 36 rfl (fun h8 => ?_) (fun h8 => ?_)
        · skip
          refine wl_unwanted rfl rfl (decide_eq_true h8) rfl ?_
          refine wl_unwanted rfl rfl (decide_eq_true h8) rfl ?_
          refine wl_unwanted rfl rfl (decide_eq_true h8) rfl ?_
          refine wl_unwanted rfl rfl (decide_eq_true h8) rfl ?_
          refine wl_unwanted rfl rfl (decide_eq_true h8) rfl ?_
          refine wl_unguarded rfl rfl rfl ?_
          refine wl_unguarded rfl rfl rfl ?_
          refine wl_unguarded rfl rfl rfl ?_
          refine wl_unwanted rfl rfl (decide_eq_true h8) rfl ?_
          refine wl_pickT rfl (decide_eq_true h8) rfl rfl ?_
          refine wl_assign rfl rfl ?_
          refine wl_nil ?_
          refine qs_seq ?_
          refine wc_sub (L' := [(33, _), (10, _), (8, _), (7, _), (6, _), (0, _), (1, _), (2, _)]) (.cons rfl (.cons rfl (.cons rfl (.cons rfl (.cons rfl (.cons rfl (.cons rfl (.cons rfl .nil)))))))) ?_
          refine wc_condT rfl ?_
          refine wc_seq ?_
          refine wc_region ?_
          refine wl_assign rfl rfl ?_
          refine wl_assign rfl rfl ?_
          refine wl_nil ?_
          refine qs_seq ?_
          refine wc_ret ?_
          refine qs_block_ret ?_
          refine qs_then_ret ?_
          refine fin2 (.inr rfl) rfl rfl rfl ?_
          exact ⟨_, rfl, by unfold writeV; rw [hx]; dsimp only; rw [if_neg (by assumption), if_neg (by assumption), if_pos (by omega)], by unfold writeP; rw [hx]; dsimp only; rw [if_pos (.inr (.inr (by omega)))]; exact hS4.pick [1, 2] rfl⟩
        · skip
          refine wl_guard rfl rfl (decide_eq_false h8) ?_
          refine wl_move rfl rfl ?_
          refine wl_guard rfl rfl (decide_eq_false h8) ?_
          refine wl_lenS Tryz.underlying9 rfl rfl ?_
          refine wl_guard rfl rfl (decide_eq_false h8) ?_
          refine wl_move rfl rfl ?_
          refine wl_guard rfl rfl (decide_eq_false h8) ?_
          refine wl_gtr rfl rfl rfl ?_
          refine wl_guard rfl rfl (decide_eq_false h8) ?_
          refine wl_move rfl rfl ?_
          refine wl_splitD 41 rfl (fun h9 => ?_) (fun h9 => ?_)
          · skip
            refine wl_guard rfl rfl (decide_eq_true h9) ?_
            refine wl_move rfl rfl ?_
            refine wl_guard rfl rfl (decide_eq_true h9) ?_
            refine wl_lenS Tryz.underlying9 rfl rfl ?_
            refine wl_guard rfl rfl (decide_eq_true h9) ?_
            refine wl_leq rfl rfl rfl ?_
            refine wl_guard rfl rfl (decide_eq_false h8) ?_
            refine wl_pickT rfl (decide_eq_true h9) rfl rfl ?_
            refine wl_pickF rfl (decide_eq_false h8) rfl rfl ?_
            refine wl_assign rfl rfl ?_
            refine wl_nil ?_
            refine qs_seq ?_
            refine wc_sub (L' := [(33, _), (10, _), (8, _), (7, _), (6, _), (0, _), (1, _), (2, _)]) (.cons rfl (.cons rfl (.cons rfl (.cons rfl (.cons rfl (.cons rfl (.cons rfl (.cons rfl .nil)))))))) ?_
            refine wc_condD rfl (fun h10 => ?_) (fun h10 => ?_)
            · skip
              refine wc_seq ?_
              refine wc_region ?_
              refine wl_assign rfl rfl ?_
              refine wl_assign rfl rfl ?_
              refine wl_nil ?_
              refine qs_seq ?_
              refine wc_ret ?_
              refine qs_block_ret ?_
              refine qs_then_ret ?_
              refine fin2 (.inr rfl) rfl rfl rfl ?_
              exact ⟨_, rfl, by unfold writeV; rw [hx]; dsimp only; rw [if_neg (by assumption), if_neg (by assumption), if_pos (by omega)], by unfold writeP; rw [hx]; dsimp only; rw [if_pos (.inr (.inr (by omega)))]; exact hS4.pick [1, 2] rfl⟩
            · skip
              refine wc_skip ?_
              refine qs_block_normal ?_
              refine qs_seq ?_
              refine wc_seq ?_
              refine wc_region ?_
              refine wl_move rfl rfl ?_
              refine wl_lenS Tryz.underlying9 rfl rfl ?_
              refine wl_move rfl rfl ?_
              refine wl_minI rfl rfl rfl ?_
              refine wl_assign rfl rfl ?_
              refine wl_nil ?_
              refine qs_seq ?_
              refine wc_sub (L' := [(11, _), (8, _), (7, _), (6, _), (0, _), (1, _), (2, _)]) (.cons rfl (.cons rfl (.cons rfl (.cons rfl (.cons rfl (.cons rfl (.cons rfl .nil))))))) ?_
              refine wc_seq ?_
              have hS11 := hS4.drew
              refine wc_draw [0, 1, 2, 3, 4, 5, 6, 7] [7] mix (by kernel_rfl) ?_
              refine vc_p rfl rfl rfl (fun _ => (ev_fieldAddr rfl fo_39_0)) ?_
              refine vc_q rfl rfl rfl (ev_load rfl ag_9 (by first | assumption | exact hS11.cell 0 rfl rfl)) ?_
              refine vc_p rfl rfl rfl (fun _ => (ev_move rfl)) ?_
              refine vc_p rfl rfl rfl (fun _ => (ev_move rfl)) ?_
              refine vc_p rfl rfl rfl (fun _ => (ev_sliceS 0 (min (s.length : Int) (64 - x.d.length)).toNat Tryz.underlying9 rfl (bndN _) (bndS (min (s.length : Int) (64 - x.d.length)).toNat _ rfl (by omega)) (by first | omega | (simp; omega)) (by first | omega | (simp; omega)))) ?_
              rw [List.drop_zero]
              refine vc_p rfl rfl rfl (fun _ => (ev_concat rfl rfl (by first | omega | (simp; omega)))) ?_
              refine vc_p rfl rfl rfl (fun _ => (ev_fieldAddr rfl fo_39_0)) ?_
              refine vc_s rfl rfl rfl rfl rfl rfl ?_
              first | (refine wl_store hS11 rfl rfl sz_9 (by first | rfl | assumption) (i := 0) rfl (by first | decide | exact Nat.le_of_ble_eq_true rfl | (simp; done) | omega) ?_)
              intro w12 hS13; dsimp only [List.set] at hS13
              clear hS11
              refine vc_e0 (.skip (by kernel_rfl) .nil) ?_
              refine VC.nil ?_
              refine qs_seq ?_
              refine wc_sub (L' := [(11, _), (8, _), (7, _), (6, _), (0, _), (1, _)]) (.cons rfl (.cons rfl (.cons rfl (.cons rfl (.cons rfl (.cons rfl .nil)))))) ?_
              refine wc_seq ?_
              refine wc_region ?_
              refine wl_move rfl rfl ?_
              refine wl_move rfl rfl ?_
              refine wl_loadA rfl ag_39 sz_39 (by first | exact hS13.blk 0 rfl) (by first | decide | exact Nat.le_of_ble_eq_true rfl | (simp; done) | omega) rfl rfl ?_
              have hC14 := hS13.split [1] [false, true, false] rfl; dsimp only [selF, pickA, nthA, List.cons_append, List.nil_append] at hC14
              refine wl_call cal_47 rfl (pPut_sp hC14 (hG.starL 1 rfl) id (by omega) { x with d := x.d ++ s.take (min (s.length : Int) (64 - x.d.length)).toNat } (by simp only [List.length_drop, List.length_append, List.length_take]; omega) ho.ri ho.wi) rfl ?_
              rintro e w14 ⟨_, rfl, rfl, hS14⟩; refine ⟨_, rfl, ?_⟩
              replace hS14 := hS14.join rfl; dsimp only [List.dropLast, List.cons_append, List.nil_append] at hS14; clear hC14
              clear hS13
              refine wl_nil ?_
              refine qs_seq ?_
              refine wc_seq ?_
              refine wc_region ?_
              refine wl_move rfl rfl ?_
              refine wl_assign rfl rfl ?_
              refine wl_assign rfl rfl ?_
              refine wl_nil ?_
              refine qs_seq ?_
              refine wc_sub (L' := [(7, _), (6, _)]) (.cons rfl (.cons rfl .nil)) ?_
              refine wc_ret ?_
              refine fin2 (.inr rfl) rfl rfl rfl ?_
              exact ⟨_, rfl, by unfold writeV; rw [hx]; dsimp only; rw [if_neg (by assumption), if_neg (by assumption), if_neg (by omega)], by unfold writeP; rw [hx]; dsimp only; rw [if_neg (by rintro (q | q | q); contradiction; contradiction; omega)]; exact hS14.pick [0, 2] rfl⟩
          · skip
            refine wl_unwanted rfl rfl (decide_eq_false h9) rfl ?_
            refine wl_unwanted rfl rfl (decide_eq_false h9) rfl ?_
            refine wl_unwanted rfl rfl (decide_eq_false h9) rfl ?_
            refine wl_guard rfl rfl (decide_eq_false h8) ?_
            refine wl_pickF rfl (decide_eq_false h9) rfl rfl ?_
            refine wl_pickF rfl (decide_eq_false h8) rfl rfl ?_
            refine wl_assign rfl rfl ?_
            refine wl_nil ?_
            refine qs_seq ?_
            refine wc_sub (L' := [(33, _), (10, _), (8, _), (7, _), (6, _), (0, _), (1, _), (2, _)]) (.cons rfl (.cons rfl (.cons rfl (.cons rfl (.cons rfl (.cons rfl (.cons rfl (.cons rfl .nil)))))))) ?_
            refine wc_condF rfl ?_
            refine wc_skip ?_
            refine qs_block_normal ?_
            refine qs_seq ?_
            refine wc_seq ?_
            refine wc_region ?_
            refine wl_move rfl rfl ?_
            refine wl_lenS Tryz.underlying9 rfl rfl ?_
            refine wl_move rfl rfl ?_
            refine wl_minI rfl rfl rfl ?_
            refine wl_assign rfl rfl ?_
            refine wl_nil ?_
            refine qs_seq ?_
            refine wc_sub (L' := [(11, _), (8, _), (7, _), (6, _), (0, _), (1, _), (2, _)]) (.cons rfl (.cons rfl (.cons rfl (.cons rfl (.cons rfl (.cons rfl (.cons rfl .nil))))))) ?_
            refine wc_seq ?_
            have hS15 := hS4.drew
            refine wc_draw [0, 1, 2, 3, 4, 5, 6, 7] [7] mix (by kernel_rfl) ?_
            refine vc_p rfl rfl rfl (fun _ => (ev_fieldAddr rfl fo_39_0)) ?_
            refine vc_q rfl rfl rfl (ev_load rfl ag_9 (by first | assumption | exact hS15.cell 0 rfl rfl)) ?_
            refine vc_p rfl rfl rfl (fun _ => (ev_move rfl)) ?_
            refine vc_p rfl rfl rfl (fun _ => (ev_move rfl)) ?_
            refine vc_p rfl rfl rfl (fun _ => (ev_sliceS 0 (min (s.length : Int) (64 - x.d.length)).toNat Tryz.underlying9 rfl (bndN _) (bndS (min (s.length : Int) (64 - x.d.length)).toNat _ rfl (by omega)) (by first | omega | (simp; omega)) (by first | omega | (simp; omega)))) ?_
            rw [List.drop_zero]
            refine vc_p rfl rfl rfl (fun _ => (ev_concat rfl rfl (by first | omega | (simp; omega)))) ?_
            refine vc_p rfl rfl rfl (fun _ => (ev_fieldAddr rfl fo_39_0)) ?_
            refine vc_s rfl rfl rfl rfl rfl rfl ?_
            first | (refine wl_store hS15 rfl rfl sz_9 (by first | rfl | assumption) (i := 0) rfl (by first | decide | exact Nat.le_of_ble_eq_true rfl | (simp; done) | omega) ?_)
            intro w16 hS17; dsimp only [List.set] at hS17
            clear hS15
            refine vc_e0 (.skip (by kernel_rfl) .nil) ?_
            refine VC.nil ?_
            refine qs_seq ?_
            refine wc_sub (L' := [(11, _), (8, _), (7, _), (6, _), (0, _), (1, _)]) (.cons rfl (.cons rfl (.cons rfl (.cons rfl (.cons rfl (.cons rfl .nil)))))) ?_
            refine wc_seq ?_
            refine wc_region ?_
            refine wl_move rfl rfl ?_
            refine wl_move rfl rfl ?_
            refine wl_loadA rfl ag_39 sz_39 (by first | exact hS17.blk 0 rfl) (by first | decide | exact Nat.le_of_ble_eq_true rfl | (simp; done) | omega) rfl rfl ?_
            have hC18 := hS17.split [1] [false, true, false] rfl; dsimp only [selF, pickA, nthA, List.cons_append, List.nil_append] at hC18
            refine wl_call cal_47 rfl (pPut_sp hC18 (hG.starL 1 rfl) id (by omega) { x with d := x.d ++ s.take (min (s.length : Int) (64 - x.d.length)).toNat } (by simp only [List.length_drop, List.length_append, List.length_take]; omega) ho.ri ho.wi) rfl ?_
            rintro e w18 ⟨_, rfl, rfl, hS18⟩; refine ⟨_, rfl, ?_⟩
            replace hS18 := hS18.join rfl; dsimp only [List.dropLast, List.cons_append, List.nil_append] at hS18; clear hC18
            clear hS17
            refine wl_nil ?_
            refine qs_seq ?_
            refine wc_seq ?_
            refine wc_region ?_
            refine wl_move rfl rfl ?_
            refine wl_assign rfl rfl ?_
            refine wl_assign rfl rfl ?_
            refine wl_nil ?_
            refine qs_seq ?_
            refine wc_sub (L' := [(7, _), (6, _)]) (.cons rfl (.cons rfl .nil)) ?_
            refine wc_ret ?_
            refine fin2 (.inr rfl) rfl rfl rfl ?_
            exact ⟨_, rfl, by unfold writeV; rw [hx]; dsimp only; rw [if_neg (by assumption), if_neg (by assumption), if_neg (by omega)], by unfold writeP; rw [hx]; dsimp only; rw [if_neg (by rintro (q | q | q); contradiction; contradiction; omega)]; exact hS18.pick [0, 2] rfl⟩

set_option maxRecDepth 100000 in
theorem pCan_sp {w : World} {p : Nat} {W : WS} {m : Nat} {F : Th} (hS : Sat w [worldT p W, F]) (hG : Ent F WireG) (hP : PI W m) (hn : m ≤ 1000) (id : Bs) (hid : id.length ≤ 200) (wr : Bool) (n : Int) :
    Calls Tryz.prog 28 #[.iface 25 (ptrV p 0), strV id, .bool wr, intV n] w (Ret fun v w' => v = .bool (canB W id wr n) ∧ Sat w' [worldT p W, F]) := by
  refine calls_enter Tryz.func28 rfl Tryz.ntmps28 rfl ?_
  refine wc_seq ?_
  refine wc_region ?_
  refine wl_assign rfl rfl ?_
  refine wl_nil ?_
  refine qs_seq ?_
  refine wc_seq ?_
  refine wc_region ?_
  refine wl_move rfl rfl ?_
  refine wl_move rfl rfl ?_
  have hC1 := hS.split [0] [true, false] rfl; dsimp only [selF, pickA, nthA, List.cons_append, List.nil_append] at hC1
  refine wl_call cal_12 rfl (pGet_sp hC1 (hG.starL 0 rfl) id (by omega) (hP.len _)) rfl ?_
  rintro e w1 ⟨_, rfl, rfl, hS1⟩; refine ⟨_, rfl, ?_⟩
  replace hS1 := hS1.join rfl; dsimp only [List.dropLast, List.cons_append, List.nil_append] at hS1; clear hC1
  refine wl_move rfl rfl ?_
  refine wl_extract rfl rfl rfl ?_
  refine wl_extract rfl rfl rfl ?_
  refine wl_alloc hS1 zr_39 rfl rfl ?_
  intro b2 w2 hS2
  clear hS1
  first | (refine wl_storeA hS2 rfl rfl sz_39 rfl (by first | rfl | (simp [allOne, Value.oneCell']; done) | assumption | exact hone) (i := 0) rfl (by first | decide | exact Nat.le_of_ble_eq_true rfl | (simp; done) | omega) ?_)
  intro w3 hS4; dsimp only [List.set] at hS4
  clear hS2
  refine wl_assign rfl rfl ?_
  refine wl_nil ?_
  refine qs_seq ?_
  refine wc_sub (L' := [(10, _), (9, _), (8, _), (2, _), (3, _)]) (.cons rfl (.cons rfl (.cons rfl (.cons rfl (.cons rfl .nil))))) ?_
  refine wc_seq ?_
  have hgd : (gD W id).d.length ≤ 64 := gD_len W id
  refine wc_region ?_
  refine wl_fieldAddr rfl fo_39_0 rfl ?_
  refine wl_load rfl ag_9 (by first | assumption | exact hS4.cell 0 rfl rfl) rfl ?_
  refine wl_lenS Tryz.underlying9 rfl rfl ?_
  refine wl_sub' rfl rfl (by omega) (by omega) rfl ?_
  refine wl_assign rfl rfl ?_
  refine wl_nil ?_
  refine qs_seq ?_
  refine wc_seq ?_
  refine wc_block ?_
  refine wc_seq ?_
  refine wc_region ?_
  refine wl_move rfl rfl ?_
  refine wl_not rfl rfl ?_
  refine wl_move rfl rfl ?_
  refine wl_split 25 rfl (fun h5 => ?_) (fun h5 => ?_)
  · skip
    have hx := gB_none (W := W) (id := id) (by simpa using h5)
    refine wl_unwanted rfl rfl h5 rfl ?_
    refine wl_unwanted rfl rfl h5 rfl ?_
    refine wl_pickT rfl h5 rfl rfl ?_
    refine wl_assign rfl rfl ?_
    refine wl_nil ?_
    refine qs_seq ?_
    refine wc_sub (L' := [(22, _), (11, _), (9, _), (8, _), (2, _), (3, _)]) (.cons rfl (.cons rfl (.cons rfl (.cons rfl (.cons rfl (.cons rfl .nil)))))) ?_
    refine wc_condT rfl ?_
    refine wc_seq ?_
    refine wc_region ?_
    refine wl_assign rfl rfl ?_
    refine wl_nil ?_
    refine qs_seq ?_
    refine wc_ret ?_
    refine qs_block_ret ?_
    refine qs_then_ret ?_
    refine fin1 (.inr rfl) rfl rfl ?_
    exact ⟨_, rfl, by unfold canB; rw [hx], hS4.pick [1, 2] rfl⟩
  · skip
    obtain ⟨x, hx, hxd⟩ := gB_some (W := W) (id := id) (by simpa using h5)
    rw [hxd] at hS4 ⊢
    have ho := gP_ok hx
    have hod := ho.d
    have hor := ho.r
    have how := ho.w
    refine wl_guard rfl rfl h5 ?_
    refine wl_move rfl rfl ?_
    refine wl_guard rfl rfl h5 ?_
    refine wl_lss rfl rfl rfl ?_
    refine wl_pickF rfl h5 rfl rfl ?_
    refine wl_assign rfl rfl ?_
    refine wl_nil ?_
    refine qs_seq ?_
    refine wc_sub (L' := [(22, _), (11, _), (9, _), (8, _), (2, _), (3, _)]) (.cons rfl (.cons rfl (.cons rfl (.cons rfl (.cons rfl (.cons rfl .nil)))))) ?_
    refine wc_condD rfl (fun h6 => ?_) (fun h6 => ?_)
    · skip
      refine wc_seq ?_
      refine wc_region ?_
      refine wl_assign rfl rfl ?_
      refine wl_nil ?_
      refine qs_seq ?_
      refine wc_ret ?_
      refine qs_block_ret ?_
      refine qs_then_ret ?_
      refine fin1 (.inr rfl) rfl rfl ?_
      exact ⟨_, rfl, by unfold canB; rw [hx]; dsimp only; rw [if_pos (by omega)], hS4.pick [1, 2] rfl⟩
    · skip
      refine wc_seq ?_
      refine wc_region ?_
      refine wl_move rfl rfl ?_
      refine wl_assign rfl rfl ?_
      refine wl_nil ?_
      refine qs_seq ?_
      refine wc_cond rfl (fun h7 => ?_) (fun h7 => ?_)
      · skip
        refine wc_seq ?_
        refine wc_region ?_
        refine wl_fieldAddr rfl fo_39_1 rfl ?_
        refine wl_load rfl ag_3 (by first | assumption | exact hS4.cell 0 rfl rfl) rfl ?_
        refine wl_eql rfl rfl rfl ?_
        refine wl_move rfl rfl ?_
        refine wl_splitD 34 rfl (fun h8 => ?_) (fun h8 => ?_)
        · skip
          refine wl_unwanted rfl rfl (decide_eq_true h8) rfl ?_
          refine wl_unwanted rfl rfl (decide_eq_true h8) rfl ?_
          refine wl_unwanted rfl rfl (decide_eq_true h8) rfl ?_
          refine wl_pickT rfl (decide_eq_true h8) rfl rfl ?_
          refine wl_move rfl rfl ?_
          refine wl_unwanted rfl rfl rfl rfl ?_
          refine wl_unwanted rfl rfl rfl rfl ?_
          refine wl_unwanted rfl rfl rfl rfl ?_
          refine wl_unguarded rfl rfl rfl ?_
          refine wl_unguarded rfl rfl rfl ?_
          refine wl_unwanted rfl rfl rfl rfl ?_
          refine wl_pickT rfl rfl rfl rfl ?_
          refine wl_assign rfl rfl ?_
          refine wl_nil ?_
          refine qs_seq ?_
          refine wc_sub (L' := [(8, _), (9, _)]) (.cons rfl (.cons rfl .nil)) ?_
          refine wc_ret ?_
          refine qs_block_ret ?_
          refine qs_then_ret ?_
          refine fin1 (.inr rfl) rfl rfl ?_
          exact ⟨_, rfl, by unfold canB; rw [hx]; dsimp only; rw [if_neg (by omega), if_pos (by assumption)]; exact congrArg Value.bool (by first | exact (decide_eq_true (by first | omega | (simp_all; done))).symm | exact (decide_eq_false (by first | omega | (simp_all; done))).symm | exact decide_eq_decide.2 (by first | omega | (simp_all; done))), hS4.pick [1, 2] rfl⟩
        · skip
          refine wl_guard rfl rfl (decide_eq_false h8) ?_
          refine wl_move rfl rfl ?_
          refine wl_guard rfl rfl (decide_eq_false h8) ?_
          refine wl_move rfl rfl ?_
          refine wl_guard rfl rfl (decide_eq_false h8) ?_
          refine wl_leq rfl rfl rfl ?_
          refine wl_pickF rfl (decide_eq_false h8) rfl rfl ?_
          refine wl_move rfl rfl ?_
          refine wl_splitD 39 rfl (fun h9 => ?_) (fun h9 => ?_)
          · skip
            refine wl_unwanted rfl rfl (decide_eq_true h9) rfl ?_
            refine wl_unwanted rfl rfl (decide_eq_true h9) rfl ?_
            refine wl_unwanted rfl rfl (decide_eq_true h9) rfl ?_
            refine wl_unguarded rfl rfl rfl ?_
            refine wl_unguarded rfl rfl rfl ?_
            refine wl_unwanted rfl rfl (decide_eq_true h9) rfl ?_
            refine wl_pickT rfl (decide_eq_true h9) rfl rfl ?_
            refine wl_assign rfl rfl ?_
            refine wl_nil ?_
            refine qs_seq ?_
            refine wc_sub (L' := [(8, _), (9, _)]) (.cons rfl (.cons rfl .nil)) ?_
            refine wc_ret ?_
            refine qs_block_ret ?_
            refine qs_then_ret ?_
            refine fin1 (.inr rfl) rfl rfl ?_
            exact ⟨_, rfl, by unfold canB; rw [hx]; dsimp only; rw [if_neg (by omega), if_pos (by assumption)]; exact congrArg Value.bool (by first | exact (decide_eq_true (by first | omega | (simp_all; done))).symm | exact (decide_eq_false (by first | omega | (simp_all; done))).symm | exact decide_eq_decide.2 (by first | omega | (simp_all; done))), hS4.pick [1, 2] rfl⟩
          · skip
            refine wl_guard rfl rfl (decide_eq_false h9) ?_
            refine wl_move rfl rfl ?_
            refine wl_guard rfl rfl (decide_eq_false h9) ?_
            refine wl_gtr rfl rfl rfl ?_
            refine wl_guard rfl rfl (decide_eq_false h9) ?_
            refine wl_move rfl rfl ?_
            refine wl_splitD 42 rfl (fun h10 => ?_) (fun h10 => ?_)
            · skip
              refine wl_guard rfl rfl (decide_eq_true h10) ?_
              refine wl_move rfl rfl ?_
              refine wl_guard rfl rfl (decide_eq_true h10) ?_
              refine wl_gtr rfl rfl rfl ?_
              refine wl_guard rfl rfl (decide_eq_false h9) ?_
              refine wl_pickT rfl (decide_eq_true h10) rfl rfl ?_
              refine wl_pickF rfl (decide_eq_false h9) rfl rfl ?_
              refine wl_assign rfl rfl ?_
              refine wl_nil ?_
              refine qs_seq ?_
              refine wc_sub (L' := [(8, _), (9, _)]) (.cons rfl (.cons rfl .nil)) ?_
              refine wc_ret ?_
              refine qs_block_ret ?_
              refine qs_then_ret ?_
              refine fin1 (.inr rfl) rfl rfl ?_
              exact ⟨_, rfl, by unfold canB; rw [hx]; dsimp only; rw [if_neg (by omega), if_pos (by assumption)]; exact congrArg Value.bool (by first | exact (decide_eq_true (by first | omega | (simp_all; done))).symm | exact (decide_eq_false (by first | omega | (simp_all; done))).symm | exact decide_eq_decide.2 (by first | omega | (simp_all; done))), hS4.pick [1, 2] rfl⟩
            · skip
              refine wl_unwanted rfl rfl (decide_eq_false h10) rfl ?_
              refine wl_unwanted rfl rfl (decide_eq_false h10) rfl ?_
              refine wl_guard rfl rfl (decide_eq_false h9) ?_
              refine wl_pickF rfl (decide_eq_false h10) rfl rfl ?_
              refine wl_pickF rfl (decide_eq_false h9) rfl rfl ?_
              refine wl_assign rfl rfl ?_
              refine wl_nil ?_
              refine qs_seq ?_
              refine wc_sub (L' := [(8, _), (9, _)]) (.cons rfl (.cons rfl .nil)) ?_
              refine wc_ret ?_
              refine qs_block_ret ?_
              refine qs_then_ret ?_
              refine fin1 (.inr rfl) rfl rfl ?_
              exact ⟨_, rfl, by unfold canB; rw [hx]; dsimp only; rw [if_neg (by omega), if_pos (by assumption)]; exact congrArg Value.bool (by first | exact (decide_eq_true (by first | omega | (simp_all; done))).symm | exact (decide_eq_false (by first | omega | (simp_all; done))).symm | exact decide_eq_decide.2 (by first | omega | (simp_all; done))), hS4.pick [1, 2] rfl⟩
      · skip
        refine wc_skip ?_
        refine qs_block_normal ?_
        refine qs_seq ?_
        refine wc_seq ?_
        refine wc_region ?_
        refine wl_fieldAddr rfl fo_39_0 rfl ?_
        refine wl_load rfl ag_9 (by first | assumption | exact hS4.cell 0 rfl rfl) rfl ?_
        refine wl_neqS rfl rfl rfl ?_
        refine wl_move rfl rfl ?_
        refine wl_splitD 50 rfl (fun h11 => ?_) (fun h11 => ?_)
        · skip
          refine wl_unwanted rfl rfl (decide_eq_true h11) rfl ?_
          refine wl_unwanted rfl rfl (decide_eq_true h11) rfl ?_
          refine wl_unwanted rfl rfl (decide_eq_true h11) rfl ?_
          refine wl_pickT rfl (decide_eq_true h11) rfl rfl ?_
          refine wl_assign rfl rfl ?_
          refine wl_nil ?_
          refine qs_seq ?_
          refine wc_sub (L' := [(8, _)]) (.cons rfl .nil) ?_
          refine wc_ret ?_
          refine fin1 (.inr rfl) rfl rfl ?_
          exact ⟨_, rfl, by unfold canB; rw [hx]; dsimp only; rw [if_neg (by omega), if_neg (by simp_all)]; exact congrArg Value.bool (by first | exact (decide_eq_true (by first | omega | (simp_all; done))).symm | exact (decide_eq_false (by first | omega | (simp_all; done))).symm | exact decide_eq_decide.2 (by first | omega | (simp_all; done))), hS4.pick [1, 2] rfl⟩
        · skip
          refine wl_guard rfl rfl (decide_eq_false h11) ?_
          refine wl_fieldAddr rfl fo_39_2 rfl ?_
          refine wl_guard rfl rfl (decide_eq_false h11) ?_
          refine wl_load rfl ag_3 (by first | assumption | exact hS4.cell 0 rfl rfl) rfl ?_
          refine wl_guard rfl rfl (decide_eq_false h11) ?_
          refine wl_eql rfl rfl rfl ?_
          refine wl_pickF rfl (decide_eq_false h11) rfl rfl ?_
          refine wl_assign rfl rfl ?_
          refine wl_nil ?_
          refine qs_seq ?_
          refine wc_sub (L' := [(8, _)]) (.cons rfl .nil) ?_
          refine wc_ret ?_
          refine fin1 (.inr rfl) rfl rfl ?_
          exact ⟨_, rfl, by unfold canB; rw [hx]; dsimp only; rw [if_neg (by omega), if_neg (by simp_all)]; exact congrArg Value.bool (by first | exact (decide_eq_true (by first | omega | (simp_all; done))).symm | exact (decide_eq_false (by first | omega | (simp_all; done))).symm | exact decide_eq_decide.2 (by first | omega | (simp_all; done))), hS4.pick [1, 2] rfl⟩

section
variable {P : Program} {n : Nat} {ops : Array Oper} {Q : Exit → Act → World → Prop} {rest : List Oper} {L : Env} {w : World} {d : Nat} {ty : TypeId} {pos : String} {aft : Array Edge} {x y : Operand} {t t2 : TypeId}
theorem wl_remT {a b : Int} (hx : M.look L x = some (.int .i64 a)) (hy : M.look L y = some (.int .i64 b)) (hb : 0 < b ∧ b ≤ 1000) (hd : Nat.blt d n = true) (hk : wl P n ops Q rest ((d, .int .i64 (a.tmod b)) :: L) w) : wl P n ops Q (⟨some d, .binOp .rem t x y t2, ty, pos, aft, none⟩ :: rest) L w :=
  wl_val hd (fun ρ hρ => by
    have hb' : b ≠ 0 := by omega
    have h1 := Int.tmod_lt_of_pos a hb.1
    have h2 := Int.lt_tmod_of_pos a hb.1
    have e : IntKind.i64.wrap (a.tmod b) = a.tmod b := wrap64 (by omega) (by omega)
    simp [execOp, hρ _ _ hx, hρ _ _ hy, eqGuard, binOp, Op.intDiv, hb', e]) hk
end
theorem pick_sp {w : World} {F : Th} (hS : Sat w [F]) (n m : Int) (hm : 0 < m ∧ m ≤ 1000) :
    Calls Tryz.prog 27 #[intV n, intV m] w (Ret fun v w' => v = intV (n % m) ∧ Sat w' [F]) := by
  refine calls_enter Tryz.func27 rfl Tryz.ntmps27 rfl ?_
  have hm1 := Int.tmod_lt_of_pos n hm.1
  have hm2 := Int.lt_tmod_of_pos n hm.1
  refine wc_seq ?_
  refine wc_region ?_
  refine wl_assign rfl rfl ?_
  refine wl_nil ?_
  refine qs_seq ?_
  refine wc_seq ?_
  refine wc_region ?_
  refine wl_move rfl rfl ?_
  refine wl_move rfl rfl ?_
  refine wl_remT rfl rfl hm rfl ?_
  refine wl_assign rfl rfl ?_
  refine wl_nil ?_
  refine qs_seq ?_
  refine wc_mid (fun E0 W0 => E0 = [(0, intV (n % m))] ∧ Sat W0 [F]) ?_ ?_
  · skip
    refine wc_seq ?_
    refine wc_region ?_
    refine wl_move rfl rfl ?_
    refine wl_lss rfl rfl rfl ?_
    refine wl_nil ?_
    refine qs_seq ?_
    refine wc_condD rfl (fun h2 => ?_) (fun h2 => ?_)
    · skip
      refine wc_region ?_
      refine wl_move rfl rfl ?_
      refine wl_move rfl rfl ?_
      refine wl_add rfl rfl (by omega) (by omega) rfl ?_
      refine wl_assign rfl rfl ?_
      refine wl_nil ?_
      exact qs_mid (L' := [(0, _)]) (.cons rfl .nil) ⟨by rw [pick_eq (n := n) hm.1, if_pos (by assumption)], hS⟩
    · skip
      refine wc_skip ?_
      exact qs_mid (L' := [(0, _)]) (.cons rfl .nil) ⟨by rw [pick_eq (n := n) hm.1, if_neg (by assumption)], hS⟩
  rintro _ w1 ⟨rfl, hS1⟩
  refine wc_seq ?_
  refine wc_region ?_
  refine wl_move rfl rfl ?_
  refine wl_assign rfl rfl ?_
  refine wl_nil ?_
  refine qs_seq ?_
  refine wc_ret ?_
  refine fin1 (.inr rfl) rfl rfl ?_
  exact ⟨_, rfl, rfl, hS1⟩

set_option maxRecDepth 100000 in
theorem pfew_sp {w : World} {F : Th} (hS : Sat w [F]) {lv : Value} {l : List OpP} (hL : Ent F (RdL oC lv l)) (m : Int) :
    Calls Tryz.prog 6 #[lv, intV m] w (Ret fun v w' => v = .bool (fewO m l) ∧ Sat w' [F]) := by
  obtain ⟨ao, cap, rfl, hmax⟩ := (hL.sat hS 0 rfl).shape
  refine calls_enter Tryz.func6 rfl Tryz.ntmps6 rfl ?_
  refine wc_seq ?_
  refine wc_region ?_
  refine wl_assign rfl rfl ?_
  refine wl_nil ?_
  refine qs_seq ?_
  refine wc_seq ?_
  refine wc_seq ?_
  refine wc_region ?_
  refine wl_assign rfl rfl ?_
  refine wl_nil ?_
  refine qs_seq ?_
  refine wc_block ?_
  refine wc_loop (fun K0 E0 W0 => ∃ (i : Nat), K0 = l.length - i ∧ E0 = [(0, .slice ao l.length cap), (1, intV m), (5, intV (i : Int))] ∧ Sat W0 [F] ∧ (i ≤ l.length) ∧ (∀ j o, j < i → l[j]? = some o → o.id.length ≤ 200 ∧ o.s.length ≤ 200)) (L0 := [(0, _), (1, _), (5, _)]) (l.length - 0) (.cons rfl (.cons rfl (.cons rfl .nil))) ⟨0, rfl, rfl, hS, by omega, by omega⟩ ?_
  rintro _ _ w1 ⟨i, rfl, rfl, hS1, hi, hok⟩
  refine wc_seq ?_
  refine wc_seq ?_
  refine wc_region ?_
  refine wl_move rfl rfl ?_
  refine wl_move rfl rfl ?_
  refine wl_lenL Tryz.underlying22 rfl rfl ?_
  refine wl_lss rfl rfl rfl ?_
  refine wl_nil ?_
  refine qs_seq ?_
  refine wc_condD rfl (fun h2 => ?_) (fun h2 => ?_)
  · skip
    obtain ⟨o, ho⟩ : ∃ o, l[i]? = some o := ⟨_, List.getElem?_eq_getElem (by omega)⟩
    obtain ⟨b, off, rfl, hc⟩ := (hL.sat hS1 0 rfl).get ho
    refine wc_skip ?_
    refine qs_seq ?_
    refine wc_seq ?_
    refine wc_block ?_
    refine wc_seq ?_
    refine wc_region ?_
    refine wl_move rfl rfl ?_
    refine wl_move rfl rfl ?_
    refine wl_indexAddr i rfl rfl (by first | rfl | omega) (by omega) es_22 rfl ?_
    refine wl_fieldAddr rfl fo_36_1 rfl ?_
    refine wl_load rfl ag_9 (hc 1 _ rfl) rfl ?_
    refine wl_lenS Tryz.underlying9 rfl rfl ?_
    refine wl_gtr rfl rfl rfl ?_
    refine wl_move rfl rfl ?_
    refine wl_splitD 19 rfl (fun h3 => ?_) (fun h3 => ?_)
    · skip
      refine wl_unwanted rfl rfl (decide_eq_true h3) rfl ?_
      refine wl_unwanted rfl rfl (decide_eq_true h3) rfl ?_
      refine wl_unwanted rfl rfl (decide_eq_true h3) rfl ?_
      refine wl_unwanted rfl rfl (decide_eq_true h3) rfl ?_
      refine wl_unwanted rfl rfl (decide_eq_true h3) rfl ?_
      refine wl_unwanted rfl rfl (decide_eq_true h3) rfl ?_
      refine wl_unwanted rfl rfl (decide_eq_true h3) rfl ?_
      refine wl_pickT rfl (decide_eq_true h3) rfl rfl ?_
      refine wl_nil ?_
      refine qs_seq ?_
      refine wc_sub (L' := [(27, _), (0, _), (1, _), (5, _)]) (.cons rfl (.cons rfl (.cons rfl (.cons rfl .nil)))) ?_
      refine wc_condT rfl ?_
      refine wc_seq ?_
      refine wc_region ?_
      refine wl_assign rfl rfl ?_
      refine wl_nil ?_
      refine qs_seq ?_
      refine wc_ret ?_
      refine qs_block_ret ?_
      refine qs_then_ret ?_
      refine qs_then_ret ?_
      refine qs_block_ret ?_
      refine qs_then_ret ?_
      refine fin1 (.inr rfl) rfl rfl ?_
      exact ⟨_, rfl, by rw [fewO_bad ho (by omega)], hS1⟩
    · skip
      refine wl_guard rfl rfl (decide_eq_false h3) ?_
      refine wl_move rfl rfl ?_
      refine wl_guard rfl rfl (decide_eq_false h3) ?_
      refine wl_move rfl rfl ?_
      refine wl_guard rfl rfl (decide_eq_false h3) ?_
      refine wl_indexAddr i rfl rfl (by first | rfl | omega) (by omega) es_22 rfl ?_
      refine wl_guard rfl rfl (decide_eq_false h3) ?_
      refine wl_fieldAddr rfl fo_36_4 rfl ?_
      refine wl_guard rfl rfl (decide_eq_false h3) ?_
      refine wl_load rfl ag_9 (hc 4 _ rfl) rfl ?_
      refine wl_guard rfl rfl (decide_eq_false h3) ?_
      refine wl_lenS Tryz.underlying9 rfl rfl ?_
      refine wl_guard rfl rfl (decide_eq_false h3) ?_
      refine wl_gtr rfl rfl rfl ?_
      refine wl_pickF rfl (decide_eq_false h3) rfl rfl ?_
      refine wl_nil ?_
      refine qs_seq ?_
      refine wc_sub (L' := [(27, _), (0, _), (1, _), (5, _)]) (.cons rfl (.cons rfl (.cons rfl (.cons rfl .nil)))) ?_
      refine wc_condD rfl (fun h4 => ?_) (fun h4 => ?_)
      · skip
        refine wc_seq ?_
        refine wc_region ?_
        refine wl_assign rfl rfl ?_
        refine wl_nil ?_
        refine qs_seq ?_
        refine wc_ret ?_
        refine qs_block_ret ?_
        refine qs_then_ret ?_
        refine qs_then_ret ?_
        refine qs_block_ret ?_
        refine qs_then_ret ?_
        refine fin1 (.inr rfl) rfl rfl ?_
        exact ⟨_, rfl, by rw [fewO_bad ho (by omega)], hS1⟩
      · skip
        refine wc_skip ?_
        refine qs_block_normal ?_
        refine qs_seq ?_
        refine wc_region ?_
        refine wl_move rfl rfl ?_
        refine wl_add rfl rfl (by omega) (by omega) rfl ?_
        refine wl_assign rfl rfl ?_
        refine wl_nil ?_
        exact qs_round (L1 := [(0, _), (1, _), (5, intV ((i + 1 : Nat) : Int))]) (.cons rfl (.cons rfl (.cons rfl .nil))) (k1 := l.length - (i + 1)) (by omega) ⟨i + 1, rfl, rfl, hS1, by omega, fun j q hj hq => by by_cases e : j = i; (subst e; rw [ho] at hq; cases hq; omega); exact hok j q (by omega) hq⟩
  · skip
    refine wc_exit ?_
    refine qs_then_exit ?_
    refine qs_then_exit ?_
    refine qs_block_exit ?_
    refine qs_seq ?_
    refine wc_seq ?_
    refine wc_region ?_
    refine wl_move rfl rfl ?_
    refine wl_lenL Tryz.underlying22 rfl rfl ?_
    refine wl_move rfl rfl ?_
    refine wl_leq rfl rfl rfl ?_
    refine wl_assign rfl rfl ?_
    refine wl_nil ?_
    refine qs_seq ?_
    refine wc_sub (L' := [(4, _)]) (.cons rfl .nil) ?_
    refine wc_ret ?_
    refine fin1 (.inr rfl) rfl rfl ?_
    exact ⟨_, rfl, by rw [fewO_end hok (by omega)], hS1⟩

set_option maxRecDepth 100000 in
theorem pdo_sp {w : World} {p : Nat} {W : WS} {n : Nat} {F : Th} (hS : Sat w [worldT p W, F]) (hG : Ent F WireG) (hP : PI W n) (hn : n ≤ 1000) (o : OpP) (ho : o.id.length ≤ 200 ∧ o.s.length ≤ 200) :
    Calls Tryz.prog 10 #[ptrV p 0, .agg #[intV o.k, strV o.id, .bool o.wr, intV o.n, strV o.s]] w (Ret fun v w' => v = .tuple #[strV (doV W o).1, intV (doV W o).2.1, intV (doV W o).2.2] ∧ Sat w' [worldT p (doP W o), F]) := by
  refine calls_enter Tryz.func10 rfl Tryz.ntmps10 rfl ?_
  refine wc_seq ?_
  refine wc_region ?_
  refine wl_box hS rfl rfl rfl ?_
  intro b1 w1 hS1
  refine wl_assign rfl rfl ?_
  refine wl_assign rfl rfl ?_
  refine wl_assign rfl rfl ?_
  refine wl_nil ?_
  refine qs_seq ?_
  refine wc_seq ?_
  refine wc_seq ?_
  refine wc_region ?_
  refine wl_fieldAddr rfl fo_36_0 rfl ?_
  refine wl_load rfl ag_3 (by first | assumption | exact hS1.cell 0 rfl rfl) rfl ?_
  have hC2 := hS1.split [] [false, false, false] rfl; dsimp only [selF, pickA, nthA, List.cons_append, List.nil_append] at hC2
  refine wl_call cal_27 rfl (pick_sp hC2 o.k 6 (by omega)) rfl ?_
  rintro e w2 ⟨_, rfl, rfl, hS2⟩; refine ⟨_, rfl, ?_⟩
  replace hS2 := hS2.join rfl; dsimp only [List.dropLast, List.cons_append, List.nil_append] at hS2; clear hC2
  clear hS1
  refine wl_nil ?_
  refine qs_seq ?_
  refine wc_block ?_
  refine wc_seq ?_
  refine wc_region ?_
  refine wl_eql rfl rfl rfl ?_
  refine wl_assign rfl rfl ?_
  refine wl_nil ?_
  refine qs_seq ?_
  refine wc_sub (L' := [(14, _), (13, _), (6, _), (5, _), (4, _), (3, _), (0, _)]) (.cons rfl (.cons rfl (.cons rfl (.cons rfl (.cons rfl (.cons rfl (.cons rfl .nil))))))) ?_
  refine wc_condD rfl (fun h3 => ?_) (fun h3 => ?_)
  · skip
    refine wc_seq ?_
    refine wc_region ?_
    refine wl_move rfl rfl ?_
    refine wl_makeIface nif_25 rfl rfl ?_
    refine wl_fieldAddr rfl fo_36_1 rfl ?_
    refine wl_load rfl ag_9 (by first | assumption | exact hS2.cell 0 rfl rfl) rfl ?_
    have hC4 := hS2.split [1] [false, true, false] rfl; dsimp only [selF, pickA, nthA, List.cons_append, List.nil_append] at hC4
    refine wl_call cal_19 rfl (pMake_sp hC4 (hG.starL 1 rfl) hP hn o.id ho.1) rfl ?_
    rintro e w4 ⟨_, rfl, rfl, hS4⟩; refine ⟨_, rfl, ?_⟩
    replace hS4 := hS4.join rfl; dsimp only [List.dropLast, List.cons_append, List.nil_append] at hS4; clear hC4
    clear hS2
    refine wl_assign rfl rfl ?_
    refine wl_assign rfl rfl ?_
    refine wl_assign rfl rfl ?_
    refine wl_nil ?_
    refine qs_seq ?_
    refine wc_sub (L' := [(6, _), (5, _), (4, _), (3, _), (0, _)]) (.cons rfl (.cons rfl (.cons rfl (.cons rfl (.cons rfl .nil))))) ?_
    refine wc_ret ?_
    refine qs_block_ret ?_
    refine qs_then_ret ?_
    refine fin3 (.inr rfl) rfl rfl rfl rfl ?_
    exact ⟨_, rfl, by unfold doV; rw [if_pos (by assumption)], by unfold doP; rw [if_pos (by assumption)]; exact hS4.pick [0, 2] rfl⟩
  · skip
    refine wc_seq ?_
    refine wc_region ?_
    refine wl_eql rfl rfl rfl ?_
    refine wl_assign rfl rfl ?_
    refine wl_nil ?_
    refine qs_seq ?_
    refine wc_condD rfl (fun h5 => ?_) (fun h5 => ?_)
    · skip
      refine wc_seq ?_
      refine wc_region ?_
      refine wl_move rfl rfl ?_
      refine wl_makeIface nif_25 rfl rfl ?_
      refine wl_fieldAddr rfl fo_36_1 rfl ?_
      refine wl_load rfl ag_9 (by first | assumption | exact hS2.cell 0 rfl rfl) rfl ?_
      refine wl_fieldAddr rfl fo_36_2 rfl ?_
      refine wl_load rfl ag_4 (by first | assumption | exact hS2.cell 0 rfl rfl) rfl ?_
      have hC6 := hS2.split [1] [false, true, false] rfl; dsimp only [selF, pickA, nthA, List.cons_append, List.nil_append] at hC6
      refine wl_call cal_20 rfl (pOpen_sp hC6 (hG.starL 1 rfl) hP hn o.id ho.1 o.wr) rfl ?_
      rintro e w6 ⟨_, rfl, rfl, hS6⟩; refine ⟨_, rfl, ?_⟩
      replace hS6 := hS6.join rfl; dsimp only [List.dropLast, List.cons_append, List.nil_append] at hS6; clear hC6
      clear hS2
      refine wl_assign rfl rfl ?_
      refine wl_assign rfl rfl ?_
      refine wl_assign rfl rfl ?_
      refine wl_nil ?_
      refine qs_seq ?_
      refine wc_sub (L' := [(6, _), (5, _), (4, _), (3, _), (0, _)]) (.cons rfl (.cons rfl (.cons rfl (.cons rfl (.cons rfl .nil))))) ?_
      refine wc_ret ?_
      refine qs_block_ret ?_
      refine qs_then_ret ?_
      refine fin3 (.inr rfl) rfl rfl rfl rfl ?_
      exact ⟨_, rfl, by unfold doV; rw [if_neg (by assumption), if_pos (by assumption)], by unfold doP; rw [if_neg (by assumption), if_pos (by assumption)]; exact hS6.pick [0, 2] rfl⟩
    · skip
      refine wc_seq ?_
      refine wc_region ?_
      refine wl_eql rfl rfl rfl ?_
      refine wl_assign rfl rfl ?_
      refine wl_nil ?_
      refine qs_seq ?_
      refine wc_sub (L' := [(30, _), (13, _), (6, _), (5, _), (4, _), (3, _), (0, _)]) (.cons rfl (.cons rfl (.cons rfl (.cons rfl (.cons rfl (.cons rfl (.cons rfl .nil))))))) ?_
      refine wc_condD rfl (fun h7 => ?_) (fun h7 => ?_)
      · skip
        refine wc_seq ?_
        refine wc_region ?_
        refine wl_move rfl rfl ?_
        refine wl_makeIface nif_25 rfl rfl ?_
        refine wl_fieldAddr rfl fo_36_1 rfl ?_
        refine wl_load rfl ag_9 (by first | assumption | exact hS2.cell 0 rfl rfl) rfl ?_
        refine wl_fieldAddr rfl fo_36_2 rfl ?_
        refine wl_load rfl ag_4 (by first | assumption | exact hS2.cell 0 rfl rfl) rfl ?_
        have hC8 := hS2.split [1] [false, true, false] rfl; dsimp only [selF, pickA, nthA, List.cons_append, List.nil_append] at hC8
        refine wl_call cal_25 rfl (pClose_sp hC8 (hG.starL 1 rfl) hP hn o.id ho.1 o.wr) rfl ?_
        rintro e w8 ⟨_, rfl, rfl, hS8⟩; refine ⟨_, rfl, ?_⟩
        replace hS8 := hS8.join rfl; dsimp only [List.dropLast, List.cons_append, List.nil_append] at hS8; clear hC8
        clear hS2
        refine wl_assign rfl rfl ?_
        refine wl_assign rfl rfl ?_
        refine wl_assign rfl rfl ?_
        refine wl_nil ?_
        refine qs_seq ?_
        refine wc_sub (L' := [(6, _), (5, _), (4, _), (3, _), (0, _)]) (.cons rfl (.cons rfl (.cons rfl (.cons rfl (.cons rfl .nil))))) ?_
        refine wc_ret ?_
        refine qs_block_ret ?_
        refine qs_then_ret ?_
        refine fin3 (.inr rfl) rfl rfl rfl rfl ?_
        exact ⟨_, rfl, by unfold doV; rw [if_neg (by assumption), if_neg (by assumption), if_pos (by assumption)], by unfold doP; rw [if_neg (by assumption), if_neg (by assumption), if_pos (by assumption)]; exact hS8.pick [0, 2] rfl⟩
      · skip
        refine wc_seq ?_
        refine wc_region ?_
        refine wl_eql rfl rfl rfl ?_
        refine wl_assign rfl rfl ?_
        refine wl_nil ?_
        refine qs_seq ?_
        refine wc_condD rfl (fun h9 => ?_) (fun h9 => ?_)
        · skip
          refine wc_seq ?_
          refine wc_region ?_
          refine wl_move rfl rfl ?_
          refine wl_makeIface nif_25 rfl rfl ?_
          refine wl_fieldAddr rfl fo_36_1 rfl ?_
          refine wl_load rfl ag_9 (by first | assumption | exact hS2.cell 0 rfl rfl) rfl ?_
          refine wl_fieldAddr rfl fo_36_3 rfl ?_
          refine wl_load rfl ag_3 (by first | assumption | exact hS2.cell 0 rfl rfl) rfl ?_
          have hC10 := hS2.split [1] [false, true, false] rfl; dsimp only [selF, pickA, nthA, List.cons_append, List.nil_append] at hC10
          refine wl_call cal_24 rfl (pRead_sp hC10 (hG.starL 1 rfl) hP hn o.id ho.1 o.n) rfl ?_
          rintro e w10 ⟨_, rfl, rfl, hS10⟩; refine ⟨_, rfl, ?_⟩
          replace hS10 := hS10.join rfl; dsimp only [List.dropLast, List.cons_append, List.nil_append] at hS10; clear hC10
          clear hS2
          refine wl_move rfl rfl ?_
          refine wl_extract rfl rfl rfl ?_
          refine wl_extract rfl rfl rfl ?_
          refine wl_assign rfl rfl ?_
          refine wl_assign rfl rfl ?_
          refine wl_nil ?_
          refine qs_seq ?_
          refine wc_sub (L' := [(8, _), (7, _), (6, _), (5, _), (4, _), (3, _), (0, _)]) (.cons rfl (.cons rfl (.cons rfl (.cons rfl (.cons rfl (.cons rfl (.cons rfl .nil))))))) ?_
          refine wc_seq ?_
          refine wc_region ?_
          refine wl_move rfl rfl ?_
          refine wl_move rfl rfl ?_
          refine wl_assign rfl rfl ?_
          refine wl_assign rfl rfl ?_
          refine wl_assign rfl rfl ?_
          refine wl_nil ?_
          refine qs_seq ?_
          refine wc_ret ?_
          refine qs_block_ret ?_
          refine qs_then_ret ?_
          refine fin3 (.inr rfl) rfl rfl rfl rfl ?_
          exact ⟨_, rfl, by unfold doV; rw [if_neg (by assumption), if_neg (by assumption), if_neg (by assumption), if_pos (by assumption)], by unfold doP; rw [if_neg (by assumption), if_neg (by assumption), if_neg (by assumption), if_pos (by assumption)]; exact hS10.pick [0, 2] rfl⟩
        · skip
          refine wc_seq ?_
          refine wc_region ?_
          refine wl_eql rfl rfl rfl ?_
          refine wl_assign rfl rfl ?_
          refine wl_nil ?_
          refine qs_seq ?_
          refine wc_sub (L' := [(53, _), (6, _), (5, _), (4, _), (3, _), (0, _)]) (.cons rfl (.cons rfl (.cons rfl (.cons rfl (.cons rfl (.cons rfl .nil)))))) ?_
          refine wc_condD rfl (fun h11 => ?_) (fun h11 => ?_)
          · skip
            refine wc_seq ?_
            refine wc_region ?_
            refine wl_move rfl rfl ?_
            refine wl_makeIface nif_25 rfl rfl ?_
            refine wl_fieldAddr rfl fo_36_1 rfl ?_
            refine wl_load rfl ag_9 (by first | assumption | exact hS2.cell 0 rfl rfl) rfl ?_
            refine wl_fieldAddr rfl fo_36_4 rfl ?_
            refine wl_load rfl ag_9 (by first | assumption | exact hS2.cell 0 rfl rfl) rfl ?_
            have hC12 := hS2.split [1] [false, true, false] rfl; dsimp only [selF, pickA, nthA, List.cons_append, List.nil_append] at hC12
            refine wl_call cal_21 rfl (pWrite_sp hC12 (hG.starL 1 rfl) hP hn o.id ho.1 o.s (by omega)) rfl ?_
            rintro e w12 ⟨_, rfl, rfl, hS12⟩; refine ⟨_, rfl, ?_⟩
            replace hS12 := hS12.join rfl; dsimp only [List.dropLast, List.cons_append, List.nil_append] at hS12; clear hC12
            clear hS2
            refine wl_move rfl rfl ?_
            refine wl_extract rfl rfl rfl ?_
            refine wl_extract rfl rfl rfl ?_
            refine wl_assign rfl rfl ?_
            refine wl_assign rfl rfl ?_
            refine wl_nil ?_
            refine qs_seq ?_
            refine wc_sub (L' := [(10, _), (9, _), (6, _), (5, _), (4, _), (3, _), (0, _)]) (.cons rfl (.cons rfl (.cons rfl (.cons rfl (.cons rfl (.cons rfl (.cons rfl .nil))))))) ?_
            refine wc_seq ?_
            refine wc_region ?_
            refine wl_move rfl rfl ?_
            refine wl_move rfl rfl ?_
            refine wl_assign rfl rfl ?_
            refine wl_assign rfl rfl ?_
            refine wl_assign rfl rfl ?_
            refine wl_nil ?_
            refine qs_seq ?_
            refine wc_ret ?_
            refine qs_block_ret ?_
            refine qs_then_ret ?_
            refine fin3 (.inr rfl) rfl rfl rfl rfl ?_
            exact ⟨_, rfl, by unfold doV; rw [if_neg (by assumption), if_neg (by assumption), if_neg (by assumption), if_neg (by assumption), if_pos (by assumption)], by unfold doP; rw [if_neg (by assumption), if_neg (by assumption), if_neg (by assumption), if_neg (by assumption), if_pos (by assumption)]; exact hS12.pick [0, 2] rfl⟩
          · skip
            refine wc_skip ?_
            refine qs_block_normal ?_
            refine qs_seq ?_
            refine wc_seq ?_
            refine wc_seq ?_
            refine wc_region ?_
            refine wl_move rfl rfl ?_
            refine wl_makeIface nif_25 rfl rfl ?_
            refine wl_fieldAddr rfl fo_36_1 rfl ?_
            refine wl_load rfl ag_9 (by first | assumption | exact hS2.cell 0 rfl rfl) rfl ?_
            refine wl_fieldAddr rfl fo_36_2 rfl ?_
            refine wl_load rfl ag_4 (by first | assumption | exact hS2.cell 0 rfl rfl) rfl ?_
            refine wl_fieldAddr rfl fo_36_3 rfl ?_
            refine wl_load rfl ag_3 (by first | assumption | exact hS2.cell 0 rfl rfl) rfl ?_
            have hC13 := hS2.split [1] [false, true, false] rfl; dsimp only [selF, pickA, nthA, List.cons_append, List.nil_append] at hC13
            refine wl_call cal_28 rfl (pCan_sp hC13 (hG.starL 1 rfl) hP hn o.id ho.1 o.wr o.n) rfl ?_
            rintro e w13 ⟨_, rfl, rfl, hS13⟩; refine ⟨_, rfl, ?_⟩
            replace hS13 := hS13.join rfl; dsimp only [List.dropLast, List.cons_append, List.nil_append] at hS13; clear hC13
            clear hS2
            refine wl_nil ?_
            refine qs_seq ?_
            refine wc_sub (L' := [(75, _), (6, _), (5, _), (4, _)]) (.cons rfl (.cons rfl (.cons rfl (.cons rfl .nil)))) ?_
            refine wc_cond rfl (fun h14 => ?_) (fun h14 => ?_)
            · skip
              refine wc_seq ?_
              refine wc_region ?_
              refine wl_assign rfl rfl ?_
              refine wl_assign rfl rfl ?_
              refine wl_assign rfl rfl ?_
              refine wl_nil ?_
              refine qs_seq ?_
              refine wc_ret ?_
              refine qs_then_ret ?_
              refine fin3 (.inr rfl) rfl rfl rfl rfl ?_
              exact ⟨_, rfl, by unfold doV; rw [if_neg (by assumption), if_neg (by assumption), if_neg (by assumption), if_neg (by assumption), if_neg (by assumption), if_pos (by assumption)], by unfold doP; rw [if_neg (by assumption), if_neg (by assumption), if_neg (by assumption), if_neg (by assumption), if_neg (by assumption)]; exact hS13.pick [0, 2] rfl⟩
            · skip
              refine wc_skip ?_
              refine qs_seq ?_
              refine wc_seq ?_
              refine wc_region ?_
              refine wl_assign rfl rfl ?_
              refine wl_assign rfl rfl ?_
              refine wl_assign rfl rfl ?_
              refine wl_nil ?_
              refine qs_seq ?_
              refine wc_ret ?_
              refine fin3 (.inr rfl) rfl rfl rfl rfl ?_
              exact ⟨_, rfl, by unfold doV; rw [if_neg (by assumption), if_neg (by assumption), if_neg (by assumption), if_neg (by assumption), if_neg (by assumption), if_neg (by simp_all)], by unfold doP; rw [if_neg (by assumption), if_neg (by assumption), if_neg (by assumption), if_neg (by assumption), if_neg (by assumption)]; exact hS13.pick [0, 2] rfl⟩

end Go.Proofs.YtgnhfhhmipcgcaaGreatDoor
