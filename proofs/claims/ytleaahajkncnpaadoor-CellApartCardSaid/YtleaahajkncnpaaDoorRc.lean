/- the reference of layer 3: add, survive -/
import Derived.Test.YtleaahajkncnpaaDoorRb
namespace Go.Proofs.YtleaahajkncnpaaDoor
open Go.RowKit M
set_option linter.unusedVariables false
/-- what the reference's write has done after j sectors -/
def addJ (D : DS) (f : Int) (a : Nat) (s : Bytes) (j : Nat) : DS := { D with F := setF D.F f (putB (D.F f).1 a s, (D.F f).2), Q := pend f j ((a : Int) / 64) D.Q }
theorem addJ_add {D : DS} {f : Int} {a : Nat} {s : Bytes} (h : s ≠ []) {N : Nat} (hN : N = (((a : Int) + s.length - 1) / 64 - (a : Int) / 64 + 1).toNat) : addJ D f a s N = addD D f a s := by
  rw [addD, if_neg h, hN]; rfl
theorem addJ_inv {D : DS} {f : Int} {a : Nat} {s : Bytes} {l : List (Int × Bytes × Bytes)} {j : Nat} (h : RInv l (addJ D f a s j)) (hD : DInv D) (hf : 0 ≤ f ∧ f < 16) (ha : (a : Int) / 64 + (j + 1 : Nat) ≤ 262145) : RInv l (addJ D f a s (j + 1)) := by
  have hb := pend_bound f hf (j + 1) ((a : Int) / 64) D.Q (by omega) (by omega) hD.secs hD.nodup
  exact h.upd rfl { h.inv with nodup := hb.2, secs := hb.1 }
theorem addJ_old {D : DS} {f : Int} {a : Nat} {s : Bytes} {j : Nat} (h : (f, (a : Int) / 64 + j) ∈ (addJ D f a s j).Q) : addJ D f a s (j + 1) = addJ D f a s j := by
  have e : pend f (j + 1) ((a : Int) / 64) D.Q = pend f j ((a : Int) / 64) D.Q := by
    rw [pend_step]; exact if_pos h
  rw [addJ, e]; rfl
theorem addJ_new {D : DS} {f : Int} {a : Nat} {s : Bytes} {j : Nat} (h : (f, (a : Int) / 64 + j) ∉ (addJ D f a s j).Q) : (addJ D f a s (j + 1)).Q = (addJ D f a s j).Q ++ [(f, (a : Int) / 64 + j)] := by
  have e : pend f (j + 1) ((a : Int) / 64) D.Q = pend f j ((a : Int) / 64) D.Q ++ [(f, (a : Int) / 64 + j)] := by
    rw [pend_step]; exact if_neg h
  exact e
theorem add_shut {w : World} {p : Nat} {kp fv v X : Value} {D : DS} {f : Int} {a j : Nat} {s : Bytes} {l : List (Int × Bytes × Bytes)} {F : Th} (hI : RInv l (addJ D f a s j)) (hD : DInv D) (hf : 0 ≤ f ∧ f < 16) (ha : (a : Int) / 64 + (j + 1 : Nat) ≤ 262145) (hn : (f, (a : Int) / 64 + j) ∉ (addJ D f a s j).Q)
    (h : Sat w [rowT scC X [(f, (a : Int) / 64 + j)], blkT p [fv, v, intV D.lost, .bool D.down, intV D.armed, kp], rowT rfC fv l, rowT scC v ((addJ D f a s j).Q ++ [(f, (a : Int) / 64 + j)]), F]) : Sat w [refT p kp (addJ D f a s (j + 1)), F] := by
  rw [← addJ_new hn] at h
  exact refT_shut ⟨fv, v, l⟩ (addJ_inv hI hD hf ha) (h.pick [1, 2, 3, 4] rfl)
set_option maxRecDepth 100000 in
theorem addR_sp {w : World} {p : Nat} {kp : Value} {D : DS} {F : Th} (hS : Sat w [refT p kp D, F]) (f : Int) (at_ : Int) (s : Bytes) (hf : 0 ≤ f ∧ f < 16) (ha : 0 ≤ at_) (hfit : at_ + s.length ≤ 16777216) :
    Calls Tryd.prog 39 #[ptrV p 0, intV f, intV at_, strV s] w (Ret fun v w' => v = .tuple #[] ∧ Sat w' [refT p kp (addD D f at_ s), F]) := by
  refine calls_enter Tryd.func39 rfl Tryd.ntmps39 rfl ?_
  refine wc_seq ?_
  refine wc_seq ?_
  refine wc_region ?_
  refine wl_move rfl rfl ?_
  refine wl_eqlS rfl rfl rfl ?_
  refine wl_nil ?_
  refine qs_seq ?_
  refine wc_condD rfl (fun h1 => ?_) (fun h1 => ?_)
  · skip
    have hs0 : s = [] := h1
    refine wc_ret ?_
    refine qs_then_ret ?_
    refine fin0 (.inr rfl) rfl ?_
    exact ⟨_, rfl, rfl, by rw [addD, if_pos hs0]; exact hS⟩
  · skip
    have hs0 : s ≠ [] := h1
    have hlen : 0 < s.length := List.length_pos_iff.2 hs0
    obtain ⟨a, rfl⟩ := Int.eq_ofNat_of_zero_le ha
    obtain ⟨_, hI0, _⟩ := refT_open hS
    have hD := hI0.inv; clear hI0
    have hnow := hD.now f
    refine wc_skip ?_
    refine qs_seq ?_
    refine wc_seq ?_
    refine wc_region ?_
    refine wl_move rfl rfl ?_
    refine wl_move rfl rfl ?_
    have hC2 := hS.split [0] [true, false] rfl; dsimp only [selF, pickA, nthA, List.cons_append, List.nil_append] at hC2
    refine wl_call cal_48 rfl (getR_sp hC2 f) rfl ?_
    rintro e w2 ⟨_, rfl, rfl, hS2⟩; refine ⟨_, rfl, ?_⟩
    replace hS2 := hS2.join rfl; dsimp only [List.dropLast, List.cons_append, List.nil_append] at hS2; clear hC2
    refine wl_alloc hS2 zr_86 rfl rfl ?_
    intro b3 w3 hS3
    clear hS2
    first | (refine wl_storeA hS3 rfl rfl sz_86 rfl (by first | rfl | (simp [allOne, Value.oneCell']; done) | assumption | exact hone) (i := 0) rfl (by first | decide | exact Nat.le_of_ble_eq_true rfl | (simp; done) | omega) ?_)
    intro w4 hS5; dsimp only [List.set] at hS5
    clear hS3
    refine wl_nil ?_
    refine qs_seq ?_
    refine wc_seq ?_
    refine wc_region ?_
    refine wl_fieldAddr rfl fo_86_1 rfl ?_
    refine wl_load rfl ag_9 (by first | assumption | exact hS5.cell 0 rfl rfl) rfl ?_
    refine wl_move rfl rfl ?_
    refine wl_move rfl rfl ?_
    have hC6 := hS5.split [] [false, false, false] rfl; dsimp only [selF, pickA, nthA, List.cons_append, List.nil_append] at hC6
    refine wl_call cal_49 rfl (putR_sp hC6 _ _ a hnow (by omega)) rfl ?_
    rintro e w6 ⟨_, rfl, rfl, hS6⟩; refine ⟨_, rfl, ?_⟩
    replace hS6 := hS6.join rfl; dsimp only [List.dropLast, List.cons_append, List.nil_append] at hS6; clear hC6
    clear hS5
    refine wl_fieldAddr rfl fo_86_1 rfl ?_
    first | (refine wl_store hS6 rfl rfl sz_9 (by first | rfl | assumption) (i := 0) rfl (by first | decide | exact Nat.le_of_ble_eq_true rfl | (simp; done) | omega) ?_)
    intro w7 hS8; dsimp only [List.set] at hS8
    clear hS6
    refine wl_nil ?_
    refine qs_seq ?_
    refine wc_sub (L' := [(8, _), (0, _), (1, _), (2, _), (3, _)]) (.cons rfl (.cons rfl (.cons rfl (.cons rfl (.cons rfl .nil))))) ?_
    refine wc_seq ?_
    have hput := putB_le (m := 16777216) hnow (show a + s.length ≤ 16777216 by omega)
    refine wc_region ?_
    refine wl_move rfl rfl ?_
    refine wl_loadA rfl ag_86 sz_86 (by first | exact hS8.blk 0 rfl) (by first | decide | exact Nat.le_of_ble_eq_true rfl | (simp; done) | omega) rfl rfl ?_
    have hC9 := hS8.split [1] [false, true, false] rfl; dsimp only [selF, pickA, nthA, List.cons_append, List.nil_append] at hC9
    refine wl_call cal_50 rfl (setR_sp hC9 f _ _ hf hput (hD.last f)) rfl ?_
    rintro e w9 ⟨_, rfl, rfl, hS9⟩; refine ⟨_, rfl, ?_⟩
    replace hS9 := hS9.join rfl; dsimp only [List.dropLast, List.cons_append, List.nil_append] at hS9; clear hC9
    clear hS8
    refine wl_nil ?_
    refine qs_seq ?_
    refine wc_seq ?_
    refine wc_region ?_
    refine wl_move rfl rfl ?_
    refine wl_quo rfl rfl (by omega) (by omega) (by omega) rfl ?_
    refine wl_assign rfl rfl ?_
    refine wl_nil ?_
    refine qs_seq ?_
    refine wc_sub (L' := [(9, _), (0, _), (1, _), (2, _), (3, _)]) (.cons rfl (.cons rfl (.cons rfl (.cons rfl (.cons rfl .nil))))) ?_
    refine wc_block ?_
    obtain ⟨N, hN⟩ : ∃ N : Nat, N = (((a : Int) + s.length - 1) / 64 - (a : Int) / 64 + 1).toNat := ⟨_, rfl⟩
    refine wc_loop (fun K0 E0 W0 => ∃ (j : Nat), K0 = N - j ∧ E0 = [(0, ptrV p 0), (1, intV f), (2, intV (a : Int)), (3, strV s), (9, intV ((a : Int) / 64 + (j : Int)))] ∧ Sat W0 [refT p kp (addJ D f a s j), F] ∧ (j ≤ N)) (L0 := [(0, _), (1, _), (2, _), (3, _), (9, _)]) (N) (.cons rfl (.cons rfl (.cons rfl (.cons rfl (.cons rfl .nil))))) ⟨0, by omega, by simp, hS9.pick [0, 2] rfl, by omega⟩ ?_
    rintro _ _ w10 ⟨j, rfl, rfl, hS10, hj⟩
    refine wc_seq ?_
    refine wc_seq ?_
    refine wc_region ?_
    refine wl_move rfl rfl ?_
    refine wl_move rfl rfl ?_
    refine wl_move rfl rfl ?_
    refine wl_lenS Tryd.underlying9 rfl rfl ?_
    refine wl_add rfl rfl (by omega) (by omega) rfl ?_
    refine wl_sub' rfl rfl (by omega) (by omega) rfl ?_
    refine wl_quo rfl rfl (by omega) (by omega) (by omega) rfl ?_
    refine wl_leq rfl rfl rfl ?_
    refine wl_nil ?_
    refine qs_seq ?_
    refine wc_sub (L' := [(33, _), (0, _), (1, _), (2, _), (3, _), (9, _)]) (.cons rfl (.cons rfl (.cons rfl (.cons rfl (.cons rfl (.cons rfl .nil)))))) ?_
    refine wc_condD rfl (fun h11 => ?_) (fun h11 => ?_)
    · skip
      refine wc_skip ?_
      refine qs_seq ?_
      refine wc_seq ?_
      refine wc_block ?_
      refine wc_seq ?_
      refine wc_region ?_
      refine wl_move rfl rfl ?_
      refine wl_move rfl rfl ?_
      refine wl_move rfl rfl ?_
      have hC12 := hS10.split [0] [true, false] rfl; dsimp only [selF, pickA, nthA, List.cons_append, List.nil_append] at hC12
      refine wl_call cal_51 rfl (pendR_sp hC12 f _) rfl ?_
      rintro e w12 ⟨_, rfl, rfl, hS12⟩; refine ⟨_, rfl, ?_⟩
      replace hS12 := hS12.join rfl; dsimp only [List.dropLast, List.cons_append, List.nil_append] at hS12; clear hC12
      clear hS10
      refine wl_not rfl rfl ?_
      refine wl_nil ?_
      refine qs_seq ?_
      refine wc_sub (L' := [(40, _), (0, _), (1, _), (2, _), (3, _), (9, _)]) (.cons rfl (.cons rfl (.cons rfl (.cons rfl (.cons rfl (.cons rfl .nil)))))) ?_
      refine wc_cond rfl (fun h13 => ?_) (fun h13 => ?_)
      · skip
        have hnew : (f, (a : Int) / 64 + j) ∉ (addJ D f a s j).Q := by simpa using h13
        obtain ⟨⟨fv, qv, l⟩, hI, hS12⟩ := refT_open (hS12.pull 0 rfl); dsimp only [List.eraseIdx] at hI hS12
        have hcnt := sec_count hI.inv.secs hI.inv.nodup
        refine wc_region ?_
        refine wl_move rfl rfl ?_
        refine wl_move rfl rfl ?_
        refine wl_nilCheck rfl rfl ?_
        refine wl_fieldAddr rfl fo_65_1 rfl ?_
        refine wl_load rfl ag_63 (by first | assumption | exact hS12.cell 0 rfl rfl) rfl ?_
        refine wl_move rfl rfl ?_
        refine wl_move rfl rfl ?_
        refine wl_buildS rfl pl_84_0_1 asz_84 zr_84 rfl rfl ?_
        refine wl_rowBuild scC [(f, (a : Int) / 64 + j)] hS12 rfl Tryd.underlying63 ifz_84 rfl rfl rfl rfl (by first | rfl | simp [RowC.cells, fillL, splice]) rfl ?_
        intro b14 w14 hS14
        clear hS12
        refine wl_rowApp scC 3 hS14 rfl rfl rfl (hS14.rd 0 rfl (by simp)) Tryd.underlying63 Tryd.underlying63 (by intro k hk; cases hk) ifo_84 rfl (by simp only [List.length_cons, List.length_nil]; omega) rfl (by simp only [List.length_cons, List.length_nil]; omega) ?_
        intro v15 w15 hS15; dsimp only [List.set] at hS15
        clear hS14
        have h1v15 : v15.oneCell' = true := hS15.own_one 3 rfl
        refine wl_nilCheck rfl rfl ?_
        refine wl_fieldAddr rfl fo_65_1 rfl ?_
        first | (refine wl_store hS15 rfl rfl sz_63 (by first | rfl | assumption | exact hS15.own_one 0 rfl | exact hS15.own_one 2 rfl | exact hS15.own_one 3 rfl) (i := 1) rfl (by first | decide | exact Nat.le_of_ble_eq_true rfl | (simp; done) | omega) ?_)
        intro w16 hS17; dsimp only [List.set] at hS17
        clear hS15
        refine wl_nil ?_
        refine qs_block_normal ?_
        refine qs_seq ?_
        refine wc_sub (L' := [(0, _), (1, _), (2, _), (3, _), (9, _)]) (.cons rfl (.cons rfl (.cons rfl (.cons rfl (.cons rfl .nil))))) ?_
        refine wc_region ?_
        refine wl_move rfl rfl ?_
        refine wl_add rfl rfl (by omega) (by omega) rfl ?_
        refine wl_assign rfl rfl ?_
        refine wl_nil ?_
        exact qs_round (L1 := [(0, _), (1, _), (2, _), (3, _), (9, intV ((a : Int) / 64 + ((j + 1 : Nat) : Int)))]) (.cons rfl (.cons rfl (.cons rfl (.cons rfl (.cons rfl .nil))))) (k1 := N - (j + 1)) (by omega) ⟨j + 1, by omega, rfl, add_shut hI hD hf (by omega) hnew hS17, by omega⟩
      · skip
        have hold : (f, (a : Int) / 64 + j) ∈ (addJ D f a s j).Q := by simpa using h13
        refine wc_skip ?_
        refine qs_block_normal ?_
        refine qs_seq ?_
        refine wc_region ?_
        refine wl_move rfl rfl ?_
        refine wl_add rfl rfl (by omega) (by omega) rfl ?_
        refine wl_assign rfl rfl ?_
        refine wl_nil ?_
        exact qs_round (L1 := [(0, _), (1, _), (2, _), (3, _), (9, intV ((a : Int) / 64 + ((j + 1 : Nat) : Int)))]) (.cons rfl (.cons rfl (.cons rfl (.cons rfl (.cons rfl .nil))))) (k1 := N - (j + 1)) (by omega) ⟨j + 1, by omega, rfl, by rw [addJ_old hold]; exact hS12, by omega⟩
    · skip
      refine wc_exit ?_
      refine qs_then_exit ?_
      refine qs_then_exit ?_
      refine qs_block_exit ?_
      refine fin0 (.inl rfl) rfl ?_
      exact ⟨_, rfl, rfl, by rw [← addJ_add hs0 (show j = _ by omega)]; exact hS10⟩

theorem putR_sp' {w : World} {F : Th} (hS : Sat w [F]) (s t : Bytes) (a : Nat) {x : Int} (ha : x = a) (h1 : s.length ≤ 16777216) (h2 : a + t.length ≤ 33554432) : Calls Tryd.prog 49 #[strV s, intV x, strV t] w (Ret fun v w' => v = strV (putB s a t) ∧ Sat w' [F]) := by
  subst ha; exact putR_sp hS s t a h1 h2
theorem surv_yes {w : World} {p : Nat} {kp : Value} {D : DS} {q1 q2 : Int} {a : Nat} {X Y F : Th} (ha : 64 * q2 = a) (hlt : a < (D.F q1).1.length) (h : Sat w [refT p kp { D with F := setF D.F q1 ((D.F q1).1, putB (D.F q1).2 a (cut64 (D.F q1).1 a)) }, X, Y, F]) : Sat w [refT p kp { D with F := survive D.F (q1, q2) }, F] := by
  have e : survive D.F (q1, q2) = setF D.F q1 ((D.F q1).1, putB (D.F q1).2 a (cut64 (D.F q1).1 a)) := by
    unfold survive; rw [if_neg (by simp; omega)]; simp only [ha]; rfl
  rw [e]; exact h.pick [0, 3] rfl
theorem setF_self (F : Int → Bytes × Bytes) (k : Int) : setF F k ((F k).1, (F k).2) = F := by
  funext j; unfold setF; split
  · rename_i h; rw [h]
  · rfl
theorem surv_no {w : World} {p : Nat} {kp : Value} {D : DS} {q1 q2 : Int} {X Y F : Th} (hlt : ¬ 64 * q2 < (D.F q1).1.length) (h : Sat w [refT p kp { D with F := setF D.F q1 ((D.F q1).1, (D.F q1).2) }, X, Y, F]) : Sat w [refT p kp { D with F := survive D.F (q1, q2) }, F] := by
  have e : survive D.F (q1, q2) = D.F := by unfold survive; rw [if_pos (by simp; omega)]
  rw [e]; rw [setF_self] at h; exact h.pick [0, 3] rfl
set_option maxRecDepth 100000 in
theorem survR_sp {w : World} {p : Nat} {kp : Value} {D : DS} {F : Th} (hS : Sat w [refT p kp D, F]) (q1 q2 : Int) (hq : 0 ≤ q1 ∧ q1 < 16) (hq2 : 0 ≤ q2 ∧ q2 ≤ 262144) :
    Calls Tryd.prog 46 #[ptrV p 0, .agg #[intV q1, intV q2]] w (Ret fun v w' => v = .tuple #[] ∧ Sat w' [refT p kp { D with F := survive D.F (q1, q2) }, F]) := by
  refine calls_enter Tryd.func46 rfl Tryd.ntmps46 rfl ?_
  obtain ⟨_, hI0, _⟩ := refT_open hS
  have hD := hI0.inv; clear hI0
  have hnow := hD.now q1; have hlast := hD.last q1
  refine wc_seq ?_
  refine wc_region ?_
  refine wl_box hS rfl rfl rfl ?_
  intro b1 w1 hS1
  refine wl_nil ?_
  refine qs_seq ?_
  refine wc_seq ?_
  refine wc_region ?_
  refine wl_move rfl rfl ?_
  refine wl_fieldAddr rfl fo_84_0 rfl ?_
  refine wl_load rfl ag_3 (by first | assumption | exact hS1.cell 0 rfl rfl) rfl ?_
  have hC2 := hS1.split [1] [false, true, false] rfl; dsimp only [selF, pickA, nthA, List.cons_append, List.nil_append] at hC2
  refine wl_call cal_48 rfl (getR_sp hC2 q1) rfl ?_
  rintro e w2 ⟨_, rfl, rfl, hS2⟩; refine ⟨_, rfl, ?_⟩
  replace hS2 := hS2.join rfl; dsimp only [List.dropLast, List.cons_append, List.nil_append] at hS2; clear hC2
  clear hS1
  refine wl_alloc hS2 zr_86 rfl rfl ?_
  intro b3 w3 hS3
  clear hS2
  first | (refine wl_storeA hS3 rfl rfl sz_86 rfl (by first | rfl | (simp [allOne, Value.oneCell']; done) | assumption | exact hone) (i := 0) rfl (by first | decide | exact Nat.le_of_ble_eq_true rfl | (simp; done) | omega) ?_) | (refine wl_storeA hS3 rfl rfl sz_86 rfl (by first | rfl | (simp [allOne, Value.oneCell']; done) | assumption | exact hone) (i := 2) rfl (by first | decide | exact Nat.le_of_ble_eq_true rfl | (simp; done) | omega) ?_)
  intro w4 hS5; dsimp only [List.set] at hS5
  clear hS3
  refine wl_nil ?_
  refine qs_seq ?_
  refine wc_seq ?_
  refine wc_seq ?_
  refine wc_region ?_
  refine wl_fieldAddr rfl fo_84_1 rfl ?_
  refine wl_load rfl ag_3 (by first | assumption | exact hS5.cell 0 rfl rfl | exact hS5.cell 2 rfl rfl) rfl ?_
  refine wl_mul rfl rfl (by omega) (by omega) rfl ?_
  refine wl_fieldAddr rfl fo_86_1 rfl ?_
  refine wl_load rfl ag_9 (by first | assumption | exact hS5.cell 0 rfl rfl | exact hS5.cell 2 rfl rfl) rfl ?_
  refine wl_lenS Tryd.underlying9 rfl rfl ?_
  refine wl_lss rfl rfl rfl ?_
  refine wl_nil ?_
  refine qs_seq ?_
  refine wc_sub (L' := [(15, _), (4, _), (3, _), (0, _)]) (.cons rfl (.cons rfl (.cons rfl (.cons rfl .nil)))) ?_
  refine wc_condD rfl (fun h6 => ?_) (fun h6 => ?_)
  · skip
    obtain ⟨a, ha⟩ : ∃ a : Nat, 64 * q2 = a := ⟨(64 * q2).toNat, by omega⟩
    obtain ⟨B, hB⟩ : ∃ B : Nat, min (64 * q2 + 64) ((D.F q1).1.length : Int) = B := ⟨(min (64 * q2 + 64) ((D.F q1).1.length : Int)).toNat, by omega⟩
    have hcut : ((D.F q1).1.take B).drop a = cut64 (D.F q1).1 a := cut_eq (by omega)
    have hfit := cut_le2 (D.F q1).1 a (by omega)
    have hS7 := hS5.drew
    refine wc_draw [0, 1, 2, 3, 4, 5, 6, 7, 8, 9, 10, 11, 12, 13, 14, 15, 16, 17, 18, 19, 20, 21] [19, 21] mix (by kernel_rfl) ?_
    refine vc_p rfl rfl rfl (fun _ => (ev_fieldAddr rfl fo_86_2)) ?_
    refine vc_q rfl rfl rfl (ev_load rfl ag_9 (by first | assumption | exact hS7.cell 0 rfl rfl | exact hS7.cell 2 rfl rfl)) ?_
    refine vc_p rfl rfl rfl (fun _ => (ev_fieldAddr rfl fo_84_1)) ?_
    refine vc_q rfl rfl rfl (ev_load rfl ag_3 (by first | assumption | exact hS7.cell 0 rfl rfl | exact hS7.cell 2 rfl rfl)) ?_
    refine vc_p rfl rfl rfl (fun _ => (ev_mul rfl rfl (by omega) (by omega))) ?_
    refine vc_p rfl rfl rfl (fun _ => (ev_fieldAddr rfl fo_86_1)) ?_
    refine vc_q rfl rfl rfl (ev_load rfl ag_9 (by first | assumption | exact hS7.cell 0 rfl rfl | exact hS7.cell 2 rfl rfl)) ?_
    refine vc_p rfl rfl rfl (fun _ => (ev_fieldAddr rfl fo_84_1)) ?_
    refine vc_q rfl rfl rfl (ev_load rfl ag_3 (by first | assumption | exact hS7.cell 0 rfl rfl | exact hS7.cell 2 rfl rfl)) ?_
    refine vc_p rfl rfl rfl (fun _ => (ev_mul rfl rfl (by omega) (by omega))) ?_
    refine vc_p rfl rfl rfl (fun _ => (ev_fieldAddr rfl fo_84_1)) ?_
    refine vc_q rfl rfl rfl (ev_load rfl ag_3 (by first | assumption | exact hS7.cell 0 rfl rfl | exact hS7.cell 2 rfl rfl)) ?_
    refine vc_p rfl rfl rfl (fun _ => (ev_mul rfl rfl (by omega) (by omega))) ?_
    refine vc_p rfl rfl rfl (fun _ => (ev_add rfl rfl (by omega) (by omega))) ?_
    refine vc_p rfl rfl rfl (fun _ => (ev_fieldAddr rfl fo_86_1)) ?_
    refine vc_q rfl rfl rfl (ev_load rfl ag_9 (by first | assumption | exact hS7.cell 0 rfl rfl | exact hS7.cell 2 rfl rfl)) ?_
    refine vc_p rfl rfl rfl (fun _ => (ev_lenS Tryd.underlying9 rfl)) ?_
    refine vc_p rfl rfl rfl (fun _ => (ev_minI rfl rfl)) ?_
    refine vc_p rfl rfl rfl (fun _ => (ev_sliceS a B Tryd.underlying9 rfl (bndS a _ rfl ha) (bndS B _ rfl hB) (by omega) (by omega))) ?_
    refine vc_s rfl rfl rfl rfl rfl rfl ?_
    have hC8 := hS7.split [] [false, false, false, false] rfl; dsimp only [selF, pickA, nthA, List.cons_append, List.nil_append] at hC8
    refine wl_call cal_49 rfl (putR_sp' hC8 _ _ a ha hlast (by rw [hcut]; omega)) rfl ?_
    rintro e w8 ⟨_, rfl, rfl, hS8⟩; refine ⟨_, rfl, ?_⟩
    replace hS8 := hS8.join rfl; dsimp only [List.dropLast, List.cons_append, List.nil_append] at hS8; clear hC8
    clear hS7
    rw [hcut]
    refine vc_e (.skip (by kernel_rfl) (.skip (by kernel_rfl) (.skip (by kernel_rfl) (.skip (by kernel_rfl) (.skip (by kernel_rfl) (.skip (by kernel_rfl) .nil)))))) ?_
    refine vc_p rfl rfl rfl (fun _ => (ev_fieldAddr rfl fo_86_2)) ?_
    refine vc_s rfl rfl rfl rfl rfl rfl ?_
    first | (refine wl_store hS8 rfl rfl sz_9 (by first | rfl | assumption) (i := 0) rfl (by first | decide | exact Nat.le_of_ble_eq_true rfl | (simp; done) | omega) ?_) | (refine wl_store hS8 rfl rfl sz_9 (by first | rfl | assumption) (i := 2) rfl (by first | decide | exact Nat.le_of_ble_eq_true rfl | (simp; done) | omega) ?_)
    intro w9 hS10; dsimp only [List.set] at hS10
    clear hS8
    refine vc_e0 (.skip (by kernel_rfl) (.skip (by kernel_rfl) (.skip (by kernel_rfl) (.skip (by kernel_rfl) (.skip (by kernel_rfl) (.skip (by kernel_rfl) .nil)))))) ?_
    refine VC.nil ?_
    refine qs_seq ?_
    refine wc_sub (L' := [(4, _), (0, _)]) (.cons rfl (.cons rfl .nil)) ?_
    have hput : (putB (D.F q1).2 a (cut64 (D.F q1).1 a)).length ≤ 16777216 := putB_le hlast (by omega)
    refine wc_region ?_
    refine wl_move rfl rfl ?_
    refine wl_loadA rfl ag_86 sz_86 (by first | exact hS10.blk 0 rfl | exact hS10.blk 2 rfl) (by first | decide | exact Nat.le_of_ble_eq_true rfl | (simp; done) | omega) rfl rfl ?_
    have hC11 := hS10.split [1] [false, true, false, false] rfl; dsimp only [selF, pickA, nthA, List.cons_append, List.nil_append] at hC11
    refine wl_call cal_50 rfl (setR_sp hC11 q1 _ _ hq (by first | exact hnow | assumption) (by first | exact hlast | exact hput)) rfl ?_
    rintro e w11 ⟨_, rfl, rfl, hS11⟩; refine ⟨_, rfl, ?_⟩
    replace hS11 := hS11.join rfl; dsimp only [List.dropLast, List.cons_append, List.nil_append] at hS11; clear hC11
    clear hS10
    refine wl_nil ?_
    refine fin0 (.inl rfl) rfl ?_
    exact ⟨_, rfl, rfl, surv_yes ha (by omega) hS11⟩
  · skip
    refine wc_skip ?_
    refine qs_seq ?_
    skip
    refine wc_region ?_
    refine wl_move rfl rfl ?_
    refine wl_loadA rfl ag_86 sz_86 (by first | exact hS5.blk 0 rfl | exact hS5.blk 2 rfl) (by first | decide | exact Nat.le_of_ble_eq_true rfl | (simp; done) | omega) rfl rfl ?_
    have hC12 := hS5.split [1] [false, true, false, false] rfl; dsimp only [selF, pickA, nthA, List.cons_append, List.nil_append] at hC12
    refine wl_call cal_50 rfl (setR_sp hC12 q1 _ _ hq (by first | exact hnow | assumption) (by first | exact hlast | exact hput)) rfl ?_
    rintro e w12 ⟨_, rfl, rfl, hS12⟩; refine ⟨_, rfl, ?_⟩
    replace hS12 := hS12.join rfl; dsimp only [List.dropLast, List.cons_append, List.nil_append] at hS12; clear hC12
    clear hS5
    refine wl_nil ?_
    refine fin0 (.inl rfl) rfl ?_
    exact ⟨_, rfl, rfl, surv_no (by omega) hS12⟩

end Go.Proofs.YtleaahajkncnpaaDoor
